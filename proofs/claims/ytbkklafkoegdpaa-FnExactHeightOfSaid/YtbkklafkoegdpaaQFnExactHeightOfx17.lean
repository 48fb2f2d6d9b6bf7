-- printed for this claim by a program of the session's own (no text of the kit's print)
import Derived.Test.YtbkklafkoegdpaaQFnExactHeightOfx0
import Derived.Test.YtbkklafkoegdpaaQFnExactHeightOfx2
import Derived.Test.YtbkklafkoegdpaaQFnExactHeightOfx12
import Derived.Test.YtbkklafkoegdpaaQFnExactHeightOfx16
namespace Go.Proofs.Ytbkklafkoegdpaa.QFnExactHeightOf
open Go.RowKit Go.Proofs.YtbkklafkoegdpaaW.PrintWords Go.Proofs.YtbkklafkoegdpaaW.PrintLast Go.Proofs.YtbkklafkoegdpaaW.PrintMore
attribute [local go_sem] max2_int min2_int max_two min_two max_three min_three max_four min_four   -- for this text's walks alone
set_option linter.unusedVariables false
set_option linter.unusedSimpArgs false

/-! ### impl_HeightOf: function 27 -/
def impl_HeightOf.l0 : Nat → Int → List (S72) → Int → Int → Option (Int)
  | 0, _, _, _, _ => none
  | k + 1, x3, x11, x12, x13 => if x13 < x12 then (if 0 ≤ x13 then (if x13 < (x11.length : Int) then (impl_HeightOf.l0 k (mx x3 ((rd_T72 x11 x13).f2)) x11 x12 (wrap64 (x13 + 1))) else (none)) else (none)) else (some x3)
def impl_HeightOf.f (k : Nat) (a0_0 : Int) (l0_1 : List (S72)) : Option (Int) := (impl_WebOk.f k a0_0 l0_1).bind fun t396 => (if t396 = true then (impl_HeightOf.l0 k (-1) l0_1 (l0_1.length : Int) 0) else (some (-1)))
theorem impl_HeightOf.mono_l : ∀ k, (∀ y0 y1 y2 y3, LeO (impl_HeightOf.l0 k y0 y1 y2 y3) (impl_HeightOf.l0 (k + 1) y0 y1 y2 y3))
  | 0 => fun _ _ _ _ r h => by simp [impl_HeightOf.l0] at h
  | k + 1 => by
    have ih0 := impl_HeightOf.mono_l k
    · intro y0 y1 y2 y3
      unfold impl_HeightOf.l0
      repeat' first
      | (with_reducible exact ih0 _ _ _ _)
      | (with_reducible exact impl_WebOk.mono _ _ _)
      | (with_reducible exact LeO.refl _)
      | (with_reducible exact LeO.none _)
      | (with_reducible refine LeO.ite ?_ ?_)
      | (with_reducible refine LeO.bind ?_ (fun _ => ?_))
      | exact ih0 _ _ _ _
      | exact impl_WebOk.mono _ _ _
      | exact LeO.none _
      | refine LeO.ite ?_ ?_
      | refine LeO.bind ?_ (fun _ => ?_)
theorem impl_HeightOf.mono : ∀ a0 a1 k, LeO (impl_HeightOf.f k a0 a1) (impl_HeightOf.f (k + 1) a0 a1) := by
  intro a0 a1 k
  have ih0 := impl_HeightOf.mono_l k
  unfold impl_HeightOf.f
  repeat' first
      | (with_reducible exact ih0 _ _ _ _)
      | (with_reducible exact impl_WebOk.mono _ _ _)
      | (with_reducible exact LeO.refl _)
      | (with_reducible exact LeO.none _)
      | (with_reducible refine LeO.ite ?_ ?_)
      | (with_reducible refine LeO.bind ?_ (fun _ => ?_))
      | exact ih0 _ _ _ _
      | exact impl_WebOk.mono _ _ _
      | exact LeO.none _
      | refine LeO.ite ?_ ?_
      | refine LeO.bind ?_ (fun _ => ?_)
set_option maxHeartbeats 8000000 in
set_option maxRecDepth 100000 in
theorem impl_HeightOf.calls (k : Nat) (a0_0 : Int) (A0_1 : Option Addr) (c0_1 : Nat) (l0_1 : List (S72)) (r : Int) (w : World) (hr0_1 : Kd.C k72 w A0_1 l0_1.length l0_1) (hc0_1 : l0_1.length ≤ c0_1) (h : impl_HeightOf.f k a0_0 l0_1 = some r) :
  Calls Try.prog 27 #[.agg #[.int .i64 a0_0, .slice A0_1 l0_1.length c0_1]] w fun e w' => e = .returned (.int .i64 r) ∧ Below w.heap.size w w' := by
 have hu29 := Try.underlying29; have hu72 := Try.underlying72
 have HR0_1 := Aside0.mk hr0_1
 have HC0_1 := Aside0.mk hc0_1
 clear hr0_1 hc0_1
 have HB := Aside0.mk (Below.refl w.heap.size w)
 have H : ((impl_WebOk.f k a0_0 l0_1).bind fun t396 => (if t396 = true then (impl_HeightOf.l0 k (-1) l0_1 (l0_1.length : Int) 0) else (some (-1)))) = some r := h
 clear h
 obtain ⟨t396, A20, H⟩ := Option.bind_eq_some_iff.mp H; have A2 := Aside0.mk A20; clear A20
 by_cases c3 : t396 = true
 ·subst c3
  rw [if_pos rfl] at H; have H' := Aside0.mk H; clear H
  go_enter Try.func27, Try.ntmps27
  go_wp2_with (first | ((with_reducible refine gate_dst (N := 1) rfl ?_); refine bx_ 1 (cs := #[.int .i64 a0_0, .slice A0_1 l0_1.length c0_1]) (t := 29) ?_; intro gb395 hg w4 hbox hb; have BK395 := Aside0.mk (hbox); have GW395 := Aside0.mk ((qs_ : w.heap.size ≤ gb395)); have GE395 := Aside0.mk ((qs_ : w.heap.size ≤ gb395)); replace HB := Aside0.mk (below_step qB_ hb); clear hb hbox hg; obtain ⟨hcz5_0, hcz5_1, hfz5_0, hfz5_1⟩ := bc2_ BK395) | ((with_reducible refine gate_callee (f := 16) rfl ?_); refine gl_ (some 7) Try.func16 #[.agg #[.int .i64 a0_0, .slice A0_1 l0_1.length c0_1]] ?_; (with_reducible refine (impl_WebOk.calls k a0_0 _ _ l0_1 true _ ?side1 ?side2 A2.out).mono ?_); (case side1 => exact qC_ HR0_1 HB); (case side2 => exact HC0_1.out); rintro e w6 ⟨rfl, hb⟩; refine ⟨_, rfl, ?_⟩; replace BK395 := Aside0.mk (blk_below (qk_ BK395) hb); replace HB := Aside0.mk (below_step qB_ hb); (try clear hb); (try clear hb2); (try clear hk); (try clear hi); obtain ⟨hcz7_0, hcz7_1, hfz7_0, hfz7_1⟩ := bc2_ BK395))
  go_loopg [3, 13] k (fun kq v3 v13 w' => ∃ (x3_1 : Int) (x13_1 : Int), v3 = .int .i64 x3_1 ∧ v13 = .int .i64 x13_1 ∧ Aside0 (impl_HeightOf.l0 kq x3_1 l0_1 (l0_1.length : Int) x13_1 = some r) ∧ Aside0 (kq ≤ k) ∧ Aside0 (w'.heap[gb395]? = some (.cells #[.int .i64 a0_0, (.slice A0_1 l0_1.length c0_1)] 29 (0, 0))) ∧ Aside0 (Below w.heap.size w w'))
  case atStart => exact ⟨((-1)), (0), qe_, qe_, H', ⟨Nat.le_refl _⟩, ⟨qk_ BK395⟩, ⟨qB_⟩⟩
  case round =>
   clear H'
   (try clear c1); (try clear c2); (try clear p2); (try clear c3); (try clear hcz5_0); (try clear hcz5_1); (try clear hcz7_0); (try clear hcz7_1); (try clear hfz5_0); (try clear hfz5_1); (try clear hfz7_0); (try clear hfz7_1)
   obtain ⟨x3_1, x13_1, rfl, rfl, HA, HK1, BK395, HB⟩ := hrel
   cases gk with
   | zero => exact absurd HA.out (by simp [impl_HeightOf.l0])
   | succ k1 =>
    have H := HA.out; clear HA
    simp only [impl_HeightOf.l0] at H
    by_cases c8 : x13_1 < (l0_1.length : Int)
    ·rw [if_pos c8] at H
     have c8b0 : decide (x13_1 < (l0_1.length : Int)) = true := decide_eq_true c8
     clear c8
     by_cases c9 : 0 ≤ x13_1
     ·rw [if_pos c9] at H
      have c9b0 : decide (0 ≤ x13_1) = true := decide_eq_true c9
      clear c9
      by_cases c10 : x13_1 < (l0_1.length : Int)
      ·rw [if_pos c10] at H
       have c10b0 : decide (x13_1 < (l0_1.length : Int)) = true := decide_eq_true c10
       clear c10
       obtain ⟨ji11, hji11⟩ : ∃ j_ : Int, (mx x3_1 ((rd_T72 l0_1 x13_1).f2)) = j_ := ⟨_, rfl⟩
       first | rw [hji11] at H | simp only [hji11] at H
       have hji11_ : (if x3_1 < ((rd_T72 l0_1 x13_1).f2) then ((rd_T72 l0_1 x13_1).f2) else x3_1) = ji11 := hji11
       have H' := Aside0.mk H; clear H
       have p397 : 0 ≤ (x13_1 : Int) := of_decide_eq_true qa_
       have q397 : x13_1 < (l0_1.length : Int) := of_decide_eq_true qa_
       obtain ⟨ad397, e397, hx397_0, hx397_1, hx397_2, hx397_3⟩ := at_T72 HR0_1.out x13_1 p397 q397
       cases e397
       replace hx397_0 := (HB.out.cell (World.block_lt_of_cell? w _ hx397_0)).trans hx397_0
       replace hx397_1 := (HB.out.cell (World.block_lt_of_cell? w _ hx397_1)).trans hx397_1
       replace hx397_2 := (HB.out.cell (World.block_lt_of_cell? w _ hx397_2)).trans hx397_2
       replace hx397_3 := (HB.out.cell (World.block_lt_of_cell? w _ hx397_3)).trans hx397_3
       replace p397 := eq_true p397; replace q397 := eq_true q397
       go_wp2_with (first | ((with_reducible refine gate_dst (N := 5) rfl ?_); refine bx_ 5 (cs := #[.int .i64 0, .int .i64 0, .int .i64 0, .bool false]) (t := 72) ?_; intro gb398 hg w12 hbox hb; have BK398 := Aside0.mk (hbox); have GW398 := Aside0.mk ((qs_ : w.heap.size ≤ gb398)); have GE398 := Aside0.mk ((qs_ : w.heap.size ≤ gb398)); have NB395_398 := Aside0.mk ((by rw [hg]; exact Nat.ne_of_lt (blk_lt (qk_ BK395)) : gb395 ≠ gb398)); have NB398_395 := Aside0.mk ((by rw [hg]; exact Nat.ne_of_gt (blk_lt (qk_ BK395)) : gb398 ≠ gb395)); replace BK395 := Aside0.mk (blk_below (qk_ BK395) hb); replace HB := Aside0.mk (below_step qB_ hb); clear hb hbox hg; have hnb13 := NB398_395.out; have hnc13 := NB395_398.out; obtain ⟨hcz14_0, hcz14_1, hcz14_2, hcz14_3, hfz14_0, hfz14_1, hfz14_2, hfz14_3⟩ := bc4_ BK398))
       go_roundg k1
       case measure => have := HK1.out; omega
       case rel => exact ⟨(ji11), (wrap64 (x13_1 + 1)), (by first | rfl | (simp; done) | (simp only [← hji11] <;> (first | rfl | simp)) | (simp [*]; done)), qe_, H', ⟨by have := HK1.out; omega⟩, ⟨by (with_reducible repeat (first | refine blk_drewN ?_ _ | refine blk_drew ?_ | refine blk_alloc ?_ _)); refine blk_far ?_ NB395_398.out _; (with_reducible repeat (first | refine blk_drewN ?_ _ | refine blk_drew ?_ | refine blk_alloc ?_ _)); refine blk_far ?_ NB395_398.out _; (with_reducible repeat (first | refine blk_drewN ?_ _ | refine blk_drew ?_ | refine blk_alloc ?_ _)); refine blk_far ?_ NB395_398.out _; (with_reducible repeat (first | refine blk_drewN ?_ _ | refine blk_drew ?_ | refine blk_alloc ?_ _)); refine blk_far ?_ NB395_398.out _; (with_reducible repeat (first | refine blk_drewN ?_ _ | refine blk_drew ?_ | refine blk_alloc ?_ _)); exact BK395.out⟩, ⟨qB_⟩⟩
      ·rw [if_neg c10] at H
       exact absurd H (by simp)
     ·rw [if_neg c9] at H
      exact absurd H (by simp)
    ·rw [if_neg c8] at H
     have c8b0 : decide (x13_1 < (l0_1.length : Int)) = false := decide_eq_false c8
     clear c8
     obtain rfl := Option.some.inj H
     go_wp2
     go_ret
     exact ⟨qr_, qB_⟩
 ·replace c3 := Bool.eq_false_iff.mpr c3
  subst c3
  rw [if_neg (show ¬ (false = true) by decide)] at H
  obtain rfl := Option.some.inj H
  go_enter Try.func27, Try.ntmps27
  go_wp2_with (first | ((with_reducible refine gate_dst (N := 1) rfl ?_); refine bx_ 1 (cs := #[.int .i64 a0_0, .slice A0_1 l0_1.length c0_1]) (t := 29) ?_; intro gb395 hg w15 hbox hb; have BK395 := Aside0.mk (hbox); have GW395 := Aside0.mk ((qs_ : w.heap.size ≤ gb395)); have GE395 := Aside0.mk ((qs_ : w.heap.size ≤ gb395)); replace HB := Aside0.mk (below_step qB_ hb); clear hb hbox hg; obtain ⟨hcz16_0, hcz16_1, hfz16_0, hfz16_1⟩ := bc2_ BK395) | ((with_reducible refine gate_callee (f := 16) rfl ?_); refine gl_ (some 7) Try.func16 #[.agg #[.int .i64 a0_0, .slice A0_1 l0_1.length c0_1]] ?_; (with_reducible refine (impl_WebOk.calls k a0_0 _ _ l0_1 false _ ?side1 ?side2 A2.out).mono ?_); (case side1 => exact qC_ HR0_1 HB); (case side2 => exact HC0_1.out); rintro e w17 ⟨rfl, hb⟩; refine ⟨_, rfl, ?_⟩; replace BK395 := Aside0.mk (blk_below (qk_ BK395) hb); replace HB := Aside0.mk (below_step qB_ hb); (try clear hb); (try clear hb2); (try clear hk); (try clear hi)))
  go_ret
  exact ⟨qr_, qB_⟩

/-! ### laws_FnExactHeightOf: function 5 -/
def laws_FnExactHeightOf.f (k : Nat) (a0_0 : Int) (l0_1 : List (S120)) : Option (Bool) := (laws_szWeb.f a0_0 l0_1 1048576).bind fun t400 => (if t400 < 0 then (some true) else ((laws_toWeb.f k a0_0 l0_1).bind fun bt401 => ((spec_HeightOf.f k bt401.1 bt401.2).bind fun t405 => ((laws_toWeb.f k a0_0 l0_1).bind fun bt406 => ((impl_HeightOf.f k bt406.1 bt406.2).bind fun t411 => (if t411 = t405 then ((laws_toWeb.f k a0_0 l0_1).bind fun bt412 => ((laws_eqWeb.f k bt406.1 bt406.2 bt412.1 bt412.2).bind fun t416 => (if t416 = true then (some true) else (some false)))) else (some false)))))))
theorem laws_FnExactHeightOf.mono : ∀ a0 a1 k, LeO (laws_FnExactHeightOf.f k a0 a1) (laws_FnExactHeightOf.f (k + 1) a0 a1) := by
  intro a0 a1 k
  unfold laws_FnExactHeightOf.f
  repeat' first
      | (with_reducible exact impl_HeightOf.mono _ _ _)
      | (with_reducible exact laws_eqWeb.mono _ _ _ _ _)
      | (with_reducible exact laws_toWeb.mono _ _ _)
      | (with_reducible exact spec_HeightOf.mono _ _ _)
      | (with_reducible exact LeO.refl _)
      | (with_reducible exact LeO.none _)
      | (with_reducible refine LeO.ite ?_ ?_)
      | (with_reducible refine LeO.bind ?_ (fun _ => ?_))
      | exact impl_HeightOf.mono _ _ _
      | exact laws_eqWeb.mono _ _ _ _ _
      | exact laws_toWeb.mono _ _ _
      | exact spec_HeightOf.mono _ _ _
      | exact LeO.none _
      | refine LeO.ite ?_ ?_
      | refine LeO.bind ?_ (fun _ => ?_)
set_option maxHeartbeats 8000000 in
set_option maxRecDepth 100000 in
theorem laws_FnExactHeightOf.calls (k : Nat) (a0_0 : Int) (A0_1 : Option Addr) (c0_1 : Nat) (l0_1 : List (S120)) (w : World) (hr0_1 : Kd.C k120 w A0_1 l0_1.length l0_1) (hc0_1 : l0_1.length ≤ c0_1) (h : laws_FnExactHeightOf.f k a0_0 l0_1 = some true) :
  Calls Try.prog 5 #[.agg #[.int .i64 a0_0, .slice A0_1 l0_1.length c0_1]] w fun e w' => e = .returned (.bool true) ∧ Below w.heap.size w w' := by
 have hu24 := Try.underlying24; have hu29 := Try.underlying29
 have HR0_1 := Aside0.mk hr0_1
 have HC0_1 := Aside0.mk hc0_1
 clear hr0_1 hc0_1
 have HB := Aside0.mk (Below.refl w.heap.size w)
 have H : ((laws_szWeb.f a0_0 l0_1 1048576).bind fun t400 => (if t400 < 0 then (some true) else ((laws_toWeb.f k a0_0 l0_1).bind fun bt401 => ((spec_HeightOf.f k bt401.1 bt401.2).bind fun t405 => ((laws_toWeb.f k a0_0 l0_1).bind fun bt406 => ((impl_HeightOf.f k bt406.1 bt406.2).bind fun t411 => (if t411 = t405 then ((laws_toWeb.f k a0_0 l0_1).bind fun bt412 => ((laws_eqWeb.f k bt406.1 bt406.2 bt412.1 bt412.2).bind fun t416 => (if t416 = true then (some true) else (some false)))) else (some false)))))))) = some true := h
 clear h
 obtain ⟨t400, A20, H⟩ := Option.bind_eq_some_iff.mp H; have A2 := Aside0.mk A20; clear A20
 by_cases c3 : t400 < 0
 ·rw [if_pos c3] at H
  have c3b0 : decide (t400 < 0) = true := decide_eq_true c3
  clear c3; clear H
  go_enter Try.func5, Try.ntmps5
  go_wp2_with (first | ((with_reducible refine gate_dst (N := 1) rfl ?_); refine bx_ 1 (cs := #[.int .i64 a0_0, .slice A0_1 l0_1.length c0_1]) (t := 24) ?_; intro gb399 hg w4 hbox hb; have BK399 := Aside0.mk (hbox); have GW399 := Aside0.mk ((qs_ : w.heap.size ≤ gb399)); have GE399 := Aside0.mk ((qs_ : w.heap.size ≤ gb399)); replace HB := Aside0.mk (below_step qB_ hb); clear hb hbox hg; obtain ⟨hcz5_0, hcz5_1, hfz5_0, hfz5_1⟩ := bc2_ BK399) | ((with_reducible refine gate_callee (f := 13) rfl ?_); refine gl_ (some 9) Try.func13 #[.agg #[.int .i64 a0_0, .slice A0_1 l0_1.length c0_1], .int .i64 1048576] ?_; (with_reducible refine (laws_szWeb.calls a0_0 _ _ l0_1 1048576 t400 _ ?side1 ?side2 A2.out).mono ?_); (case side1 => exact qC_ HR0_1 HB); (case side2 => exact HC0_1.out); rintro e w6 ⟨rfl, hb⟩; refine ⟨_, rfl, ?_⟩; replace BK399 := Aside0.mk (blk_below (qk_ BK399) hb); replace HB := Aside0.mk (below_step qB_ hb); (try clear hb); (try clear hb2); (try clear hk); (try clear hi)))
  go_ret
  exact ⟨qr_, qB_⟩
 ·rw [if_neg c3] at H
  have c3b0 : decide (t400 < 0) = false := decide_eq_false c3
  clear c3
  replace H := Option.bind_eq_some_iff.mp H
  obtain ⟨⟨t401, t402⟩, A70, H⟩ := H
  replace H : ((spec_HeightOf.f k t401 t402).bind fun t405 => ((laws_toWeb.f k a0_0 l0_1).bind fun bt406 => ((impl_HeightOf.f k bt406.1 bt406.2).bind fun t411 => (if t411 = t405 then ((laws_toWeb.f k a0_0 l0_1).bind fun bt412 => ((laws_eqWeb.f k bt406.1 bt406.2 bt412.1 bt412.2).bind fun t416 => (if t416 = true then (some true) else (some false)))) else (some false))))) = some true := H
  have A7 := Aside0.mk A70
  clear A70
  obtain ⟨t405, A80, H⟩ := Option.bind_eq_some_iff.mp H; have A8 := Aside0.mk A80; clear A80
  replace H := Option.bind_eq_some_iff.mp H
  obtain ⟨⟨t406, t407⟩, A90, H⟩ := H
  replace H : ((impl_HeightOf.f k t406 t407).bind fun t411 => (if t411 = t405 then ((laws_toWeb.f k a0_0 l0_1).bind fun bt412 => ((laws_eqWeb.f k t406 t407 bt412.1 bt412.2).bind fun t416 => (if t416 = true then (some true) else (some false)))) else (some false))) = some true := H
  have A9 := Aside0.mk A90
  clear A90
  obtain ⟨t411, A100, H⟩ := Option.bind_eq_some_iff.mp H; have A10 := Aside0.mk A100; clear A100
  by_cases c11 : t411 = t405
  ·rw [if_pos c11] at H
   have c11b0 : (t411 == t405) = true := beq_iff_eq.mpr c11
   have c11b1 : (t411 != t405) = false := bne_eq_false_iff_eq.mpr c11
   clear c11
   replace H := Option.bind_eq_some_iff.mp H
   obtain ⟨⟨t412, t413⟩, A120, H⟩ := H
   replace H : ((laws_eqWeb.f k t406 t407 t412 t413).bind fun t416 => (if t416 = true then (some true) else (some false))) = some true := H
   have A12 := Aside0.mk A120
   clear A120
   obtain ⟨t416, A130, H⟩ := Option.bind_eq_some_iff.mp H; have A13 := Aside0.mk A130; clear A130
   by_cases c14 : t416 = true
   ·subst c14
    have H1 : (some true : Option Bool) = some true := rfl
    clear H; have H := H1; clear H1; clear H
    go_enter Try.func5, Try.ntmps5
    try go_wp2_with (first | ((with_reducible refine gate_dst (N := 1) rfl ?_); refine bx_ 1 (cs := #[.int .i64 a0_0, .slice A0_1 l0_1.length c0_1]) (t := 24) ?_; intro gb399 hg w15 hbox hb; have BK399 := Aside0.mk (hbox); have GW399 := Aside0.mk ((qs_ : w.heap.size ≤ gb399)); have GE399 := Aside0.mk ((qs_ : w.heap.size ≤ gb399)); replace HB := Aside0.mk (below_step qB_ hb); clear hb hbox hg; obtain ⟨hcz16_0, hcz16_1, hfz16_0, hfz16_1⟩ := bc2_ BK399) | ((with_reducible refine gate_callee (f := 13) rfl ?_); refine gl_ (some 9) Try.func13 #[.agg #[.int .i64 a0_0, .slice A0_1 l0_1.length c0_1], .int .i64 1048576] ?_; (with_reducible refine (laws_szWeb.calls a0_0 _ _ l0_1 1048576 t400 _ ?side1 ?side2 A2.out).mono ?_); (case side1 => exact qC_ HR0_1 HB); (case side2 => exact HC0_1.out); rintro e w17 ⟨rfl, hb⟩; refine ⟨_, rfl, ?_⟩; replace BK399 := Aside0.mk (blk_below (qk_ BK399) hb); replace HB := Aside0.mk (below_step qB_ hb); (try clear hb); (try clear hb2); (try clear hk); (try clear hi); obtain ⟨hcz18_0, hcz18_1, hfz18_0, hfz18_1⟩ := bc2_ BK399) | ((with_reducible refine gate_callee (f := 15) rfl ?_); refine gl_ (some 13) Try.func15 #[.agg #[.int .i64 a0_0, .slice A0_1 l0_1.length c0_1]] ?_; (with_reducible refine (laws_toWeb.calls k a0_0 _ _ l0_1 t401 t402 _ ?side1 ?side2 A7.out).mono ?_); (case side1 => exact qC_ HR0_1 HB); (case side2 => exact HC0_1.out); rintro e w19 ⟨v403, rfl, ho0, hb⟩; refine ⟨_, rfl, ?_⟩; have HO404 := Aside0.mk (Kd.R_lower ho0 (below_size qB_)); replace BK399 := Aside0.mk (blk_below (qk_ BK399) hb); replace HB := Aside0.mk (below_step qB_ hb); (try clear hb); (try clear hb2); (try clear hk); (try clear hi); (try clear ho0); obtain ⟨Ao20, co20, eo20⟩ := Kd.R_slice HO404.out; subst eo20) | ((with_reducible refine gate_callee (f := 26) rfl ?_); refine gl_ (some 14) Try.func26 #[.agg #[.int .i64 t401, .slice Ao20 t402.length co20]] ?_; (with_reducible refine (spec_HeightOf.calls k t401 _ _ t402 t405 _ ?side1 ?side2 A8.out).mono ?_); (case side1 => exact qD_ (Kd.R_reads' HO404.out).2.2); (case side2 => exact (Kd.R_reads' HO404.out).2.1); rintro e w21 ⟨rfl, hb⟩; refine ⟨_, rfl, ?_⟩; replace HO404 := Aside0.mk (Kd.R_below (qR_ HO404) hb); replace BK399 := Aside0.mk (blk_below (qk_ BK399) hb); replace HB := Aside0.mk (below_step qB_ hb); (try clear hb); (try clear hb2); (try clear hk); (try clear hi); obtain ⟨hcz22_0, hcz22_1, hfz22_0, hfz22_1⟩ := bc2_ BK399) | ((with_reducible refine gate_callee (f := 15) rfl ?_); refine gl_ (some 16) Try.func15 #[.agg #[.int .i64 a0_0, .slice A0_1 l0_1.length c0_1]] ?_; (with_reducible refine (laws_toWeb.calls k a0_0 _ _ l0_1 t406 t407 _ ?side1 ?side2 A9.out).mono ?_); (case side1 => exact qC_ HR0_1 HB); (case side2 => exact HC0_1.out); rintro e w23 ⟨v408, rfl, ho0, hb⟩; refine ⟨_, rfl, ?_⟩; have HO409 := Aside0.mk (Kd.R_lower (Kd.R_new' ho0 (Kd.R_lt (qR_ HO404))) (below_size qB_)); replace HO404 := Aside0.mk (Kd.R_elder' (qR_ HO404) (Kd.R_base ho0) hb); replace BK399 := Aside0.mk (blk_below (qk_ BK399) hb); replace HB := Aside0.mk (below_step qB_ hb); (try clear hb); (try clear hb2); (try clear hk); (try clear hi); (try clear ho0)) | ((with_reducible refine gate_dst (N := 5) rfl ?_); refine bx_ 5 (cs := #[.int .i64 0, .slice none 0 0]) (t := 29) ?_; intro gb410 hg w24 hbox hb; have BK410 := Aside0.mk (hbox); have GW410 := Aside0.mk ((qs_ : w.heap.size ≤ gb410)); have GE410 := Aside0.mk ((qs_ : w.heap.size ≤ gb410)); have NB399_410 := Aside0.mk ((by rw [hg]; exact Nat.ne_of_lt (blk_lt (qk_ BK399)) : gb399 ≠ gb410)); have NB410_399 := Aside0.mk ((by rw [hg]; exact Nat.ne_of_gt (blk_lt (qk_ BK399)) : gb410 ≠ gb399)); replace HO404 := Aside0.mk (Kd.R_below (qR_ HO404) hb); replace HO409 := Aside0.mk (Kd.R_below (qR_ HO409) hb); replace BK399 := Aside0.mk (blk_below (qk_ BK399) hb); replace HB := Aside0.mk (below_step qB_ hb); clear hb hbox hg; have hnb25 := NB410_399.out; have hnc25 := NB399_410.out; obtain ⟨hcz26_0, hcz26_1, hfz26_0, hfz26_1⟩ := bc2_ BK410; obtain ⟨Ao27, co27, eo27⟩ := Kd.R_slice HO409.out; subst eo27) | ((with_reducible refine gate_callee (f := 27) rfl ?_); refine gl_ (some 18) Try.func27 #[.agg #[.int .i64 t406, .slice Ao27 t407.length co27]] ?_; (with_reducible refine (impl_HeightOf.calls k t406 _ _ t407 t411 _ ?side1 ?side2 A10.out).mono ?_); (case side1 => refine (Kd.R_reads' (e := 72) (base := w.heap.size) (ok := fun k_ => (True ∧ some k_ ≠ (.slice Ao20 t402.length co20 : Value).ownBlock)) (n := t407.length) (c := co27) ?_).2.2; exact (by (with_reducible repeat (first | apply Kd.R_alloc | apply Kd.R_drewN | apply Kd.R_drew)); exact (Kd.R_mono (Kd.R_far (p := ⟨gb410, 1, none⟩) (Kd.R_far (p := ⟨gb410, 0, none⟩) (Kd.R_types HO409.out BK410.out (by decide)) (fun _ hk => hk.2) (.int .i64 t406)) (fun _ hk => hk.2) (.slice Ao27 t407.length co27)) (fun _ h_ => h_.1)))); (case side2 => exact (Kd.R_reads' HO409.out).2.1); rintro e w28 ⟨rfl, hb⟩; refine ⟨_, rfl, ?_⟩; replace HO404 := Aside0.mk (Kd.R_below (by (with_reducible repeat (first | apply Kd.R_alloc | apply Kd.R_drewN | apply Kd.R_drew)); exact (Kd.R_mono (Kd.R_far (p := ⟨gb410, 1, none⟩) (Kd.R_far (p := ⟨gb410, 0, none⟩) (Kd.R_types HO404.out BK410.out (by decide)) (fun _ hk => hk.2) (.int .i64 t406)) (fun _ hk => hk.2) (.slice Ao27 t407.length co27)) (fun _ h_ => h_.1))) hb); replace HO409 := Aside0.mk (Kd.R_below (by (with_reducible repeat (first | apply Kd.R_alloc | apply Kd.R_drewN | apply Kd.R_drew)); exact (Kd.R_mono (Kd.R_far (p := ⟨gb410, 1, none⟩) (Kd.R_far (p := ⟨gb410, 0, none⟩) (Kd.R_types HO409.out BK410.out (by decide)) (fun _ hk => hk.2) (.int .i64 t406)) (fun _ hk => hk.2) (.slice Ao27 t407.length co27)) (fun _ h_ => h_.1))) hb); replace BK399 := Aside0.mk (blk_below (g := gb399) (o := .cells #[.int .i64 a0_0, .slice A0_1 l0_1.length c0_1] 24 (0, 0)) (by (with_reducible repeat (first | refine blk_drewN ?_ _ | refine blk_drew ?_ | refine blk_alloc ?_ _)); refine blk_far ?_ NB399_410.out _; (with_reducible repeat (first | refine blk_drewN ?_ _ | refine blk_drew ?_ | refine blk_alloc ?_ _)); refine blk_far ?_ NB399_410.out _; (with_reducible repeat (first | refine blk_drewN ?_ _ | refine blk_drew ?_ | refine blk_alloc ?_ _)); exact BK399.out) hb); replace BK410 := Aside0.mk (blk_below (g := gb410) (o := .cells #[.int .i64 t406, .slice Ao27 t407.length co27] 29 (0, 0)) (by (with_reducible repeat (first | refine blk_drewN ?_ _ | refine blk_drew ?_ | refine blk_alloc ?_ _)); refine blk_put (cs := #[.int .i64 t406, .slice none 0 0]) ?_ 1 _ rfl; (with_reducible repeat (first | refine blk_drewN ?_ _ | refine blk_drew ?_ | refine blk_alloc ?_ _)); refine blk_put (cs := #[.int .i64 0, .slice none 0 0]) ?_ 0 _ rfl; (with_reducible repeat (first | refine blk_drewN ?_ _ | refine blk_drew ?_ | refine blk_alloc ?_ _)); exact BK410.out) hb); replace HB := Aside0.mk (below_step qB_ hb); (try clear hb); (try clear hb2); (try clear hk); (try clear hi)))
    have n0_ := Aside0.mk (Kd.R_drew HO404.out)
    have n1_ := Aside0.mk (Kd.R_drew HO409.out)
    have n2_ := Aside0.mk (blk_drew BK399.out)
    have n3_ := Aside0.mk (blk_drew BK410.out)
    have n4_ := Aside0.mk (below_drew1 HB.out)
    clear HO404; clear HO409; clear BK399; clear BK410; clear HB; have HO404 := n0_; have HO409 := n1_; have BK399 := n2_; have BK410 := n3_; have HB := n4_; clear n0_ n1_ n2_ n3_ n4_
    refine start_ (n := 5) (S := fun w' => w'.cell? ⟨gb410, 0, none⟩ = some (.int .i64 t406) ∧ w'.cell? ⟨gb410, 1, none⟩ = some (.slice Ao27 t407.length co27) ∧ w'.cell? ⟨gb399, 0, none⟩ = some (.int .i64 a0_0) ∧ w'.cell? ⟨gb399, 1, none⟩ = some (.slice A0_1 l0_1.length c0_1)) (ds := []) (bm 5 0) (by kernel_rfl) rfl (by kernel_rfl) ⟨(blk_cell BK410.out 0).trans rfl, (blk_cell BK410.out 1).trans rfl, (blk_cell BK399.out 0).trans rfl, (blk_cell BK399.out 1).trans rfl⟩ (fun hHeld => ?_)
    generalize w28.drew = w29 at HO404 HO409 BK399 BK410 HB hHeld ⊢
    refine take_ (i := 0) (N := some 22) (v := ?_) (a' := ?_) (bm 5 1) rfl rfl (by kernel_rfl) (fun _ _ _ h => h) (Or.inl ⟨by rfl, ?_⟩) hHeld ?_ ?_
    rotate_left
    ·rintro w' ⟨s0, s1, s2, s3⟩
     go_simp
     with_reducible rfl
    rotate_left
    ·simp only [Act.put, List.setIfInBounds_toArray, List.set_cons_zero, List.set_cons_succ, i64_w, i32_w]
     rfl
    refine take_ (i := 1) (N := some 23) (v := ?_) (a' := ?_) (bm 5 3) rfl rfl (by kernel_rfl) (fun _ _ _ h => h) (Or.inl ⟨by rfl, ?_⟩) hHeld ?_ ?_
    rotate_left
    ·rintro w' ⟨s0, s1, s2, s3⟩
     go_simp
     with_reducible rfl
    rotate_left
    ·simp only [Act.put, List.setIfInBounds_toArray, List.set_cons_zero, List.set_cons_succ, i64_w, i32_w]
     rfl
    refine one_ (i := 2) (N := some 24) (bm 5 7) rfl rfl (by kernel_rfl) (by decide) (fun K hK => ?_)
    refine goes_ Try.func15 (by kernel_rfl) rfl #[.agg #[.int .i64 a0_0, .slice A0_1 l0_1.length c0_1]] (by rfl) rfl rfl (by (try simp only [List.map_toArray, List.map_cons, List.map_nil]); first | done | rfl | (simp only [List.length_drop, List.length_take]; rfl)) ?_
    with_reducible refine (laws_toWeb.calls k a0_0 _ _ l0_1 t412 t413 _ ?side1 ?side2 A12.out).mono ?_
    (case side1 => exact qC_ HR0_1 HB)
    (case side2 => exact HC0_1.out)
    rintro e w30 ⟨v414, rfl, ho0, hb⟩
    refine ⟨_, rfl, ?_⟩
    have n0_ := Aside0.mk (Kd.R_elder' (qR_ HO404) (Kd.R_base ho0) hb)
    have n1_ := Aside0.mk (Kd.R_elder' (qR_ HO409) (Kd.R_base ho0) hb)
    have n2_ := Aside0.mk (Kd.R_lower (Kd.R_new' (Kd.R_new' ho0 (Kd.R_lt (qR_ HO404))) (Kd.R_lt (qR_ HO409))) (below_size qB_))
    have n3_ := Aside0.mk (blk_below (qk_ BK399) hb)
    have n4_ := Aside0.mk (blk_below (qk_ BK410) hb)
    have n5_ := Aside0.mk (below_step qB_ hb)
    clear HO404; clear HO409; clear BK399; clear BK410; clear HB; have HO404 := n0_; have HO409 := n1_; have HO415 := n2_; have BK399 := n3_; have BK410 := n4_; have HB := n5_; clear n0_ n1_ n2_ n3_ n4_ n5_; (try clear hb); (try clear hb2); (try clear hk); (try clear hi); (try clear ho0)
    obtain ⟨Ao31, co31, eo31⟩ := Kd.R_slice HO415.out
    (first | subst eo31 | (injection eo31 with f1_ f2_ f3_; have f4_ := f1_.symm; have f5_ := f3_.symm; clear f1_ f2_ f3_; subst f4_; subst f5_))
    refine hK.out _ _ ⟨(blk_cell BK410.out 0).trans rfl, (blk_cell BK410.out 1).trans rfl, (blk_cell BK399.out 0).trans rfl, (blk_cell BK399.out 1).trans rfl⟩ (fun hHeld => ?_)
    clear hK K
    refine norm_ (a' := ?_) ?_ ?_
    rotate_left
    ·show Act.put _ (some 24) _ = _
     simp only [Act.put, List.setIfInBounds_toArray, List.set_cons_zero, List.set_cons_succ, i64_w, i32_w]
     rfl
    refine one_ (i := 3) (N := some 25) (bm 5 15) rfl rfl (by kernel_rfl) (by decide) (fun K hK => ?_)
    refine goes_ Try.func17 (by kernel_rfl) rfl #[.agg #[.int .i64 t406, .slice Ao27 t407.length co27], .agg #[.int .i64 t412, .slice Ao31 t413.length co31]] (by rfl) rfl rfl (by (try simp only [List.map_toArray, List.map_cons, List.map_nil]); first | done | rfl | (simp only [List.length_drop, List.length_take]; rfl)) ?_
    with_reducible refine (laws_eqWeb.calls k t406 _ _ t407 t412 _ _ t413 true _ ?side1 ?side2 ?side3 ?side4 A13.out).mono ?_
    (case side1 => exact qD_ (Kd.R_reads' HO409.out).2.2)
    (case side2 => exact (Kd.R_reads' HO409.out).2.1)
    (case side3 => exact qD_ (Kd.R_reads' HO415.out).2.2)
    (case side4 => exact (Kd.R_reads' HO415.out).2.1)
    rintro e w32 ⟨rfl, hb⟩
    refine ⟨_, rfl, ?_⟩
    have n0_ := Aside0.mk (Kd.R_below (qR_ HO404) hb)
    have n1_ := Aside0.mk (Kd.R_below (qR_ HO409) hb)
    have n2_ := Aside0.mk (Kd.R_below (qR_ HO415) hb)
    have n3_ := Aside0.mk (blk_below (qk_ BK399) hb)
    have n4_ := Aside0.mk (blk_below (qk_ BK410) hb)
    have n5_ := Aside0.mk (below_step qB_ hb)
    clear HO404; clear HO409; clear HO415; clear BK399; clear BK410; clear HB; have HO404 := n0_; have HO409 := n1_; have HO415 := n2_; have BK399 := n3_; have BK410 := n4_; have HB := n5_; clear n0_ n1_ n2_ n3_ n4_ n5_; (try clear hb); (try clear hb2); (try clear hk); (try clear hi)
    refine hK.out _ _ ⟨(blk_cell BK410.out 0).trans rfl, (blk_cell BK410.out 1).trans rfl, (blk_cell BK399.out 0).trans rfl, (blk_cell BK399.out 1).trans rfl⟩ (fun hHeld => ?_)
    clear hK K
    refine norm_ (a' := ?_) ?_ ?_
    rotate_left
    ·show Act.put _ (some 25) _ = _
     simp only [Act.put, List.setIfInBounds_toArray, List.set_cons_zero, List.set_cons_succ, i64_w, i32_w]
     rfl
    refine pure_ (i := 4) (N := some 26) (v := ?_) (a' := ?_) (bm 5 31) rfl rfl (by kernel_rfl) (fun _ _ _ h => h) (Or.inl ⟨by rfl, ?_⟩) ?_ ?_
    rotate_left
    ·intro w'
     go_simp
     with_reducible rfl
    rotate_left
    ·simp only [Act.put, List.setIfInBounds_toArray, List.set_cons_zero, List.set_cons_succ, i64_w, i32_w]
     rfl
    refine done_ (by kernel_rfl) ?_
    try go_wp2
    go_ret
    exact ⟨qr_, qB_⟩
   ·replace c14 := Bool.eq_false_iff.mpr c14
    subst c14
    rw [if_neg (show ¬ (false = true) by decide)] at H
    exact absurd (Option.some.inj H) (by decide)
  ·rw [if_neg c11] at H
   have c11b0 : (t411 == t405) = false := beq_eq_false_iff_ne.mpr c11
   have c11b1 : (t411 != t405) = true := bne_iff_ne.mpr c11
   exact absurd (Option.some.inj H) (by decide)

end Go.Proofs.Ytbkklafkoegdpaa.QFnExactHeightOf
