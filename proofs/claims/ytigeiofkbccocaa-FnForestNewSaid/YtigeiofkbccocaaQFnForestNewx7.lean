-- printed for this claim by a program of the session's own (no text of the kit's print)
import Derived.Test.YtigeiofkbccocaaQFnForestNewx0
import Derived.Test.YtigeiofkbccocaaQFnForestNewx3
import Derived.Test.YtigeiofkbccocaaQFnForestNewx5
import Derived.Test.YtigeiofkbccocaaQFnForestNewx6
namespace Go.Proofs.Ytigeiofkbccocaa.QFnForestNew
open Go.RowKit Go.Proofs.YtigeiofkbccocaaW.PrintWords Go.Proofs.YtigeiofkbccocaaW.PrintLast Go.Proofs.YtigeiofkbccocaaW.PrintMore
attribute [local go_sem] max2_int min2_int max_two min_two max_three min_three max_four min_four   -- for this text's walks alone
set_option linter.unusedVariables false
set_option linter.unusedSimpArgs false

/-! ### impl_TreeOf: function 59 -/
def impl_TreeOf.l0 : Nat → Int → List (List Int) → Int → Int → Option (Int)
  | 0, _, _, _, _ => none
  | k + 1, x1, x11, x12, x13 => if x13 < x12 then (if 0 ≤ x13 then (if x13 < (x11.length : Int) then ((impl_hasInt.f k (rd_L2 x11 x13) x1).bind fun t260 => (if t260 = true then (some x13) else (impl_TreeOf.l0 k x1 x11 x12 (wrap64 (x13 + 1))))) else (none)) else (none)) else (some (-1))
def impl_TreeOf.f (k : Nat) (a0_0 : Int) (l0_1 : List (List Int)) (a1 : Int) : Option (Int) := (impl_ForestOk.f k a0_0 l0_1).bind fun t258 => (if t258 = true then (impl_TreeOf.l0 k a1 l0_1 (l0_1.length : Int) 0) else (some (-1)))
theorem impl_TreeOf.mono_l : ∀ k, (∀ y0 y1 y2 y3, LeO (impl_TreeOf.l0 k y0 y1 y2 y3) (impl_TreeOf.l0 (k + 1) y0 y1 y2 y3))
  | 0 => fun _ _ _ _ r h => by simp [impl_TreeOf.l0] at h
  | k + 1 => by
    have ih0 := impl_TreeOf.mono_l k
    · intro y0 y1 y2 y3
      unfold impl_TreeOf.l0
      repeat' first
      | (with_reducible exact ih0 _ _ _ _)
      | (with_reducible exact impl_ForestOk.mono _ _ _)
      | (with_reducible exact impl_hasInt.mono _ _ _)
      | (with_reducible exact LeO.refl _)
      | (with_reducible exact LeO.none _)
      | (with_reducible refine LeO.ite ?_ ?_)
      | (with_reducible refine LeO.bind ?_ (fun _ => ?_))
      | exact ih0 _ _ _ _
      | exact impl_ForestOk.mono _ _ _
      | exact impl_hasInt.mono _ _ _
      | exact LeO.none _
      | refine LeO.ite ?_ ?_
      | refine LeO.bind ?_ (fun _ => ?_)
theorem impl_TreeOf.mono : ∀ a0 a1 a2 k, LeO (impl_TreeOf.f k a0 a1 a2) (impl_TreeOf.f (k + 1) a0 a1 a2) := by
  intro a0 a1 a2 k
  have ih0 := impl_TreeOf.mono_l k
  unfold impl_TreeOf.f
  repeat' first
      | (with_reducible exact ih0 _ _ _ _)
      | (with_reducible exact impl_ForestOk.mono _ _ _)
      | (with_reducible exact impl_hasInt.mono _ _ _)
      | (with_reducible exact LeO.refl _)
      | (with_reducible exact LeO.none _)
      | (with_reducible refine LeO.ite ?_ ?_)
      | (with_reducible refine LeO.bind ?_ (fun _ => ?_))
      | exact ih0 _ _ _ _
      | exact impl_ForestOk.mono _ _ _
      | exact impl_hasInt.mono _ _ _
      | exact LeO.none _
      | refine LeO.ite ?_ ?_
      | refine LeO.bind ?_ (fun _ => ?_)
set_option maxHeartbeats 8000000 in
set_option maxRecDepth 100000 in
theorem impl_TreeOf.calls (k : Nat) (a0_0 : Int) (A0_1 : Option Addr) (c0_1 : Nat) (l0_1 : List (List Int)) (a1 : Int) (r : Int) (w : World) (hr0_1 : Kd.C (Kd.slice 3 (Kd.int .i64)) w A0_1 l0_1.length l0_1) (hc0_1 : l0_1.length ≤ c0_1) (h : impl_TreeOf.f k a0_0 l0_1 a1 = some r) :
  Calls Try.prog 59 #[.agg #[.int .i64 a0_0, .slice A0_1 l0_1.length c0_1], .int .i64 a1] w fun e w' => e = .returned (.int .i64 r) ∧ Below w.heap.size w w' := by
 have hu89 := Try.underlying89
 have HR0_1 := Aside0.mk hr0_1
 have HC0_1 := Aside0.mk hc0_1
 clear hr0_1 hc0_1
 have HB := Aside0.mk (Below.refl w.heap.size w)
 have H : ((impl_ForestOk.f k a0_0 l0_1).bind fun t258 => (if t258 = true then (impl_TreeOf.l0 k a1 l0_1 (l0_1.length : Int) 0) else (some (-1)))) = some r := h
 clear h
 obtain ⟨t258, A30, H⟩ := Option.bind_eq_some_iff.mp H; have A3 := Aside0.mk A30; clear A30
 by_cases c4 : t258 = true
 ·subst c4
  rw [if_pos rfl] at H; have H' := Aside0.mk H; clear H
  go_enter Try.func59, Try.ntmps59
  go_wp2_with (first | ((with_reducible refine gate_dst (N := 2) rfl ?_); refine bx_ 2 (cs := #[.int .i64 a0_0, .slice A0_1 l0_1.length c0_1]) (t := 89) ?_; intro gb257 hg w5 hbox hb; have BK257 := Aside0.mk (hbox); have GW257 := Aside0.mk ((qs_ : w.heap.size ≤ gb257)); have GE257 := Aside0.mk ((qs_ : w.heap.size ≤ gb257)); replace HB := Aside0.mk (below_step qB_ hb); clear hb hbox hg; obtain ⟨hcz6_0, hcz6_1, hfz6_0, hfz6_1⟩ := bc2_ BK257) | ((with_reducible refine gate_callee (f := 111) rfl ?_); refine gl_ (some 8) Try.func111 #[.agg #[.int .i64 a0_0, .slice A0_1 l0_1.length c0_1]] ?_; (with_reducible refine (impl_ForestOk.calls k a0_0 _ _ l0_1 true _ ?side1 ?side2 A3.out).mono ?_); (case side1 => exact qC_ HR0_1 HB); (case side2 => exact HC0_1.out); rintro e w7 ⟨rfl, hb⟩; refine ⟨_, rfl, ?_⟩; replace BK257 := Aside0.mk (blk_below (qk_ BK257) hb); replace HB := Aside0.mk (below_step qB_ hb); (try clear hb); (try clear hb2); (try clear hk); (try clear hi); obtain ⟨hcz8_0, hcz8_1, hfz8_0, hfz8_1⟩ := bc2_ BK257))
  go_loopg [13] k (fun kq v13 w' => ∃ (x13_1 : Int), v13 = .int .i64 x13_1 ∧ Aside0 (impl_TreeOf.l0 kq a1 l0_1 (l0_1.length : Int) x13_1 = some r) ∧ Aside0 (kq ≤ k) ∧ Aside0 (w'.heap[gb257]? = some (.cells #[.int .i64 a0_0, (.slice A0_1 l0_1.length c0_1)] 89 (0, 0))) ∧ Aside0 (Below w.heap.size w w'))
  case atStart => exact ⟨(0), qe_, H', ⟨Nat.le_refl _⟩, ⟨qk_ BK257⟩, ⟨qB_⟩⟩
  case round =>
   clear H'
   (try clear c1); (try clear p2); (try clear c4); (try clear c5); (try clear hcz6_0); (try clear hcz6_1); (try clear hcz8_0); (try clear hcz8_1); (try clear hfz6_0); (try clear hfz6_1); (try clear hfz8_0); (try clear hfz8_1)
   obtain ⟨x13_1, rfl, HA, HK1, BK257, HB⟩ := hrel
   cases gk with
   | zero => exact absurd HA.out (by simp [impl_TreeOf.l0])
   | succ k1 =>
    have H := HA.out; clear HA
    simp only [impl_TreeOf.l0] at H
    by_cases c9 : x13_1 < (l0_1.length : Int)
    ·rw [if_pos c9] at H
     have c9b0 : decide (x13_1 < (l0_1.length : Int)) = true := decide_eq_true c9
     clear c9
     by_cases c10 : 0 ≤ x13_1
     ·rw [if_pos c10] at H
      have c10b0 : decide (0 ≤ x13_1) = true := decide_eq_true c10
      clear c10
      by_cases c11 : x13_1 < (l0_1.length : Int)
      ·rw [if_pos c11] at H
       have c11b0 : decide (x13_1 < (l0_1.length : Int)) = true := decide_eq_true c11
       clear c11
       obtain ⟨t260, A120, H⟩ := Option.bind_eq_some_iff.mp H; have A12 := Aside0.mk A120; clear A120
       by_cases c13 : t260 = true
       ·subst c13
        rw [if_pos rfl] at H
        obtain rfl := Option.some.inj H
        have p259 : 0 ≤ (x13_1 : Int) := of_decide_eq_true qa_
        have q259 : x13_1 < (l0_1.length : Int) := of_decide_eq_true qa_
        obtain ⟨ad259, A259_0, c259_0, e259, hx259_0, hl259_0, hi259_0⟩ := at_L2 HR0_1.out x13_1 p259 q259
        cases e259
        replace hx259_0 := (HB.out.cell (World.block_lt_of_cell? w _ hx259_0)).trans hx259_0
        have HR259_0 := Aside0.mk hi259_0
        have HC259_0 := Aside0.mk hl259_0
        clear hi259_0 hl259_0; replace p259 := eq_true p259; replace q259 := eq_true q259
        go_wp2_with (first | ((with_reducible refine gate_callee (f := 103) rfl ?_); refine gl_ (some 20) Try.func103 #[.slice A259_0 (rd_L2 l0_1 x13_1).length c259_0, .int .i64 a1] ?_; (with_reducible refine (impl_hasInt.calls k1 _ _ (rd_L2 l0_1 x13_1) a1 true _ ?side1 ?side2 A12.out).mono ?_); (case side1 => exact qC_ HR259_0 HB); (case side2 => exact HC259_0.out); rintro e w' ⟨rfl, ⟨nd, rfl⟩⟩; refine ⟨_, rfl, ?_⟩))
        go_ret
        exact ⟨qr_, qB_⟩
       ·replace c13 := Bool.eq_false_iff.mpr c13
        subst c13
        rw [if_neg (show ¬ (false = true) by decide)] at H; have H' := Aside0.mk H; clear H
        have p259 : 0 ≤ (x13_1 : Int) := of_decide_eq_true qa_
        have q259 : x13_1 < (l0_1.length : Int) := of_decide_eq_true qa_
        obtain ⟨ad259, A259_0, c259_0, e259, hx259_0, hl259_0, hi259_0⟩ := at_L2 HR0_1.out x13_1 p259 q259
        cases e259
        replace hx259_0 := (HB.out.cell (World.block_lt_of_cell? w _ hx259_0)).trans hx259_0
        have HR259_0 := Aside0.mk hi259_0
        have HC259_0 := Aside0.mk hl259_0
        clear hi259_0 hl259_0; replace p259 := eq_true p259; replace q259 := eq_true q259
        go_wp2_with (first | ((with_reducible refine gate_callee (f := 103) rfl ?_); refine gl_ (some 20) Try.func103 #[.slice A259_0 (rd_L2 l0_1 x13_1).length c259_0, .int .i64 a1] ?_; (with_reducible refine (impl_hasInt.calls k1 _ _ (rd_L2 l0_1 x13_1) a1 false _ ?side1 ?side2 A12.out).mono ?_); (case side1 => exact qC_ HR259_0 HB); (case side2 => exact HC259_0.out); rintro e w' ⟨rfl, ⟨nd, rfl⟩⟩; refine ⟨_, rfl, ?_⟩))
        go_roundg k1
        case measure => have := HK1.out; omega
        case rel => exact ⟨(wrap64 (x13_1 + 1)), qe_, H', ⟨by have := HK1.out; omega⟩, ⟨qk_ BK257⟩, ⟨qB_⟩⟩
      ·rw [if_neg c11] at H
       exact absurd H (by simp)
     ·rw [if_neg c10] at H
      exact absurd H (by simp)
    ·rw [if_neg c9] at H
     have c9b0 : decide (x13_1 < (l0_1.length : Int)) = false := decide_eq_false c9
     clear c9
     obtain rfl := Option.some.inj H
     go_wp2
     go_ret
     exact ⟨qr_, qB_⟩
 ·replace c4 := Bool.eq_false_iff.mpr c4
  subst c4
  rw [if_neg (show ¬ (false = true) by decide)] at H
  obtain rfl := Option.some.inj H
  go_enter Try.func59, Try.ntmps59
  go_wp2_with (first | ((with_reducible refine gate_dst (N := 2) rfl ?_); refine bx_ 2 (cs := #[.int .i64 a0_0, .slice A0_1 l0_1.length c0_1]) (t := 89) ?_; intro gb257 hg w14 hbox hb; have BK257 := Aside0.mk (hbox); have GW257 := Aside0.mk ((qs_ : w.heap.size ≤ gb257)); have GE257 := Aside0.mk ((qs_ : w.heap.size ≤ gb257)); replace HB := Aside0.mk (below_step qB_ hb); clear hb hbox hg; obtain ⟨hcz15_0, hcz15_1, hfz15_0, hfz15_1⟩ := bc2_ BK257) | ((with_reducible refine gate_callee (f := 111) rfl ?_); refine gl_ (some 8) Try.func111 #[.agg #[.int .i64 a0_0, .slice A0_1 l0_1.length c0_1]] ?_; (with_reducible refine (impl_ForestOk.calls k a0_0 _ _ l0_1 false _ ?side1 ?side2 A3.out).mono ?_); (case side1 => exact qC_ HR0_1 HB); (case side2 => exact HC0_1.out); rintro e w16 ⟨rfl, hb⟩; refine ⟨_, rfl, ?_⟩; replace BK257 := Aside0.mk (blk_below (qk_ BK257) hb); replace HB := Aside0.mk (below_step qB_ hb); (try clear hb); (try clear hb2); (try clear hk); (try clear hi)))
  go_ret
  exact ⟨qr_, qB_⟩

/-! ### impl_SizeOf: function 60 -/
def impl_SizeOf.f (k : Nat) (a0_0 : Int) (l0_1 : List (List Int)) (a1 : Int) : Option (Int) := (impl_TreeOf.f k a0_0 l0_1 a1).bind fun t262 => (if t262 < 0 then (some 0) else (if 0 ≤ t262 then (if t262 < (l0_1.length : Int) then ((impl_VertsOf.f k (rd_L2 l0_1 t262)).bind fun t264 => (some (t264.length : Int))) else (none)) else (none)))
theorem impl_SizeOf.mono : ∀ a0 a1 a2 k, LeO (impl_SizeOf.f k a0 a1 a2) (impl_SizeOf.f (k + 1) a0 a1 a2) := by
  intro a0 a1 a2 k
  unfold impl_SizeOf.f
  repeat' first
      | (with_reducible exact impl_TreeOf.mono _ _ _ _)
      | (with_reducible exact impl_VertsOf.mono _ _)
      | (with_reducible exact LeO.refl _)
      | (with_reducible exact LeO.none _)
      | (with_reducible refine LeO.ite ?_ ?_)
      | (with_reducible refine LeO.bind ?_ (fun _ => ?_))
      | exact impl_TreeOf.mono _ _ _ _
      | exact impl_VertsOf.mono _ _
      | exact LeO.none _
      | refine LeO.ite ?_ ?_
      | refine LeO.bind ?_ (fun _ => ?_)
set_option maxHeartbeats 8000000 in
set_option maxRecDepth 100000 in
theorem impl_SizeOf.calls (k : Nat) (a0_0 : Int) (A0_1 : Option Addr) (c0_1 : Nat) (l0_1 : List (List Int)) (a1 : Int) (r : Int) (w : World) (hr0_1 : Kd.C (Kd.slice 3 (Kd.int .i64)) w A0_1 l0_1.length l0_1) (hc0_1 : l0_1.length ≤ c0_1) (h : impl_SizeOf.f k a0_0 l0_1 a1 = some r) :
  Calls Try.prog 60 #[.agg #[.int .i64 a0_0, .slice A0_1 l0_1.length c0_1], .int .i64 a1] w fun e w' => e = .returned (.int .i64 r) ∧ Below w.heap.size w w' := by
 have hu89 := Try.underlying89
 have HR0_1 := Aside0.mk hr0_1
 have HC0_1 := Aside0.mk hc0_1
 clear hr0_1 hc0_1
 have HB := Aside0.mk (Below.refl w.heap.size w)
 have H : ((impl_TreeOf.f k a0_0 l0_1 a1).bind fun t262 => (if t262 < 0 then (some 0) else (if 0 ≤ t262 then (if t262 < (l0_1.length : Int) then ((impl_VertsOf.f k (rd_L2 l0_1 t262)).bind fun t264 => (some (t264.length : Int))) else (none)) else (none)))) = some r := h
 clear h
 obtain ⟨t262, A30, H⟩ := Option.bind_eq_some_iff.mp H; have A3 := Aside0.mk A30; clear A30
 by_cases c4 : t262 < 0
 ·rw [if_pos c4] at H
  have c4b0 : decide (t262 < 0) = true := decide_eq_true c4
  clear c4
  obtain rfl := Option.some.inj H
  go_enter Try.func60, Try.ntmps60
  go_wp2_with (first | ((with_reducible refine gate_dst (N := 2) rfl ?_); refine bx_ 2 (cs := #[.int .i64 a0_0, .slice A0_1 l0_1.length c0_1]) (t := 89) ?_; intro gb261 hg w5 hbox hb; have BK261 := Aside0.mk (hbox); have GW261 := Aside0.mk ((qs_ : w.heap.size ≤ gb261)); have GE261 := Aside0.mk ((qs_ : w.heap.size ≤ gb261)); replace HB := Aside0.mk (below_step qB_ hb); clear hb hbox hg; obtain ⟨hcz6_0, hcz6_1, hfz6_0, hfz6_1⟩ := bc2_ BK261) | ((with_reducible refine gate_callee (f := 59) rfl ?_); refine gl_ (some 8) Try.func59 #[.agg #[.int .i64 a0_0, .slice A0_1 l0_1.length c0_1], .int .i64 a1] ?_; (with_reducible refine (impl_TreeOf.calls k a0_0 _ _ l0_1 a1 t262 _ ?side1 ?side2 A3.out).mono ?_); (case side1 => exact qC_ HR0_1 HB); (case side2 => exact HC0_1.out); rintro e w7 ⟨rfl, hb⟩; refine ⟨_, rfl, ?_⟩; replace BK261 := Aside0.mk (blk_below (qk_ BK261) hb); replace HB := Aside0.mk (below_step qB_ hb); (try clear hb); (try clear hb2); (try clear hk); (try clear hi)))
  go_ret
  exact ⟨qr_, qB_⟩
 ·rw [if_neg c4] at H
  have c4b0 : decide (t262 < 0) = false := decide_eq_false c4
  clear c4
  by_cases c8 : 0 ≤ t262
  ·rw [if_pos c8] at H
   have c8b0 : decide (0 ≤ t262) = true := decide_eq_true c8
   clear c8
   by_cases c9 : t262 < (l0_1.length : Int)
   ·rw [if_pos c9] at H
    have c9b0 : decide (t262 < (l0_1.length : Int)) = true := decide_eq_true c9
    clear c9
    obtain ⟨t264, A100, H⟩ := Option.bind_eq_some_iff.mp H; have A10 := Aside0.mk A100; clear A100
    obtain rfl := Option.some.inj H
    go_enter Try.func60, Try.ntmps60
    go_wp2_with (first | ((with_reducible refine gate_dst (N := 2) rfl ?_); refine bx_ 2 (cs := #[.int .i64 a0_0, .slice A0_1 l0_1.length c0_1]) (t := 89) ?_; intro gb261 hg w11 hbox hb; have BK261 := Aside0.mk (hbox); have GW261 := Aside0.mk ((qs_ : w.heap.size ≤ gb261)); have GE261 := Aside0.mk ((qs_ : w.heap.size ≤ gb261)); replace HB := Aside0.mk (below_step qB_ hb); clear hb hbox hg; obtain ⟨hcz12_0, hcz12_1, hfz12_0, hfz12_1⟩ := bc2_ BK261) | ((with_reducible refine gate_callee (f := 59) rfl ?_); refine gl_ (some 8) Try.func59 #[.agg #[.int .i64 a0_0, .slice A0_1 l0_1.length c0_1], .int .i64 a1] ?_; (with_reducible refine (impl_TreeOf.calls k a0_0 _ _ l0_1 a1 t262 _ ?side1 ?side2 A3.out).mono ?_); (case side1 => exact qC_ HR0_1 HB); (case side2 => exact HC0_1.out); rintro e w13 ⟨rfl, hb⟩; refine ⟨_, rfl, ?_⟩; replace BK261 := Aside0.mk (blk_below (qk_ BK261) hb); replace HB := Aside0.mk (below_step qB_ hb); (try clear hb); (try clear hb2); (try clear hk); (try clear hi); obtain ⟨hcz14_0, hcz14_1, hfz14_0, hfz14_1⟩ := bc2_ BK261; have p263 : 0 ≤ (t262 : Int) := of_decide_eq_true qa_; have q263 : t262 < (l0_1.length : Int) := of_decide_eq_true qa_; obtain ⟨ad263, A263_0, c263_0, e263, hx263_0, hl263_0, hi263_0⟩ := at_L2 HR0_1.out t262 p263 q263; cases e263; replace hx263_0 := (HB.out.cell (World.block_lt_of_cell? w _ hx263_0)).trans hx263_0; have HR263_0 := Aside0.mk hi263_0; have HC263_0 := Aside0.mk hl263_0; clear hi263_0 hl263_0; replace p263 := eq_true p263; replace q263 := eq_true q263) | ((with_reducible refine gate_callee (f := 112) rfl ?_); refine gl_ (some 16) Try.func112 #[.slice A263_0 (rd_L2 l0_1 t262).length c263_0] ?_; (with_reducible refine (impl_VertsOf.calls k _ _ (rd_L2 l0_1 t262) t264 _ ?side1 ?side2 A10.out).mono ?_); (case side1 => exact qC_ HR263_0 HB); (case side2 => exact HC263_0.out); rintro e w15 ⟨v265, rfl, ho0, hb⟩; refine ⟨_, rfl, ?_⟩; have HO266 := Aside0.mk (Kd.R_lower ho0 (below_size qB_)); replace BK261 := Aside0.mk (blk_below (qk_ BK261) hb); replace HB := Aside0.mk (below_step qB_ hb); (try clear hb); (try clear hb2); (try clear hk); (try clear hi); (try clear ho0); obtain ⟨Ao16, co16, eo16⟩ := Kd.R_slice HO266.out; subst eo16))
    go_ret
    exact ⟨qr_, qB_⟩
   ·rw [if_neg c9] at H
    exact absurd H (by simp)
  ·rw [if_neg c8] at H
   exact absurd H (by simp)

/-! ### impl_ahead: function 119 -/
def impl_ahead.f (a0_0 : Int) (a0_1 : Int) (a1_0 : Int) (a1_1 : Int) : Option (Bool) := if a0_0 < a1_0 then (some true) else (if a0_0 = a1_0 then (some (decide (a0_1 < a1_1))) else (some false))
set_option maxHeartbeats 8000000 in
set_option maxRecDepth 100000 in
theorem impl_ahead.calls (a0_0 : Int) (a0_1 : Int) (a1_0 : Int) (a1_1 : Int) (r : Bool) (w : World) (h : impl_ahead.f a0_0 a0_1 a1_0 a1_1 = some r) :
  Calls Try.prog 119 #[.agg #[.int .i64 a0_0, .int .i64 a0_1], .agg #[.int .i64 a1_0, .int .i64 a1_1]] w fun e w' => e = .returned (.bool r) ∧ Below w.heap.size w w' := by
 have hu79 := Try.underlying79
 have HB := Aside0.mk (Below.refl w.heap.size w)
 have H : (if a0_0 < a1_0 then (some true) else (if a0_0 = a1_0 then (some (decide (a0_1 < a1_1))) else (some false))) = some r := h
 clear h
 by_cases c3 : a0_0 < a1_0
 ·rw [if_pos c3] at H
  have c3b0 : decide (a0_0 < a1_0) = true := decide_eq_true c3
  clear c3
  obtain rfl := Option.some.inj H
  go_enter Try.func119, Try.ntmps119
  go_wp2_with (first | ((with_reducible refine gate_dst (N := 2) rfl ?_); refine bx_ 2 (cs := #[.int .i64 a0_0, .int .i64 a0_1]) (t := 79) ?_; intro gb267 hg w4 hbox hb; have BK267 := Aside0.mk (hbox); have GW267 := Aside0.mk ((qs_ : w.heap.size ≤ gb267)); have GE267 := Aside0.mk ((qs_ : w.heap.size ≤ gb267)); replace HB := Aside0.mk (below_step qB_ hb); clear hb hbox hg) | ((with_reducible refine gate_dst (N := 3) rfl ?_); refine bx_ 3 (cs := #[.int .i64 a1_0, .int .i64 a1_1]) (t := 79) ?_; intro gb268 hg w5 hbox hb; have BK268 := Aside0.mk (hbox); have GW268 := Aside0.mk ((qs_ : w.heap.size ≤ gb268)); have GE268 := Aside0.mk ((qs_ : w.heap.size ≤ gb268)); have NB267_268 := Aside0.mk ((by rw [hg]; exact Nat.ne_of_lt (blk_lt (qk_ BK267)) : gb267 ≠ gb268)); have NB268_267 := Aside0.mk ((by rw [hg]; exact Nat.ne_of_gt (blk_lt (qk_ BK267)) : gb268 ≠ gb267)); replace BK267 := Aside0.mk (blk_below (qk_ BK267) hb); replace HB := Aside0.mk (below_step qB_ hb); clear hb hbox hg; have hnb6 := NB267_268.out; have hnc6 := NB268_267.out; obtain ⟨hcz7_0, hcz7_1, hfz7_0, hfz7_1⟩ := bc2_ BK267; obtain ⟨hcz8_0, hcz8_1, hfz8_0, hfz8_1⟩ := bc2_ BK268))
  go_ret
  exact ⟨qr_, qB_⟩
 ·rw [if_neg c3] at H
  have c3b0 : decide (a0_0 < a1_0) = false := decide_eq_false c3
  clear c3
  by_cases c9 : a0_0 = a1_0
  ·rw [if_pos c9] at H
   have c9b0 : (a0_0 == a1_0) = true := beq_iff_eq.mpr c9
   have c9b1 : (a0_0 != a1_0) = false := bne_eq_false_iff_eq.mpr c9
   clear c9
   obtain rfl := Option.some.inj H
   go_enter Try.func119, Try.ntmps119
   go_wp2_with (first | ((with_reducible refine gate_dst (N := 2) rfl ?_); refine bx_ 2 (cs := #[.int .i64 a0_0, .int .i64 a0_1]) (t := 79) ?_; intro gb267 hg w10 hbox hb; have BK267 := Aside0.mk (hbox); have GW267 := Aside0.mk ((qs_ : w.heap.size ≤ gb267)); have GE267 := Aside0.mk ((qs_ : w.heap.size ≤ gb267)); replace HB := Aside0.mk (below_step qB_ hb); clear hb hbox hg) | ((with_reducible refine gate_dst (N := 3) rfl ?_); refine bx_ 3 (cs := #[.int .i64 a1_0, .int .i64 a1_1]) (t := 79) ?_; intro gb268 hg w11 hbox hb; have BK268 := Aside0.mk (hbox); have GW268 := Aside0.mk ((qs_ : w.heap.size ≤ gb268)); have GE268 := Aside0.mk ((qs_ : w.heap.size ≤ gb268)); have NB267_268 := Aside0.mk ((by rw [hg]; exact Nat.ne_of_lt (blk_lt (qk_ BK267)) : gb267 ≠ gb268)); have NB268_267 := Aside0.mk ((by rw [hg]; exact Nat.ne_of_gt (blk_lt (qk_ BK267)) : gb268 ≠ gb267)); replace BK267 := Aside0.mk (blk_below (qk_ BK267) hb); replace HB := Aside0.mk (below_step qB_ hb); clear hb hbox hg; have hnb12 := NB267_268.out; have hnc12 := NB268_267.out; obtain ⟨hcz13_0, hcz13_1, hfz13_0, hfz13_1⟩ := bc2_ BK267; obtain ⟨hcz14_0, hcz14_1, hfz14_0, hfz14_1⟩ := bc2_ BK268))
   go_ret
   exact ⟨qr_, qB_⟩
  ·rw [if_neg c9] at H
   have c9b0 : (a0_0 == a1_0) = false := beq_eq_false_iff_ne.mpr c9
   have c9b1 : (a0_0 != a1_0) = true := bne_iff_ne.mpr c9
   obtain rfl := Option.some.inj H
   go_enter Try.func119, Try.ntmps119
   go_wp2_with (first | ((with_reducible refine gate_dst (N := 2) rfl ?_); refine bx_ 2 (cs := #[.int .i64 a0_0, .int .i64 a0_1]) (t := 79) ?_; intro gb267 hg w15 hbox hb; have BK267 := Aside0.mk (hbox); have GW267 := Aside0.mk ((qs_ : w.heap.size ≤ gb267)); have GE267 := Aside0.mk ((qs_ : w.heap.size ≤ gb267)); replace HB := Aside0.mk (below_step qB_ hb); clear hb hbox hg) | ((with_reducible refine gate_dst (N := 3) rfl ?_); refine bx_ 3 (cs := #[.int .i64 a1_0, .int .i64 a1_1]) (t := 79) ?_; intro gb268 hg w16 hbox hb; have BK268 := Aside0.mk (hbox); have GW268 := Aside0.mk ((qs_ : w.heap.size ≤ gb268)); have GE268 := Aside0.mk ((qs_ : w.heap.size ≤ gb268)); have NB267_268 := Aside0.mk ((by rw [hg]; exact Nat.ne_of_lt (blk_lt (qk_ BK267)) : gb267 ≠ gb268)); have NB268_267 := Aside0.mk ((by rw [hg]; exact Nat.ne_of_gt (blk_lt (qk_ BK267)) : gb268 ≠ gb267)); replace BK267 := Aside0.mk (blk_below (qk_ BK267) hb); replace HB := Aside0.mk (below_step qB_ hb); clear hb hbox hg; have hnb17 := NB267_268.out; have hnc17 := NB268_267.out; obtain ⟨hcz18_0, hcz18_1, hfz18_0, hfz18_1⟩ := bc2_ BK267; obtain ⟨hcz19_0, hcz19_1, hfz19_0, hfz19_1⟩ := bc2_ BK268))
   go_ret
   exact ⟨qr_, qB_⟩

end Go.Proofs.Ytigeiofkbccocaa.QFnForestNew
