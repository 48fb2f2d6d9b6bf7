-- printed for this claim by a program of the session's own (no text of the kit's print)
import Derived.Test.YtbkklafkoegdpaaQFnExactWebTogetherx0
import Derived.Test.YtbkklafkoegdpaaQFnExactWebTogetherx12
import Derived.Test.YtbkklafkoegdpaaQFnExactWebTogetherx13
namespace Go.Proofs.Ytbkklafkoegdpaa.QFnExactWebTogether
open Go.RowKit Go.Proofs.YtbkklafkoegdpaaW.PrintWords Go.Proofs.YtbkklafkoegdpaaW.PrintLast Go.Proofs.YtbkklafkoegdpaaW.PrintMore
attribute [local go_sem] max2_int min2_int max_two min_two max_three min_three max_four min_four   -- for this text's walks alone
set_option linter.unusedVariables false
set_option linter.unusedSimpArgs false

/-! ### impl_GraphOk: function 62 -/
def impl_GraphOk.f (k : Nat) (a0_0 : Int) (l0_1 : List (S43)) : Option (Bool) := (impl_in.f a0_0 1 12).bind fun t341 => (if t341 = true then ((impl_edgesOk.f k a0_0 l0_1).bind fun t342 => (some t342)) else (some false))
theorem impl_GraphOk.mono : ∀ a0 a1 k, LeO (impl_GraphOk.f k a0 a1) (impl_GraphOk.f (k + 1) a0 a1) := by
  intro a0 a1 k
  unfold impl_GraphOk.f
  repeat' first
      | (with_reducible exact impl_edgesOk.mono _ _ _)
      | (with_reducible exact LeO.refl _)
      | (with_reducible exact LeO.none _)
      | (with_reducible refine LeO.ite ?_ ?_)
      | (with_reducible refine LeO.bind ?_ (fun _ => ?_))
      | exact impl_edgesOk.mono _ _ _
      | exact LeO.none _
      | refine LeO.ite ?_ ?_
      | refine LeO.bind ?_ (fun _ => ?_)
set_option maxHeartbeats 8000000 in
set_option maxRecDepth 100000 in
theorem impl_GraphOk.calls (k : Nat) (a0_0 : Int) (A0_1 : Option Addr) (c0_1 : Nat) (l0_1 : List (S43)) (r : Bool) (w : World) (hr0_1 : Kd.C k43 w A0_1 l0_1.length l0_1) (hc0_1 : l0_1.length ≤ c0_1) (h : impl_GraphOk.f k a0_0 l0_1 = some r) :
  Calls Try.prog 62 #[.agg #[.int .i64 a0_0, .slice A0_1 l0_1.length c0_1]] w fun e w' => e = .returned (.bool r) ∧ Below w.heap.size w w' := by
 have hu69 := Try.underlying69
 have HR0_1 := Aside0.mk hr0_1
 have HC0_1 := Aside0.mk hc0_1
 clear hr0_1 hc0_1
 have HB := Aside0.mk (Below.refl w.heap.size w)
 have H : ((impl_in.f a0_0 1 12).bind fun t341 => (if t341 = true then ((impl_edgesOk.f k a0_0 l0_1).bind fun t342 => (some t342)) else (some false))) = some r := h
 clear h
 obtain ⟨t341, A20, H⟩ := Option.bind_eq_some_iff.mp H; have A2 := Aside0.mk A20; clear A20
 by_cases c3 : t341 = true
 ·subst c3
  rw [if_pos rfl] at H
  obtain ⟨t342, A40, H⟩ := Option.bind_eq_some_iff.mp H; have A4 := Aside0.mk A40; clear A40
  obtain rfl := Option.some.inj H
  go_enter Try.func62, Try.ntmps62
  go_wp2_with (first | ((with_reducible refine gate_dst (N := 1) rfl ?_); refine bx_ 1 (cs := #[.int .i64 a0_0, .slice A0_1 l0_1.length c0_1]) (t := 69) ?_; intro gb340 hg w5 hbox hb; have BK340 := Aside0.mk (hbox); have GW340 := Aside0.mk ((qs_ : w.heap.size ≤ gb340)); have GE340 := Aside0.mk ((qs_ : w.heap.size ≤ gb340)); replace HB := Aside0.mk (below_step qB_ hb); clear hb hbox hg; obtain ⟨hcz6_0, hcz6_1, hfz6_0, hfz6_1⟩ := bc2_ BK340) | ((with_reducible refine gate_callee (f := 66) rfl ?_); refine gl_ (some 5) Try.func66 #[.int .i64 a0_0, .int .i64 1, .int .i64 12] ?_; (with_reducible refine (impl_in.calls a0_0 1 12 true _ A2.out).mono ?_); rintro e w' ⟨rfl, ⟨nd, rfl⟩⟩; refine ⟨_, rfl, ?_⟩) | (go_at_call 111; (with_reducible refine (impl_edgesOk.calls k a0_0 _ _ l0_1 t342 _ ?side1 ?side2 A4.out).mono ?_); (case side1 => repeat (first | exact (Kd.C_below HR0_1.out qB_) | (with_reducible refine Kd.C_alloc ?_ _) | (with_reducible refine Kd.C_drewN ?_ _) | (with_reducible refine Kd.C_drew ?_))); (case side2 => exact HC0_1.out); rintro e w7 ⟨rfl, hb⟩; replace BK340 := Aside0.mk (blk_below (qk_ BK340) hb); replace HB := Aside0.mk (below_step qB_ hb); (try clear hb); (try clear hb2); (try clear hk); (try clear hi)))
  go_ret
  exact ⟨qr_, qB_⟩
 ·replace c3 := Bool.eq_false_iff.mpr c3
  subst c3
  rw [if_neg (show ¬ (false = true) by decide)] at H
  obtain rfl := Option.some.inj H
  go_enter Try.func62, Try.ntmps62
  go_wp2_with (first | ((with_reducible refine gate_dst (N := 1) rfl ?_); refine bx_ 1 (cs := #[.int .i64 a0_0, .slice A0_1 l0_1.length c0_1]) (t := 69) ?_; intro gb340 hg w8 hbox hb; have BK340 := Aside0.mk (hbox); have GW340 := Aside0.mk ((qs_ : w.heap.size ≤ gb340)); have GE340 := Aside0.mk ((qs_ : w.heap.size ≤ gb340)); replace HB := Aside0.mk (below_step qB_ hb); clear hb hbox hg; obtain ⟨hcz9_0, hcz9_1, hfz9_0, hfz9_1⟩ := bc2_ BK340) | ((with_reducible refine gate_callee (f := 66) rfl ?_); refine gl_ (some 5) Try.func66 #[.int .i64 a0_0, .int .i64 1, .int .i64 12] ?_; (with_reducible refine (impl_in.calls a0_0 1 12 false _ A2.out).mono ?_); rintro e w' ⟨rfl, ⟨nd, rfl⟩⟩; refine ⟨_, rfl, ?_⟩))
  go_ret
  exact ⟨qr_, qB_⟩

/-! ### impl_GraphOf: function 63 -/
def impl_GraphOf.l0 : Nat → List (S72) → Int → Int → Int → List (S43) → Option (Int × (List (S43)))
  | 0, _, _, _, _, _ => none
  | k + 1, x10, x11, x12, x346000, x346001 => if x12 < x11 then (if 0 ≤ x12 then (if x12 < (x10.length : Int) then (if x346001.length < 8796093022208 then (impl_GraphOf.l0 k x10 x11 (wrap64 (x12 + 1)) x346000 (x346001 ++ [(⟨(rd_T72 x10 x12).f0, (rd_T72 x10 x12).f1⟩ : S43)])) else (none)) else (none)) else (none)) else (some (x346000, x346001))
def impl_GraphOf.f (k : Nat) (a0_0 : Int) (l0_1 : List (S72)) : Option (Int × (List (S43))) := impl_GraphOf.l0 k l0_1 (l0_1.length : Int) 0 a0_0 ([] : List (S43))
theorem impl_GraphOf.mono_l : ∀ k, (∀ y0 y1 y2 y3 y4, LeO (impl_GraphOf.l0 k y0 y1 y2 y3 y4) (impl_GraphOf.l0 (k + 1) y0 y1 y2 y3 y4))
  | 0 => fun _ _ _ _ _ r h => by simp [impl_GraphOf.l0] at h
  | k + 1 => by
    have ih0 := impl_GraphOf.mono_l k
    · intro y0 y1 y2 y3 y4
      unfold impl_GraphOf.l0
      repeat' first
      | (with_reducible exact ih0 _ _ _ _ _)
      | (with_reducible exact LeO.refl _)
      | (with_reducible exact LeO.none _)
      | (with_reducible refine LeO.ite ?_ ?_)
      | (with_reducible refine LeO.bind ?_ (fun _ => ?_))
      | exact ih0 _ _ _ _ _
      | exact LeO.none _
      | refine LeO.ite ?_ ?_
      | refine LeO.bind ?_ (fun _ => ?_)
theorem impl_GraphOf.mono : ∀ a0 a1 k, LeO (impl_GraphOf.f k a0 a1) (impl_GraphOf.f (k + 1) a0 a1) := by
  intro a0 a1 k
  have ih0 := impl_GraphOf.mono_l k
  unfold impl_GraphOf.f
  repeat' first
      | (with_reducible exact ih0 _ _ _ _ _)
      | (with_reducible exact LeO.refl _)
      | (with_reducible exact LeO.none _)
      | (with_reducible refine LeO.ite ?_ ?_)
      | (with_reducible refine LeO.bind ?_ (fun _ => ?_))
      | exact ih0 _ _ _ _ _
      | exact LeO.none _
      | refine LeO.ite ?_ ?_
      | refine LeO.bind ?_ (fun _ => ?_)
set_option maxHeartbeats 8000000 in
set_option maxRecDepth 100000 in
theorem impl_GraphOf.calls (k : Nat) (a0_0 : Int) (A0_1 : Option Addr) (c0_1 : Nat) (l0_1 : List (S72)) (r1 : Int) (r2 : List (S43)) (w : World) (hr0_1 : Kd.C k72 w A0_1 l0_1.length l0_1) (hc0_1 : l0_1.length ≤ c0_1) (h : impl_GraphOf.f k a0_0 l0_1 = some (r1, r2)) :
  Calls Try.prog 63 #[.agg #[.int .i64 a0_0, .slice A0_1 l0_1.length c0_1]] w fun e w' => ∃ v1_ : Value, e = .returned (.agg #[.int .i64 r1, v1_]) ∧ Kd.R k43 43 w' w.heap.size (fun _ => True) v1_ r2 ∧ Below w.heap.size w w' := by
 have hu29 := Try.underlying29; have hu69 := Try.underlying69; have hu72 := Try.underlying72; have hu43 := Try.underlying43
 have HR0_1 := Aside0.mk hr0_1
 have HC0_1 := Aside0.mk hc0_1
 clear hr0_1 hc0_1
 have HB := Aside0.mk (Below.refl w.heap.size w)
 have H : (impl_GraphOf.l0 k l0_1 (l0_1.length : Int) 0 a0_0 ([] : List (S43))) = some (r1, r2) := h
 clear h; have H' := Aside0.mk H; clear H
 go_enter Try.func63, Try.ntmps63
 go_wp2_with (first | ((with_reducible refine gate_dst (N := 1) rfl ?_); refine bx_ 1 (cs := #[.int .i64 a0_0, .slice A0_1 l0_1.length c0_1]) (t := 29) ?_; intro gb343 hg w2 hbox hb; have BK343 := Aside0.mk (hbox); have GW343 := Aside0.mk ((qs_ : w.heap.size ≤ gb343)); have GE343 := Aside0.mk ((qs_ : w.heap.size ≤ gb343)); replace HB := Aside0.mk (below_step qB_ hb); clear hb hbox hg) | ((with_reducible refine gate_dst (N := 2) rfl ?_); refine bx_ 2 (cs := #[.int .i64 0, .slice none 0 0]) (t := 69) ?_; intro gb344 hg w3 hbox hb; have BK344 := Aside0.mk (hbox); have GW344 := Aside0.mk ((qs_ : w.heap.size ≤ gb344)); have GE344 := Aside0.mk ((qs_ : w.heap.size ≤ gb344)); have NB343_344 := Aside0.mk ((by rw [hg]; exact Nat.ne_of_lt (blk_lt (qk_ BK343)) : gb343 ≠ gb344)); have NB344_343 := Aside0.mk ((by rw [hg]; exact Nat.ne_of_gt (blk_lt (qk_ BK343)) : gb344 ≠ gb343)); replace BK343 := Aside0.mk (blk_below (qk_ BK343) hb); replace HB := Aside0.mk (below_step qB_ hb); clear hb hbox hg; have hnb4 := NB343_344.out; have hnc4 := NB344_343.out; obtain ⟨hcz5_0, hcz5_1, hfz5_0, hfz5_1⟩ := bc2_ BK343) | ((with_reducible refine gate_dst (N := 3) rfl ?_); refine bx_ 3 (cs := #[.int .i64 0, .slice none 0 0]) (t := 69) ?_; intro gb345 hg w6 hbox hb; have BK345 := Aside0.mk (hbox); have GW345 := Aside0.mk ((qs_ : w.heap.size ≤ gb345)); have GE345 := Aside0.mk ((qs_ : w.heap.size ≤ gb345)); have NB343_345 := Aside0.mk ((by rw [hg]; exact Nat.ne_of_lt (blk_lt (qk_ BK343)) : gb343 ≠ gb345)); have NB345_343 := Aside0.mk ((by rw [hg]; exact Nat.ne_of_gt (blk_lt (qk_ BK343)) : gb345 ≠ gb343)); have NB344_345 := Aside0.mk ((by rw [hg]; exact Nat.ne_of_lt (blk_lt (qk_ BK344)) : gb344 ≠ gb345)); have NB345_344 := Aside0.mk ((by rw [hg]; exact Nat.ne_of_gt (blk_lt (qk_ BK344)) : gb345 ≠ gb344)); replace BK343 := Aside0.mk (blk_below (qk_ BK343) hb); replace BK344 := Aside0.mk (blk_below (qk_ BK344) hb); replace HB := Aside0.mk (below_step qB_ hb); clear hb hbox hg; have hnb7 := NB345_343.out; have hnc7 := NB343_345.out; have hnb8 := NB345_344.out; have hnc8 := NB344_345.out; obtain ⟨hcz9_0, hcz9_1, hfz9_0, hfz9_1⟩ := bc2_ BK345; obtain ⟨hcz10_0, hcz10_1, hfz10_0, hfz10_1⟩ := bc2_ BK343))
 go_loopg [12] k (fun kq v12 w' => ∃ (x12_1 : Int) (x346001_1 : List (S43)) (u346001 : Value), v12 = .int .i64 x12_1 ∧ Aside0 (impl_GraphOf.l0 kq l0_1 (l0_1.length : Int) x12_1 a0_0 x346001_1 = some (r1, r2)) ∧ Aside0 (kq ≤ k) ∧ Aside0 (Kd.R k43 43 w' w.heap.size (fun _ => True) u346001 x346001_1) ∧ Aside0 (w'.heap[gb343]? = some (.cells #[.int .i64 a0_0, (.slice A0_1 l0_1.length c0_1)] 29 (0, 0))) ∧ Aside0 (w'.heap[gb344]? = some (.cells #[.int .i64 0, (.slice none 0 0)] 69 (0, 0))) ∧ Aside0 (w'.heap[gb345]? = some (.cells #[.int .i64 a0_0, u346001] 69 (0, 0))) ∧ Aside0 (Below w.heap.size w w'))
 case atStart => exact ⟨(0), (([] : List (S43))), (.slice none 0 0), qe_, H', ⟨Nat.le_refl _⟩, ⟨by first | exact Kd.R_nil _ _ _ _ _ | exact Kd.N_nil _ _ _ _ _ | exact Kd.V_nil _ _ _ _ _ | exact Kd.Q_nil _ _ _ _ _ | exact Kd.S_nil _ _ _ _ _⟩, ⟨by (with_reducible repeat (first | refine blk_drewN ?_ _ | refine blk_drew ?_ | refine blk_alloc ?_ _)); refine blk_far ?_ NB343_345.out _; (with_reducible repeat (first | refine blk_drewN ?_ _ | refine blk_drew ?_ | refine blk_alloc ?_ _)); refine blk_far ?_ NB343_345.out _; (with_reducible repeat (first | refine blk_drewN ?_ _ | refine blk_drew ?_ | refine blk_alloc ?_ _)); exact BK343.out⟩, ⟨by (with_reducible repeat (first | refine blk_drewN ?_ _ | refine blk_drew ?_ | refine blk_alloc ?_ _)); refine blk_far ?_ NB344_345.out _; (with_reducible repeat (first | refine blk_drewN ?_ _ | refine blk_drew ?_ | refine blk_alloc ?_ _)); refine blk_far ?_ NB344_345.out _; (with_reducible repeat (first | refine blk_drewN ?_ _ | refine blk_drew ?_ | refine blk_alloc ?_ _)); exact BK344.out⟩, ⟨by (with_reducible repeat (first | refine blk_drewN ?_ _ | refine blk_drew ?_ | refine blk_alloc ?_ _)); refine blk_put (cs := #[.int .i64 a0_0, .slice none 0 0]) ?_ 1 _ rfl; (with_reducible repeat (first | refine blk_drewN ?_ _ | refine blk_drew ?_ | refine blk_alloc ?_ _)); refine blk_put (cs := #[.int .i64 0, .slice none 0 0]) ?_ 0 _ rfl; (with_reducible repeat (first | refine blk_drewN ?_ _ | refine blk_drew ?_ | refine blk_alloc ?_ _)); exact BK345.out⟩, ⟨qB_⟩⟩
 case round =>
  clear H'
  (try clear p2); (try clear c4); (try clear c6); (try clear c7); (try clear c8); (try clear hcz10_0); (try clear hcz10_1); (try clear hcz5_0); (try clear hcz5_1); (try clear hcz9_0); (try clear hcz9_1); (try clear hfz10_0); (try clear hfz10_1); (try clear hfz5_0); (try clear hfz5_1); (try clear hfz9_0); (try clear hfz9_1)
  obtain ⟨x12_1, x346001_1, u346001, rfl, HA, HK1, HO_346001, BK343, BK344, BK345, HB⟩ := hrel
  cases gk with
  | zero => exact absurd HA.out (by simp [impl_GraphOf.l0])
  | succ k1 =>
   have H := HA.out; clear HA
   simp only [impl_GraphOf.l0] at H
   by_cases c11 : x12_1 < (l0_1.length : Int)
   ·rw [if_pos c11] at H
    have c11b0 : decide (x12_1 < (l0_1.length : Int)) = true := decide_eq_true c11
    clear c11
    by_cases c12 : 0 ≤ x12_1
    ·rw [if_pos c12] at H
     have c12b0 : decide (0 ≤ x12_1) = true := decide_eq_true c12
     clear c12
     by_cases c13 : x12_1 < (l0_1.length : Int)
     ·rw [if_pos c13] at H
      have c13b0 : decide (x12_1 < (l0_1.length : Int)) = true := decide_eq_true c13
      clear c13
      by_cases c14 : x346001_1.length < 8796093022208
      ·rw [if_pos c14] at H
       have LMc14 := Aside0.mk c14
       clear c14
       obtain ⟨y348, hy348⟩ : ∃ y_ : List (S43), y_ = (x346001_1 ++ [(⟨(rd_T72 l0_1 x12_1).f0, (rd_T72 l0_1 x12_1).f1⟩ : S43)]) := ⟨_, rfl⟩
       replace H : (impl_GraphOf.l0 k1 l0_1 (l0_1.length : Int) (wrap64 (x12_1 + 1)) a0_0 y348) = some (r1, r2) := by first | (rw [hy348]; with_reducible exact H) | (have H2_ := (Option.bind_some _ _).symm.trans H; rw [hy348]; with_reducible exact H2_) | (have H2_ := (Option.bind_some _ _).symm.trans H; with_reducible exact H2_) | with_reducible exact H | (rw [hy348]; exact H) | exact H
       have Ny348 := Aside0.mk hy348
       clear hy348; have H' := Aside0.mk H; clear H
       have p346 : 0 ≤ (x12_1 : Int) := of_decide_eq_true qa_
       have q346 : x12_1 < (l0_1.length : Int) := of_decide_eq_true qa_
       obtain ⟨ad346, e346, hx346_0, hx346_1, hx346_2, hx346_3⟩ := at_T72 HR0_1.out x12_1 p346 q346
       cases e346
       replace hx346_0 := (HB.out.cell (World.block_lt_of_cell? w _ hx346_0)).trans hx346_0
       replace hx346_1 := (HB.out.cell (World.block_lt_of_cell? w _ hx346_1)).trans hx346_1
       replace hx346_2 := (HB.out.cell (World.block_lt_of_cell? w _ hx346_2)).trans hx346_2
       replace hx346_3 := (HB.out.cell (World.block_lt_of_cell? w _ hx346_3)).trans hx346_3
       replace p346 := eq_true p346; replace q346 := eq_true q346
       go_wp2_with (first | ((with_reducible refine gate_dst (N := 5) rfl ?_); refine bx_ 5 (cs := #[.int .i64 0, .int .i64 0, .int .i64 0, .bool false]) (t := 72) ?_; intro gb347 hg w15 hbox hb; have BK347 := Aside0.mk (hbox); have GW347 := Aside0.mk ((qs_ : w.heap.size ≤ gb347)); have GE347 := Aside0.mk ((qs_ : w.heap.size ≤ gb347)); have NB343_347 := Aside0.mk ((by rw [hg]; exact Nat.ne_of_lt (blk_lt (qk_ BK343)) : gb343 ≠ gb347)); have NB347_343 := Aside0.mk ((by rw [hg]; exact Nat.ne_of_gt (blk_lt (qk_ BK343)) : gb347 ≠ gb343)); have NB344_347 := Aside0.mk ((by rw [hg]; exact Nat.ne_of_lt (blk_lt (qk_ BK344)) : gb344 ≠ gb347)); have NB347_344 := Aside0.mk ((by rw [hg]; exact Nat.ne_of_gt (blk_lt (qk_ BK344)) : gb347 ≠ gb344)); have NB345_347 := Aside0.mk ((by rw [hg]; exact Nat.ne_of_lt (blk_lt (qk_ BK345)) : gb345 ≠ gb347)); have NB347_345 := Aside0.mk ((by rw [hg]; exact Nat.ne_of_gt (blk_lt (qk_ BK345)) : gb347 ≠ gb345)); replace HO_346001 := Aside0.mk (Kd.R_below (qR_ HO_346001) hb); replace BK343 := Aside0.mk (blk_below (qk_ BK343) hb); replace BK344 := Aside0.mk (blk_below (qk_ BK344) hb); replace BK345 := Aside0.mk (blk_below (qk_ BK345) hb); replace HB := Aside0.mk (below_step qB_ hb); clear hb hbox hg; have hnb16 := NB347_343.out; have hnc16 := NB343_347.out; have hnb17 := NB347_344.out; have hnc17 := NB344_347.out; have hnb18 := NB347_345.out; have hnc18 := NB345_347.out; obtain ⟨hcz19_0, hcz19_1, hcz19_2, hcz19_3, hfz19_0, hfz19_1, hfz19_2, hfz19_3⟩ := bc4_ BK347; have hnb20 := NB345_343.out; have hnc20 := NB343_345.out; have hnb21 := NB345_344.out; have hnc21 := NB344_345.out; obtain ⟨hcz22_0, hcz22_1, hfz22_0, hfz22_1⟩ := bc2_ BK345) | ((with_reducible refine gate_builtin (b := .append) (xs := #[.tmp 17, .tmp 23]) rfl ?_); at_builtin; refine Kd.R_append k43 (w0 := w) w.heap.size rfl (.tmp 17) (.tmp 23) 67 43 (.agg #[(.int .i64 0), (.int .i64 0)]) 16 rfl Try.underlying67 info43 rfl (by decide) (by omega) u346001 x346001_1 (⟨(rd_T72 l0_1 x12_1).f0, (rd_T72 l0_1 x12_1).f1⟩ : S43) [.int .i64 ((rd_T72 l0_1 x12_1).f0), .int .i64 ((rd_T72 l0_1 x12_1).f1)] (fun _ => True) (fun _ => False) rfl (by first | (go_simp; done) | (go_simp; rfl)) ?aP (fun _ hk => hk.elim) ?aF ?aO ?aB ?aS ?aL ?_; (case aP => exact k43_mkM _ _ _ (⟨(rd_T72 l0_1 x12_1).f0, (rd_T72 l0_1 x12_1).f1⟩ : S43)); (case aB => exact qB_); (case aF => exact (fun _ _ => trivial)); (case aO => exact (by (with_reducible repeat (first | apply Kd.R_alloc | apply Kd.R_drewN | apply Kd.R_drew)); exact Kd.R_mono (Kd.R_far (p := ⟨gb347, 3, none⟩) (Kd.R_far (p := ⟨gb347, 2, none⟩) (Kd.R_far (p := ⟨gb347, 1, none⟩) (Kd.R_far (p := ⟨gb347, 0, none⟩) (Kd.R_types HO_346001.out BK347.out (by decide)) (fun _ hk => hk.2) (.int .i64 ((rd_T72 l0_1 x12_1).f0))) (fun _ hk => hk.2) (.int .i64 ((rd_T72 l0_1 x12_1).f1))) (fun _ hk => hk.2) (.int .i64 ((rd_T72 l0_1 x12_1).f2))) (fun _ hk => hk.2) (.bool ((rd_T72 l0_1 x12_1).f3))) (fun _ hk => trivial))); (case aS => exact (below_size qB_)); (case aL => have := LMc14.out; omega); intro v349 w23 ho hb hg hat; rw [← Ny348.out] at ho; have HO350 := Aside0.mk (ho); replace BK343 := Aside0.mk (blk_grown (g := gb343) (o := .cells #[.int .i64 a0_0, .slice (some ad346) l0_1.length c0_1] 29 (0, 0)) (by (with_reducible repeat (first | refine blk_drewN ?_ _ | refine blk_drew ?_ | refine blk_alloc ?_ _)); refine blk_far ?_ NB343_347.out _; (with_reducible repeat (first | refine blk_drewN ?_ _ | refine blk_drew ?_ | refine blk_alloc ?_ _)); refine blk_far ?_ NB343_347.out _; (with_reducible repeat (first | refine blk_drewN ?_ _ | refine blk_drew ?_ | refine blk_alloc ?_ _)); refine blk_far ?_ NB343_347.out _; (with_reducible repeat (first | refine blk_drewN ?_ _ | refine blk_drew ?_ | refine blk_alloc ?_ _)); refine blk_far ?_ NB343_347.out _; (with_reducible repeat (first | refine blk_drewN ?_ _ | refine blk_drew ?_ | refine blk_alloc ?_ _)); exact BK343.out) hg (Kd.R_ne HO_346001.out BK343.out (by decide))); replace BK344 := Aside0.mk (blk_grown (g := gb344) (o := .cells #[.int .i64 0, .slice none 0 0] 69 (0, 0)) (by (with_reducible repeat (first | refine blk_drewN ?_ _ | refine blk_drew ?_ | refine blk_alloc ?_ _)); refine blk_far ?_ NB344_347.out _; (with_reducible repeat (first | refine blk_drewN ?_ _ | refine blk_drew ?_ | refine blk_alloc ?_ _)); refine blk_far ?_ NB344_347.out _; (with_reducible repeat (first | refine blk_drewN ?_ _ | refine blk_drew ?_ | refine blk_alloc ?_ _)); refine blk_far ?_ NB344_347.out _; (with_reducible repeat (first | refine blk_drewN ?_ _ | refine blk_drew ?_ | refine blk_alloc ?_ _)); refine blk_far ?_ NB344_347.out _; (with_reducible repeat (first | refine blk_drewN ?_ _ | refine blk_drew ?_ | refine blk_alloc ?_ _)); exact BK344.out) hg (Kd.R_ne HO_346001.out BK344.out (by decide))); replace BK345 := Aside0.mk (blk_grown (g := gb345) (o := .cells #[.int .i64 a0_0, u346001] 69 (0, 0)) (by (with_reducible repeat (first | refine blk_drewN ?_ _ | refine blk_drew ?_ | refine blk_alloc ?_ _)); refine blk_far ?_ NB345_347.out _; (with_reducible repeat (first | refine blk_drewN ?_ _ | refine blk_drew ?_ | refine blk_alloc ?_ _)); refine blk_far ?_ NB345_347.out _; (with_reducible repeat (first | refine blk_drewN ?_ _ | refine blk_drew ?_ | refine blk_alloc ?_ _)); refine blk_far ?_ NB345_347.out _; (with_reducible repeat (first | refine blk_drewN ?_ _ | refine blk_drew ?_ | refine blk_alloc ?_ _)); refine blk_far ?_ NB345_347.out _; (with_reducible repeat (first | refine blk_drewN ?_ _ | refine blk_drew ?_ | refine blk_alloc ?_ _)); exact BK345.out) hg (Kd.R_ne HO_346001.out BK345.out (by decide))); replace BK347 := Aside0.mk (blk_grown (g := gb347) (o := .cells #[.int .i64 ((rd_T72 l0_1 x12_1).f0), .int .i64 ((rd_T72 l0_1 x12_1).f1), .int .i64 ((rd_T72 l0_1 x12_1).f2), .bool ((rd_T72 l0_1 x12_1).f3)] 72 (0, 0)) (by (with_reducible repeat (first | refine blk_drewN ?_ _ | refine blk_drew ?_ | refine blk_alloc ?_ _)); refine blk_put (cs := #[.int .i64 ((rd_T72 l0_1 x12_1).f0), .int .i64 ((rd_T72 l0_1 x12_1).f1), .int .i64 ((rd_T72 l0_1 x12_1).f2), .bool false]) ?_ 3 _ rfl; (with_reducible repeat (first | refine blk_drewN ?_ _ | refine blk_drew ?_ | refine blk_alloc ?_ _)); refine blk_put (cs := #[.int .i64 ((rd_T72 l0_1 x12_1).f0), .int .i64 ((rd_T72 l0_1 x12_1).f1), .int .i64 0, .bool false]) ?_ 2 _ rfl; (with_reducible repeat (first | refine blk_drewN ?_ _ | refine blk_drew ?_ | refine blk_alloc ?_ _)); refine blk_put (cs := #[.int .i64 ((rd_T72 l0_1 x12_1).f0), .int .i64 0, .int .i64 0, .bool false]) ?_ 1 _ rfl; (with_reducible repeat (first | refine blk_drewN ?_ _ | refine blk_drew ?_ | refine blk_alloc ?_ _)); refine blk_put (cs := #[.int .i64 0, .int .i64 0, .int .i64 0, .bool false]) ?_ 0 _ rfl; (with_reducible repeat (first | refine blk_drewN ?_ _ | refine blk_drew ?_ | refine blk_alloc ?_ _)); exact BK347.out) hg (Kd.R_ne HO_346001.out BK347.out (by decide))); replace HB := Aside0.mk (hb); clear HO_346001; clear ho hb hg hat; obtain ⟨Ao24, co24, eo24⟩ := Kd.R_slice HO350.out; subst eo24; obtain ⟨hcz25_0, hcz25_1, hfz25_0, hfz25_1⟩ := bc2_ BK345))
       go_roundg k1
       case measure => have := HK1.out; omega
       case rel => exact ⟨(wrap64 (x12_1 + 1)), (y348), (.slice Ao24 y348.length co24), qe_, H', ⟨by have := HK1.out; omega⟩, ⟨by (with_reducible repeat (first | apply Kd.R_alloc | apply Kd.R_drewN | apply Kd.R_drew)); exact Kd.R_mono (Kd.R_far (p := ⟨gb345, 1, none⟩) (Kd.R_types HO350.out BK345.out (by decide)) (fun _ hk => hk.2) (.slice Ao24 y348.length co24)) (fun _ hk => trivial)⟩, ⟨by (with_reducible repeat (first | refine blk_drewN ?_ _ | refine blk_drew ?_ | refine blk_alloc ?_ _)); refine blk_far ?_ NB343_345.out _; (with_reducible repeat (first | refine blk_drewN ?_ _ | refine blk_drew ?_ | refine blk_alloc ?_ _)); exact BK343.out⟩, ⟨by (with_reducible repeat (first | refine blk_drewN ?_ _ | refine blk_drew ?_ | refine blk_alloc ?_ _)); refine blk_far ?_ NB344_345.out _; (with_reducible repeat (first | refine blk_drewN ?_ _ | refine blk_drew ?_ | refine blk_alloc ?_ _)); exact BK344.out⟩, ⟨by (with_reducible repeat (first | refine blk_drewN ?_ _ | refine blk_drew ?_ | refine blk_alloc ?_ _)); refine blk_put (cs := #[.int .i64 a0_0, u346001]) ?_ 1 _ rfl; (with_reducible repeat (first | refine blk_drewN ?_ _ | refine blk_drew ?_ | refine blk_alloc ?_ _)); exact BK345.out⟩, ⟨qB_⟩⟩
      ·rw [if_neg c14] at H
       exact absurd H (by simp)
     ·rw [if_neg c13] at H
      exact absurd H (by simp)
    ·rw [if_neg c12] at H
     exact absurd H (by simp)
   ·rw [if_neg c11] at H
    have c11b0 : decide (x12_1 < (l0_1.length : Int)) = false := decide_eq_false c11
    clear c11
    simp only [Option.some.injEq, Prod.mk.injEq] at H
    obtain ⟨rfl, rfl⟩ := H
    have hnb26 := NB345_343.out; have hnc26 := NB343_345.out; have hnb27 := NB345_344.out; have hnc27 := NB344_345.out
    obtain ⟨hcz28_0, hcz28_1, hfz28_0, hfz28_1⟩ := bc2_ BK345
    have hnb29 := NB344_343.out; have hnc29 := NB343_344.out
    obtain ⟨hcz30_0, hcz30_1, hfz30_0, hfz30_1⟩ := bc2_ BK344
    obtain ⟨Ao31, co31, eo31⟩ := Kd.R_slice HO_346001.out
    subst eo31
    go_wp2
    refine bodyPost_ret (results_cell_row rfl _ _ gb344 69 #[.int .i64 a0_0, .slice Ao31 x346001_1.length co31] (0, 0) _ rfl (by (with_reducible repeat (first | refine blk_drewN ?_ _ | refine blk_drew ?_ | refine blk_alloc ?_ _)); refine blk_put (cs := #[.int .i64 a0_0, .slice none 0 0]) ?_ 1 _ rfl; (with_reducible repeat (first | refine blk_drewN ?_ _ | refine blk_drew ?_ | refine blk_alloc ?_ _)); refine blk_put (cs := #[.int .i64 0, .slice none 0 0]) ?_ 0 _ rfl; (with_reducible repeat (first | refine blk_drewN ?_ _ | refine blk_drew ?_ | refine blk_alloc ?_ _)); exact BK344.out) Try.underlying69 rfl (by kernel_rfl)) rfl ?_
    exact ⟨_, qr_, by (with_reducible repeat (first | apply Kd.R_alloc | apply Kd.R_drewN | apply Kd.R_drew)); exact Kd.R_mono (Kd.R_far (p := ⟨gb344, 1, none⟩) (Kd.R_far (p := ⟨gb344, 0, none⟩) (Kd.R_types HO_346001.out BK344.out (by decide)) (fun _ hk => hk.2) (.int .i64 a0_0)) (fun _ hk => hk.2) (.slice Ao31 x346001_1.length co31)) (fun _ hk => trivial), qB_⟩

/-! ### impl_first: function 112 -/
def impl_first.l0 : Nat → List Int → Int → Int → Option (List Int)
  | 0, _, _, _ => none
  | k + 1, x3, x5, x6 => if x6 < x5 then (if x3.length < 17592186044416 then (impl_first.l0 k (x3 ++ [x6]) x5 (wrap64 (x6 + 1))) else (none)) else (some x3)
def impl_first.f (k : Nat) (a0 : Int) : Option (List Int) := impl_first.l0 k ([] : List Int) a0 0
theorem impl_first.mono_l : ∀ k, (∀ y0 y1 y2, LeO (impl_first.l0 k y0 y1 y2) (impl_first.l0 (k + 1) y0 y1 y2))
  | 0 => fun _ _ _ r h => by simp [impl_first.l0] at h
  | k + 1 => by
    have ih0 := impl_first.mono_l k
    · intro y0 y1 y2
      unfold impl_first.l0
      repeat' first
      | (with_reducible exact ih0 _ _ _)
      | (with_reducible exact LeO.refl _)
      | (with_reducible exact LeO.none _)
      | (with_reducible refine LeO.ite ?_ ?_)
      | (with_reducible refine LeO.bind ?_ (fun _ => ?_))
      | exact ih0 _ _ _
      | exact LeO.none _
      | refine LeO.ite ?_ ?_
      | refine LeO.bind ?_ (fun _ => ?_)
theorem impl_first.mono : ∀ a0 k, LeO (impl_first.f k a0) (impl_first.f (k + 1) a0) := by
  intro a0 k
  have ih0 := impl_first.mono_l k
  unfold impl_first.f
  repeat' first
      | (with_reducible exact ih0 _ _ _)
      | (with_reducible exact LeO.refl _)
      | (with_reducible exact LeO.none _)
      | (with_reducible refine LeO.ite ?_ ?_)
      | (with_reducible refine LeO.bind ?_ (fun _ => ?_))
      | exact ih0 _ _ _
      | exact LeO.none _
      | refine LeO.ite ?_ ?_
      | refine LeO.bind ?_ (fun _ => ?_)
set_option maxHeartbeats 8000000 in
set_option maxRecDepth 100000 in
theorem impl_first.calls (k : Nat) (a0 : Int) (r : List Int) (w : World) (h : impl_first.f k a0 = some r) :
  Calls Try.prog 112 #[.int .i64 a0] w fun e w' => ∃ v0_ : Value, e = .returned (v0_) ∧ Kd.R (Kd.int .i64) 3 w' w.heap.size (fun _ => True) v0_ r ∧ Below w.heap.size w w' := by
 have HB := Aside0.mk (Below.refl w.heap.size w)
 have H : (impl_first.l0 k ([] : List Int) a0 0) = some r := h
 clear h; have H' := Aside0.mk H; clear H
 go_enter Try.func112, Try.ntmps112
 go_wp2
 go_loopg [3, 6] k (fun kq v3 v6 w' => ∃ (x3_1 : List Int) (x6_1 : Int), v6 = .int .i64 x6_1 ∧ Aside0 (impl_first.l0 kq x3_1 a0 x6_1 = some r) ∧ Aside0 (kq ≤ k) ∧ Aside0 (Kd.R (Kd.int .i64) 3 w' w.heap.size (fun _ => True) v3 x3_1) ∧ Aside0 (Below w.heap.size w w'))
 case atStart => exact ⟨(([] : List Int)), (0), qe_, H', ⟨Nat.le_refl _⟩, ⟨by first | exact Kd.R_nil _ _ _ _ _ | exact Kd.N_nil _ _ _ _ _ | exact Kd.V_nil _ _ _ _ _ | exact Kd.Q_nil _ _ _ _ _ | exact Kd.S_nil _ _ _ _ _⟩, ⟨qB_⟩⟩
 case round =>
  clear H'
  (try clear c1)
  obtain ⟨x3_1, x6_1, rfl, HA, HK1, HO_3, HB⟩ := hrel
  cases gk with
  | zero => exact absurd HA.out (by simp [impl_first.l0])
  | succ k1 =>
   have H := HA.out; clear HA
   simp only [impl_first.l0] at H
   by_cases c2 : x6_1 < a0
   ·rw [if_pos c2] at H
    have c2b0 : decide (x6_1 < a0) = true := decide_eq_true c2
    clear c2
    by_cases c3 : x3_1.length < 17592186044416
    ·rw [if_pos c3] at H
     have LMc3 := Aside0.mk c3
     clear c3
     obtain ⟨y351, hy351⟩ : ∃ y_ : List Int, y_ = (x3_1 ++ [x6_1]) := ⟨_, rfl⟩
     replace H : (impl_first.l0 k1 y351 a0 (wrap64 (x6_1 + 1))) = some r := by first | (rw [hy351]; with_reducible exact H) | (have H2_ := (Option.bind_some _ _).symm.trans H; rw [hy351]; with_reducible exact H2_) | (have H2_ := (Option.bind_some _ _).symm.trans H; with_reducible exact H2_) | with_reducible exact H | (rw [hy351]; exact H) | exact H
     have Ny351 := Aside0.mk hy351
     clear hy351; have H' := Aside0.mk H; clear H
     go_wp2_with (first | ((with_reducible refine gate_builtin (b := .append) (xs := #[.tmp 9, .tmp 11]) rfl ?_); at_builtin; refine Kd.R_append (Kd.int .i64) (w0 := w) w.heap.size rfl (.tmp 9) (.tmp 11) 51 3 (.int .i64 0) 8 rfl Try.underlying51 info3 rfl (by decide) (by omega) u3 x3_1 x6_1 [.int .i64 x6_1] (fun _ => True) (fun _ => False) rfl rfl ?aP (fun _ hk => hk.elim) ?aF ?aO ?aB ?aS ?aL ?_; (case aP => exact rfl); (case aB => exact qB_); (case aF => exact (fun _ _ => trivial)); (case aO => exact (qR_ HO_3)); (case aS => exact (below_size qB_)); (case aL => have := LMc3.out; omega); intro v352 w4 ho hb hg hat; rw [← Ny351.out] at ho; have HO353 := Aside0.mk (ho); replace HB := Aside0.mk (hb); clear HO_3; clear ho hb hg hat))
     go_roundg k1
     case measure => have := HK1.out; omega
     case rel => exact ⟨(y351), (wrap64 (x6_1 + 1)), qe_, H', ⟨by have := HK1.out; omega⟩, ⟨by (with_reducible repeat (first | apply Kd.R_alloc | apply Kd.R_drewN | apply Kd.R_drew)); first | exact HO353.out | (have h_ := HO353.out; simp only [own_slice] at h_ ⊢; exact h_)⟩, ⟨qB_⟩⟩
    ·rw [if_neg c3] at H
     exact absurd H (by simp)
   ·rw [if_neg c2] at H
    have c2b0 : decide (x6_1 < a0) = false := decide_eq_false c2
    clear c2
    obtain rfl := Option.some.inj H
    go_wp2
    go_ret
    exact ⟨_, qr_, by (with_reducible repeat (first | apply Kd.R_alloc | apply Kd.R_drewN | apply Kd.R_drew)); exact HO_3.out, qB_⟩

/-! ### impl_union: function 113 -/
def impl_union.l0 : Nat → List Int → Int → Int → Int → Int → Option (Bool × List Int)
  | 0, _, _, _, _, _ => none
  | k + 1, x0, x7, x8, x22, x23 => if x23 < x22 then (if 0 ≤ x23 then (if x23 < (x0.length : Int) then (if (rd x0 x23) = (mx x7 x8) then (impl_union.l0 k (x0.set (x23 : Int).toNat (mn x7 x8)) x7 x8 x22 (wrap64 (x23 + 1))) else (impl_union.l0 k x0 x7 x8 x22 (wrap64 (x23 + 1)))) else (none)) else (none)) else (some (true, x0))
def impl_union.f (k : Nat) (l0 : List Int) (a1 : Int) (a2 : Int) : Option (Bool × List Int) := if 0 ≤ a1 then (if a1 < (l0.length : Int) then (if 0 ≤ a2 then (if a2 < (l0.length : Int) then (if (rd l0 a1) = (rd l0 a2) then (some (false, l0)) else (impl_union.l0 k l0 (rd l0 a1) (rd l0 a2) (l0.length : Int) 0)) else (none)) else (none)) else (none)) else (none)
theorem impl_union.mono_l : ∀ k, (∀ y0 y1 y2 y3 y4, LeO (impl_union.l0 k y0 y1 y2 y3 y4) (impl_union.l0 (k + 1) y0 y1 y2 y3 y4))
  | 0 => fun _ _ _ _ _ r h => by simp [impl_union.l0] at h
  | k + 1 => by
    have ih0 := impl_union.mono_l k
    · intro y0 y1 y2 y3 y4
      unfold impl_union.l0
      repeat' first
      | (with_reducible exact ih0 _ _ _ _ _)
      | (with_reducible exact LeO.refl _)
      | (with_reducible exact LeO.none _)
      | (with_reducible refine LeO.ite ?_ ?_)
      | (with_reducible refine LeO.bind ?_ (fun _ => ?_))
      | exact ih0 _ _ _ _ _
      | exact LeO.none _
      | refine LeO.ite ?_ ?_
      | refine LeO.bind ?_ (fun _ => ?_)
theorem impl_union.mono : ∀ a0 a1 a2 k, LeO (impl_union.f k a0 a1 a2) (impl_union.f (k + 1) a0 a1 a2) := by
  intro a0 a1 a2 k
  have ih0 := impl_union.mono_l k
  unfold impl_union.f
  repeat' first
      | (with_reducible exact ih0 _ _ _ _ _)
      | (with_reducible exact LeO.refl _)
      | (with_reducible exact LeO.none _)
      | (with_reducible refine LeO.ite ?_ ?_)
      | (with_reducible refine LeO.bind ?_ (fun _ => ?_))
      | exact ih0 _ _ _ _ _
      | exact LeO.none _
      | refine LeO.ite ?_ ?_
      | refine LeO.bind ?_ (fun _ => ?_)
set_option maxHeartbeats 8000000 in
set_option maxRecDepth 100000 in
theorem impl_union.calls (k : Nat) (P0_ : Nat → Prop) (u9000_ : Value) (l0 : List Int) (a1 : Int) (a2 : Int) (r1 : Bool) (r2 : List Int) (w0 w : World) (hB : Below w0.heap.size w0 w) (ho0 : Kd.R (Kd.int .i64) 3 w w0.heap.size P0_ u9000_ l0) (h : impl_union.f k l0 a1 a2 = some (r1, r2)) :
  Calls Try.prog 113 #[u9000_, .int .i64 a1, .int .i64 a2] w fun e w' => e = .returned (.bool r1) ∧ Kd.R (Kd.int .i64) 3 w' w0.heap.size (fun k_ => (P0_ k_ ∨ w.heap.size ≤ k_)) u9000_ r2 ∧ Below w0.heap.size w0 w' ∧ Kept w w' (fun k_ => P0_ k_) := by
 have HO0 := Aside0.mk (show Kd.R (Kd.int .i64) 3 w w0.heap.size (fun k_ => (P0_ k_ ∨ w.heap.size ≤ k_)) u9000_ l0 from Kd.R_mono ho0 (fun k_ hk => (.inl hk)))
 have HK := Aside0.mk (Kept.refl w (fun k_ => P0_ k_))
 have HW0 := Aside0.mk hB.size
 have HB := Aside0.mk hB
 clear hB
 have H : (if 0 ≤ a1 then (if a1 < (l0.length : Int) then (if 0 ≤ a2 then (if a2 < (l0.length : Int) then (if (rd l0 a1) = (rd l0 a2) then (some (false, l0)) else (impl_union.l0 k l0 (rd l0 a1) (rd l0 a2) (l0.length : Int) 0)) else (none)) else (none)) else (none)) else (none)) = some (r1, r2) := h
 clear h
 by_cases c4 : 0 ≤ a1
 ·rw [if_pos c4] at H
  have c4b0 : decide (0 ≤ a1) = true := decide_eq_true c4
  clear c4
  by_cases c5 : a1 < (l0.length : Int)
  ·rw [if_pos c5] at H
   have c5b0 : decide (a1 < (l0.length : Int)) = true := decide_eq_true c5
   clear c5
   by_cases c6 : 0 ≤ a2
   ·rw [if_pos c6] at H
    have c6b0 : decide (0 ≤ a2) = true := decide_eq_true c6
    clear c6
    by_cases c7 : a2 < (l0.length : Int)
    ·rw [if_pos c7] at H
     have c7b0 : decide (a2 < (l0.length : Int)) = true := decide_eq_true c7
     clear c7
     by_cases c8 : (rd l0 a1) = (rd l0 a2)
     ·rw [if_pos c8] at H
      have c8b0 : ((rd l0 a1) == (rd l0 a2)) = true := beq_iff_eq.mpr c8
      have c8b1 : ((rd l0 a1) != (rd l0 a2)) = false := bne_eq_false_iff_eq.mpr c8
      clear c8
      simp only [Option.some.injEq, Prod.mk.injEq] at H
      obtain ⟨rfl, rfl⟩ := H
      obtain ⟨Ao9, co9, eo9⟩ := Kd.R_slice HO0.out
      subst eo9
      have p354 : 0 ≤ (a1 : Int) := of_decide_eq_true qa_
      have q354 : a1 < (l0.length : Int) := of_decide_eq_true qa_
      obtain ⟨ad354, e354, hx354_0⟩ := Kd.at_int (Kd.R_reads' HO0.out).2.2 a1 p354 q354
      cases e354; replace p354 := eq_true p354; replace q354 := eq_true q354
      have p355 : 0 ≤ (a2 : Int) := of_decide_eq_true qa_
      have q355 : a2 < (l0.length : Int) := of_decide_eq_true qa_
      obtain ⟨ad355, e355, hx355_0⟩ := Kd.at_int (Kd.R_reads' HO0.out).2.2 a2 p355 q355
      obtain rfl : ad354 = ad355 := (by injection e355)
      replace p355 := eq_true p355; replace q355 := eq_true q355
      go_enter Try.func113, Try.ntmps113
      go_wp2
      repeat (go_quiet (fail); try go_wp2)
      go_ret
      exact ⟨qr_, by (with_reducible repeat (first | apply Kd.R_alloc | apply Kd.R_drewN | apply Kd.R_drew)); exact HO0.out, by repeat (first | (with_reducible first | exact HB.out | apply below_alloc | apply pw_below_drewN | apply below_drew1) | exact HB.out), by repeat (first | (with_reducible first | exact HK.out | apply Kept.alloc | apply Kept.drewN | apply Kept.drew) | exact HK.out)⟩
     ·rw [if_neg c8] at H
      have c8b0 : ((rd l0 a1) == (rd l0 a2)) = false := beq_eq_false_iff_ne.mpr c8
      have c8b1 : ((rd l0 a1) != (rd l0 a2)) = true := bne_iff_ne.mpr c8
      have H' := Aside0.mk H; clear H
      obtain ⟨Ao10, co10, eo10⟩ := Kd.R_slice HO0.out
      subst eo10
      have p354 : 0 ≤ (a1 : Int) := of_decide_eq_true qa_
      have q354 : a1 < (l0.length : Int) := of_decide_eq_true qa_
      obtain ⟨ad354, e354, hx354_0⟩ := Kd.at_int (Kd.R_reads' HO0.out).2.2 a1 p354 q354
      cases e354; replace p354 := eq_true p354; replace q354 := eq_true q354
      have p355 : 0 ≤ (a2 : Int) := of_decide_eq_true qa_
      have q355 : a2 < (l0.length : Int) := of_decide_eq_true qa_
      obtain ⟨ad355, e355, hx355_0⟩ := Kd.at_int (Kd.R_reads' HO0.out).2.2 a2 p355 q355
      obtain rfl : ad354 = ad355 := (by injection e355)
      replace p355 := eq_true p355; replace q355 := eq_true q355
      go_enter Try.func113, Try.ntmps113
      go_wp2
      repeat (go_quiet (fail); try go_wp2)
      go_loopg [23] k (fun kq v23 w' => ∃ (x0_1 : List Int) (x23_1 : Int), v23 = .int .i64 x23_1 ∧ Aside0 (impl_union.l0 kq x0_1 (rd l0 a1) (rd l0 a2) (l0.length : Int) x23_1 = some (r1, r2)) ∧ Aside0 (kq ≤ k) ∧ Aside0 (Kd.R (Kd.int .i64) 3 w' w0.heap.size (fun k_ => (P0_ k_ ∨ w.heap.size ≤ k_)) (.slice (some ad354) l0.length co10) x0_1) ∧ Aside0 (Kept w w' (fun k_ => P0_ k_)) ∧ Aside0 (Below w0.heap.size w0 w'))
      case atStart => exact ⟨(l0), (0), qe_, H', ⟨Nat.le_refl _⟩, ⟨by (with_reducible repeat (first | apply Kd.R_alloc | apply Kd.R_drewN | apply Kd.R_drew)); first | exact HO0.out | (have h_ := HO0.out; simp only [own_slice] at h_ ⊢; exact h_)⟩, ⟨by repeat (first | (with_reducible first | exact HK.out | apply Kept.alloc | apply Kept.drewN | apply Kept.drew) | exact HK.out)⟩, ⟨qB_⟩⟩
      case round =>
       clear H'
       (try clear c1); (try clear p2); (try clear p3); (try clear q3); (try clear hx3); (try clear c4); (try clear c4b0); (try clear c5); (try clear c5b0); (try clear c6); (try clear c6b0); (try clear c7); (try clear c7b0); (try clear c8); (try clear c8b0); (try clear c8b1); (try clear hx354_0); (try clear hx355_0); (try clear p354); (try clear p355); (try clear q354); (try clear q355)
       obtain ⟨x0_1, x23_1, rfl, HA, HK1, HO_0, HK, HB⟩ := hrel
       have hl0_1 := (Kd.R_reads' HO_0.out).1
       rw [hl0_1] at HO_0
       (try simp only [hl0_1])
       cases gk with
       | zero => exact absurd HA.out (by simp [impl_union.l0])
       | succ k1 =>
        have H := HA.out; clear HA
        simp only [impl_union.l0] at H
        by_cases c11 : x23_1 < (l0.length : Int)
        ·rw [if_pos c11] at H
         have c11b0 : decide (x23_1 < (l0.length : Int)) = true := decide_eq_true c11
         (try rw [hl0_1] at c11b0)
         clear c11
         by_cases c12 : 0 ≤ x23_1
         ·rw [if_pos c12] at H
          have c12b0 : decide (0 ≤ x23_1) = true := decide_eq_true c12
          clear c12
          by_cases c13 : x23_1 < (x0_1.length : Int)
          ·rw [if_pos c13] at H
           have c13b0 : decide (x23_1 < (x0_1.length : Int)) = true := decide_eq_true c13
           clear c13
           obtain ⟨ji14, hji14⟩ : ∃ j_ : Int, (mx (rd l0 a1) (rd l0 a2)) = j_ := ⟨_, rfl⟩
           first | rw [hji14] at H | simp only [hji14] at H
           have hji14_ : (if (rd l0 a1) < (rd l0 a2) then (rd l0 a2) else (rd l0 a1)) = ji14 := hji14
           by_cases c15 : (rd x0_1 x23_1) = (ji14)
           ·rw [if_pos c15] at H
            have c15b0 : ((rd x0_1 x23_1) == (ji14)) = true := beq_iff_eq.mpr c15
            have c15b1 : ((rd x0_1 x23_1) != (ji14)) = false := bne_eq_false_iff_eq.mpr c15
            clear c15
            obtain ⟨ji16, hji16⟩ : ∃ j_ : Int, (mn (rd l0 a1) (rd l0 a2)) = j_ := ⟨_, rfl⟩
            first | rw [hji16] at H | simp only [hji16] at H
            have hji16_ : (if (rd l0 a2) < (rd l0 a1) then (rd l0 a2) else (rd l0 a1)) = ji16 := hji16
            obtain ⟨y357, hy357⟩ : ∃ y_ : List Int, y_ = (x0_1.set (x23_1 : Int).toNat (ji16)) := ⟨_, rfl⟩
            replace H : (impl_union.l0 k1 y357 (rd l0 a1) (rd l0 a2) (l0.length : Int) (wrap64 (x23_1 + 1))) = some (r1, r2) := by first | (rw [hy357]; with_reducible exact H) | (have H2_ := (Option.bind_some _ _).symm.trans H; rw [hy357]; with_reducible exact H2_) | (have H2_ := (Option.bind_some _ _).symm.trans H; with_reducible exact H2_) | with_reducible exact H | (rw [hy357]; exact H) | exact H
            have Ny357 := Aside0.mk hy357
            clear hy357; have H' := Aside0.mk H; clear H
            have p356 : 0 ≤ (x23_1 : Int) := of_decide_eq_true qa_
            have q356 : x23_1 < (x0_1.length : Int) := of_decide_eq_true qa_
            obtain ⟨ad356, e356, hx356_0⟩ := Kd.at_int (Kd.R_reads' HO_0.out).2.2 x23_1 p356 q356
            obtain rfl : ad354 = ad356 := (by injection e356)
            replace p356 := eq_true p356; replace q356 := eq_true q356
            have p17 : 0 ≤ (x23_1 : Int) := of_decide_eq_true qa_
            have q17 : (x23_1 : Int) < ((x0_1.length : Int) : Int) := of_decide_eq_true qa_
            obtain ⟨go17, co17, eo17, gb17, gl17, cl17, HG17⟩ := Kd.R_form HO_0.out (by omega)
            (first | cases eo17 | (injection eo17 with ea_ en_ ec_; (first | subst ea_ | (injection ea_ with ea_; subst ea_)); subst ec_; clear en_))
            have GB17 := Aside0.mk gb17
            have GG17 := Aside0.mk HG17
            clear gb17 gl17 HG17
            have HMgo17 := Aside0.mk (show (P0_ go17 ∨ w.heap.size ≤ go17) from (HO_0.out.1 _ rfl))
            (first | simp only [add_plain] at hx354_0 | skip)
            (first | simp only [add_plain] at hx355_0 | skip)
            (first | simp only [add_plain] at hx356_0 | skip)
            (try simp only [add_plain] at *)
            obtain ⟨hx17_0, hf17_0⟩ := Kd.R_celln 0 HO_0.out (x23_1 : Int) p17 q17
            replace p17 := eq_true p17; replace q17 := eq_true q17
            have HP18 := Kd.R_putg HO_0.out (x23_1 : Int) ji16
            go_wp2_with (first | ((with_reducible refine gate_store (t := 3) (p := 39) rfl ?_); (try (rw [drewN_self wr]; generalize hq_ : World.drewN wr _ = wr; have n0_ := Aside0.mk (Kd.R_at hq_ HO_0.out); have n1_ := Aside0.mk (kept_at hq_ HK.out); have n2_ := Aside0.mk (below_at hq_ HB.out); clear hq_ HO_0 HK HB; have HO_0 := n0_; have HK := n1_; have HB := n2_; clear n0_ n1_ n2_; (try (have HP18 := Kd.R_putg HO_0.out (x23_1 : Int) ji16)))); refine store_event (t := 3) (p := 39) (v := ?vo_w19) (w1 := (wr.setCell ⟨go17, (x23_1 : Int).toNat, none⟩ (.int .i64 ji16))) ?hg ?ho ?hn ?hr ?_; (case ho => rfl); (case hg => rfl); (case hn => rfl); (case hr => first | (go_simp; done) | (go_simp; rfl)); intro w19 hw; have hg : wr.grownBy w19 (some go17) := (by rw [hw]; exact HP18.2); have hp_ : Kd.R (Kd.int .i64) 3 w19 w0.heap.size (fun k_ => (P0_ k_ ∨ w.heap.size ≤ k_)) (.slice (some ⟨go17, 0, none⟩) x0_1.length co10) y357 := (by rw [hw, Ny357.out]; exact HP18.1); clear HP18; have n0_ := Aside0.mk (hp_); have n1_ := Aside0.mk ((by rw [hw]; exact below_set (HB.out) GB17.out : Below w0.heap.size w0 w19)); have n2_ := Aside0.mk (Kept.of_grown (S := (fun k_ => P0_ k_)) hg (by repeat (first | (with_reducible first | exact HK.out | apply Kept.alloc | apply Kept.drewN | apply Kept.drew) | exact HK.out)) (fun k_ e_ => (HO_0.out.1 k_ e_))); clear HO_0; clear HB; clear HK; have HO_0 := n0_; have HB := n1_; have HK := n2_; clear n0_ n1_ n2_; clear hg hw hp_))
            repeat (go_quiet (first | ((with_reducible refine gate_store (t := 3) (p := 39) rfl ?_); (try (rw [drewN_self wr]; generalize hq_ : World.drewN wr _ = wr; have n0_ := Aside0.mk (Kd.R_at hq_ HO_0.out); have n1_ := Aside0.mk (kept_at hq_ HK.out); have n2_ := Aside0.mk (below_at hq_ HB.out); clear hq_ HO_0 HK HB; have HO_0 := n0_; have HK := n1_; have HB := n2_; clear n0_ n1_ n2_; (try (have HP18 := Kd.R_putg HO_0.out (x23_1 : Int) ji16)))); refine store_event (t := 3) (p := 39) (v := ?vo_w19) (w1 := (wr.setCell ⟨go17, (x23_1 : Int).toNat, none⟩ (.int .i64 ji16))) ?hg ?ho ?hn ?hr ?_; (case ho => rfl); (case hg => rfl); (case hn => rfl); (case hr => first | (go_simp; done) | (go_simp; rfl)); intro w19 hw; have hg : wr.grownBy w19 (some go17) := (by rw [hw]; exact HP18.2); have hp_ : Kd.R (Kd.int .i64) 3 w19 w0.heap.size (fun k_ => (P0_ k_ ∨ w.heap.size ≤ k_)) (.slice (some ⟨go17, 0, none⟩) x0_1.length co10) y357 := (by rw [hw, Ny357.out]; exact HP18.1); clear HP18; have n0_ := Aside0.mk (hp_); have n1_ := Aside0.mk ((by rw [hw]; exact below_set (HB.out) GB17.out : Below w0.heap.size w0 w19)); have n2_ := Aside0.mk (Kept.of_grown (S := (fun k_ => P0_ k_)) hg (by repeat (first | (with_reducible first | exact HK.out | apply Kept.alloc | apply Kept.drewN | apply Kept.drew) | exact HK.out)) (fun k_ e_ => (HO_0.out.1 k_ e_))); clear HO_0; clear HB; clear HK; have HO_0 := n0_; have HB := n1_; have HK := n2_; clear n0_ n1_ n2_; clear hg hw hp_)); try go_wp2_with (first | ((with_reducible refine gate_store (t := 3) (p := 39) rfl ?_); (try (rw [drewN_self wr]; generalize hq_ : World.drewN wr _ = wr; have n0_ := Aside0.mk (Kd.R_at hq_ HO_0.out); have n1_ := Aside0.mk (kept_at hq_ HK.out); have n2_ := Aside0.mk (below_at hq_ HB.out); clear hq_ HO_0 HK HB; have HO_0 := n0_; have HK := n1_; have HB := n2_; clear n0_ n1_ n2_; (try (have HP18 := Kd.R_putg HO_0.out (x23_1 : Int) ji16)))); refine store_event (t := 3) (p := 39) (v := ?vo_w19) (w1 := (wr.setCell ⟨go17, (x23_1 : Int).toNat, none⟩ (.int .i64 ji16))) ?hg ?ho ?hn ?hr ?_; (case ho => rfl); (case hg => rfl); (case hn => rfl); (case hr => first | (go_simp; done) | (go_simp; rfl)); intro w19 hw; have hg : wr.grownBy w19 (some go17) := (by rw [hw]; exact HP18.2); have hp_ : Kd.R (Kd.int .i64) 3 w19 w0.heap.size (fun k_ => (P0_ k_ ∨ w.heap.size ≤ k_)) (.slice (some ⟨go17, 0, none⟩) x0_1.length co10) y357 := (by rw [hw, Ny357.out]; exact HP18.1); clear HP18; have n0_ := Aside0.mk (hp_); have n1_ := Aside0.mk ((by rw [hw]; exact below_set (HB.out) GB17.out : Below w0.heap.size w0 w19)); have n2_ := Aside0.mk (Kept.of_grown (S := (fun k_ => P0_ k_)) hg (by repeat (first | (with_reducible first | exact HK.out | apply Kept.alloc | apply Kept.drewN | apply Kept.drew) | exact HK.out)) (fun k_ e_ => (HO_0.out.1 k_ e_))); clear HO_0; clear HB; clear HK; have HO_0 := n0_; have HB := n1_; have HK := n2_; clear n0_ n1_ n2_; clear hg hw hp_)))
            (try simp only [← hl0_1])
            go_roundg k1
            case measure => have := HK1.out; omega
            case rel => exact ⟨(y357), (wrap64 (x23_1 + 1)), qe_, H', ⟨by have := HK1.out; omega⟩, ⟨by (try simp only [hl0_1]); (with_reducible repeat (first | apply Kd.R_alloc | apply Kd.R_drewN | apply Kd.R_drew)); first | exact HO_0.out | (have h_ := HO_0.out; simp only [own_slice] at h_ ⊢; exact h_)⟩, ⟨by repeat (first | (with_reducible first | exact HK.out | apply Kept.alloc | apply Kept.drewN | apply Kept.drew) | exact HK.out)⟩, ⟨qB_⟩⟩
           ·rw [if_neg c15] at H
            have c15b0 : ((rd x0_1 x23_1) == (ji14)) = false := beq_eq_false_iff_ne.mpr c15
            have c15b1 : ((rd x0_1 x23_1) != (ji14)) = true := bne_iff_ne.mpr c15
            have H' := Aside0.mk H; clear H
            have p356 : 0 ≤ (x23_1 : Int) := of_decide_eq_true qa_
            have q356 : x23_1 < (x0_1.length : Int) := of_decide_eq_true qa_
            obtain ⟨ad356, e356, hx356_0⟩ := Kd.at_int (Kd.R_reads' HO_0.out).2.2 x23_1 p356 q356
            obtain rfl : ad354 = ad356 := (by injection e356)
            replace p356 := eq_true p356; replace q356 := eq_true q356
            go_wp2
            repeat (go_quiet (fail); try go_wp2)
            (try simp only [← hl0_1])
            go_roundg k1
            case measure => have := HK1.out; omega
            case rel => exact ⟨(x0_1), (wrap64 (x23_1 + 1)), qe_, H', ⟨by have := HK1.out; omega⟩, ⟨by (try simp only [hl0_1]); (with_reducible repeat (first | apply Kd.R_alloc | apply Kd.R_drewN | apply Kd.R_drew)); first | exact HO_0.out | (have h_ := HO_0.out; simp only [own_slice] at h_ ⊢; exact h_)⟩, ⟨by repeat (first | (with_reducible first | exact HK.out | apply Kept.alloc | apply Kept.drewN | apply Kept.drew) | exact HK.out)⟩, ⟨qB_⟩⟩
          ·rw [if_neg c13] at H
           exact absurd H (by simp)
         ·rw [if_neg c12] at H
          exact absurd H (by simp)
        ·rw [if_neg c11] at H
         have c11b0 : decide (x23_1 < (l0.length : Int)) = false := decide_eq_false c11
         (try rw [hl0_1] at c11b0)
         clear c11
         simp only [Option.some.injEq, Prod.mk.injEq] at H
         obtain ⟨rfl, rfl⟩ := H
         go_wp2
         repeat (go_quiet (fail); try go_wp2)
         go_ret
         exact ⟨qr_, (by first | exact (qR_ HO_0) | (simp only [hl0_1]; exact (qR_ HO_0))), by repeat (first | (with_reducible first | exact HB.out | apply below_alloc | apply pw_below_drewN | apply below_drew1) | exact HB.out), by repeat (first | (with_reducible first | exact HK.out | apply Kept.alloc | apply Kept.drewN | apply Kept.drew) | exact HK.out)⟩
    ·rw [if_neg c7] at H
     exact absurd H (by simp)
   ·rw [if_neg c6] at H
    exact absurd H (by simp)
  ·rw [if_neg c5] at H
   exact absurd H (by simp)
 ·rw [if_neg c4] at H
  exact absurd H (by simp)

/-! ### impl_rings: function 64 -/
def impl_rings.l0 : Nat → List Int → List (S43) → Int → Int → Option (Bool)
  | 0, _, _, _, _ => none
  | k + 1, x5, x10, x11, x12 => if x12 < x11 then (if 0 ≤ x12 then (if x12 < (x10.length : Int) then ((impl_union.f k x5 ((rd_T43 x10 x12).f0) ((rd_T43 x10 x12).f1)).bind fun bt363 => (if bt363.1 = true then (impl_rings.l0 k bt363.2 x10 x11 (wrap64 (x12 + 1))) else (some true))) else (none)) else (none)) else (some false)
def impl_rings.f (k : Nat) (a0 : Int) (l1 : List (S43)) : Option (Bool) := (impl_first.f k a0).bind fun t358 => (impl_rings.l0 k t358 l1 (l1.length : Int) 0)
theorem impl_rings.mono_l : ∀ k, (∀ y0 y1 y2 y3, LeO (impl_rings.l0 k y0 y1 y2 y3) (impl_rings.l0 (k + 1) y0 y1 y2 y3))
  | 0 => fun _ _ _ _ r h => by simp [impl_rings.l0] at h
  | k + 1 => by
    have ih0 := impl_rings.mono_l k
    · intro y0 y1 y2 y3
      unfold impl_rings.l0
      repeat' first
      | (with_reducible exact ih0 _ _ _ _)
      | (with_reducible exact impl_first.mono _ _)
      | (with_reducible exact impl_union.mono _ _ _ _)
      | (with_reducible exact LeO.refl _)
      | (with_reducible exact LeO.none _)
      | (with_reducible refine LeO.ite ?_ ?_)
      | (with_reducible refine LeO.bind ?_ (fun _ => ?_))
      | exact ih0 _ _ _ _
      | exact impl_first.mono _ _
      | exact impl_union.mono _ _ _ _
      | exact LeO.none _
      | refine LeO.ite ?_ ?_
      | refine LeO.bind ?_ (fun _ => ?_)
theorem impl_rings.mono : ∀ a0 a1 k, LeO (impl_rings.f k a0 a1) (impl_rings.f (k + 1) a0 a1) := by
  intro a0 a1 k
  have ih0 := impl_rings.mono_l k
  unfold impl_rings.f
  repeat' first
      | (with_reducible exact ih0 _ _ _ _)
      | (with_reducible exact impl_first.mono _ _)
      | (with_reducible exact impl_union.mono _ _ _ _)
      | (with_reducible exact LeO.refl _)
      | (with_reducible exact LeO.none _)
      | (with_reducible refine LeO.ite ?_ ?_)
      | (with_reducible refine LeO.bind ?_ (fun _ => ?_))
      | exact ih0 _ _ _ _
      | exact impl_first.mono _ _
      | exact impl_union.mono _ _ _ _
      | exact LeO.none _
      | refine LeO.ite ?_ ?_
      | refine LeO.bind ?_ (fun _ => ?_)
set_option maxHeartbeats 8000000 in
set_option maxRecDepth 100000 in
theorem impl_rings.calls (k : Nat) (a0 : Int) (A1 : Option Addr) (c1 : Nat) (l1 : List (S43)) (r : Bool) (w : World) (hr1 : Kd.C k43 w A1 l1.length l1) (hc1 : l1.length ≤ c1) (h : impl_rings.f k a0 l1 = some r) :
  Calls Try.prog 64 #[.int .i64 a0, .slice A1 l1.length c1] w fun e w' => e = .returned (.bool r) ∧ Below w.heap.size w w' := by
 have hu43 := Try.underlying43
 have HR1 := Aside0.mk hr1
 have HC1 := Aside0.mk hc1
 clear hr1 hc1
 have HB := Aside0.mk (Below.refl w.heap.size w)
 have H : ((impl_first.f k a0).bind fun t358 => (impl_rings.l0 k t358 l1 (l1.length : Int) 0)) = some r := h
 clear h
 obtain ⟨t358, A30, H⟩ := Option.bind_eq_some_iff.mp H; have A3 := Aside0.mk A30; clear A30
 have H' := Aside0.mk H; clear H
 go_enter Try.func64, Try.ntmps64
 go_wp2_with (first | ((with_reducible refine gate_callee (f := 112) rfl ?_); refine gl_ (some 9) Try.func112 #[.int .i64 a0] ?_; (with_reducible refine (impl_first.calls k a0 t358 _ A3.out).mono ?_); rintro e w4 ⟨v359, rfl, ho0, hb⟩; refine ⟨_, rfl, ?_⟩; have HO360 := Aside0.mk (Kd.R_lower ho0 (below_size qB_)); replace HB := Aside0.mk (below_step qB_ hb); (try clear hb); (try clear hb2); (try clear hk); (try clear hi); (try clear ho0)))
 go_loopg [12] k (fun kq v12 w' => ∃ (x5_1 : List Int) (x12_1 : Int), v12 = .int .i64 x12_1 ∧ Aside0 (impl_rings.l0 kq x5_1 l1 (l1.length : Int) x12_1 = some r) ∧ Aside0 (kq ≤ k) ∧ Aside0 (Kd.R (Kd.int .i64) 3 w' w.heap.size (fun _ => True) v359 x5_1) ∧ Aside0 (Below w.heap.size w w'))
 case atStart => exact ⟨(t358), (0), qe_, H', ⟨Nat.le_refl _⟩, ⟨by (with_reducible repeat (first | apply Kd.R_alloc | apply Kd.R_drewN | apply Kd.R_drew)); first | exact HO360.out | (have h_ := HO360.out; simp only [own_slice] at h_ ⊢; exact h_)⟩, ⟨qB_⟩⟩
 case round =>
  clear H'
  (try clear c1); (try clear p2)
  obtain ⟨x5_1, x12_1, rfl, HA, HK1, HO_5, HB⟩ := hrel
  cases gk with
  | zero => exact absurd HA.out (by simp [impl_rings.l0])
  | succ k1 =>
   have H := HA.out; clear HA
   simp only [impl_rings.l0] at H
   by_cases c5 : x12_1 < (l1.length : Int)
   ·rw [if_pos c5] at H
    have c5b0 : decide (x12_1 < (l1.length : Int)) = true := decide_eq_true c5
    clear c5
    by_cases c6 : 0 ≤ x12_1
    ·rw [if_pos c6] at H
     have c6b0 : decide (0 ≤ x12_1) = true := decide_eq_true c6
     clear c6
     by_cases c7 : x12_1 < (l1.length : Int)
     ·rw [if_pos c7] at H
      have c7b0 : decide (x12_1 < (l1.length : Int)) = true := decide_eq_true c7
      clear c7
      replace H := Option.bind_eq_some_iff.mp H
      obtain ⟨⟨t363, t364⟩, A80, H⟩ := H
      replace H : (if t363 = true then (impl_rings.l0 k1 t364 l1 (l1.length : Int) (wrap64 (x12_1 + 1))) else (some true)) = some r := H
      have A8 := Aside0.mk A80
      clear A80
      by_cases c9 : t363 = true
      ·subst c9
       rw [if_pos rfl] at H; have H' := Aside0.mk H; clear H
       have p361 : 0 ≤ (x12_1 : Int) := of_decide_eq_true qa_
       have q361 : x12_1 < (l1.length : Int) := of_decide_eq_true qa_
       obtain ⟨ad361, e361, hx361_0, hx361_1⟩ := at_T43 HR1.out x12_1 p361 q361
       cases e361
       replace hx361_0 := (HB.out.cell (World.block_lt_of_cell? w _ hx361_0)).trans hx361_0
       replace hx361_1 := (HB.out.cell (World.block_lt_of_cell? w _ hx361_1)).trans hx361_1
       replace p361 := eq_true p361; replace q361 := eq_true q361
       go_wp2_with (first | ((with_reducible refine gate_dst (N := 7) rfl ?_); refine bx_ 7 (cs := #[.int .i64 0, .int .i64 0]) (t := 43) ?_; intro gb362 hg w10 hbox hb; have BK362 := Aside0.mk (hbox); have GW362 := Aside0.mk ((qs_ : w.heap.size ≤ gb362)); have GE362 := Aside0.mk ((qs_ : w.heap.size ≤ gb362)); replace HO_5 := Aside0.mk (Kd.R_below (qR_ HO_5) hb); replace HB := Aside0.mk (below_step qB_ hb); clear hb hbox hg; obtain ⟨hcz11_0, hcz11_1, hfz11_0, hfz11_1⟩ := bc2_ BK362) | ((with_reducible refine gate_store (t := 43) (p := 7) rfl ?_); refine store_event (t := 43) (p := 7) (v := ?vo_w12) (w1 := ((w10.setCell ⟨gb362, 0, none⟩ (.int .i64 ((rd_T43 l1 x12_1).f0))).setCell ⟨gb362, 1, none⟩ (.int .i64 ((rd_T43 l1 x12_1).f1)))) ?hg ?ho ?hn ?hr ?_; (case ho => rfl); (case hg => rfl); (case hn => rfl); (case hr => first | (go_simp; done) | (go_simp; rfl)); intro w12 hw; have n0_ : Aside0 (Kd.R (Kd.int .i64) 3 w12 w.heap.size (fun _ => True) v359 x5_1) := ⟨(by rw [hw]; exact (by (with_reducible repeat (first | apply Kd.R_alloc | apply Kd.R_drewN | apply Kd.R_drew)); exact Kd.R_mono (Kd.R_far (p := ⟨gb362, 1, none⟩) (Kd.R_far (p := ⟨gb362, 0, none⟩) (Kd.R_types HO_5.out BK362.out (by decide)) (fun _ hk => hk.2) (.int .i64 ((rd_T43 l1 x12_1).f0))) (fun _ hk => hk.2) (.int .i64 ((rd_T43 l1 x12_1).f1))) (fun _ hk => trivial)))⟩; have n1_ : Aside0 (w12.heap[gb362]? = some (.cells #[.int .i64 ((rd_T43 l1 x12_1).f0), .int .i64 ((rd_T43 l1 x12_1).f1)] 43 (0, 0))) := ⟨(by rw [hw]; exact (by (with_reducible repeat (first | refine blk_drewN ?_ _ | refine blk_drew ?_ | refine blk_alloc ?_ _)); refine blk_put (cs := #[.int .i64 ((rd_T43 l1 x12_1).f0), .int .i64 0]) ?_ 1 _ rfl; (with_reducible repeat (first | refine blk_drewN ?_ _ | refine blk_drew ?_ | refine blk_alloc ?_ _)); refine blk_put (cs := #[.int .i64 0, .int .i64 0]) ?_ 0 _ rfl; (with_reducible repeat (first | refine blk_drewN ?_ _ | refine blk_drew ?_ | refine blk_alloc ?_ _)); exact BK362.out))⟩; have n2_ : Aside0 (Below w.heap.size w w12) := ⟨(by rw [hw]; exact qB_)⟩; clear hw; clear HO_5; clear BK362; clear HB; have HO_5 := n0_; have BK362 := n1_; have HB := n2_; clear n0_ n1_ n2_; obtain ⟨hcz13_0, hcz13_1, hfz13_0, hfz13_1⟩ := bc2_ BK362; obtain ⟨Ao14, co14, eo14⟩ := Kd.R_slice HO_5.out; subst eo14) | ((with_reducible refine gate_callee (f := 113) rfl ?_); refine gl_ (some 21) Try.func113 #[.slice Ao14 x5_1.length co14, .int .i64 ((rd_T43 l1 x12_1).f0), .int .i64 ((rd_T43 l1 x12_1).f1)] ?_; (with_reducible refine (impl_union.calls k1 (fun k_ => some k_ = (.slice Ao14 x5_1.length co14 : Value).ownBlock) (.slice Ao14 x5_1.length co14) x5_1 ((rd_T43 l1 x12_1).f0) ((rd_T43 l1 x12_1).f1) true t364 w _ ?side1 ?side2 A8.out).mono ?_); (case side1 => repeat (first | (with_reducible first | exact HB.out | apply below_alloc | apply pw_below_drewN | apply below_drew1 | refine below_set ?_ GE362.out) | exact HB.out)); (case side2 => exact Kd.R_tight rfl HO_5.out); rintro e w15 ⟨rfl, hy0, hb, hkp⟩; refine ⟨_, rfl, ?_⟩; have n0_ := Aside0.mk (Kd.R_reok rfl hy0 (fun k_ e_ => HO_5.out.1 k_ e_)); have n1_ := Aside0.mk (blk_kept (qk_ BK362) hkp (fun hs_ => (fun e_ => (Kd.R_ne HO_5.out BK362.out (by decide)) e_) hs_)); have n2_ := Aside0.mk (hb); clear HO_5; clear BK362; clear HB; have HO_5 := n0_; have BK362 := n1_; have HB := n2_; clear n0_ n1_ n2_; (try clear hb); (try clear hkp); (try clear hy0)))
       go_roundg k1
       case measure => have := HK1.out; omega
       case rel => exact ⟨(t364), (wrap64 (x12_1 + 1)), qe_, H', ⟨by have := HK1.out; omega⟩, ⟨by (with_reducible repeat (first | apply Kd.R_alloc | apply Kd.R_drewN | apply Kd.R_drew)); first | exact HO_5.out | (have h_ := HO_5.out; simp only [own_slice] at h_ ⊢; exact h_)⟩, ⟨qB_⟩⟩
      ·replace c9 := Bool.eq_false_iff.mpr c9
       subst c9
       rw [if_neg (show ¬ (false = true) by decide)] at H
       obtain rfl := Option.some.inj H
       have p361 : 0 ≤ (x12_1 : Int) := of_decide_eq_true qa_
       have q361 : x12_1 < (l1.length : Int) := of_decide_eq_true qa_
       obtain ⟨ad361, e361, hx361_0, hx361_1⟩ := at_T43 HR1.out x12_1 p361 q361
       cases e361
       replace hx361_0 := (HB.out.cell (World.block_lt_of_cell? w _ hx361_0)).trans hx361_0
       replace hx361_1 := (HB.out.cell (World.block_lt_of_cell? w _ hx361_1)).trans hx361_1
       replace p361 := eq_true p361; replace q361 := eq_true q361
       go_wp2_with (first | ((with_reducible refine gate_dst (N := 7) rfl ?_); refine bx_ 7 (cs := #[.int .i64 0, .int .i64 0]) (t := 43) ?_; intro gb362 hg w16 hbox hb; have BK362 := Aside0.mk (hbox); have GW362 := Aside0.mk ((qs_ : w.heap.size ≤ gb362)); have GE362 := Aside0.mk ((qs_ : w.heap.size ≤ gb362)); replace HO_5 := Aside0.mk (Kd.R_below (qR_ HO_5) hb); replace HB := Aside0.mk (below_step qB_ hb); clear hb hbox hg; obtain ⟨hcz17_0, hcz17_1, hfz17_0, hfz17_1⟩ := bc2_ BK362) | ((with_reducible refine gate_store (t := 43) (p := 7) rfl ?_); refine store_event (t := 43) (p := 7) (v := ?vo_w18) (w1 := ((w16.setCell ⟨gb362, 0, none⟩ (.int .i64 ((rd_T43 l1 x12_1).f0))).setCell ⟨gb362, 1, none⟩ (.int .i64 ((rd_T43 l1 x12_1).f1)))) ?hg ?ho ?hn ?hr ?_; (case ho => rfl); (case hg => rfl); (case hn => rfl); (case hr => first | (go_simp; done) | (go_simp; rfl)); intro w18 hw; have n0_ : Aside0 (Kd.R (Kd.int .i64) 3 w18 w.heap.size (fun _ => True) v359 x5_1) := ⟨(by rw [hw]; exact (by (with_reducible repeat (first | apply Kd.R_alloc | apply Kd.R_drewN | apply Kd.R_drew)); exact Kd.R_mono (Kd.R_far (p := ⟨gb362, 1, none⟩) (Kd.R_far (p := ⟨gb362, 0, none⟩) (Kd.R_types HO_5.out BK362.out (by decide)) (fun _ hk => hk.2) (.int .i64 ((rd_T43 l1 x12_1).f0))) (fun _ hk => hk.2) (.int .i64 ((rd_T43 l1 x12_1).f1))) (fun _ hk => trivial)))⟩; have n1_ : Aside0 (w18.heap[gb362]? = some (.cells #[.int .i64 ((rd_T43 l1 x12_1).f0), .int .i64 ((rd_T43 l1 x12_1).f1)] 43 (0, 0))) := ⟨(by rw [hw]; exact (by (with_reducible repeat (first | refine blk_drewN ?_ _ | refine blk_drew ?_ | refine blk_alloc ?_ _)); refine blk_put (cs := #[.int .i64 ((rd_T43 l1 x12_1).f0), .int .i64 0]) ?_ 1 _ rfl; (with_reducible repeat (first | refine blk_drewN ?_ _ | refine blk_drew ?_ | refine blk_alloc ?_ _)); refine blk_put (cs := #[.int .i64 0, .int .i64 0]) ?_ 0 _ rfl; (with_reducible repeat (first | refine blk_drewN ?_ _ | refine blk_drew ?_ | refine blk_alloc ?_ _)); exact BK362.out))⟩; have n2_ : Aside0 (Below w.heap.size w w18) := ⟨(by rw [hw]; exact qB_)⟩; clear hw; clear HO_5; clear BK362; clear HB; have HO_5 := n0_; have BK362 := n1_; have HB := n2_; clear n0_ n1_ n2_; obtain ⟨hcz19_0, hcz19_1, hfz19_0, hfz19_1⟩ := bc2_ BK362; obtain ⟨Ao20, co20, eo20⟩ := Kd.R_slice HO_5.out; subst eo20) | ((with_reducible refine gate_callee (f := 113) rfl ?_); refine gl_ (some 21) Try.func113 #[.slice Ao20 x5_1.length co20, .int .i64 ((rd_T43 l1 x12_1).f0), .int .i64 ((rd_T43 l1 x12_1).f1)] ?_; (with_reducible refine (impl_union.calls k1 (fun k_ => some k_ = (.slice Ao20 x5_1.length co20 : Value).ownBlock) (.slice Ao20 x5_1.length co20) x5_1 ((rd_T43 l1 x12_1).f0) ((rd_T43 l1 x12_1).f1) false t364 w _ ?side1 ?side2 A8.out).mono ?_); (case side1 => repeat (first | (with_reducible first | exact HB.out | apply below_alloc | apply pw_below_drewN | apply below_drew1 | refine below_set ?_ GE362.out) | exact HB.out)); (case side2 => exact Kd.R_tight rfl HO_5.out); rintro e w21 ⟨rfl, hy0, hb, hkp⟩; refine ⟨_, rfl, ?_⟩; have n0_ := Aside0.mk (Kd.R_reok rfl hy0 (fun k_ e_ => HO_5.out.1 k_ e_)); have n1_ := Aside0.mk (blk_kept (qk_ BK362) hkp (fun hs_ => (fun e_ => (Kd.R_ne HO_5.out BK362.out (by decide)) e_) hs_)); have n2_ := Aside0.mk (hb); clear HO_5; clear BK362; clear HB; have HO_5 := n0_; have BK362 := n1_; have HB := n2_; clear n0_ n1_ n2_; (try clear hb); (try clear hkp); (try clear hy0)))
       go_ret
       exact ⟨qr_, qB_⟩
     ·rw [if_neg c7] at H
      exact absurd H (by simp)
    ·rw [if_neg c6] at H
     exact absurd H (by simp)
   ·rw [if_neg c5] at H
    have c5b0 : decide (x12_1 < (l1.length : Int)) = false := decide_eq_false c5
    clear c5
    obtain rfl := Option.some.inj H
    go_wp2
    go_ret
    exact ⟨qr_, qB_⟩

/-! ### impl_treeEdges: function 65 -/
def impl_treeEdges.l0 : Nat → List (S43) → List (S72) → Int → Int → Option ((List (S43)))
  | 0, _, _, _, _ => none
  | k + 1, x3, x7, x8, x9 => if x9 < x8 then (if 0 ≤ x9 then (if x9 < (x7.length : Int) then (if (rd_T72 x7 x9).f3 = true then (if x3.length < 8796093022208 then (impl_treeEdges.l0 k (x3 ++ [(⟨(rd_T72 x7 x9).f0, (rd_T72 x7 x9).f1⟩ : S43)]) x7 x8 (wrap64 (x9 + 1))) else (none)) else (impl_treeEdges.l0 k x3 x7 x8 (wrap64 (x9 + 1)))) else (none)) else (none)) else (some x3)
def impl_treeEdges.f (k : Nat) (a0_0 : Int) (l0_1 : List (S72)) : Option ((List (S43))) := impl_treeEdges.l0 k ([] : List (S43)) l0_1 (l0_1.length : Int) 0
theorem impl_treeEdges.mono_l : ∀ k, (∀ y0 y1 y2 y3, LeO (impl_treeEdges.l0 k y0 y1 y2 y3) (impl_treeEdges.l0 (k + 1) y0 y1 y2 y3))
  | 0 => fun _ _ _ _ r h => by simp [impl_treeEdges.l0] at h
  | k + 1 => by
    have ih0 := impl_treeEdges.mono_l k
    · intro y0 y1 y2 y3
      unfold impl_treeEdges.l0
      repeat' first
      | (with_reducible exact ih0 _ _ _ _)
      | (with_reducible exact LeO.refl _)
      | (with_reducible exact LeO.none _)
      | (with_reducible refine LeO.ite ?_ ?_)
      | (with_reducible refine LeO.bind ?_ (fun _ => ?_))
      | exact ih0 _ _ _ _
      | exact LeO.none _
      | refine LeO.ite ?_ ?_
      | refine LeO.bind ?_ (fun _ => ?_)
theorem impl_treeEdges.mono : ∀ a0 a1 k, LeO (impl_treeEdges.f k a0 a1) (impl_treeEdges.f (k + 1) a0 a1) := by
  intro a0 a1 k
  have ih0 := impl_treeEdges.mono_l k
  unfold impl_treeEdges.f
  repeat' first
      | (with_reducible exact ih0 _ _ _ _)
      | (with_reducible exact LeO.refl _)
      | (with_reducible exact LeO.none _)
      | (with_reducible refine LeO.ite ?_ ?_)
      | (with_reducible refine LeO.bind ?_ (fun _ => ?_))
      | exact ih0 _ _ _ _
      | exact LeO.none _
      | refine LeO.ite ?_ ?_
      | refine LeO.bind ?_ (fun _ => ?_)
set_option maxHeartbeats 8000000 in
set_option maxRecDepth 100000 in
theorem impl_treeEdges.calls (k : Nat) (a0_0 : Int) (A0_1 : Option Addr) (c0_1 : Nat) (l0_1 : List (S72)) (r : List (S43)) (w : World) (hr0_1 : Kd.C k72 w A0_1 l0_1.length l0_1) (hc0_1 : l0_1.length ≤ c0_1) (h : impl_treeEdges.f k a0_0 l0_1 = some r) :
  Calls Try.prog 65 #[.agg #[.int .i64 a0_0, .slice A0_1 l0_1.length c0_1]] w fun e w' => ∃ v0_ : Value, e = .returned (v0_) ∧ Kd.R k43 43 w' w.heap.size (fun _ => True) v0_ r ∧ Below w.heap.size w w' := by
 have hu29 := Try.underlying29; have hu72 := Try.underlying72; have hu43 := Try.underlying43
 have HR0_1 := Aside0.mk hr0_1
 have HC0_1 := Aside0.mk hc0_1
 clear hr0_1 hc0_1
 have HB := Aside0.mk (Below.refl w.heap.size w)
 have H : (impl_treeEdges.l0 k ([] : List (S43)) l0_1 (l0_1.length : Int) 0) = some r := h
 clear h; have H' := Aside0.mk H; clear H
 go_enter Try.func65, Try.ntmps65
 go_wp2_with (first | ((with_reducible refine gate_dst (N := 1) rfl ?_); refine bx_ 1 (cs := #[.int .i64 a0_0, .slice A0_1 l0_1.length c0_1]) (t := 29) ?_; intro gb365 hg w2 hbox hb; have BK365 := Aside0.mk (hbox); have GW365 := Aside0.mk ((qs_ : w.heap.size ≤ gb365)); have GE365 := Aside0.mk ((qs_ : w.heap.size ≤ gb365)); replace HB := Aside0.mk (below_step qB_ hb); clear hb hbox hg; obtain ⟨hcz3_0, hcz3_1, hfz3_0, hfz3_1⟩ := bc2_ BK365))
 go_loopg [3, 9] k (fun kq v3 v9 w' => ∃ (x3_1 : List (S43)) (x9_1 : Int), v9 = .int .i64 x9_1 ∧ Aside0 (impl_treeEdges.l0 kq x3_1 l0_1 (l0_1.length : Int) x9_1 = some r) ∧ Aside0 (kq ≤ k) ∧ Aside0 (Kd.R k43 43 w' w.heap.size (fun _ => True) v3 x3_1) ∧ Aside0 (w'.heap[gb365]? = some (.cells #[.int .i64 a0_0, (.slice A0_1 l0_1.length c0_1)] 29 (0, 0))) ∧ Aside0 (Below w.heap.size w w'))
 case atStart => exact ⟨(([] : List (S43))), (0), qe_, H', ⟨Nat.le_refl _⟩, ⟨by first | exact Kd.R_nil _ _ _ _ _ | exact Kd.N_nil _ _ _ _ _ | exact Kd.V_nil _ _ _ _ _ | exact Kd.Q_nil _ _ _ _ _ | exact Kd.S_nil _ _ _ _ _⟩, ⟨qk_ BK365⟩, ⟨qB_⟩⟩
 case round =>
  clear H'
  (try clear p2); (try clear hcz3_0); (try clear hcz3_1); (try clear hfz3_0); (try clear hfz3_1)
  obtain ⟨x3_1, x9_1, rfl, HA, HK1, HO_3, BK365, HB⟩ := hrel
  cases gk with
  | zero => exact absurd HA.out (by simp [impl_treeEdges.l0])
  | succ k1 =>
   have H := HA.out; clear HA
   simp only [impl_treeEdges.l0] at H
   by_cases c4 : x9_1 < (l0_1.length : Int)
   ·rw [if_pos c4] at H
    have c4b0 : decide (x9_1 < (l0_1.length : Int)) = true := decide_eq_true c4
    clear c4
    by_cases c5 : 0 ≤ x9_1
    ·rw [if_pos c5] at H
     have c5b0 : decide (0 ≤ x9_1) = true := decide_eq_true c5
     clear c5
     by_cases c6 : x9_1 < (l0_1.length : Int)
     ·rw [if_pos c6] at H
      have c6b0 : decide (x9_1 < (l0_1.length : Int)) = true := decide_eq_true c6
      clear c6
      obtain ⟨bq7, hbq7⟩ : ∃ b_ : Bool, b_ = ((rd_T72 l0_1 x9_1).f3) := ⟨_, rfl⟩
      replace H : (if bq7 = true then (if x3_1.length < 8796093022208 then (impl_treeEdges.l0 k1 (x3_1 ++ [(⟨(rd_T72 l0_1 x9_1).f0, (rd_T72 l0_1 x9_1).f1⟩ : S43)]) l0_1 (l0_1.length : Int) (wrap64 (x9_1 + 1))) else (none)) else (impl_treeEdges.l0 k1 x3_1 l0_1 (l0_1.length : Int) (wrap64 (x9_1 + 1)))) = some r := by rw [← hbq7] at H; exact H
      have Nbq7 := Aside0.mk hbq7
      clear hbq7
      by_cases c8 : bq7 = true
      ·subst c8
       rw [if_pos rfl] at H
       by_cases c9 : x3_1.length < 8796093022208
       ·rw [if_pos c9] at H
        have LMc9 := Aside0.mk c9
        clear c9
        obtain ⟨y368, hy368⟩ : ∃ y_ : List (S43), y_ = (x3_1 ++ [(⟨(rd_T72 l0_1 x9_1).f0, (rd_T72 l0_1 x9_1).f1⟩ : S43)]) := ⟨_, rfl⟩
        replace H : (impl_treeEdges.l0 k1 y368 l0_1 (l0_1.length : Int) (wrap64 (x9_1 + 1))) = some r := by first | (rw [hy368]; with_reducible exact H) | (have H2_ := (Option.bind_some _ _).symm.trans H; rw [hy368]; with_reducible exact H2_) | (have H2_ := (Option.bind_some _ _).symm.trans H; with_reducible exact H2_) | with_reducible exact H | (rw [hy368]; exact H) | exact H
        have Ny368 := Aside0.mk hy368
        clear hy368; have H' := Aside0.mk H; clear H
        have p366 : 0 ≤ (x9_1 : Int) := of_decide_eq_true qa_
        have q366 : x9_1 < (l0_1.length : Int) := of_decide_eq_true qa_
        obtain ⟨ad366, e366, hx366_0, hx366_1, hx366_2, hx366_3⟩ := at_T72 HR0_1.out x9_1 p366 q366
        (try rw [← Nbq7.out] at hx366_3)
        cases e366
        replace hx366_0 := (HB.out.cell (World.block_lt_of_cell? w _ hx366_0)).trans hx366_0
        replace hx366_1 := (HB.out.cell (World.block_lt_of_cell? w _ hx366_1)).trans hx366_1
        replace hx366_2 := (HB.out.cell (World.block_lt_of_cell? w _ hx366_2)).trans hx366_2
        replace hx366_3 := (HB.out.cell (World.block_lt_of_cell? w _ hx366_3)).trans hx366_3
        replace p366 := eq_true p366; replace q366 := eq_true q366
        go_wp2_with (first | ((with_reducible refine gate_dst (N := 5) rfl ?_); refine bx_ 5 (cs := #[.int .i64 0, .int .i64 0, .int .i64 0, .bool false]) (t := 72) ?_; intro gb367 hg w10 hbox hb; have BK367 := Aside0.mk (hbox); have GW367 := Aside0.mk ((qs_ : w.heap.size ≤ gb367)); have GE367 := Aside0.mk ((qs_ : w.heap.size ≤ gb367)); have NB365_367 := Aside0.mk ((by rw [hg]; exact Nat.ne_of_lt (blk_lt (qk_ BK365)) : gb365 ≠ gb367)); have NB367_365 := Aside0.mk ((by rw [hg]; exact Nat.ne_of_gt (blk_lt (qk_ BK365)) : gb367 ≠ gb365)); replace HO_3 := Aside0.mk (Kd.R_below (qR_ HO_3) hb); replace BK365 := Aside0.mk (blk_below (qk_ BK365) hb); replace HB := Aside0.mk (below_step qB_ hb); clear hb hbox hg; have hnb11 := NB367_365.out; have hnc11 := NB365_367.out; obtain ⟨hcz12_0, hcz12_1, hcz12_2, hcz12_3, hfz12_0, hfz12_1, hfz12_2, hfz12_3⟩ := bc4_ BK367) | ((with_reducible refine gate_builtin (b := .append) (xs := #[.tmp 15, .tmp 21]) rfl ?_); at_builtin; refine Kd.R_append k43 (w0 := w) w.heap.size rfl (.tmp 15) (.tmp 21) 67 43 (.agg #[(.int .i64 0), (.int .i64 0)]) 16 rfl Try.underlying67 info43 rfl (by decide) (by omega) u3 x3_1 (⟨(rd_T72 l0_1 x9_1).f0, (rd_T72 l0_1 x9_1).f1⟩ : S43) [.int .i64 ((rd_T72 l0_1 x9_1).f0), .int .i64 ((rd_T72 l0_1 x9_1).f1)] (fun _ => True) (fun _ => False) rfl (by first | (go_simp; done) | (go_simp; rfl)) ?aP (fun _ hk => hk.elim) ?aF ?aO ?aB ?aS ?aL ?_; (case aP => exact k43_mkM _ _ _ (⟨(rd_T72 l0_1 x9_1).f0, (rd_T72 l0_1 x9_1).f1⟩ : S43)); (case aB => exact qB_); (case aF => exact (fun _ _ => trivial)); (case aO => exact (by (with_reducible repeat (first | apply Kd.R_alloc | apply Kd.R_drewN | apply Kd.R_drew)); exact Kd.R_mono (Kd.R_far (p := ⟨gb367, 3, none⟩) (Kd.R_far (p := ⟨gb367, 2, none⟩) (Kd.R_far (p := ⟨gb367, 1, none⟩) (Kd.R_far (p := ⟨gb367, 0, none⟩) (Kd.R_types HO_3.out BK367.out (by decide)) (fun _ hk => hk.2) (.int .i64 ((rd_T72 l0_1 x9_1).f0))) (fun _ hk => hk.2) (.int .i64 ((rd_T72 l0_1 x9_1).f1))) (fun _ hk => hk.2) (.int .i64 ((rd_T72 l0_1 x9_1).f2))) (fun _ hk => hk.2) (.bool true)) (fun _ hk => trivial))); (case aS => exact (below_size qB_)); (case aL => have := LMc9.out; omega); intro v369 w13 ho hb hg hat; rw [← Ny368.out] at ho; have HO370 := Aside0.mk (ho); replace BK365 := Aside0.mk (blk_grown (g := gb365) (o := .cells #[.int .i64 a0_0, .slice (some ad366) l0_1.length c0_1] 29 (0, 0)) (by (with_reducible repeat (first | refine blk_drewN ?_ _ | refine blk_drew ?_ | refine blk_alloc ?_ _)); refine blk_far ?_ NB365_367.out _; (with_reducible repeat (first | refine blk_drewN ?_ _ | refine blk_drew ?_ | refine blk_alloc ?_ _)); refine blk_far ?_ NB365_367.out _; (with_reducible repeat (first | refine blk_drewN ?_ _ | refine blk_drew ?_ | refine blk_alloc ?_ _)); refine blk_far ?_ NB365_367.out _; (with_reducible repeat (first | refine blk_drewN ?_ _ | refine blk_drew ?_ | refine blk_alloc ?_ _)); refine blk_far ?_ NB365_367.out _; (with_reducible repeat (first | refine blk_drewN ?_ _ | refine blk_drew ?_ | refine blk_alloc ?_ _)); exact BK365.out) hg (Kd.R_ne HO_3.out BK365.out (by decide))); replace BK367 := Aside0.mk (blk_grown (g := gb367) (o := .cells #[.int .i64 ((rd_T72 l0_1 x9_1).f0), .int .i64 ((rd_T72 l0_1 x9_1).f1), .int .i64 ((rd_T72 l0_1 x9_1).f2), .bool true] 72 (0, 0)) (by (with_reducible repeat (first | refine blk_drewN ?_ _ | refine blk_drew ?_ | refine blk_alloc ?_ _)); refine blk_put (cs := #[.int .i64 ((rd_T72 l0_1 x9_1).f0), .int .i64 ((rd_T72 l0_1 x9_1).f1), .int .i64 ((rd_T72 l0_1 x9_1).f2), .bool false]) ?_ 3 _ rfl; (with_reducible repeat (first | refine blk_drewN ?_ _ | refine blk_drew ?_ | refine blk_alloc ?_ _)); refine blk_put (cs := #[.int .i64 ((rd_T72 l0_1 x9_1).f0), .int .i64 ((rd_T72 l0_1 x9_1).f1), .int .i64 0, .bool false]) ?_ 2 _ rfl; (with_reducible repeat (first | refine blk_drewN ?_ _ | refine blk_drew ?_ | refine blk_alloc ?_ _)); refine blk_put (cs := #[.int .i64 ((rd_T72 l0_1 x9_1).f0), .int .i64 0, .int .i64 0, .bool false]) ?_ 1 _ rfl; (with_reducible repeat (first | refine blk_drewN ?_ _ | refine blk_drew ?_ | refine blk_alloc ?_ _)); refine blk_put (cs := #[.int .i64 0, .int .i64 0, .int .i64 0, .bool false]) ?_ 0 _ rfl; (with_reducible repeat (first | refine blk_drewN ?_ _ | refine blk_drew ?_ | refine blk_alloc ?_ _)); exact BK367.out) hg (Kd.R_ne HO_3.out BK367.out (by decide))); replace HB := Aside0.mk (hb); clear HO_3; clear ho hb hg hat))
        go_roundg k1
        case measure => have := HK1.out; omega
        case rel => exact ⟨(y368), (wrap64 (x9_1 + 1)), qe_, H', ⟨by have := HK1.out; omega⟩, ⟨by (with_reducible repeat (first | apply Kd.R_alloc | apply Kd.R_drewN | apply Kd.R_drew)); first | exact HO370.out | (have h_ := HO370.out; simp only [own_slice] at h_ ⊢; exact h_)⟩, ⟨qk_ BK365⟩, ⟨qB_⟩⟩
       ·rw [if_neg c9] at H
        exact absurd H (by simp)
      ·replace c8 := Bool.eq_false_iff.mpr c8
       subst c8
       rw [if_neg (show ¬ (false = true) by decide)] at H; have H' := Aside0.mk H; clear H
       have p366 : 0 ≤ (x9_1 : Int) := of_decide_eq_true qa_
       have q366 : x9_1 < (l0_1.length : Int) := of_decide_eq_true qa_
       obtain ⟨ad366, e366, hx366_0, hx366_1, hx366_2, hx366_3⟩ := at_T72 HR0_1.out x9_1 p366 q366
       (try rw [← Nbq7.out] at hx366_3)
       cases e366
       replace hx366_0 := (HB.out.cell (World.block_lt_of_cell? w _ hx366_0)).trans hx366_0
       replace hx366_1 := (HB.out.cell (World.block_lt_of_cell? w _ hx366_1)).trans hx366_1
       replace hx366_2 := (HB.out.cell (World.block_lt_of_cell? w _ hx366_2)).trans hx366_2
       replace hx366_3 := (HB.out.cell (World.block_lt_of_cell? w _ hx366_3)).trans hx366_3
       replace p366 := eq_true p366; replace q366 := eq_true q366
       go_wp2_with (first | ((with_reducible refine gate_dst (N := 5) rfl ?_); refine bx_ 5 (cs := #[.int .i64 0, .int .i64 0, .int .i64 0, .bool false]) (t := 72) ?_; intro gb367 hg w14 hbox hb; have BK367 := Aside0.mk (hbox); have GW367 := Aside0.mk ((qs_ : w.heap.size ≤ gb367)); have GE367 := Aside0.mk ((qs_ : w.heap.size ≤ gb367)); have NB365_367 := Aside0.mk ((by rw [hg]; exact Nat.ne_of_lt (blk_lt (qk_ BK365)) : gb365 ≠ gb367)); have NB367_365 := Aside0.mk ((by rw [hg]; exact Nat.ne_of_gt (blk_lt (qk_ BK365)) : gb367 ≠ gb365)); replace HO_3 := Aside0.mk (Kd.R_below (qR_ HO_3) hb); replace BK365 := Aside0.mk (blk_below (qk_ BK365) hb); replace HB := Aside0.mk (below_step qB_ hb); clear hb hbox hg; have hnb15 := NB367_365.out; have hnc15 := NB365_367.out; obtain ⟨hcz16_0, hcz16_1, hcz16_2, hcz16_3, hfz16_0, hfz16_1, hfz16_2, hfz16_3⟩ := bc4_ BK367))
       go_roundg k1
       case measure => have := HK1.out; omega
       case rel => exact ⟨(x3_1), (wrap64 (x9_1 + 1)), qe_, H', ⟨by have := HK1.out; omega⟩, ⟨by (with_reducible repeat (first | apply Kd.R_alloc | apply Kd.R_drewN | apply Kd.R_drew)); exact Kd.R_mono (Kd.R_far (p := ⟨gb367, 3, none⟩) (Kd.R_far (p := ⟨gb367, 2, none⟩) (Kd.R_far (p := ⟨gb367, 1, none⟩) (Kd.R_far (p := ⟨gb367, 0, none⟩) (Kd.R_types HO_3.out BK367.out (by decide)) (fun _ hk => hk.2) (.int .i64 ((rd_T72 l0_1 x9_1).f0))) (fun _ hk => hk.2) (.int .i64 ((rd_T72 l0_1 x9_1).f1))) (fun _ hk => hk.2) (.int .i64 ((rd_T72 l0_1 x9_1).f2))) (fun _ hk => hk.2) (.bool false)) (fun _ hk => trivial)⟩, ⟨by (with_reducible repeat (first | refine blk_drewN ?_ _ | refine blk_drew ?_ | refine blk_alloc ?_ _)); refine blk_far ?_ NB365_367.out _; (with_reducible repeat (first | refine blk_drewN ?_ _ | refine blk_drew ?_ | refine blk_alloc ?_ _)); refine blk_far ?_ NB365_367.out _; (with_reducible repeat (first | refine blk_drewN ?_ _ | refine blk_drew ?_ | refine blk_alloc ?_ _)); refine blk_far ?_ NB365_367.out _; (with_reducible repeat (first | refine blk_drewN ?_ _ | refine blk_drew ?_ | refine blk_alloc ?_ _)); refine blk_far ?_ NB365_367.out _; (with_reducible repeat (first | refine blk_drewN ?_ _ | refine blk_drew ?_ | refine blk_alloc ?_ _)); exact BK365.out⟩, ⟨qB_⟩⟩
     ·rw [if_neg c6] at H
      exact absurd H (by simp)
    ·rw [if_neg c5] at H
     exact absurd H (by simp)
   ·rw [if_neg c4] at H
    have c4b0 : decide (x9_1 < (l0_1.length : Int)) = false := decide_eq_false c4
    clear c4
    obtain rfl := Option.some.inj H
    go_wp2
    go_ret
    exact ⟨_, qr_, by (with_reducible repeat (first | apply Kd.R_alloc | apply Kd.R_drewN | apply Kd.R_drew)); exact HO_3.out, qB_⟩

end Go.Proofs.Ytbkklafkoegdpaa.QFnExactWebTogether
