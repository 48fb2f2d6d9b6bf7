-- printed for this claim by a program of the session's own (no text of the kit's print)
import Derived.Test.YtbkklafkoegdpaaQFnExactWebLabelsx0
import Derived.Test.YtbkklafkoegdpaaQFnExactWebLabelsx12
namespace Go.Proofs.Ytbkklafkoegdpaa.QFnExactWebLabels
open Go.RowKit Go.Proofs.YtbkklafkoegdpaaW.PrintWords Go.Proofs.YtbkklafkoegdpaaW.PrintLast Go.Proofs.YtbkklafkoegdpaaW.PrintMore
attribute [local go_sem] max2_int min2_int max_two min_two max_three min_three max_four min_four   -- for this text's walks alone
set_option linter.unusedVariables false
set_option linter.unusedSimpArgs false

/-! ### impl_edgesOk: function 111 -/
def impl_edgesOk.l0 : Nat → Int → List (S43) → List (S43) → Int → Int → Option (Bool)
  | 0, _, _, _, _, _ => none
  | k + 1, x0, x1, x7, x8, x9 => if x9 < x8 then (if 0 ≤ x9 then (if x9 < (x7.length : Int) then ((impl_EdgeOk.f x0 ((rd_T43 x7 x9).f0) ((rd_T43 x7 x9).f1)).bind fun t329 => (if t329 = true then (if x9 > 0 then (if 0 ≤ (wrap64 (x9 - 1)) then (if (wrap64 (x9 - 1)) < (x1.length : Int) then ((impl_ahead.f ((rd_T43 x1 (wrap64 (x9 - 1))).f0) ((rd_T43 x1 (wrap64 (x9 - 1))).f1) ((rd_T43 x7 x9).f0) ((rd_T43 x7 x9).f1)).bind fun t331 => (if t331 = true then (impl_edgesOk.l0 k x0 x1 x7 x8 (wrap64 (x9 + 1))) else (some false))) else (none)) else (none)) else (impl_edgesOk.l0 k x0 x1 x7 x8 (wrap64 (x9 + 1)))) else (some false))) else (none)) else (none)) else (some (decide ((x1.length : Int) ≤ 66)))
def impl_edgesOk.f (k : Nat) (a0 : Int) (l1 : List (S43)) : Option (Bool) := impl_edgesOk.l0 k a0 l1 l1 (l1.length : Int) 0
theorem impl_edgesOk.mono_l : ∀ k, (∀ y0 y1 y2 y3 y4, LeO (impl_edgesOk.l0 k y0 y1 y2 y3 y4) (impl_edgesOk.l0 (k + 1) y0 y1 y2 y3 y4))
  | 0 => fun _ _ _ _ _ r h => by simp [impl_edgesOk.l0] at h
  | k + 1 => by
    have ih0 := impl_edgesOk.mono_l k
    · intro y0 y1 y2 y3 y4
      unfold impl_edgesOk.l0
      repeat' first
      | (with_reducible exact ih0 _ _ _ _ _)
      | (with_reducible exact LeO.refl _)
      | (with_reducible exact LeO.none _)
      | (with_reducible refine LeO.ite ?_ ?_)
      | (with_reducible refine LeO.bind ?_ (fun _ => ?_))
      | exact ih0 _ _ _ _ _
      | exact LeO.none _
      | refine LeO.ite ?_ ?_
      | refine LeO.bind ?_ (fun _ => ?_)
theorem impl_edgesOk.mono : ∀ a0 a1 k, LeO (impl_edgesOk.f k a0 a1) (impl_edgesOk.f (k + 1) a0 a1) := by
  intro a0 a1 k
  have ih0 := impl_edgesOk.mono_l k
  unfold impl_edgesOk.f
  repeat' first
      | (with_reducible exact ih0 _ _ _ _ _)
      | (with_reducible exact LeO.refl _)
      | (with_reducible exact LeO.none _)
      | (with_reducible refine LeO.ite ?_ ?_)
      | (with_reducible refine LeO.bind ?_ (fun _ => ?_))
      | exact ih0 _ _ _ _ _
      | exact LeO.none _
      | refine LeO.ite ?_ ?_
      | refine LeO.bind ?_ (fun _ => ?_)
def impl_edgesOk.T4 : Bool × List (List Nat × List Nat) := (true, [([], []), ([], []), ([0, 1], [0, 1]), ([2], [2]), ([3, 2], [3]), ([4], [4]), ([5, 4], [4, 5]), ([6, 4, 4], [4, 6]), ([7], [7]), ([7], [7]), ([9, 7], [7, 9]), ([8, 10, 7], [7, 8, 10]), ([11, 7], [7, 11]), ([7], [7]), ([12, 13, 7, 7], [7, 12, 13]), ([14, 7], [7, 14]), ([7, 15, 4], [4, 7, 15]), ([4, 16], [4, 16])])
def impl_edgesOk.B4 : List Nat := [0, 0, 3, 7, 15, 31, 63, 127, 255, 255, 767, 2047, 4095, 255, 16383, 32767, 65535, 131071]
theorem impl_edgesOk.tab4 : rtab .any (opsOf Try.f111 4) = impl_edgesOk.T4 := by kernel_rfl
theorem impl_edgesOk.bits4 : waitsOk impl_edgesOk.T4.2 impl_edgesOk.B4 = true := by kernel_rfl
set_option maxHeartbeats 8000000 in
set_option maxRecDepth 100000 in
theorem impl_edgesOk.calls (k : Nat) (a0 : Int) (A1 : Option Addr) (c1 : Nat) (l1 : List (S43)) (r : Bool) (w : World) (hr1 : Kd.C k43 w A1 l1.length l1) (hc1 : l1.length ≤ c1) (h : impl_edgesOk.f k a0 l1 = some r) :
  Calls Try.prog 111 #[.int .i64 a0, .slice A1 l1.length c1] w fun e w' => e = .returned (.bool r) ∧ Below w.heap.size w w' := by
 have hu43 := Try.underlying43
 have HR1 := Aside0.mk hr1
 have HC1 := Aside0.mk hc1
 clear hr1 hc1
 have HB := Aside0.mk (Below.refl w.heap.size w)
 have H : (impl_edgesOk.l0 k a0 l1 l1 (l1.length : Int) 0) = some r := h
 clear h; have H' := Aside0.mk H; clear H
 go_enter Try.func111, Try.ntmps111
 go_wp2
 go_loopg [9] k (fun kq v9 w' => ∃ (x9_1 : Int), v9 = .int .i64 x9_1 ∧ Aside0 (impl_edgesOk.l0 kq a0 l1 l1 (l1.length : Int) x9_1 = some r) ∧ Aside0 (kq ≤ k) ∧ Aside0 (Below w.heap.size w w'))
 case atStart => exact ⟨(0), qe_, H', ⟨Nat.le_refl _⟩, ⟨qB_⟩⟩
 case round =>
  clear H'
  (try clear c1); (try clear p2)
  obtain ⟨x9_1, rfl, HA, HK1, HB⟩ := hrel
  cases gk with
  | zero => exact absurd HA.out (by simp [impl_edgesOk.l0])
  | succ k1 =>
   have H := HA.out; clear HA
   simp only [impl_edgesOk.l0] at H
   by_cases c3 : x9_1 < (l1.length : Int)
   ·rw [if_pos c3] at H
    have c3b0 : decide (x9_1 < (l1.length : Int)) = true := decide_eq_true c3
    clear c3
    by_cases c4 : 0 ≤ x9_1
    ·rw [if_pos c4] at H
     have c4b0 : decide (0 ≤ x9_1) = true := decide_eq_true c4
     clear c4
     by_cases c5 : x9_1 < (l1.length : Int)
     ·rw [if_pos c5] at H
      have c5b0 : decide (x9_1 < (l1.length : Int)) = true := decide_eq_true c5
      clear c5
      obtain ⟨t329, A60, H⟩ := Option.bind_eq_some_iff.mp H; have A6 := Aside0.mk A60; clear A60
      by_cases c7 : t329 = true
      ·subst c7
       rw [if_pos rfl] at H
       by_cases c8 : x9_1 > 0
       ·rw [if_pos c8] at H
        have c8b0 : decide (0 < x9_1) = true := decide_eq_true c8
        clear c8
        obtain ⟨ji9, hji9⟩ : ∃ j_ : Int, (wrap64 (x9_1 - 1)) = j_ := ⟨_, rfl⟩
        first | rw [hji9] at H | simp only [hji9] at H
        (try rw [hji9] at A6)
        have hji9w : (IntKind.i64.wrap (x9_1 - 1)) = ji9 := (i64_w _).trans hji9
        by_cases c10 : 0 ≤ (ji9)
        ·rw [if_pos c10] at H
         have c10b0 : decide (0 ≤ (ji9)) = true := decide_eq_true c10
         clear c10
         by_cases c11 : (ji9) < (l1.length : Int)
         ·rw [if_pos c11] at H
          have c11b0 : decide ((ji9) < (l1.length : Int)) = true := decide_eq_true c11
          clear c11
          obtain ⟨t331, A120, H⟩ := Option.bind_eq_some_iff.mp H; have A12 := Aside0.mk A120; clear A120
          by_cases c13 : t331 = true
          ·subst c13
           rw [if_pos rfl] at H; have H' := Aside0.mk H; clear H
           have p327 : 0 ≤ (x9_1 : Int) := of_decide_eq_true qa_
           have q327 : x9_1 < (l1.length : Int) := of_decide_eq_true qa_
           obtain ⟨ad327, e327, hx327_0, hx327_1⟩ := at_T43 HR1.out x9_1 p327 q327
           cases e327
           replace hx327_0 := (HB.out.cell (World.block_lt_of_cell? w _ hx327_0)).trans hx327_0
           replace hx327_1 := (HB.out.cell (World.block_lt_of_cell? w _ hx327_1)).trans hx327_1
           replace p327 := eq_true p327; replace q327 := eq_true q327
           try go_wp2_with (first | ((with_reducible refine gate_dst (N := 6) rfl ?_); refine bx_ 6 (cs := #[.int .i64 0, .int .i64 0]) (t := 43) ?_; intro gb328 hg w14 hbox hb; have BK328 := Aside0.mk (hbox); have GW328 := Aside0.mk ((qs_ : w.heap.size ≤ gb328)); have GE328 := Aside0.mk ((qs_ : w.heap.size ≤ gb328)); replace HB := Aside0.mk (below_step qB_ hb); clear hb hbox hg; obtain ⟨hcz15_0, hcz15_1, hfz15_0, hfz15_1⟩ := bc2_ BK328))
           have n0_ : Aside0 (((w14.setCell ⟨gb328, 0, none⟩ (.int .i64 ((rd_T43 l1 x9_1).f0))).setCell ⟨gb328, 1, none⟩ (.int .i64 ((rd_T43 l1 x9_1).f1))).heap[gb328]? = some (.cells #[.int .i64 ((rd_T43 l1 x9_1).f0), .int .i64 ((rd_T43 l1 x9_1).f1)] 43 (0, 0))) := ⟨by (with_reducible repeat (first | refine blk_drewN ?_ _ | refine blk_drew ?_ | refine blk_alloc ?_ _)); refine blk_put (cs := #[.int .i64 ((rd_T43 l1 x9_1).f0), .int .i64 0]) ?_ 1 _ rfl; (with_reducible repeat (first | refine blk_drewN ?_ _ | refine blk_drew ?_ | refine blk_alloc ?_ _)); refine blk_put (cs := #[.int .i64 0, .int .i64 0]) ?_ 0 _ rfl; (with_reducible repeat (first | refine blk_drewN ?_ _ | refine blk_drew ?_ | refine blk_alloc ?_ _)); exact BK328.out⟩
           have n1_ : Aside0 (Below w.heap.size w ((w14.setCell ⟨gb328, 0, none⟩ (.int .i64 ((rd_T43 l1 x9_1).f0))).setCell ⟨gb328, 1, none⟩ (.int .i64 ((rd_T43 l1 x9_1).f1)))) := ⟨qB_⟩
           (try clear BK328); (try clear HB)
           generalize ((w14.setCell ⟨gb328, 0, none⟩ (.int .i64 ((rd_T43 l1 x9_1).f0))).setCell ⟨gb328, 1, none⟩ (.int .i64 ((rd_T43 l1 x9_1).f1))) = w16 at n0_ n1_ ⊢
           have BK328 := n0_; have HB := n1_; clear n0_ n1_
           have n0_ := Aside0.mk (blk_drew BK328.out)
           have n1_ := Aside0.mk (below_drew1 HB.out)
           clear BK328; clear HB; have BK328 := n0_; have HB := n1_; clear n0_ n1_
           have p330 : 0 ≤ ((ji9) : Int) := of_decide_eq_true qa_
           have q330 : (ji9) < (l1.length : Int) := of_decide_eq_true qa_
           obtain ⟨ad330, e330, hx330_0, hx330_1⟩ := at_T43 HR1.out (ji9) p330 q330
           have hw330_1 := hx330_1; have hw330_0 := hx330_0
           obtain rfl : ad327 = ad330 := (by injection e330)
           replace hx330_0 := (HB.out.cell (World.block_lt_of_cell? w _ hx330_0)).trans hx330_0
           replace hx330_1 := (HB.out.cell (World.block_lt_of_cell? w _ hx330_1)).trans hx330_1
           replace p330 := eq_true p330; replace q330 := eq_true q330
           refine start_ (n := 18) (S := fun w' => w'.cell? ⟨gb328, 0, none⟩ = some (.int .i64 ((rd_T43 l1 x9_1).f0)) ∧ w'.cell? ⟨gb328, 1, none⟩ = some (.int .i64 ((rd_T43 l1 x9_1).f1)) ∧ w'.cell? (ad327.add (((ji9)).toNat * 2)) = some (.int .i64 ((rd_T43 l1 (ji9)).f0)) ∧ w'.cell? ⟨(ad327.add (((ji9)).toNat * 2)).block, (ad327.add (((ji9)).toNat * 2)).off + 1, none⟩ = some (.int .i64 ((rd_T43 l1 (ji9)).f1))) (ds := []) (bm 18 0) (by kernel_rfl) rfl (by kernel_rfl) ⟨(blk_cell BK328.out 0).trans rfl, (blk_cell BK328.out 1).trans rfl, ((HB.out.cell (World.block_lt_of_cell? w _ hw330_0)).trans hw330_0), ((HB.out.cell (World.block_lt_of_cell? w _ hw330_1)).trans hw330_1)⟩ (fun hHeld => ?_); refine with_tabW impl_edgesOk.tab4 impl_edgesOk.bits4 (fun HT_ HW_ => ?_)
           generalize w16.drew = w17 at BK328 HB hx330_0 hx330_1 hHeld ⊢
           refine pz_ 0 14 (bm 18 1) ?_; refine tz4_ 1 15 (bm 18 3) ?_
           refine one_ (i := 2) (N := some 16) (bm 18 7) rfl rfl (one_of HT_.out (by kernel_rfl)) (by decide) (fun K hK => ?_)
           refine goes_ Try.func76 (by kernel_rfl) rfl #[.int .i64 a0, .agg #[.int .i64 ((rd_T43 l1 x9_1).f0), .int .i64 ((rd_T43 l1 x9_1).f1)]] (by rfl) rfl rfl (by (try simp only [List.map_toArray, List.map_cons, List.map_nil]); first | done | rfl | (simp only [List.length_drop, List.length_take]; rfl)) ?_
           with_reducible refine (impl_EdgeOk.calls a0 ((rd_T43 l1 x9_1).f0) ((rd_T43 l1 x9_1).f1) true _ A6.out).mono ?_
           rintro e w18 ⟨rfl, hb⟩
           refine ⟨_, rfl, ?_⟩
           have n0_ := Aside0.mk (blk_below (qk_ BK328) hb)
           have n1_ := Aside0.mk (below_step qB_ hb)
           clear BK328; clear HB; have BK328 := n0_; have HB := n1_; clear n0_ n1_; (try clear hb); (try clear hb2); (try clear hk); (try clear hi)
           refine hK.out _ _ ⟨(blk_cell BK328.out 0).trans rfl, (blk_cell BK328.out 1).trans rfl, ((HB.out.cell (World.block_lt_of_cell? w _ hw330_0)).trans hw330_0), ((HB.out.cell (World.block_lt_of_cell? w _ hw330_1)).trans hw330_1)⟩ (fun hHeld => ?_)
           clear hK K
           refine norm_ (a' := ?_) ?_ ?_
           rotate_left
           ·show Act.put _ (some 16) _ = _
            simp only [Act.put, List.setIfInBounds_toArray, List.set_cons_zero, List.set_cons_succ, i64_w, i32_w]
            rfl
           refine pz_ 3 17 (bm 18 15) ?_; refine pz_ 4 18 (bm 18 31) ?_; refine pz_ 5 19 (bm 18 63) ?_; refine pz_ 6 20 (bm 18 127) ?_; refine pz_ 7 21 (bm 18 255) ?_; refine pz_ 8 22 (bm 18 511) ?_; refine pz_ 9 23 (bm 18 1023) ?_; refine pz_ 10 24 (bm 18 2047) ?_; refine pz_ 11 25 (bm 18 4095) ?_; refine tz4_ 12 26 (bm 18 8191) ?_; refine tz4_ 13 27 (bm 18 16383) ?_
           refine one_ (i := 14) (N := some 28) (bm 18 32767) rfl rfl (one_of HT_.out (by kernel_rfl)) (by decide) (fun K hK => ?_)
           refine goes_ Try.func90 (by kernel_rfl) rfl #[.agg #[.int .i64 ((rd_T43 l1 (ji9)).f0), .int .i64 ((rd_T43 l1 (ji9)).f1)], .agg #[.int .i64 ((rd_T43 l1 x9_1).f0), .int .i64 ((rd_T43 l1 x9_1).f1)]] (by rfl) rfl rfl (by (try simp only [List.map_toArray, List.map_cons, List.map_nil]); first | done | (simp only [hji9]; rfl) | rfl | (simp only [List.length_drop, List.length_take]; rfl)) ?_
           with_reducible refine (impl_ahead.calls ((rd_T43 l1 (ji9)).f0) ((rd_T43 l1 (ji9)).f1) ((rd_T43 l1 x9_1).f0) ((rd_T43 l1 x9_1).f1) true _ A12.out).mono ?_
           rintro e w19 ⟨rfl, hb⟩
           refine ⟨_, rfl, ?_⟩
           have n0_ := Aside0.mk (blk_below (qk_ BK328) hb)
           have n1_ := Aside0.mk (below_step qB_ hb)
           clear BK328; clear HB; have BK328 := n0_; have HB := n1_; clear n0_ n1_; (try clear hb); (try clear hb2); (try clear hk); (try clear hi)
           refine hK.out _ _ ⟨(blk_cell BK328.out 0).trans rfl, (blk_cell BK328.out 1).trans rfl, ((HB.out.cell (World.block_lt_of_cell? w _ hw330_0)).trans hw330_0), ((HB.out.cell (World.block_lt_of_cell? w _ hw330_1)).trans hw330_1)⟩ (fun hHeld => ?_)
           clear hK K
           refine norm_ (a' := ?_) ?_ ?_
           rotate_left
           ·show Act.put _ (some 28) _ = _
            simp only [Act.put, List.setIfInBounds_toArray, List.set_cons_zero, List.set_cons_succ, i64_w, i32_w]
            rfl
           refine pz_ 15 29 (bm 18 65535) ?_; refine pz_ 16 30 (bm 18 131071) ?_; refine pz_ 17 31 (bm 18 262143) ?_
           refine done_ (done_of HT_.out (by kernel_rfl)) ?_
           try go_wp2
           go_roundg k1
           case measure => have := HK1.out; omega
           case rel => exact ⟨(wrap64 (x9_1 + 1)), qe_, H', ⟨by have := HK1.out; omega⟩, ⟨qB_⟩⟩
          ·replace c13 := Bool.eq_false_iff.mpr c13
           subst c13
           rw [if_neg (show ¬ (false = true) by decide)] at H
           obtain rfl := Option.some.inj H
           have p327 : 0 ≤ (x9_1 : Int) := of_decide_eq_true qa_
           have q327 : x9_1 < (l1.length : Int) := of_decide_eq_true qa_
           obtain ⟨ad327, e327, hx327_0, hx327_1⟩ := at_T43 HR1.out x9_1 p327 q327
           cases e327
           replace hx327_0 := (HB.out.cell (World.block_lt_of_cell? w _ hx327_0)).trans hx327_0
           replace hx327_1 := (HB.out.cell (World.block_lt_of_cell? w _ hx327_1)).trans hx327_1
           replace p327 := eq_true p327; replace q327 := eq_true q327
           try go_wp2_with (first | ((with_reducible refine gate_dst (N := 6) rfl ?_); refine bx_ 6 (cs := #[.int .i64 0, .int .i64 0]) (t := 43) ?_; intro gb328 hg w20 hbox hb; have BK328 := Aside0.mk (hbox); have GW328 := Aside0.mk ((qs_ : w.heap.size ≤ gb328)); have GE328 := Aside0.mk ((qs_ : w.heap.size ≤ gb328)); replace HB := Aside0.mk (below_step qB_ hb); clear hb hbox hg; obtain ⟨hcz21_0, hcz21_1, hfz21_0, hfz21_1⟩ := bc2_ BK328))
           have n0_ : Aside0 (((w20.setCell ⟨gb328, 0, none⟩ (.int .i64 ((rd_T43 l1 x9_1).f0))).setCell ⟨gb328, 1, none⟩ (.int .i64 ((rd_T43 l1 x9_1).f1))).heap[gb328]? = some (.cells #[.int .i64 ((rd_T43 l1 x9_1).f0), .int .i64 ((rd_T43 l1 x9_1).f1)] 43 (0, 0))) := ⟨by (with_reducible repeat (first | refine blk_drewN ?_ _ | refine blk_drew ?_ | refine blk_alloc ?_ _)); refine blk_put (cs := #[.int .i64 ((rd_T43 l1 x9_1).f0), .int .i64 0]) ?_ 1 _ rfl; (with_reducible repeat (first | refine blk_drewN ?_ _ | refine blk_drew ?_ | refine blk_alloc ?_ _)); refine blk_put (cs := #[.int .i64 0, .int .i64 0]) ?_ 0 _ rfl; (with_reducible repeat (first | refine blk_drewN ?_ _ | refine blk_drew ?_ | refine blk_alloc ?_ _)); exact BK328.out⟩
           have n1_ : Aside0 (Below w.heap.size w ((w20.setCell ⟨gb328, 0, none⟩ (.int .i64 ((rd_T43 l1 x9_1).f0))).setCell ⟨gb328, 1, none⟩ (.int .i64 ((rd_T43 l1 x9_1).f1)))) := ⟨qB_⟩
           (try clear BK328); (try clear HB)
           generalize ((w20.setCell ⟨gb328, 0, none⟩ (.int .i64 ((rd_T43 l1 x9_1).f0))).setCell ⟨gb328, 1, none⟩ (.int .i64 ((rd_T43 l1 x9_1).f1))) = w22 at n0_ n1_ ⊢
           have BK328 := n0_; have HB := n1_; clear n0_ n1_
           have n0_ := Aside0.mk (blk_drew BK328.out)
           have n1_ := Aside0.mk (below_drew1 HB.out)
           clear BK328; clear HB; have BK328 := n0_; have HB := n1_; clear n0_ n1_
           have p330 : 0 ≤ ((ji9) : Int) := of_decide_eq_true qa_
           have q330 : (ji9) < (l1.length : Int) := of_decide_eq_true qa_
           obtain ⟨ad330, e330, hx330_0, hx330_1⟩ := at_T43 HR1.out (ji9) p330 q330
           have hw330_1 := hx330_1; have hw330_0 := hx330_0
           obtain rfl : ad327 = ad330 := (by injection e330)
           replace hx330_0 := (HB.out.cell (World.block_lt_of_cell? w _ hx330_0)).trans hx330_0
           replace hx330_1 := (HB.out.cell (World.block_lt_of_cell? w _ hx330_1)).trans hx330_1
           replace p330 := eq_true p330; replace q330 := eq_true q330
           refine start_ (n := 18) (S := fun w' => w'.cell? ⟨gb328, 0, none⟩ = some (.int .i64 ((rd_T43 l1 x9_1).f0)) ∧ w'.cell? ⟨gb328, 1, none⟩ = some (.int .i64 ((rd_T43 l1 x9_1).f1)) ∧ w'.cell? (ad327.add (((ji9)).toNat * 2)) = some (.int .i64 ((rd_T43 l1 (ji9)).f0)) ∧ w'.cell? ⟨(ad327.add (((ji9)).toNat * 2)).block, (ad327.add (((ji9)).toNat * 2)).off + 1, none⟩ = some (.int .i64 ((rd_T43 l1 (ji9)).f1))) (ds := []) (bm 18 0) (by kernel_rfl) rfl (by kernel_rfl) ⟨(blk_cell BK328.out 0).trans rfl, (blk_cell BK328.out 1).trans rfl, ((HB.out.cell (World.block_lt_of_cell? w _ hw330_0)).trans hw330_0), ((HB.out.cell (World.block_lt_of_cell? w _ hw330_1)).trans hw330_1)⟩ (fun hHeld => ?_); refine with_tabW impl_edgesOk.tab4 impl_edgesOk.bits4 (fun HT_ HW_ => ?_)
           generalize w22.drew = w23 at BK328 HB hx330_0 hx330_1 hHeld ⊢
           refine pz_ 0 14 (bm 18 1) ?_; refine tz4_ 1 15 (bm 18 3) ?_
           refine one_ (i := 2) (N := some 16) (bm 18 7) rfl rfl (one_of HT_.out (by kernel_rfl)) (by decide) (fun K hK => ?_)
           refine goes_ Try.func76 (by kernel_rfl) rfl #[.int .i64 a0, .agg #[.int .i64 ((rd_T43 l1 x9_1).f0), .int .i64 ((rd_T43 l1 x9_1).f1)]] (by rfl) rfl rfl (by (try simp only [List.map_toArray, List.map_cons, List.map_nil]); first | done | rfl | (simp only [List.length_drop, List.length_take]; rfl)) ?_
           with_reducible refine (impl_EdgeOk.calls a0 ((rd_T43 l1 x9_1).f0) ((rd_T43 l1 x9_1).f1) true _ A6.out).mono ?_
           rintro e w24 ⟨rfl, hb⟩
           refine ⟨_, rfl, ?_⟩
           have n0_ := Aside0.mk (blk_below (qk_ BK328) hb)
           have n1_ := Aside0.mk (below_step qB_ hb)
           clear BK328; clear HB; have BK328 := n0_; have HB := n1_; clear n0_ n1_; (try clear hb); (try clear hb2); (try clear hk); (try clear hi)
           refine hK.out _ _ ⟨(blk_cell BK328.out 0).trans rfl, (blk_cell BK328.out 1).trans rfl, ((HB.out.cell (World.block_lt_of_cell? w _ hw330_0)).trans hw330_0), ((HB.out.cell (World.block_lt_of_cell? w _ hw330_1)).trans hw330_1)⟩ (fun hHeld => ?_)
           clear hK K
           refine norm_ (a' := ?_) ?_ ?_
           rotate_left
           ·show Act.put _ (some 16) _ = _
            simp only [Act.put, List.setIfInBounds_toArray, List.set_cons_zero, List.set_cons_succ, i64_w, i32_w]
            rfl
           refine pz_ 3 17 (bm 18 15) ?_; refine pz_ 4 18 (bm 18 31) ?_; refine pz_ 5 19 (bm 18 63) ?_; refine pz_ 6 20 (bm 18 127) ?_; refine pz_ 7 21 (bm 18 255) ?_; refine pz_ 8 22 (bm 18 511) ?_; refine pz_ 9 23 (bm 18 1023) ?_; refine pz_ 10 24 (bm 18 2047) ?_; refine pz_ 11 25 (bm 18 4095) ?_; refine tz4_ 12 26 (bm 18 8191) ?_; refine tz4_ 13 27 (bm 18 16383) ?_
           refine one_ (i := 14) (N := some 28) (bm 18 32767) rfl rfl (one_of HT_.out (by kernel_rfl)) (by decide) (fun K hK => ?_)
           refine goes_ Try.func90 (by kernel_rfl) rfl #[.agg #[.int .i64 ((rd_T43 l1 (ji9)).f0), .int .i64 ((rd_T43 l1 (ji9)).f1)], .agg #[.int .i64 ((rd_T43 l1 x9_1).f0), .int .i64 ((rd_T43 l1 x9_1).f1)]] (by rfl) rfl rfl (by (try simp only [List.map_toArray, List.map_cons, List.map_nil]); first | done | (simp only [hji9]; rfl) | rfl | (simp only [List.length_drop, List.length_take]; rfl)) ?_
           with_reducible refine (impl_ahead.calls ((rd_T43 l1 (ji9)).f0) ((rd_T43 l1 (ji9)).f1) ((rd_T43 l1 x9_1).f0) ((rd_T43 l1 x9_1).f1) false _ A12.out).mono ?_
           rintro e w25 ⟨rfl, hb⟩
           refine ⟨_, rfl, ?_⟩
           have n0_ := Aside0.mk (blk_below (qk_ BK328) hb)
           have n1_ := Aside0.mk (below_step qB_ hb)
           clear BK328; clear HB; have BK328 := n0_; have HB := n1_; clear n0_ n1_; (try clear hb); (try clear hb2); (try clear hk); (try clear hi)
           refine hK.out _ _ ⟨(blk_cell BK328.out 0).trans rfl, (blk_cell BK328.out 1).trans rfl, ((HB.out.cell (World.block_lt_of_cell? w _ hw330_0)).trans hw330_0), ((HB.out.cell (World.block_lt_of_cell? w _ hw330_1)).trans hw330_1)⟩ (fun hHeld => ?_)
           clear hK K
           refine norm_ (a' := ?_) ?_ ?_
           rotate_left
           ·show Act.put _ (some 28) _ = _
            simp only [Act.put, List.setIfInBounds_toArray, List.set_cons_zero, List.set_cons_succ, i64_w, i32_w]
            rfl
           refine pz_ 15 29 (bm 18 65535) ?_; refine pz_ 16 30 (bm 18 131071) ?_; refine pz_ 17 31 (bm 18 262143) ?_
           refine done_ (done_of HT_.out (by kernel_rfl)) ?_
           try go_wp2
           go_ret
           exact ⟨by first | rfl | (simp [errW_none, errW_some] <;> rfl) | (simp only [← hji9]; first | rfl | (simp [errW_none, errW_some] <;> rfl)) | (simp [*, errW_none, errW_some] <;> rfl), qB_⟩
         ·rw [if_neg c11] at H
          exact absurd H (by simp)
        ·rw [if_neg c10] at H
         exact absurd H (by simp)
       ·rw [if_neg c8] at H
        have c8b0 : decide (0 < x9_1) = false := decide_eq_false c8
        clear c8; have H' := Aside0.mk H; clear H
        have p327 : 0 ≤ (x9_1 : Int) := of_decide_eq_true qa_
        have q327 : x9_1 < (l1.length : Int) := of_decide_eq_true qa_
        obtain ⟨ad327, e327, hx327_0, hx327_1⟩ := at_T43 HR1.out x9_1 p327 q327
        cases e327
        replace hx327_0 := (HB.out.cell (World.block_lt_of_cell? w _ hx327_0)).trans hx327_0
        replace hx327_1 := (HB.out.cell (World.block_lt_of_cell? w _ hx327_1)).trans hx327_1
        replace p327 := eq_true p327; replace q327 := eq_true q327
        try go_wp2_with (first | ((with_reducible refine gate_dst (N := 6) rfl ?_); refine bx_ 6 (cs := #[.int .i64 0, .int .i64 0]) (t := 43) ?_; intro gb328 hg w26 hbox hb; have BK328 := Aside0.mk (hbox); have GW328 := Aside0.mk ((qs_ : w.heap.size ≤ gb328)); have GE328 := Aside0.mk ((qs_ : w.heap.size ≤ gb328)); replace HB := Aside0.mk (below_step qB_ hb); clear hb hbox hg; obtain ⟨hcz27_0, hcz27_1, hfz27_0, hfz27_1⟩ := bc2_ BK328))
        have n0_ : Aside0 (((w26.setCell ⟨gb328, 0, none⟩ (.int .i64 ((rd_T43 l1 x9_1).f0))).setCell ⟨gb328, 1, none⟩ (.int .i64 ((rd_T43 l1 x9_1).f1))).heap[gb328]? = some (.cells #[.int .i64 ((rd_T43 l1 x9_1).f0), .int .i64 ((rd_T43 l1 x9_1).f1)] 43 (0, 0))) := ⟨by (with_reducible repeat (first | refine blk_drewN ?_ _ | refine blk_drew ?_ | refine blk_alloc ?_ _)); refine blk_put (cs := #[.int .i64 ((rd_T43 l1 x9_1).f0), .int .i64 0]) ?_ 1 _ rfl; (with_reducible repeat (first | refine blk_drewN ?_ _ | refine blk_drew ?_ | refine blk_alloc ?_ _)); refine blk_put (cs := #[.int .i64 0, .int .i64 0]) ?_ 0 _ rfl; (with_reducible repeat (first | refine blk_drewN ?_ _ | refine blk_drew ?_ | refine blk_alloc ?_ _)); exact BK328.out⟩
        have n1_ : Aside0 (Below w.heap.size w ((w26.setCell ⟨gb328, 0, none⟩ (.int .i64 ((rd_T43 l1 x9_1).f0))).setCell ⟨gb328, 1, none⟩ (.int .i64 ((rd_T43 l1 x9_1).f1)))) := ⟨qB_⟩
        (try clear BK328); (try clear HB)
        generalize ((w26.setCell ⟨gb328, 0, none⟩ (.int .i64 ((rd_T43 l1 x9_1).f0))).setCell ⟨gb328, 1, none⟩ (.int .i64 ((rd_T43 l1 x9_1).f1))) = w28 at n0_ n1_ ⊢
        have BK328 := n0_; have HB := n1_; clear n0_ n1_
        have n0_ := Aside0.mk (blk_drew BK328.out)
        have n1_ := Aside0.mk (below_drew1 HB.out)
        clear BK328; clear HB; have BK328 := n0_; have HB := n1_; clear n0_ n1_
        refine start_ (n := 18) (S := fun w' => w'.cell? ⟨gb328, 0, none⟩ = some (.int .i64 ((rd_T43 l1 x9_1).f0)) ∧ w'.cell? ⟨gb328, 1, none⟩ = some (.int .i64 ((rd_T43 l1 x9_1).f1))) (ds := []) (bm 18 0) (by kernel_rfl) rfl (by kernel_rfl) ⟨(blk_cell BK328.out 0).trans rfl, (blk_cell BK328.out 1).trans rfl⟩ (fun hHeld => ?_); refine with_tabW impl_edgesOk.tab4 impl_edgesOk.bits4 (fun HT_ HW_ => ?_)
        generalize w28.drew = w29 at BK328 HB hHeld ⊢
        refine pz_ 0 14 (bm 18 1) ?_; refine tz2_ 1 15 (bm 18 3) ?_
        refine one_ (i := 2) (N := some 16) (bm 18 7) rfl rfl (one_of HT_.out (by kernel_rfl)) (by decide) (fun K hK => ?_)
        refine goes_ Try.func76 (by kernel_rfl) rfl #[.int .i64 a0, .agg #[.int .i64 ((rd_T43 l1 x9_1).f0), .int .i64 ((rd_T43 l1 x9_1).f1)]] (by rfl) rfl rfl (by (try simp only [List.map_toArray, List.map_cons, List.map_nil]); first | done | rfl | (simp only [List.length_drop, List.length_take]; rfl)) ?_
        with_reducible refine (impl_EdgeOk.calls a0 ((rd_T43 l1 x9_1).f0) ((rd_T43 l1 x9_1).f1) true _ A6.out).mono ?_
        rintro e w30 ⟨rfl, hb⟩
        refine ⟨_, rfl, ?_⟩
        have n0_ := Aside0.mk (blk_below (qk_ BK328) hb)
        have n1_ := Aside0.mk (below_step qB_ hb)
        clear BK328; clear HB; have BK328 := n0_; have HB := n1_; clear n0_ n1_; (try clear hb); (try clear hb2); (try clear hk); (try clear hi)
        refine hK.out _ _ ⟨(blk_cell BK328.out 0).trans rfl, (blk_cell BK328.out 1).trans rfl⟩ (fun hHeld => ?_)
        clear hK K
        refine norm_ (a' := ?_) ?_ ?_
        rotate_left
        ·show Act.put _ (some 16) _ = _
         simp only [Act.put, List.setIfInBounds_toArray, List.set_cons_zero, List.set_cons_succ, i64_w, i32_w]
         rfl
        refine pz_ 3 17 (bm 18 15) ?_; refine pz_ 4 18 (bm 18 31) ?_; refine pz_ 5 19 (bm 18 63) ?_; refine pz_ 6 20 (bm 18 127) ?_; refine pz_ 7 21 (bm 18 255) ?_
        refine pure_ (i := 8) (N := some 22) (v := undef) (a' := ?_) (bm 18 511) rfl rfl (any_of HT_.out (by kernel_rfl)) (fun _ _ _ h => h) (Or.inr ⟨by rfl, rfl⟩) ?_ ?_
        rotate_left
        ·simp only [Act.put, List.setIfInBounds_toArray, List.set_cons_zero, List.set_cons_succ, i64_w, i32_w]
         rfl
        refine pure_ (i := 9) (N := some 23) (v := undef) (a' := ?_) (bm 18 1023) rfl rfl (any_of HT_.out (by kernel_rfl)) (fun _ _ _ h => h) (Or.inr ⟨by rfl, rfl⟩) ?_ ?_
        rotate_left
        ·simp only [Act.put, List.setIfInBounds_toArray, List.set_cons_zero, List.set_cons_succ, i64_w, i32_w]
         rfl
        refine pure_ (i := 10) (N := some 24) (v := undef) (a' := ?_) (bm 18 2047) rfl rfl (any_of HT_.out (by kernel_rfl)) (fun _ _ _ h => h) (Or.inr ⟨by rfl, rfl⟩) ?_ ?_
        rotate_left
        ·simp only [Act.put, List.setIfInBounds_toArray, List.set_cons_zero, List.set_cons_succ, i64_w, i32_w]
         rfl
        refine pure_ (i := 11) (N := some 25) (v := undef) (a' := ?_) (bm 18 4095) rfl rfl (any_of HT_.out (by kernel_rfl)) (fun _ _ _ h => h) (Or.inr ⟨by rfl, rfl⟩) ?_ ?_
        rotate_left
        ·simp only [Act.put, List.setIfInBounds_toArray, List.set_cons_zero, List.set_cons_succ, i64_w, i32_w]
         rfl
        refine pure_ (i := 12) (N := some 26) (v := undef) (a' := ?_) (bm 18 8191) rfl rfl (any_of HT_.out (by kernel_rfl)) (fun _ _ _ h => h) (Or.inr ⟨by rfl, rfl⟩) ?_ ?_
        rotate_left
        ·simp only [Act.put, List.setIfInBounds_toArray, List.set_cons_zero, List.set_cons_succ, i64_w, i32_w]
         rfl
        refine pure_ (i := 13) (N := some 27) (v := undef) (a' := ?_) (bm 18 16383) rfl rfl (any_of HT_.out (by kernel_rfl)) (fun _ _ _ h => h) (Or.inr ⟨by rfl, rfl⟩) ?_ ?_
        rotate_left
        ·simp only [Act.put, List.setIfInBounds_toArray, List.set_cons_zero, List.set_cons_succ, i64_w, i32_w]
         rfl
        refine pure_ (i := 14) (N := some 28) (v := undef) (a' := ?_) (bm 18 32767) rfl rfl (any_of HT_.out (by kernel_rfl)) (fun _ _ _ h => h) (Or.inr ⟨by rfl, rfl⟩) ?_ ?_
        rotate_left
        ·simp only [Act.put, List.setIfInBounds_toArray, List.set_cons_zero, List.set_cons_succ, i64_w, i32_w]
         rfl
        refine pure_ (i := 15) (N := some 29) (v := undef) (a' := ?_) (bm 18 65535) rfl rfl (any_of HT_.out (by kernel_rfl)) (fun _ _ _ h => h) (Or.inr ⟨by rfl, rfl⟩) ?_ ?_
        rotate_left
        ·simp only [Act.put, List.setIfInBounds_toArray, List.set_cons_zero, List.set_cons_succ, i64_w, i32_w]
         rfl
        refine pz_ 16 30 (bm 18 131071) ?_; refine pz_ 17 31 (bm 18 262143) ?_
        refine done_ (done_of HT_.out (by kernel_rfl)) ?_
        try go_wp2
        go_roundg k1
        case measure => have := HK1.out; omega
        case rel => exact ⟨(wrap64 (x9_1 + 1)), qe_, H', ⟨by have := HK1.out; omega⟩, ⟨qB_⟩⟩
      ·replace c7 := Bool.eq_false_iff.mpr c7
       subst c7
       rw [if_neg (show ¬ (false = true) by decide)] at H
       obtain rfl := Option.some.inj H
       have p327 : 0 ≤ (x9_1 : Int) := of_decide_eq_true qa_
       have q327 : x9_1 < (l1.length : Int) := of_decide_eq_true qa_
       obtain ⟨ad327, e327, hx327_0, hx327_1⟩ := at_T43 HR1.out x9_1 p327 q327
       cases e327
       replace hx327_0 := (HB.out.cell (World.block_lt_of_cell? w _ hx327_0)).trans hx327_0
       replace hx327_1 := (HB.out.cell (World.block_lt_of_cell? w _ hx327_1)).trans hx327_1
       replace p327 := eq_true p327; replace q327 := eq_true q327
       try go_wp2_with (first | ((with_reducible refine gate_dst (N := 6) rfl ?_); refine bx_ 6 (cs := #[.int .i64 0, .int .i64 0]) (t := 43) ?_; intro gb328 hg w31 hbox hb; have BK328 := Aside0.mk (hbox); have GW328 := Aside0.mk ((qs_ : w.heap.size ≤ gb328)); have GE328 := Aside0.mk ((qs_ : w.heap.size ≤ gb328)); replace HB := Aside0.mk (below_step qB_ hb); clear hb hbox hg; obtain ⟨hcz32_0, hcz32_1, hfz32_0, hfz32_1⟩ := bc2_ BK328))
       have n0_ : Aside0 (((w31.setCell ⟨gb328, 0, none⟩ (.int .i64 ((rd_T43 l1 x9_1).f0))).setCell ⟨gb328, 1, none⟩ (.int .i64 ((rd_T43 l1 x9_1).f1))).heap[gb328]? = some (.cells #[.int .i64 ((rd_T43 l1 x9_1).f0), .int .i64 ((rd_T43 l1 x9_1).f1)] 43 (0, 0))) := ⟨by (with_reducible repeat (first | refine blk_drewN ?_ _ | refine blk_drew ?_ | refine blk_alloc ?_ _)); refine blk_put (cs := #[.int .i64 ((rd_T43 l1 x9_1).f0), .int .i64 0]) ?_ 1 _ rfl; (with_reducible repeat (first | refine blk_drewN ?_ _ | refine blk_drew ?_ | refine blk_alloc ?_ _)); refine blk_put (cs := #[.int .i64 0, .int .i64 0]) ?_ 0 _ rfl; (with_reducible repeat (first | refine blk_drewN ?_ _ | refine blk_drew ?_ | refine blk_alloc ?_ _)); exact BK328.out⟩
       have n1_ : Aside0 (Below w.heap.size w ((w31.setCell ⟨gb328, 0, none⟩ (.int .i64 ((rd_T43 l1 x9_1).f0))).setCell ⟨gb328, 1, none⟩ (.int .i64 ((rd_T43 l1 x9_1).f1)))) := ⟨qB_⟩
       (try clear BK328); (try clear HB)
       generalize ((w31.setCell ⟨gb328, 0, none⟩ (.int .i64 ((rd_T43 l1 x9_1).f0))).setCell ⟨gb328, 1, none⟩ (.int .i64 ((rd_T43 l1 x9_1).f1))) = w33 at n0_ n1_ ⊢
       have BK328 := n0_; have HB := n1_; clear n0_ n1_
       have n0_ := Aside0.mk (blk_drew BK328.out)
       have n1_ := Aside0.mk (below_drew1 HB.out)
       clear BK328; clear HB; have BK328 := n0_; have HB := n1_; clear n0_ n1_
       refine start_ (n := 18) (S := fun w' => w'.cell? ⟨gb328, 0, none⟩ = some (.int .i64 ((rd_T43 l1 x9_1).f0)) ∧ w'.cell? ⟨gb328, 1, none⟩ = some (.int .i64 ((rd_T43 l1 x9_1).f1))) (ds := []) (bm 18 0) (by kernel_rfl) rfl (by kernel_rfl) ⟨(blk_cell BK328.out 0).trans rfl, (blk_cell BK328.out 1).trans rfl⟩ (fun hHeld => ?_); refine with_tabW impl_edgesOk.tab4 impl_edgesOk.bits4 (fun HT_ HW_ => ?_)
       generalize w33.drew = w34 at BK328 HB hHeld ⊢
       refine pz_ 0 14 (bm 18 1) ?_; refine tz2_ 1 15 (bm 18 3) ?_
       refine one_ (i := 2) (N := some 16) (bm 18 7) rfl rfl (one_of HT_.out (by kernel_rfl)) (by decide) (fun K hK => ?_)
       refine goes_ Try.func76 (by kernel_rfl) rfl #[.int .i64 a0, .agg #[.int .i64 ((rd_T43 l1 x9_1).f0), .int .i64 ((rd_T43 l1 x9_1).f1)]] (by rfl) rfl rfl (by (try simp only [List.map_toArray, List.map_cons, List.map_nil]); first | done | rfl | (simp only [List.length_drop, List.length_take]; rfl)) ?_
       with_reducible refine (impl_EdgeOk.calls a0 ((rd_T43 l1 x9_1).f0) ((rd_T43 l1 x9_1).f1) false _ A6.out).mono ?_
       rintro e w35 ⟨rfl, hb⟩
       refine ⟨_, rfl, ?_⟩
       have n0_ := Aside0.mk (blk_below (qk_ BK328) hb)
       have n1_ := Aside0.mk (below_step qB_ hb)
       clear BK328; clear HB; have BK328 := n0_; have HB := n1_; clear n0_ n1_; (try clear hb); (try clear hb2); (try clear hk); (try clear hi)
       refine hK.out _ _ ⟨(blk_cell BK328.out 0).trans rfl, (blk_cell BK328.out 1).trans rfl⟩ (fun hHeld => ?_)
       clear hK K
       refine norm_ (a' := ?_) ?_ ?_
       rotate_left
       ·show Act.put _ (some 16) _ = _
        simp only [Act.put, List.setIfInBounds_toArray, List.set_cons_zero, List.set_cons_succ, i64_w, i32_w]
        rfl
       refine pz_ 3 17 (bm 18 15) ?_; refine pz_ 4 18 (bm 18 31) ?_
       refine pure_ (i := 5) (N := some 19) (v := undef) (a' := ?_) (bm 18 63) rfl rfl (any_of HT_.out (by kernel_rfl)) (fun _ _ _ h => h) (Or.inr ⟨by rfl, rfl⟩) ?_ ?_
       rotate_left
       ·simp only [Act.put, List.setIfInBounds_toArray, List.set_cons_zero, List.set_cons_succ, i64_w, i32_w]
        rfl
       refine pure_ (i := 6) (N := some 20) (v := undef) (a' := ?_) (bm 18 127) rfl rfl (any_of HT_.out (by kernel_rfl)) (fun _ _ _ h => h) (Or.inr ⟨by rfl, rfl⟩) ?_ ?_
       rotate_left
       ·simp only [Act.put, List.setIfInBounds_toArray, List.set_cons_zero, List.set_cons_succ, i64_w, i32_w]
        rfl
       refine pure_ (i := 7) (N := some 21) (v := undef) (a' := ?_) (bm 18 255) rfl rfl (any_of HT_.out (by kernel_rfl)) (fun _ _ _ h => h) (Or.inr ⟨by rfl, rfl⟩) ?_ ?_
       rotate_left
       ·simp only [Act.put, List.setIfInBounds_toArray, List.set_cons_zero, List.set_cons_succ, i64_w, i32_w]
        rfl
       refine pure_ (i := 8) (N := some 22) (v := undef) (a' := ?_) (bm 18 511) rfl rfl (any_of HT_.out (by kernel_rfl)) (fun _ _ _ h => h) (Or.inr ⟨by rfl, rfl⟩) ?_ ?_
       rotate_left
       ·simp only [Act.put, List.setIfInBounds_toArray, List.set_cons_zero, List.set_cons_succ, i64_w, i32_w]
        rfl
       refine pure_ (i := 9) (N := some 23) (v := undef) (a' := ?_) (bm 18 1023) rfl rfl (any_of HT_.out (by kernel_rfl)) (fun _ _ _ h => h) (Or.inr ⟨by rfl, rfl⟩) ?_ ?_
       rotate_left
       ·simp only [Act.put, List.setIfInBounds_toArray, List.set_cons_zero, List.set_cons_succ, i64_w, i32_w]
        rfl
       refine pure_ (i := 10) (N := some 24) (v := undef) (a' := ?_) (bm 18 2047) rfl rfl (any_of HT_.out (by kernel_rfl)) (fun _ _ _ h => h) (Or.inr ⟨by rfl, rfl⟩) ?_ ?_
       rotate_left
       ·simp only [Act.put, List.setIfInBounds_toArray, List.set_cons_zero, List.set_cons_succ, i64_w, i32_w]
        rfl
       refine pure_ (i := 11) (N := some 25) (v := undef) (a' := ?_) (bm 18 4095) rfl rfl (any_of HT_.out (by kernel_rfl)) (fun _ _ _ h => h) (Or.inr ⟨by rfl, rfl⟩) ?_ ?_
       rotate_left
       ·simp only [Act.put, List.setIfInBounds_toArray, List.set_cons_zero, List.set_cons_succ, i64_w, i32_w]
        rfl
       refine pure_ (i := 12) (N := some 26) (v := undef) (a' := ?_) (bm 18 8191) rfl rfl (any_of HT_.out (by kernel_rfl)) (fun _ _ _ h => h) (Or.inr ⟨by rfl, rfl⟩) ?_ ?_
       rotate_left
       ·simp only [Act.put, List.setIfInBounds_toArray, List.set_cons_zero, List.set_cons_succ, i64_w, i32_w]
        rfl
       refine pure_ (i := 13) (N := some 27) (v := undef) (a' := ?_) (bm 18 16383) rfl rfl (any_of HT_.out (by kernel_rfl)) (fun _ _ _ h => h) (Or.inr ⟨by rfl, rfl⟩) ?_ ?_
       rotate_left
       ·simp only [Act.put, List.setIfInBounds_toArray, List.set_cons_zero, List.set_cons_succ, i64_w, i32_w]
        rfl
       refine pure_ (i := 14) (N := some 28) (v := undef) (a' := ?_) (bm 18 32767) rfl rfl (any_of HT_.out (by kernel_rfl)) (fun _ _ _ h => h) (Or.inr ⟨by rfl, rfl⟩) ?_ ?_
       rotate_left
       ·simp only [Act.put, List.setIfInBounds_toArray, List.set_cons_zero, List.set_cons_succ, i64_w, i32_w]
        rfl
       refine pure_ (i := 15) (N := some 29) (v := undef) (a' := ?_) (bm 18 65535) rfl rfl (any_of HT_.out (by kernel_rfl)) (fun _ _ _ h => h) (Or.inr ⟨by rfl, rfl⟩) ?_ ?_
       rotate_left
       ·simp only [Act.put, List.setIfInBounds_toArray, List.set_cons_zero, List.set_cons_succ, i64_w, i32_w]
        rfl
       refine pure_ (i := 16) (N := some 30) (v := undef) (a' := ?_) (bm 18 131071) rfl rfl (any_of HT_.out (by kernel_rfl)) (fun _ _ _ h => h) (Or.inr ⟨by rfl, rfl⟩) ?_ ?_
       rotate_left
       ·simp only [Act.put, List.setIfInBounds_toArray, List.set_cons_zero, List.set_cons_succ, i64_w, i32_w]
        rfl
       refine pz_ 17 31 (bm 18 262143) ?_
       refine done_ (done_of HT_.out (by kernel_rfl)) ?_
       try go_wp2
       go_ret
       exact ⟨qr_, qB_⟩
     ·rw [if_neg c5] at H
      exact absurd H (by simp)
    ·rw [if_neg c4] at H
     exact absurd H (by simp)
   ·rw [if_neg c3] at H
    have c3b0 : decide (x9_1 < (l1.length : Int)) = false := decide_eq_false c3
    clear c3
    obtain rfl := Option.some.inj H
    go_wp2
    go_ret
    exact ⟨qr_, qB_⟩

end Go.Proofs.Ytbkklafkoegdpaa.QFnExactWebLabels
