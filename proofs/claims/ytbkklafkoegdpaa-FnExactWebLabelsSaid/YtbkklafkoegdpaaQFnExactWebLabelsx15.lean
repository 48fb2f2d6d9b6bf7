-- printed for this claim by a program of the session's own (no text of the kit's print)
import Derived.Test.YtbkklafkoegdpaaQFnExactWebLabelsx0
import Derived.Test.YtbkklafkoegdpaaQFnExactWebLabelsx14
namespace Go.Proofs.Ytbkklafkoegdpaa.QFnExactWebLabels
open Go.RowKit Go.Proofs.YtbkklafkoegdpaaW.PrintWords Go.Proofs.YtbkklafkoegdpaaW.PrintLast Go.Proofs.YtbkklafkoegdpaaW.PrintMore
attribute [local go_sem] max2_int min2_int max_two min_two max_three min_three max_four min_four   -- for this text's walks alone
set_option linter.unusedVariables false
set_option linter.unusedSimpArgs false

/-! ### impl_forest: function 102 -/
def impl_forest.l0 : Nat → Int → List (S43) → List (S72) → Int → Int → Option ((List (S43)))
  | 0, _, _, _, _, _ => none
  | k + 1, x1, x5, x9, x10, x11 => if x11 < x10 then (if 0 ≤ x11 then (if x11 < (x9.length : Int) then (if (rd_T72 x9 x11).f3 = true then (if ((rd_T72 x9 x11).f2) ≥ x1 then (if x5.length < 8796093022208 then (impl_forest.l0 k x1 (x5 ++ [(⟨(rd_T72 x9 x11).f0, (rd_T72 x9 x11).f1⟩ : S43)]) x9 x10 (wrap64 (x11 + 1))) else (none)) else (impl_forest.l0 k x1 x5 x9 x10 (wrap64 (x11 + 1)))) else (impl_forest.l0 k x1 x5 x9 x10 (wrap64 (x11 + 1)))) else (none)) else (none)) else (some x5)
def impl_forest.f (k : Nat) (a0_0 : Int) (l0_1 : List (S72)) (a1 : Int) : Option ((List (S43))) := impl_forest.l0 k a1 ([] : List (S43)) l0_1 (l0_1.length : Int) 0
theorem impl_forest.mono_l : ∀ k, (∀ y0 y1 y2 y3 y4, LeO (impl_forest.l0 k y0 y1 y2 y3 y4) (impl_forest.l0 (k + 1) y0 y1 y2 y3 y4))
  | 0 => fun _ _ _ _ _ r h => by simp [impl_forest.l0] at h
  | k + 1 => by
    have ih0 := impl_forest.mono_l k
    · intro y0 y1 y2 y3 y4
      unfold impl_forest.l0
      repeat' first
      | (with_reducible exact ih0 _ _ _ _ _)
      | (with_reducible exact LeO.refl _)
      | (with_reducible exact LeO.none _)
      | (with_reducible refine LeO.ite ?_ ?_)
      | (with_reducible refine LeO.bind ?_ (fun _ => ?_))
      | exact ih0 _ _ _ _ _
      | exact LeO.none _
      | refine LeO.ite ?_ ?_
      | refine LeO.bind ?_ (fun _ => ?_)
theorem impl_forest.mono : ∀ a0 a1 a2 k, LeO (impl_forest.f k a0 a1 a2) (impl_forest.f (k + 1) a0 a1 a2) := by
  intro a0 a1 a2 k
  have ih0 := impl_forest.mono_l k
  unfold impl_forest.f
  repeat' first
      | (with_reducible exact ih0 _ _ _ _ _)
      | (with_reducible exact LeO.refl _)
      | (with_reducible exact LeO.none _)
      | (with_reducible refine LeO.ite ?_ ?_)
      | (with_reducible refine LeO.bind ?_ (fun _ => ?_))
      | exact ih0 _ _ _ _ _
      | exact LeO.none _
      | refine LeO.ite ?_ ?_
      | refine LeO.bind ?_ (fun _ => ?_)
set_option maxHeartbeats 8000000 in
set_option maxRecDepth 100000 in
theorem impl_forest.calls (k : Nat) (a0_0 : Int) (A0_1 : Option Addr) (c0_1 : Nat) (l0_1 : List (S72)) (a1 : Int) (r : List (S43)) (w : World) (hr0_1 : Kd.C k72 w A0_1 l0_1.length l0_1) (hc0_1 : l0_1.length ≤ c0_1) (h : impl_forest.f k a0_0 l0_1 a1 = some r) :
  Calls Try.prog 102 #[.agg #[.int .i64 a0_0, .slice A0_1 l0_1.length c0_1], .int .i64 a1] w fun e w' => ∃ v0_ : Value, e = .returned (v0_) ∧ Kd.R k43 43 w' w.heap.size (fun _ => True) v0_ r ∧ Below w.heap.size w w' := by
 have hu29 := Try.underlying29; have hu72 := Try.underlying72; have hu43 := Try.underlying43
 have HR0_1 := Aside0.mk hr0_1
 have HC0_1 := Aside0.mk hc0_1
 clear hr0_1 hc0_1
 have HB := Aside0.mk (Below.refl w.heap.size w)
 have H : (impl_forest.l0 k a1 ([] : List (S43)) l0_1 (l0_1.length : Int) 0) = some r := h
 clear h; have H' := Aside0.mk H; clear H
 go_enter Try.func102, Try.ntmps102
 go_wp2_with (first | ((with_reducible refine gate_dst (N := 2) rfl ?_); refine bx_ 2 (cs := #[.int .i64 a0_0, .slice A0_1 l0_1.length c0_1]) (t := 29) ?_; intro gb363 hg w3 hbox hb; have BK363 := Aside0.mk (hbox); have GW363 := Aside0.mk ((qs_ : w.heap.size ≤ gb363)); have GE363 := Aside0.mk ((qs_ : w.heap.size ≤ gb363)); replace HB := Aside0.mk (below_step qB_ hb); clear hb hbox hg; obtain ⟨hcz4_0, hcz4_1, hfz4_0, hfz4_1⟩ := bc2_ BK363))
 go_loopg [5, 11] k (fun kq v5 v11 w' => ∃ (x5_1 : List (S43)) (x11_1 : Int), v11 = .int .i64 x11_1 ∧ Aside0 (impl_forest.l0 kq a1 x5_1 l0_1 (l0_1.length : Int) x11_1 = some r) ∧ Aside0 (kq ≤ k) ∧ Aside0 (Kd.R k43 43 w' w.heap.size (fun _ => True) v5 x5_1) ∧ Aside0 (w'.heap[gb363]? = some (.cells #[.int .i64 a0_0, (.slice A0_1 l0_1.length c0_1)] 29 (0, 0))) ∧ Aside0 (Below w.heap.size w w'))
 case atStart => exact ⟨(([] : List (S43))), (0), qe_, H', ⟨Nat.le_refl _⟩, ⟨by first | exact Kd.R_nil _ _ _ _ _ | exact Kd.N_nil _ _ _ _ _ | exact Kd.V_nil _ _ _ _ _ | exact Kd.Q_nil _ _ _ _ _ | exact Kd.S_nil _ _ _ _ _⟩, ⟨qk_ BK363⟩, ⟨qB_⟩⟩
 case round =>
  clear H'
  (try clear c1); (try clear p2); (try clear hcz4_0); (try clear hcz4_1); (try clear hfz4_0); (try clear hfz4_1)
  obtain ⟨x5_1, x11_1, rfl, HA, HK1, HO_5, BK363, HB⟩ := hrel
  cases gk with
  | zero => exact absurd HA.out (by simp [impl_forest.l0])
  | succ k1 =>
   have H := HA.out; clear HA
   simp only [impl_forest.l0] at H
   by_cases c5 : x11_1 < (l0_1.length : Int)
   ·rw [if_pos c5] at H
    have c5b0 : decide (x11_1 < (l0_1.length : Int)) = true := decide_eq_true c5
    clear c5
    by_cases c6 : 0 ≤ x11_1
    ·rw [if_pos c6] at H
     have c6b0 : decide (0 ≤ x11_1) = true := decide_eq_true c6
     clear c6
     by_cases c7 : x11_1 < (l0_1.length : Int)
     ·rw [if_pos c7] at H
      have c7b0 : decide (x11_1 < (l0_1.length : Int)) = true := decide_eq_true c7
      clear c7
      obtain ⟨bq8, hbq8⟩ : ∃ b_ : Bool, b_ = ((rd_T72 l0_1 x11_1).f3) := ⟨_, rfl⟩
      replace H : (if bq8 = true then (if ((rd_T72 l0_1 x11_1).f2) ≥ a1 then (if x5_1.length < 8796093022208 then (impl_forest.l0 k1 a1 (x5_1 ++ [(⟨(rd_T72 l0_1 x11_1).f0, (rd_T72 l0_1 x11_1).f1⟩ : S43)]) l0_1 (l0_1.length : Int) (wrap64 (x11_1 + 1))) else (none)) else (impl_forest.l0 k1 a1 x5_1 l0_1 (l0_1.length : Int) (wrap64 (x11_1 + 1)))) else (impl_forest.l0 k1 a1 x5_1 l0_1 (l0_1.length : Int) (wrap64 (x11_1 + 1)))) = some r := by rw [← hbq8] at H; exact H
      have Nbq8 := Aside0.mk hbq8
      clear hbq8
      by_cases c9 : bq8 = true
      ·subst c9
       rw [if_pos rfl] at H
       by_cases c10 : ((rd_T72 l0_1 x11_1).f2) ≥ a1
       ·rw [if_pos c10] at H
        have c10b0 : decide (a1 ≤ ((rd_T72 l0_1 x11_1).f2)) = true := decide_eq_true c10
        clear c10
        by_cases c11 : x5_1.length < 8796093022208
        ·rw [if_pos c11] at H
         have LMc11 := Aside0.mk c11
         clear c11
         obtain ⟨y366, hy366⟩ : ∃ y_ : List (S43), y_ = (x5_1 ++ [(⟨(rd_T72 l0_1 x11_1).f0, (rd_T72 l0_1 x11_1).f1⟩ : S43)]) := ⟨_, rfl⟩
         replace H : (impl_forest.l0 k1 a1 y366 l0_1 (l0_1.length : Int) (wrap64 (x11_1 + 1))) = some r := by first | (rw [hy366]; with_reducible exact H) | (have H2_ := (Option.bind_some _ _).symm.trans H; rw [hy366]; with_reducible exact H2_) | (have H2_ := (Option.bind_some _ _).symm.trans H; with_reducible exact H2_) | with_reducible exact H | (rw [hy366]; exact H) | exact H
         have Ny366 := Aside0.mk hy366
         clear hy366; have H' := Aside0.mk H; clear H
         have p364 : 0 ≤ (x11_1 : Int) := of_decide_eq_true qa_
         have q364 : x11_1 < (l0_1.length : Int) := of_decide_eq_true qa_
         obtain ⟨ad364, e364, hx364_0, hx364_1, hx364_2, hx364_3⟩ := at_T72 HR0_1.out x11_1 p364 q364
         (try rw [← Nbq8.out] at hx364_3)
         cases e364
         replace hx364_0 := (HB.out.cell (World.block_lt_of_cell? w _ hx364_0)).trans hx364_0
         replace hx364_1 := (HB.out.cell (World.block_lt_of_cell? w _ hx364_1)).trans hx364_1
         replace hx364_2 := (HB.out.cell (World.block_lt_of_cell? w _ hx364_2)).trans hx364_2
         replace hx364_3 := (HB.out.cell (World.block_lt_of_cell? w _ hx364_3)).trans hx364_3
         replace p364 := eq_true p364; replace q364 := eq_true q364
         go_wp2_with (first | ((with_reducible refine gate_dst (N := 7) rfl ?_); refine bx_ 7 (cs := #[.int .i64 0, .int .i64 0, .int .i64 0, .bool false]) (t := 72) ?_; intro gb365 hg w12 hbox hb; have BK365 := Aside0.mk (hbox); have GW365 := Aside0.mk ((qs_ : w.heap.size ≤ gb365)); have GE365 := Aside0.mk ((qs_ : w.heap.size ≤ gb365)); have NB363_365 := Aside0.mk ((by rw [hg]; exact Nat.ne_of_lt (blk_lt (qk_ BK363)) : gb363 ≠ gb365)); have NB365_363 := Aside0.mk ((by rw [hg]; exact Nat.ne_of_gt (blk_lt (qk_ BK363)) : gb365 ≠ gb363)); replace HO_5 := Aside0.mk (Kd.R_below (qR_ HO_5) hb); replace BK363 := Aside0.mk (blk_below (qk_ BK363) hb); replace HB := Aside0.mk (below_step qB_ hb); clear hb hbox hg; have hnb13 := NB365_363.out; have hnc13 := NB363_365.out; obtain ⟨hcz14_0, hcz14_1, hcz14_2, hcz14_3, hfz14_0, hfz14_1, hfz14_2, hfz14_3⟩ := bc4_ BK365) | ((with_reducible refine gate_builtin (b := .append) (xs := #[.tmp 23, .tmp 29]) rfl ?_); at_builtin; refine Kd.R_append k43 (w0 := w) w.heap.size rfl (.tmp 23) (.tmp 29) 67 43 (.agg #[(.int .i64 0), (.int .i64 0)]) 16 rfl Try.underlying67 info43 rfl (by decide) (by omega) u5 x5_1 (⟨(rd_T72 l0_1 x11_1).f0, (rd_T72 l0_1 x11_1).f1⟩ : S43) [.int .i64 ((rd_T72 l0_1 x11_1).f0), .int .i64 ((rd_T72 l0_1 x11_1).f1)] (fun _ => True) (fun _ => False) rfl (by first | (go_simp; done) | (go_simp; rfl)) ?aP (fun _ hk => hk.elim) ?aF ?aO ?aB ?aS ?aL ?_; (case aP => exact k43_mkM _ _ _ (⟨(rd_T72 l0_1 x11_1).f0, (rd_T72 l0_1 x11_1).f1⟩ : S43)); (case aB => exact qB_); (case aF => exact (fun _ _ => trivial)); (case aO => exact (by (with_reducible repeat (first | apply Kd.R_alloc | apply Kd.R_drewN | apply Kd.R_drew)); exact Kd.R_mono (Kd.R_far (p := ⟨gb365, 3, none⟩) (Kd.R_far (p := ⟨gb365, 2, none⟩) (Kd.R_far (p := ⟨gb365, 1, none⟩) (Kd.R_far (p := ⟨gb365, 0, none⟩) (Kd.R_types HO_5.out BK365.out (by decide)) (fun _ hk => hk.2) (.int .i64 ((rd_T72 l0_1 x11_1).f0))) (fun _ hk => hk.2) (.int .i64 ((rd_T72 l0_1 x11_1).f1))) (fun _ hk => hk.2) (.int .i64 ((rd_T72 l0_1 x11_1).f2))) (fun _ hk => hk.2) (.bool true)) (fun _ hk => trivial))); (case aS => exact (below_size qB_)); (case aL => have := LMc11.out; omega); intro v367 w15 ho hb hg hat; rw [← Ny366.out] at ho; have HO368 := Aside0.mk (ho); replace BK363 := Aside0.mk (blk_grown (g := gb363) (o := .cells #[.int .i64 a0_0, .slice (some ad364) l0_1.length c0_1] 29 (0, 0)) (by (with_reducible repeat (first | refine blk_drewN ?_ _ | refine blk_drew ?_ | refine blk_alloc ?_ _)); refine blk_far ?_ NB363_365.out _; (with_reducible repeat (first | refine blk_drewN ?_ _ | refine blk_drew ?_ | refine blk_alloc ?_ _)); refine blk_far ?_ NB363_365.out _; (with_reducible repeat (first | refine blk_drewN ?_ _ | refine blk_drew ?_ | refine blk_alloc ?_ _)); refine blk_far ?_ NB363_365.out _; (with_reducible repeat (first | refine blk_drewN ?_ _ | refine blk_drew ?_ | refine blk_alloc ?_ _)); refine blk_far ?_ NB363_365.out _; (with_reducible repeat (first | refine blk_drewN ?_ _ | refine blk_drew ?_ | refine blk_alloc ?_ _)); exact BK363.out) hg (Kd.R_ne HO_5.out BK363.out (by decide))); replace BK365 := Aside0.mk (blk_grown (g := gb365) (o := .cells #[.int .i64 ((rd_T72 l0_1 x11_1).f0), .int .i64 ((rd_T72 l0_1 x11_1).f1), .int .i64 ((rd_T72 l0_1 x11_1).f2), .bool true] 72 (0, 0)) (by (with_reducible repeat (first | refine blk_drewN ?_ _ | refine blk_drew ?_ | refine blk_alloc ?_ _)); refine blk_put (cs := #[.int .i64 ((rd_T72 l0_1 x11_1).f0), .int .i64 ((rd_T72 l0_1 x11_1).f1), .int .i64 ((rd_T72 l0_1 x11_1).f2), .bool false]) ?_ 3 _ rfl; (with_reducible repeat (first | refine blk_drewN ?_ _ | refine blk_drew ?_ | refine blk_alloc ?_ _)); refine blk_put (cs := #[.int .i64 ((rd_T72 l0_1 x11_1).f0), .int .i64 ((rd_T72 l0_1 x11_1).f1), .int .i64 0, .bool false]) ?_ 2 _ rfl; (with_reducible repeat (first | refine blk_drewN ?_ _ | refine blk_drew ?_ | refine blk_alloc ?_ _)); refine blk_put (cs := #[.int .i64 ((rd_T72 l0_1 x11_1).f0), .int .i64 0, .int .i64 0, .bool false]) ?_ 1 _ rfl; (with_reducible repeat (first | refine blk_drewN ?_ _ | refine blk_drew ?_ | refine blk_alloc ?_ _)); refine blk_put (cs := #[.int .i64 0, .int .i64 0, .int .i64 0, .bool false]) ?_ 0 _ rfl; (with_reducible repeat (first | refine blk_drewN ?_ _ | refine blk_drew ?_ | refine blk_alloc ?_ _)); exact BK365.out) hg (Kd.R_ne HO_5.out BK365.out (by decide))); replace HB := Aside0.mk (hb); clear HO_5; clear ho hb hg hat))
         go_roundg k1
         case measure => have := HK1.out; omega
         case rel => exact ⟨(y366), (wrap64 (x11_1 + 1)), qe_, H', ⟨by have := HK1.out; omega⟩, ⟨by (with_reducible repeat (first | apply Kd.R_alloc | apply Kd.R_drewN | apply Kd.R_drew)); first | exact HO368.out | (have h_ := HO368.out; simp only [own_slice] at h_ ⊢; exact h_)⟩, ⟨qk_ BK363⟩, ⟨qB_⟩⟩
        ·rw [if_neg c11] at H
         exact absurd H (by simp)
       ·rw [if_neg c10] at H
        have c10b0 : decide (a1 ≤ ((rd_T72 l0_1 x11_1).f2)) = false := decide_eq_false c10
        clear c10; have H' := Aside0.mk H; clear H
        have p364 : 0 ≤ (x11_1 : Int) := of_decide_eq_true qa_
        have q364 : x11_1 < (l0_1.length : Int) := of_decide_eq_true qa_
        obtain ⟨ad364, e364, hx364_0, hx364_1, hx364_2, hx364_3⟩ := at_T72 HR0_1.out x11_1 p364 q364
        (try rw [← Nbq8.out] at hx364_3)
        cases e364
        replace hx364_0 := (HB.out.cell (World.block_lt_of_cell? w _ hx364_0)).trans hx364_0
        replace hx364_1 := (HB.out.cell (World.block_lt_of_cell? w _ hx364_1)).trans hx364_1
        replace hx364_2 := (HB.out.cell (World.block_lt_of_cell? w _ hx364_2)).trans hx364_2
        replace hx364_3 := (HB.out.cell (World.block_lt_of_cell? w _ hx364_3)).trans hx364_3
        replace p364 := eq_true p364; replace q364 := eq_true q364
        go_wp2_with (first | ((with_reducible refine gate_dst (N := 7) rfl ?_); refine bx_ 7 (cs := #[.int .i64 0, .int .i64 0, .int .i64 0, .bool false]) (t := 72) ?_; intro gb365 hg w16 hbox hb; have BK365 := Aside0.mk (hbox); have GW365 := Aside0.mk ((qs_ : w.heap.size ≤ gb365)); have GE365 := Aside0.mk ((qs_ : w.heap.size ≤ gb365)); have NB363_365 := Aside0.mk ((by rw [hg]; exact Nat.ne_of_lt (blk_lt (qk_ BK363)) : gb363 ≠ gb365)); have NB365_363 := Aside0.mk ((by rw [hg]; exact Nat.ne_of_gt (blk_lt (qk_ BK363)) : gb365 ≠ gb363)); replace HO_5 := Aside0.mk (Kd.R_below (qR_ HO_5) hb); replace BK363 := Aside0.mk (blk_below (qk_ BK363) hb); replace HB := Aside0.mk (below_step qB_ hb); clear hb hbox hg; have hnb17 := NB365_363.out; have hnc17 := NB363_365.out; obtain ⟨hcz18_0, hcz18_1, hcz18_2, hcz18_3, hfz18_0, hfz18_1, hfz18_2, hfz18_3⟩ := bc4_ BK365))
        go_roundg k1
        case measure => have := HK1.out; omega
        case rel => exact ⟨(x5_1), (wrap64 (x11_1 + 1)), qe_, H', ⟨by have := HK1.out; omega⟩, ⟨by (with_reducible repeat (first | apply Kd.R_alloc | apply Kd.R_drewN | apply Kd.R_drew)); exact Kd.R_mono (Kd.R_far (p := ⟨gb365, 3, none⟩) (Kd.R_far (p := ⟨gb365, 2, none⟩) (Kd.R_far (p := ⟨gb365, 1, none⟩) (Kd.R_far (p := ⟨gb365, 0, none⟩) (Kd.R_types HO_5.out BK365.out (by decide)) (fun _ hk => hk.2) (.int .i64 ((rd_T72 l0_1 x11_1).f0))) (fun _ hk => hk.2) (.int .i64 ((rd_T72 l0_1 x11_1).f1))) (fun _ hk => hk.2) (.int .i64 ((rd_T72 l0_1 x11_1).f2))) (fun _ hk => hk.2) (.bool true)) (fun _ hk => trivial)⟩, ⟨by (with_reducible repeat (first | refine blk_drewN ?_ _ | refine blk_drew ?_ | refine blk_alloc ?_ _)); refine blk_far ?_ NB363_365.out _; (with_reducible repeat (first | refine blk_drewN ?_ _ | refine blk_drew ?_ | refine blk_alloc ?_ _)); refine blk_far ?_ NB363_365.out _; (with_reducible repeat (first | refine blk_drewN ?_ _ | refine blk_drew ?_ | refine blk_alloc ?_ _)); refine blk_far ?_ NB363_365.out _; (with_reducible repeat (first | refine blk_drewN ?_ _ | refine blk_drew ?_ | refine blk_alloc ?_ _)); refine blk_far ?_ NB363_365.out _; (with_reducible repeat (first | refine blk_drewN ?_ _ | refine blk_drew ?_ | refine blk_alloc ?_ _)); exact BK363.out⟩, ⟨qB_⟩⟩
      ·replace c9 := Bool.eq_false_iff.mpr c9
       subst c9
       rw [if_neg (show ¬ (false = true) by decide)] at H; have H' := Aside0.mk H; clear H
       have p364 : 0 ≤ (x11_1 : Int) := of_decide_eq_true qa_
       have q364 : x11_1 < (l0_1.length : Int) := of_decide_eq_true qa_
       obtain ⟨ad364, e364, hx364_0, hx364_1, hx364_2, hx364_3⟩ := at_T72 HR0_1.out x11_1 p364 q364
       (try rw [← Nbq8.out] at hx364_3)
       cases e364
       replace hx364_0 := (HB.out.cell (World.block_lt_of_cell? w _ hx364_0)).trans hx364_0
       replace hx364_1 := (HB.out.cell (World.block_lt_of_cell? w _ hx364_1)).trans hx364_1
       replace hx364_2 := (HB.out.cell (World.block_lt_of_cell? w _ hx364_2)).trans hx364_2
       replace hx364_3 := (HB.out.cell (World.block_lt_of_cell? w _ hx364_3)).trans hx364_3
       replace p364 := eq_true p364; replace q364 := eq_true q364
       go_wp2_with (first | ((with_reducible refine gate_dst (N := 7) rfl ?_); refine bx_ 7 (cs := #[.int .i64 0, .int .i64 0, .int .i64 0, .bool false]) (t := 72) ?_; intro gb365 hg w19 hbox hb; have BK365 := Aside0.mk (hbox); have GW365 := Aside0.mk ((qs_ : w.heap.size ≤ gb365)); have GE365 := Aside0.mk ((qs_ : w.heap.size ≤ gb365)); have NB363_365 := Aside0.mk ((by rw [hg]; exact Nat.ne_of_lt (blk_lt (qk_ BK363)) : gb363 ≠ gb365)); have NB365_363 := Aside0.mk ((by rw [hg]; exact Nat.ne_of_gt (blk_lt (qk_ BK363)) : gb365 ≠ gb363)); replace HO_5 := Aside0.mk (Kd.R_below (qR_ HO_5) hb); replace BK363 := Aside0.mk (blk_below (qk_ BK363) hb); replace HB := Aside0.mk (below_step qB_ hb); clear hb hbox hg; have hnb20 := NB365_363.out; have hnc20 := NB363_365.out; obtain ⟨hcz21_0, hcz21_1, hcz21_2, hcz21_3, hfz21_0, hfz21_1, hfz21_2, hfz21_3⟩ := bc4_ BK365))
       go_roundg k1
       case measure => have := HK1.out; omega
       case rel => exact ⟨(x5_1), (wrap64 (x11_1 + 1)), qe_, H', ⟨by have := HK1.out; omega⟩, ⟨by (with_reducible repeat (first | apply Kd.R_alloc | apply Kd.R_drewN | apply Kd.R_drew)); exact Kd.R_mono (Kd.R_far (p := ⟨gb365, 3, none⟩) (Kd.R_far (p := ⟨gb365, 2, none⟩) (Kd.R_far (p := ⟨gb365, 1, none⟩) (Kd.R_far (p := ⟨gb365, 0, none⟩) (Kd.R_types HO_5.out BK365.out (by decide)) (fun _ hk => hk.2) (.int .i64 ((rd_T72 l0_1 x11_1).f0))) (fun _ hk => hk.2) (.int .i64 ((rd_T72 l0_1 x11_1).f1))) (fun _ hk => hk.2) (.int .i64 ((rd_T72 l0_1 x11_1).f2))) (fun _ hk => hk.2) (.bool false)) (fun _ hk => trivial)⟩, ⟨by (with_reducible repeat (first | refine blk_drewN ?_ _ | refine blk_drew ?_ | refine blk_alloc ?_ _)); refine blk_far ?_ NB363_365.out _; (with_reducible repeat (first | refine blk_drewN ?_ _ | refine blk_drew ?_ | refine blk_alloc ?_ _)); refine blk_far ?_ NB363_365.out _; (with_reducible repeat (first | refine blk_drewN ?_ _ | refine blk_drew ?_ | refine blk_alloc ?_ _)); refine blk_far ?_ NB363_365.out _; (with_reducible repeat (first | refine blk_drewN ?_ _ | refine blk_drew ?_ | refine blk_alloc ?_ _)); refine blk_far ?_ NB363_365.out _; (with_reducible repeat (first | refine blk_drewN ?_ _ | refine blk_drew ?_ | refine blk_alloc ?_ _)); exact BK363.out⟩, ⟨qB_⟩⟩
     ·rw [if_neg c7] at H
      exact absurd H (by simp)
    ·rw [if_neg c6] at H
     exact absurd H (by simp)
   ·rw [if_neg c5] at H
    have c5b0 : decide (x11_1 < (l0_1.length : Int)) = false := decide_eq_false c5
    clear c5
    obtain rfl := Option.some.inj H
    go_wp2
    go_ret
    exact ⟨_, qr_, by (with_reducible repeat (first | apply Kd.R_alloc | apply Kd.R_drewN | apply Kd.R_drew)); exact HO_5.out, qB_⟩

/-! ### impl_labelsAt: function 67 -/
def impl_labelsAt.l0 : Nat → List Int → List (S43) → Int → Int → Option (List Int)
  | 0, _, _, _, _ => none
  | k + 1, x5, x13, x14, x15 => if x15 < x14 then (if 0 ≤ x15 then (if x15 < (x13.length : Int) then ((impl_union.f k x5 ((rd_T43 x13 x15).f0) ((rd_T43 x13 x15).f1)).bind fun bt378 => (impl_labelsAt.l0 k bt378.2 x13 x14 (wrap64 (x15 + 1)))) else (none)) else (none)) else (some x5)
def impl_labelsAt.f (k : Nat) (a0_0 : Int) (l0_1 : List (S72)) (a1 : Int) : Option (List Int) := (impl_first.f k a0_0).bind fun t370 => ((impl_forest.f k a0_0 l0_1 a1).bind fun t373 => (impl_labelsAt.l0 k t370 t373 (t373.length : Int) 0))
theorem impl_labelsAt.mono_l : ∀ k, (∀ y0 y1 y2 y3, LeO (impl_labelsAt.l0 k y0 y1 y2 y3) (impl_labelsAt.l0 (k + 1) y0 y1 y2 y3))
  | 0 => fun _ _ _ _ r h => by simp [impl_labelsAt.l0] at h
  | k + 1 => by
    have ih0 := impl_labelsAt.mono_l k
    · intro y0 y1 y2 y3
      unfold impl_labelsAt.l0
      repeat' first
      | (with_reducible exact ih0 _ _ _ _)
      | (with_reducible exact impl_first.mono _ _)
      | (with_reducible exact impl_forest.mono _ _ _ _)
      | (with_reducible exact impl_union.mono _ _ _ _)
      | (with_reducible exact LeO.refl _)
      | (with_reducible exact LeO.none _)
      | (with_reducible refine LeO.ite ?_ ?_)
      | (with_reducible refine LeO.bind ?_ (fun _ => ?_))
      | exact ih0 _ _ _ _
      | exact impl_first.mono _ _
      | exact impl_forest.mono _ _ _ _
      | exact impl_union.mono _ _ _ _
      | exact LeO.none _
      | refine LeO.ite ?_ ?_
      | refine LeO.bind ?_ (fun _ => ?_)
theorem impl_labelsAt.mono : ∀ a0 a1 a2 k, LeO (impl_labelsAt.f k a0 a1 a2) (impl_labelsAt.f (k + 1) a0 a1 a2) := by
  intro a0 a1 a2 k
  have ih0 := impl_labelsAt.mono_l k
  unfold impl_labelsAt.f
  repeat' first
      | (with_reducible exact ih0 _ _ _ _)
      | (with_reducible exact impl_first.mono _ _)
      | (with_reducible exact impl_forest.mono _ _ _ _)
      | (with_reducible exact impl_union.mono _ _ _ _)
      | (with_reducible exact LeO.refl _)
      | (with_reducible exact LeO.none _)
      | (with_reducible refine LeO.ite ?_ ?_)
      | (with_reducible refine LeO.bind ?_ (fun _ => ?_))
      | exact ih0 _ _ _ _
      | exact impl_first.mono _ _
      | exact impl_forest.mono _ _ _ _
      | exact impl_union.mono _ _ _ _
      | exact LeO.none _
      | refine LeO.ite ?_ ?_
      | refine LeO.bind ?_ (fun _ => ?_)
set_option maxHeartbeats 8000000 in
set_option maxRecDepth 100000 in
theorem impl_labelsAt.calls (k : Nat) (a0_0 : Int) (A0_1 : Option Addr) (c0_1 : Nat) (l0_1 : List (S72)) (a1 : Int) (r : List Int) (w : World) (hr0_1 : Kd.C k72 w A0_1 l0_1.length l0_1) (hc0_1 : l0_1.length ≤ c0_1) (h : impl_labelsAt.f k a0_0 l0_1 a1 = some r) :
  Calls Try.prog 67 #[.agg #[.int .i64 a0_0, .slice A0_1 l0_1.length c0_1], .int .i64 a1] w fun e w' => ∃ v0_ : Value, e = .returned (v0_) ∧ Kd.R (Kd.int .i64) 3 w' w.heap.size (fun _ => True) v0_ r ∧ Below w.heap.size w w' := by
 have hu29 := Try.underlying29; have hu43 := Try.underlying43
 have HR0_1 := Aside0.mk hr0_1
 have HC0_1 := Aside0.mk hc0_1
 clear hr0_1 hc0_1
 have HB := Aside0.mk (Below.refl w.heap.size w)
 have H : ((impl_first.f k a0_0).bind fun t370 => ((impl_forest.f k a0_0 l0_1 a1).bind fun t373 => (impl_labelsAt.l0 k t370 t373 (t373.length : Int) 0))) = some r := h
 clear h
 obtain ⟨t370, A30, H⟩ := Option.bind_eq_some_iff.mp H; have A3 := Aside0.mk A30; clear A30
 obtain ⟨t373, A40, H⟩ := Option.bind_eq_some_iff.mp H; have A4 := Aside0.mk A40; clear A40
 have H' := Aside0.mk H; clear H
 go_enter Try.func67, Try.ntmps67
 go_wp2_with (first | ((with_reducible refine gate_dst (N := 2) rfl ?_); refine bx_ 2 (cs := #[.int .i64 a0_0, .slice A0_1 l0_1.length c0_1]) (t := 29) ?_; intro gb369 hg w5 hbox hb; have BK369 := Aside0.mk (hbox); have GW369 := Aside0.mk ((qs_ : w.heap.size ≤ gb369)); have GE369 := Aside0.mk ((qs_ : w.heap.size ≤ gb369)); replace HB := Aside0.mk (below_step qB_ hb); clear hb hbox hg; obtain ⟨hcz6_0, hcz6_1, hfz6_0, hfz6_1⟩ := bc2_ BK369) | ((with_reducible refine gate_callee (f := 112) rfl ?_); refine gl_ (some 10) Try.func112 #[.int .i64 a0_0] ?_; (with_reducible refine (impl_first.calls k a0_0 t370 _ A3.out).mono ?_); rintro e w7 ⟨v371, rfl, ho0, hb⟩; refine ⟨_, rfl, ?_⟩; have HO372 := Aside0.mk (Kd.R_lower ho0 (below_size qB_)); replace BK369 := Aside0.mk (blk_below (qk_ BK369) hb); replace HB := Aside0.mk (below_step qB_ hb); (try clear hb); (try clear hb2); (try clear hk); (try clear hi); (try clear ho0); obtain ⟨hcz8_0, hcz8_1, hfz8_0, hfz8_1⟩ := bc2_ BK369) | ((with_reducible refine gate_callee (f := 102) rfl ?_); refine gl_ (some 13) Try.func102 #[.agg #[.int .i64 a0_0, .slice A0_1 l0_1.length c0_1], .int .i64 a1] ?_; (with_reducible refine (impl_forest.calls k a0_0 _ _ l0_1 a1 t373 _ ?side1 ?side2 A4.out).mono ?_); (case side1 => exact qC_ HR0_1 HB); (case side2 => exact HC0_1.out); rintro e w9 ⟨v374, rfl, ho0, hb⟩; refine ⟨_, rfl, ?_⟩; have HO375 := Aside0.mk (Kd.R_lower ho0 (below_size qB_)); replace HO372 := Aside0.mk (Kd.R_below (qR_ HO372) hb); replace BK369 := Aside0.mk (blk_below (qk_ BK369) hb); replace HB := Aside0.mk (below_step qB_ hb); (try clear hb); (try clear hb2); (try clear hk); (try clear hi); (try clear ho0); obtain ⟨Ao10, co10, eo10⟩ := Kd.R_slice HO375.out; subst eo10))
 go_loopg [15] k (fun kq v15 w' => ∃ (x5_1 : List Int) (x15_1 : Int), v15 = .int .i64 x15_1 ∧ Aside0 (impl_labelsAt.l0 kq x5_1 t373 (t373.length : Int) x15_1 = some r) ∧ Aside0 (kq ≤ k) ∧ Aside0 (Kd.R (Kd.int .i64) 3 w' w.heap.size (fun _ => True) v371 x5_1) ∧ Aside0 (Kd.R k43 43 w' w.heap.size (fun _ => True) (.slice Ao10 t373.length co10) t373) ∧ Aside0 (w'.heap[gb369]? = some (.cells #[.int .i64 a0_0, (.slice A0_1 l0_1.length c0_1)] 29 (0, 0))) ∧ Aside0 (Below w.heap.size w w'))
 case atStart => exact ⟨(t370), (0), qe_, H', ⟨Nat.le_refl _⟩, ⟨by (with_reducible repeat (first | apply Kd.R_alloc | apply Kd.R_drewN | apply Kd.R_drew)); first | exact HO372.out | (have h_ := HO372.out; simp only [own_slice] at h_ ⊢; exact h_)⟩, ⟨by (with_reducible repeat (first | apply Kd.R_alloc | apply Kd.R_drewN | apply Kd.R_drew)); first | exact HO375.out | (have h_ := HO375.out; simp only [own_slice] at h_ ⊢; exact h_)⟩, ⟨qk_ BK369⟩, ⟨qB_⟩⟩
 case round =>
  clear H'
  (try clear c1); (try clear p2); (try clear c6); (try clear c10); (try clear hcz6_0); (try clear hcz6_1); (try clear hcz8_0); (try clear hcz8_1); (try clear hfz6_0); (try clear hfz6_1); (try clear hfz8_0); (try clear hfz8_1)
  obtain ⟨x5_1, x15_1, rfl, HA, HK1, HO_5, HO_13, BK369, HB⟩ := hrel
  cases gk with
  | zero => exact absurd HA.out (by simp [impl_labelsAt.l0])
  | succ k1 =>
   have H := HA.out; clear HA
   simp only [impl_labelsAt.l0] at H
   by_cases c11 : x15_1 < (t373.length : Int)
   ·rw [if_pos c11] at H
    have c11b0 : decide (x15_1 < (t373.length : Int)) = true := decide_eq_true c11
    clear c11
    by_cases c12 : 0 ≤ x15_1
    ·rw [if_pos c12] at H
     have c12b0 : decide (0 ≤ x15_1) = true := decide_eq_true c12
     clear c12
     by_cases c13 : x15_1 < (t373.length : Int)
     ·rw [if_pos c13] at H
      have c13b0 : decide (x15_1 < (t373.length : Int)) = true := decide_eq_true c13
      clear c13
      replace H := Option.bind_eq_some_iff.mp H
      obtain ⟨⟨t378, t379⟩, A140, H⟩ := H
      replace H : (impl_labelsAt.l0 k1 t379 t373 (t373.length : Int) (wrap64 (x15_1 + 1))) = some r := H
      have A14 := Aside0.mk A140
      clear A140; have H' := Aside0.mk H; clear H
      have p376 : 0 ≤ (x15_1 : Int) := of_decide_eq_true qa_
      have q376 : x15_1 < (t373.length : Int) := of_decide_eq_true qa_
      obtain ⟨ad376, e376, hx376_0, hx376_1⟩ := at_T43 (Kd.R_reads' HO_13.out).2.2 x15_1 p376 q376
      cases e376; replace p376 := eq_true p376; replace q376 := eq_true q376
      go_wp2_with (first | ((with_reducible refine gate_dst (N := 7) rfl ?_); refine bx_ 7 (cs := #[.int .i64 0, .int .i64 0]) (t := 43) ?_; intro gb377 hg w15 hbox hb; have BK377 := Aside0.mk (hbox); have GW377 := Aside0.mk ((qs_ : w.heap.size ≤ gb377)); have GE377 := Aside0.mk ((qs_ : w.heap.size ≤ gb377)); have NB369_377 := Aside0.mk ((by rw [hg]; exact Nat.ne_of_lt (blk_lt (qk_ BK369)) : gb369 ≠ gb377)); have NB377_369 := Aside0.mk ((by rw [hg]; exact Nat.ne_of_gt (blk_lt (qk_ BK369)) : gb377 ≠ gb369)); replace HO_5 := Aside0.mk (Kd.R_below (qR_ HO_5) hb); replace HO_13 := Aside0.mk (Kd.R_below (Kd.R_elderB (qR_ HO_13) gb377 (Nat.le_of_eq hg.symm)) hb); replace BK369 := Aside0.mk (blk_below (qk_ BK369) hb); replace HB := Aside0.mk (below_step qB_ hb); clear hb hbox hg; have hnb16 := NB377_369.out; have hnc16 := NB369_377.out; obtain ⟨hcz17_0, hcz17_1, hfz17_0, hfz17_1⟩ := bc2_ BK377) | ((with_reducible refine gate_store (t := 43) (p := 7) rfl ?_); refine store_event (t := 43) (p := 7) (v := ?vo_w18) (w1 := ((w15.setCell ⟨gb377, 0, none⟩ (.int .i64 ((rd_T43 t373 x15_1).f0))).setCell ⟨gb377, 1, none⟩ (.int .i64 ((rd_T43 t373 x15_1).f1)))) ?hg ?ho ?hn ?hr ?_; (case ho => rfl); (case hg => rfl); (case hn => rfl); (case hr => first | (go_simp; done) | (go_simp; rfl)); intro w18 hw; have n0_ : Aside0 (Kd.R (Kd.int .i64) 3 w18 w.heap.size (fun _ => True) v371 x5_1) := ⟨(by rw [hw]; exact (by (with_reducible repeat (first | apply Kd.R_alloc | apply Kd.R_drewN | apply Kd.R_drew)); exact Kd.R_mono (Kd.R_far (p := ⟨gb377, 1, none⟩) (Kd.R_far (p := ⟨gb377, 0, none⟩) (Kd.R_types HO_5.out BK377.out (by decide)) (fun _ hk => hk.2) (.int .i64 ((rd_T43 t373 x15_1).f0))) (fun _ hk => hk.2) (.int .i64 ((rd_T43 t373 x15_1).f1))) (fun _ hk => trivial)))⟩; have n1_ : Aside0 (Kd.R k43 43 w18 w.heap.size (fun k_ => k_ ≠ gb377) (.slice (some ad376) t373.length co10) t373) := ⟨(by rw [hw]; exact (by (with_reducible repeat (first | apply Kd.R_alloc | apply Kd.R_drewN | apply Kd.R_drew)); exact Kd.R_mono (Kd.R_far (p := ⟨gb377, 1, none⟩) (Kd.R_far (p := ⟨gb377, 0, none⟩) (Kd.R_mono HO_13.out (fun k_ hk => (⟨hk, hk.2⟩ : _ ∧ k_ ≠ gb377))) (fun _ hk => hk.2) (.int .i64 ((rd_T43 t373 x15_1).f0))) (fun _ hk => hk.2) (.int .i64 ((rd_T43 t373 x15_1).f1))) (fun _ hk => hk.1.2)))⟩; have n2_ : Aside0 (w18.heap[gb369]? = some (.cells #[.int .i64 a0_0, .slice A0_1 l0_1.length c0_1] 29 (0, 0))) := ⟨(by rw [hw]; exact (by (with_reducible repeat (first | refine blk_drewN ?_ _ | refine blk_drew ?_ | refine blk_alloc ?_ _)); refine blk_far ?_ NB369_377.out _; (with_reducible repeat (first | refine blk_drewN ?_ _ | refine blk_drew ?_ | refine blk_alloc ?_ _)); refine blk_far ?_ NB369_377.out _; (with_reducible repeat (first | refine blk_drewN ?_ _ | refine blk_drew ?_ | refine blk_alloc ?_ _)); exact BK369.out))⟩; have n3_ : Aside0 (w18.heap[gb377]? = some (.cells #[.int .i64 ((rd_T43 t373 x15_1).f0), .int .i64 ((rd_T43 t373 x15_1).f1)] 43 (0, 0))) := ⟨(by rw [hw]; exact (by (with_reducible repeat (first | refine blk_drewN ?_ _ | refine blk_drew ?_ | refine blk_alloc ?_ _)); refine blk_put (cs := #[.int .i64 ((rd_T43 t373 x15_1).f0), .int .i64 0]) ?_ 1 _ rfl; (with_reducible repeat (first | refine blk_drewN ?_ _ | refine blk_drew ?_ | refine blk_alloc ?_ _)); refine blk_put (cs := #[.int .i64 0, .int .i64 0]) ?_ 0 _ rfl; (with_reducible repeat (first | refine blk_drewN ?_ _ | refine blk_drew ?_ | refine blk_alloc ?_ _)); exact BK377.out))⟩; have n4_ : Aside0 (Below w.heap.size w w18) := ⟨(by rw [hw]; exact qB_)⟩; clear hw; clear HO_5; clear HO_13; clear BK369; clear BK377; clear HB; have HO_5 := n0_; have HO_13 := n1_; have BK369 := n2_; have BK377 := n3_; have HB := n4_; clear n0_ n1_ n2_ n3_ n4_; obtain ⟨hcz19_0, hcz19_1, hfz19_0, hfz19_1⟩ := bc2_ BK377; obtain ⟨Ao20, co20, eo20⟩ := Kd.R_slice HO_5.out; subst eo20) | ((with_reducible refine gate_callee (f := 113) rfl ?_); refine gl_ (some 24) Try.func113 #[.slice Ao20 x5_1.length co20, .int .i64 ((rd_T43 t373 x15_1).f0), .int .i64 ((rd_T43 t373 x15_1).f1)] ?_; (with_reducible refine (impl_union.calls k1 (fun k_ => some k_ = (.slice Ao20 x5_1.length co20 : Value).ownBlock) (.slice Ao20 x5_1.length co20) x5_1 ((rd_T43 t373 x15_1).f0) ((rd_T43 t373 x15_1).f1) t378 t379 w _ ?side1 ?side2 A14.out).mono ?_); (case side1 => repeat (first | (with_reducible first | exact HB.out | apply below_alloc | apply pw_below_drewN | apply below_drew1 | refine below_set ?_ GE369.out | refine below_set ?_ GE377.out) | exact HB.out)); (case side2 => exact Kd.R_tight rfl HO_5.out); rintro e w21 ⟨rfl, hy0, hb, hkp⟩; refine ⟨_, rfl, ?_⟩; have n0_ := Aside0.mk (Kd.R_reok rfl hy0 (fun k_ e_ => HO_5.out.1 k_ e_)); have n1_ := Aside0.mk (Kd.R_mono (ok' := fun k_ => k_ ≠ gb377) (Kd.R_keptB ((Kd.R_apart' HO_13.out (Kd.R_typed HO_5.out) (by decide))) hkp (fun k_ hk_ hs_ => (hk_.2) hs_)) (fun k_ hk_ => hk_.1.1)); have n2_ := Aside0.mk (blk_kept (qk_ BK369) hkp (fun hs_ => (fun e_ => (Kd.R_ne HO_5.out BK369.out (by decide)) e_) hs_)); have n3_ := Aside0.mk (blk_kept (qk_ BK377) hkp (fun hs_ => (fun e_ => (Kd.R_ne HO_5.out BK377.out (by decide)) e_) hs_)); have n4_ := Aside0.mk (hb); clear HO_5; clear HO_13; clear BK369; clear BK377; clear HB; have HO_5 := n0_; have HO_13 := n1_; have BK369 := n2_; have BK377 := n3_; have HB := n4_; clear n0_ n1_ n2_ n3_ n4_; (try clear hb); (try clear hkp); (try clear hy0)))
      go_roundg k1
      case measure => have := HK1.out; omega
      case rel => exact ⟨(t379), (wrap64 (x15_1 + 1)), qe_, H', ⟨by have := HK1.out; omega⟩, ⟨by (with_reducible repeat (first | apply Kd.R_alloc | apply Kd.R_drewN | apply Kd.R_drew)); first | exact HO_5.out | (have h_ := HO_5.out; simp only [own_slice] at h_ ⊢; exact h_)⟩, ⟨by (with_reducible repeat (first | apply Kd.R_alloc | apply Kd.R_drewN | apply Kd.R_drew)); exact Kd.R_mono HO_13.out (fun _ hk => trivial)⟩, ⟨qk_ BK369⟩, ⟨qB_⟩⟩
     ·rw [if_neg c13] at H
      exact absurd H (by simp)
    ·rw [if_neg c12] at H
     exact absurd H (by simp)
   ·rw [if_neg c11] at H
    have c11b0 : decide (x15_1 < (t373.length : Int)) = false := decide_eq_false c11
    clear c11
    obtain rfl := Option.some.inj H
    go_wp2
    go_ret
    exact ⟨_, qr_, by (with_reducible repeat (first | apply Kd.R_alloc | apply Kd.R_drewN | apply Kd.R_drew)); exact HO_5.out, qB_⟩

/-! ### impl_sizes: function 114 -/
def impl_sizes.l0 : Nat → Int → Int → List Int → Int → Int → Option (Int)
  | 0, _, _, _, _, _ => none
  | k + 1, x1, x5, x8, x9, x10 => if x10 < x9 then (if 0 ≤ x10 then (if x10 < (x8.length : Int) then (if (rd x8 x10) = x1 then (impl_sizes.l0 k x1 (wrap64 (x5 + 1)) x8 x9 (wrap64 (x10 + 1))) else (impl_sizes.l0 k x1 x5 x8 x9 (wrap64 (x10 + 1)))) else (none)) else (none)) else (some x5)
def impl_sizes.f (k : Nat) (l0 : List Int) (a1 : Int) : Option (Int) := impl_sizes.l0 k a1 0 l0 (l0.length : Int) 0
theorem impl_sizes.mono_l : ∀ k, (∀ y0 y1 y2 y3 y4, LeO (impl_sizes.l0 k y0 y1 y2 y3 y4) (impl_sizes.l0 (k + 1) y0 y1 y2 y3 y4))
  | 0 => fun _ _ _ _ _ r h => by simp [impl_sizes.l0] at h
  | k + 1 => by
    have ih0 := impl_sizes.mono_l k
    · intro y0 y1 y2 y3 y4
      unfold impl_sizes.l0
      repeat' first
      | (with_reducible exact ih0 _ _ _ _ _)
      | (with_reducible exact LeO.refl _)
      | (with_reducible exact LeO.none _)
      | (with_reducible refine LeO.ite ?_ ?_)
      | (with_reducible refine LeO.bind ?_ (fun _ => ?_))
      | exact ih0 _ _ _ _ _
      | exact LeO.none _
      | refine LeO.ite ?_ ?_
      | refine LeO.bind ?_ (fun _ => ?_)
theorem impl_sizes.mono : ∀ a0 a1 k, LeO (impl_sizes.f k a0 a1) (impl_sizes.f (k + 1) a0 a1) := by
  intro a0 a1 k
  have ih0 := impl_sizes.mono_l k
  unfold impl_sizes.f
  repeat' first
      | (with_reducible exact ih0 _ _ _ _ _)
      | (with_reducible exact LeO.refl _)
      | (with_reducible exact LeO.none _)
      | (with_reducible refine LeO.ite ?_ ?_)
      | (with_reducible refine LeO.bind ?_ (fun _ => ?_))
      | exact ih0 _ _ _ _ _
      | exact LeO.none _
      | refine LeO.ite ?_ ?_
      | refine LeO.bind ?_ (fun _ => ?_)
set_option maxHeartbeats 8000000 in
set_option maxRecDepth 100000 in
theorem impl_sizes.calls (k : Nat) (A0 : Option Addr) (c0 : Nat) (l0 : List Int) (a1 : Int) (r : Int) (w : World) (hr0 : Kd.C (Kd.int .i64) w A0 l0.length l0) (hc0 : l0.length ≤ c0) (h : impl_sizes.f k l0 a1 = some r) :
  Calls Try.prog 114 #[.slice A0 l0.length c0, .int .i64 a1] w fun e w' => e = .returned (.int .i64 r) ∧ Drawn0 w w' := by
 have HR0 := Aside0.mk hr0
 have HC0 := Aside0.mk hc0
 clear hr0 hc0
 have H : (impl_sizes.l0 k a1 0 l0 (l0.length : Int) 0) = some r := h
 clear h; have H' := Aside0.mk H; clear H
 go_enter Try.func114, Try.ntmps114
 go_wp2
 go_loopg [5, 10] k (fun kq v5 v10 w' => ∃ (x5_1 : Int) (x10_1 : Int), v5 = .int .i64 x5_1 ∧ v10 = .int .i64 x10_1 ∧ Aside0 (impl_sizes.l0 kq a1 x5_1 l0 (l0.length : Int) x10_1 = some r) ∧ Aside0 (kq ≤ k) ∧ Drawn0 w w')
 case atStart => exact ⟨(0), (0), qe_, qe_, H', ⟨Nat.le_refl _⟩, by repeat (first | exact Drawn0.refl _ | apply Drawn0.step)⟩
 case round =>
  clear H'
  (try clear c1); (try clear p2)
  obtain ⟨x5_1, x10_1, rfl, rfl, HA, HK1, ⟨m1, rfl⟩⟩ := hrel
  cases gk with
  | zero => exact absurd HA.out (by simp [impl_sizes.l0])
  | succ k1 =>
   have H := HA.out; clear HA
   simp only [impl_sizes.l0] at H
   by_cases c3 : x10_1 < (l0.length : Int)
   ·rw [if_pos c3] at H
    have c3b0 : decide (x10_1 < (l0.length : Int)) = true := decide_eq_true c3
    clear c3
    by_cases c4 : 0 ≤ x10_1
    ·rw [if_pos c4] at H
     have c4b0 : decide (0 ≤ x10_1) = true := decide_eq_true c4
     clear c4
     by_cases c5 : x10_1 < (l0.length : Int)
     ·rw [if_pos c5] at H
      have c5b0 : decide (x10_1 < (l0.length : Int)) = true := decide_eq_true c5
      clear c5
      by_cases c6 : (rd l0 x10_1) = a1
      ·rw [if_pos c6] at H
       have c6b0 : ((rd l0 x10_1) == a1) = true := beq_iff_eq.mpr c6
       have c6b1 : ((rd l0 x10_1) != a1) = false := bne_eq_false_iff_eq.mpr c6
       clear c6; have H' := Aside0.mk H; clear H
       have p380 : 0 ≤ (x10_1 : Int) := of_decide_eq_true qa_
       have q380 : x10_1 < (l0.length : Int) := of_decide_eq_true qa_
       obtain ⟨ad380, e380, hx380_0⟩ := Kd.at_int HR0.out x10_1 p380 q380
       cases e380; replace p380 := eq_true p380; replace q380 := eq_true q380
       go_wp2
       go_roundg k1
       case measure => have := HK1.out; omega
       case rel => exact ⟨(wrap64 (x5_1 + 1)), (wrap64 (x10_1 + 1)), qe_, qe_, H', ⟨by have := HK1.out; omega⟩, by repeat (first | exact Drawn0.refl _ | apply Drawn0.step)⟩
      ·rw [if_neg c6] at H
       have c6b0 : ((rd l0 x10_1) == a1) = false := beq_eq_false_iff_ne.mpr c6
       have c6b1 : ((rd l0 x10_1) != a1) = true := bne_iff_ne.mpr c6
       have H' := Aside0.mk H; clear H
       have p380 : 0 ≤ (x10_1 : Int) := of_decide_eq_true qa_
       have q380 : x10_1 < (l0.length : Int) := of_decide_eq_true qa_
       obtain ⟨ad380, e380, hx380_0⟩ := Kd.at_int HR0.out x10_1 p380 q380
       cases e380; replace p380 := eq_true p380; replace q380 := eq_true q380
       go_wp2
       go_roundg k1
       case measure => have := HK1.out; omega
       case rel => exact ⟨(x5_1), (wrap64 (x10_1 + 1)), qe_, qe_, H', ⟨by have := HK1.out; omega⟩, by repeat (first | exact Drawn0.refl _ | apply Drawn0.step)⟩
     ·rw [if_neg c5] at H
      exact absurd H (by simp)
    ·rw [if_neg c4] at H
     exact absurd H (by simp)
   ·rw [if_neg c3] at H
    have c3b0 : decide (x10_1 < (l0.length : Int)) = false := decide_eq_false c3
    clear c3
    obtain rfl := Option.some.inj H
    go_wp2
    go_ret
    exact ⟨by first | rfl | (simp; done) | (simp [*]; done), by repeat (first | exact Drawn0.refl _ | apply Drawn0.step)⟩

/-! ### impl_levelOk: function 68 -/
def impl_levelOk.l0 : Nat → Int → List Int → List (S43) → Int → Int → Int → List (S72) → Option (Bool)
  | 0, _, _, _, _, _, _, _ => none
  | k + 1, x1, x5, x13, x14, x15, x382000, x382001 => if x15 < x14 then (if 0 ≤ x15 then (if x15 < (x13.length : Int) then (if 0 ≤ ((rd_T43 x13 x15).f0) then (if ((rd_T43 x13 x15).f0) < (x5.length : Int) then ((impl_sizes.f k x5 (rd x5 ((rd_T43 x13 x15).f0))).bind fun t391 => (if 0 ≤ x1 then (if t391 > (shr .i64 x382000 x1) then (some false) else (impl_levelOk.l0 k x1 x5 x13 x14 (wrap64 (x15 + 1)) x382000 x382001)) else (none))) else (none)) else (none)) else (none)) else (none)) else (some true)
def impl_levelOk.f (k : Nat) (a0_0 : Int) (l0_1 : List (S72)) (a1 : Int) : Option (Bool) := (impl_labelsAt.f k a0_0 l0_1 a1).bind fun t382 => ((impl_forest.f k a0_0 l0_1 a1).bind fun t385 => (impl_levelOk.l0 k a1 t382 t385 (t385.length : Int) 0 a0_0 l0_1))
theorem impl_levelOk.mono_l : ∀ k, (∀ y0 y1 y2 y3 y4 y5 y6, LeO (impl_levelOk.l0 k y0 y1 y2 y3 y4 y5 y6) (impl_levelOk.l0 (k + 1) y0 y1 y2 y3 y4 y5 y6))
  | 0 => fun _ _ _ _ _ _ _ r h => by simp [impl_levelOk.l0] at h
  | k + 1 => by
    have ih0 := impl_levelOk.mono_l k
    · intro y0 y1 y2 y3 y4 y5 y6
      unfold impl_levelOk.l0
      repeat' first
      | (with_reducible exact ih0 _ _ _ _ _ _ _)
      | (with_reducible exact impl_forest.mono _ _ _ _)
      | (with_reducible exact impl_labelsAt.mono _ _ _ _)
      | (with_reducible exact impl_sizes.mono _ _ _)
      | (with_reducible exact LeO.refl _)
      | (with_reducible exact LeO.none _)
      | (with_reducible refine LeO.ite ?_ ?_)
      | (with_reducible refine LeO.bind ?_ (fun _ => ?_))
      | exact ih0 _ _ _ _ _ _ _
      | exact impl_forest.mono _ _ _ _
      | exact impl_labelsAt.mono _ _ _ _
      | exact impl_sizes.mono _ _ _
      | exact LeO.none _
      | refine LeO.ite ?_ ?_
      | refine LeO.bind ?_ (fun _ => ?_)
theorem impl_levelOk.mono : ∀ a0 a1 a2 k, LeO (impl_levelOk.f k a0 a1 a2) (impl_levelOk.f (k + 1) a0 a1 a2) := by
  intro a0 a1 a2 k
  have ih0 := impl_levelOk.mono_l k
  unfold impl_levelOk.f
  repeat' first
      | (with_reducible exact ih0 _ _ _ _ _ _ _)
      | (with_reducible exact impl_forest.mono _ _ _ _)
      | (with_reducible exact impl_labelsAt.mono _ _ _ _)
      | (with_reducible exact impl_sizes.mono _ _ _)
      | (with_reducible exact LeO.refl _)
      | (with_reducible exact LeO.none _)
      | (with_reducible refine LeO.ite ?_ ?_)
      | (with_reducible refine LeO.bind ?_ (fun _ => ?_))
      | exact ih0 _ _ _ _ _ _ _
      | exact impl_forest.mono _ _ _ _
      | exact impl_labelsAt.mono _ _ _ _
      | exact impl_sizes.mono _ _ _
      | exact LeO.none _
      | refine LeO.ite ?_ ?_
      | refine LeO.bind ?_ (fun _ => ?_)
set_option maxHeartbeats 8000000 in
set_option maxRecDepth 100000 in
theorem impl_levelOk.calls (k : Nat) (a0_0 : Int) (A0_1 : Option Addr) (c0_1 : Nat) (l0_1 : List (S72)) (a1 : Int) (r : Bool) (w : World) (hr0_1 : Kd.C k72 w A0_1 l0_1.length l0_1) (hc0_1 : l0_1.length ≤ c0_1) (h : impl_levelOk.f k a0_0 l0_1 a1 = some r) :
  Calls Try.prog 68 #[.agg #[.int .i64 a0_0, .slice A0_1 l0_1.length c0_1], .int .i64 a1] w fun e w' => e = .returned (.bool r) ∧ Below w.heap.size w w' := by
 have hu29 := Try.underlying29; have hu43 := Try.underlying43
 have HR0_1 := Aside0.mk hr0_1
 have HC0_1 := Aside0.mk hc0_1
 clear hr0_1 hc0_1
 have HB := Aside0.mk (Below.refl w.heap.size w)
 have H : ((impl_labelsAt.f k a0_0 l0_1 a1).bind fun t382 => ((impl_forest.f k a0_0 l0_1 a1).bind fun t385 => (impl_levelOk.l0 k a1 t382 t385 (t385.length : Int) 0 a0_0 l0_1))) = some r := h
 clear h
 obtain ⟨t382, A30, H⟩ := Option.bind_eq_some_iff.mp H; have A3 := Aside0.mk A30; clear A30
 obtain ⟨t385, A40, H⟩ := Option.bind_eq_some_iff.mp H; have A4 := Aside0.mk A40; clear A40
 have H' := Aside0.mk H; clear H
 go_enter Try.func68, Try.ntmps68
 go_wp2_with (first | ((with_reducible refine gate_dst (N := 2) rfl ?_); refine bx_ 2 (cs := #[.int .i64 a0_0, .slice A0_1 l0_1.length c0_1]) (t := 29) ?_; intro gb381 hg w5 hbox hb; have BK381 := Aside0.mk (hbox); have GW381 := Aside0.mk ((qs_ : w.heap.size ≤ gb381)); have GE381 := Aside0.mk ((qs_ : w.heap.size ≤ gb381)); replace HB := Aside0.mk (below_step qB_ hb); clear hb hbox hg; obtain ⟨hcz6_0, hcz6_1, hfz6_0, hfz6_1⟩ := bc2_ BK381) | (go_at_call 67; (with_reducible refine (impl_labelsAt.calls k a0_0 _ _ l0_1 a1 t382 _ ?side1 ?side2 A3.out).mono ?_); (case side1 => exact qC_ HR0_1 HB); (case side2 => exact HC0_1.out); rintro e w7 ⟨v383, rfl, ho0, hb⟩; have HO384 := Aside0.mk (Kd.R_lower ho0 (below_size qB_)); replace BK381 := Aside0.mk (blk_below (qk_ BK381) hb); replace HB := Aside0.mk (below_step qB_ hb); (try clear hb); (try clear hb2); (try clear hk); (try clear hi); (try clear ho0); obtain ⟨hcz8_0, hcz8_1, hfz8_0, hfz8_1⟩ := bc2_ BK381) | (go_at_call 102; (with_reducible refine (impl_forest.calls k a0_0 _ _ l0_1 a1 t385 _ ?side1 ?side2 A4.out).mono ?_); (case side1 => exact qC_ HR0_1 HB); (case side2 => exact HC0_1.out); rintro e w9 ⟨v386, rfl, ho0, hb⟩; have HO387 := Aside0.mk (Kd.R_lower ho0 (below_size qB_)); replace HO384 := Aside0.mk (Kd.R_below (qR_ HO384) hb); replace BK381 := Aside0.mk (blk_below (qk_ BK381) hb); replace HB := Aside0.mk (below_step qB_ hb); (try clear hb); (try clear hb2); (try clear hk); (try clear hi); (try clear ho0); obtain ⟨Ao10, co10, eo10⟩ := Kd.R_slice HO387.out; subst eo10))
 repeat (go_quiet (first | ((with_reducible refine gate_dst (N := 2) rfl ?_); refine bx_ 2 (cs := #[.int .i64 a0_0, .slice A0_1 l0_1.length c0_1]) (t := 29) ?_; intro gb381 hg w5 hbox hb; have BK381 := Aside0.mk (hbox); have GW381 := Aside0.mk ((qs_ : w.heap.size ≤ gb381)); have GE381 := Aside0.mk ((qs_ : w.heap.size ≤ gb381)); replace HB := Aside0.mk (below_step qB_ hb); clear hb hbox hg; obtain ⟨hcz6_0, hcz6_1, hfz6_0, hfz6_1⟩ := bc2_ BK381) | (go_at_call 67; (with_reducible refine (impl_labelsAt.calls k a0_0 _ _ l0_1 a1 t382 _ ?side1 ?side2 A3.out).mono ?_); (case side1 => exact qC_ HR0_1 HB); (case side2 => exact HC0_1.out); rintro e w7 ⟨v383, rfl, ho0, hb⟩; have HO384 := Aside0.mk (Kd.R_lower ho0 (below_size qB_)); replace BK381 := Aside0.mk (blk_below (qk_ BK381) hb); replace HB := Aside0.mk (below_step qB_ hb); (try clear hb); (try clear hb2); (try clear hk); (try clear hi); (try clear ho0); obtain ⟨hcz8_0, hcz8_1, hfz8_0, hfz8_1⟩ := bc2_ BK381) | (go_at_call 102; (with_reducible refine (impl_forest.calls k a0_0 _ _ l0_1 a1 t385 _ ?side1 ?side2 A4.out).mono ?_); (case side1 => exact qC_ HR0_1 HB); (case side2 => exact HC0_1.out); rintro e w9 ⟨v386, rfl, ho0, hb⟩; have HO387 := Aside0.mk (Kd.R_lower ho0 (below_size qB_)); replace HO384 := Aside0.mk (Kd.R_below (qR_ HO384) hb); replace BK381 := Aside0.mk (blk_below (qk_ BK381) hb); replace HB := Aside0.mk (below_step qB_ hb); (try clear hb); (try clear hb2); (try clear hk); (try clear hi); (try clear ho0); obtain ⟨Ao10, co10, eo10⟩ := Kd.R_slice HO387.out; subst eo10)); try go_wp2_with (first | ((with_reducible refine gate_dst (N := 2) rfl ?_); refine bx_ 2 (cs := #[.int .i64 a0_0, .slice A0_1 l0_1.length c0_1]) (t := 29) ?_; intro gb381 hg w5 hbox hb; have BK381 := Aside0.mk (hbox); have GW381 := Aside0.mk ((qs_ : w.heap.size ≤ gb381)); have GE381 := Aside0.mk ((qs_ : w.heap.size ≤ gb381)); replace HB := Aside0.mk (below_step qB_ hb); clear hb hbox hg; obtain ⟨hcz6_0, hcz6_1, hfz6_0, hfz6_1⟩ := bc2_ BK381) | (go_at_call 67; (with_reducible refine (impl_labelsAt.calls k a0_0 _ _ l0_1 a1 t382 _ ?side1 ?side2 A3.out).mono ?_); (case side1 => exact qC_ HR0_1 HB); (case side2 => exact HC0_1.out); rintro e w7 ⟨v383, rfl, ho0, hb⟩; have HO384 := Aside0.mk (Kd.R_lower ho0 (below_size qB_)); replace BK381 := Aside0.mk (blk_below (qk_ BK381) hb); replace HB := Aside0.mk (below_step qB_ hb); (try clear hb); (try clear hb2); (try clear hk); (try clear hi); (try clear ho0); obtain ⟨hcz8_0, hcz8_1, hfz8_0, hfz8_1⟩ := bc2_ BK381) | (go_at_call 102; (with_reducible refine (impl_forest.calls k a0_0 _ _ l0_1 a1 t385 _ ?side1 ?side2 A4.out).mono ?_); (case side1 => exact qC_ HR0_1 HB); (case side2 => exact HC0_1.out); rintro e w9 ⟨v386, rfl, ho0, hb⟩; have HO387 := Aside0.mk (Kd.R_lower ho0 (below_size qB_)); replace HO384 := Aside0.mk (Kd.R_below (qR_ HO384) hb); replace BK381 := Aside0.mk (blk_below (qk_ BK381) hb); replace HB := Aside0.mk (below_step qB_ hb); (try clear hb); (try clear hb2); (try clear hk); (try clear hi); (try clear ho0); obtain ⟨Ao10, co10, eo10⟩ := Kd.R_slice HO387.out; subst eo10)))
 go_loopg [15] k (fun kq v15 w' => ∃ (x15_1 : Int), v15 = .int .i64 x15_1 ∧ Aside0 (impl_levelOk.l0 kq a1 t382 t385 (t385.length : Int) x15_1 a0_0 l0_1 = some r) ∧ Aside0 (kq ≤ k) ∧ Aside0 (Kd.R (Kd.int .i64) 3 w' w.heap.size (fun _ => True) v383 t382) ∧ Aside0 (Kd.R k43 43 w' w.heap.size (fun _ => True) (.slice Ao10 t385.length co10) t385) ∧ Aside0 (w'.heap[gb381]? = some (.cells #[.int .i64 a0_0, (.slice A0_1 l0_1.length c0_1)] 29 (0, 0))) ∧ Aside0 (Below w.heap.size w w'))
 case atStart => exact ⟨(0), qe_, H', ⟨Nat.le_refl _⟩, ⟨by (with_reducible repeat (first | apply Kd.R_alloc | apply Kd.R_drewN | apply Kd.R_drew)); first | exact HO384.out | (have h_ := HO384.out; simp only [own_slice] at h_ ⊢; exact h_)⟩, ⟨by (with_reducible repeat (first | apply Kd.R_alloc | apply Kd.R_drewN | apply Kd.R_drew)); first | exact HO387.out | (have h_ := HO387.out; simp only [own_slice] at h_ ⊢; exact h_)⟩, ⟨qk_ BK381⟩, ⟨qB_⟩⟩
 case round =>
  clear H'
  (try clear p2); (try clear c6); (try clear hcz6_0); (try clear hcz6_1); (try clear hcz8_0); (try clear hcz8_1); (try clear hfz6_0); (try clear hfz6_1); (try clear hfz8_0); (try clear hfz8_1)
  obtain ⟨x15_1, rfl, HA, HK1, HO_5, HO_13, BK381, HB⟩ := hrel
  cases gk with
  | zero => exact absurd HA.out (by simp [impl_levelOk.l0])
  | succ k1 =>
   have H := HA.out; clear HA
   simp only [impl_levelOk.l0] at H
   by_cases c11 : x15_1 < (t385.length : Int)
   ·rw [if_pos c11] at H
    have c11b0 : decide (x15_1 < (t385.length : Int)) = true := decide_eq_true c11
    clear c11
    by_cases c12 : 0 ≤ x15_1
    ·rw [if_pos c12] at H
     have c12b0 : decide (0 ≤ x15_1) = true := decide_eq_true c12
     clear c12
     by_cases c13 : x15_1 < (t385.length : Int)
     ·rw [if_pos c13] at H
      have c13b0 : decide (x15_1 < (t385.length : Int)) = true := decide_eq_true c13
      clear c13
      by_cases c14 : 0 ≤ ((rd_T43 t385 x15_1).f0)
      ·rw [if_pos c14] at H
       have c14b0 : decide (0 ≤ ((rd_T43 t385 x15_1).f0)) = true := decide_eq_true c14
       clear c14
       by_cases c15 : ((rd_T43 t385 x15_1).f0) < (t382.length : Int)
       ·rw [if_pos c15] at H
        have c15b0 : decide (((rd_T43 t385 x15_1).f0) < (t382.length : Int)) = true := decide_eq_true c15
        clear c15
        obtain ⟨t391, A160, H⟩ := Option.bind_eq_some_iff.mp H; have A16 := Aside0.mk A160; clear A160
        by_cases c17 : 0 ≤ a1
        ·rw [if_pos c17] at H
         have c17b0 := eq_true c17
         have c17b1 : decide (0 ≤ a1) = true := decide_eq_true c17
         clear c17
         obtain ⟨ji18, hji18⟩ : ∃ j_ : Int, (shr .i64 a0_0 a1) = j_ := ⟨_, rfl⟩
         first | rw [hji18] at H | simp only [hji18] at H
         (try rw [hji18] at A16)
         have hji18_ : (a0_0 / 2 ^ min a1.toNat 64) = ji18 := hji18
         have hji18z : a1 ≤ 64 → (a0_0 / 2 ^ a1.toNat) = ji18 := shr_small hji18
         by_cases c19 : t391 > (ji18)
         ·rw [if_pos c19] at H
          have c19b0 : decide ((ji18) < t391) = true := decide_eq_true c19
          clear c19
          obtain rfl := Option.some.inj H
          have p388 : 0 ≤ (x15_1 : Int) := of_decide_eq_true qa_
          have q388 : x15_1 < (t385.length : Int) := of_decide_eq_true qa_
          obtain ⟨ad388, e388, hx388_0, hx388_1⟩ := at_T43 (Kd.R_reads' HO_13.out).2.2 x15_1 p388 q388
          cases e388; replace p388 := eq_true p388; replace q388 := eq_true q388
          go_wp2_with (first | ((with_reducible refine gate_dst (N := 7) rfl ?_); refine bx_ 7 (cs := #[.int .i64 0, .int .i64 0]) (t := 43) ?_; intro gb389 hg w20 hbox hb; have BK389 := Aside0.mk (hbox); have GW389 := Aside0.mk ((qs_ : w.heap.size ≤ gb389)); have GE389 := Aside0.mk ((qs_ : w.heap.size ≤ gb389)); have NB381_389 := Aside0.mk ((by rw [hg]; exact Nat.ne_of_lt (blk_lt (qk_ BK381)) : gb381 ≠ gb389)); have NB389_381 := Aside0.mk ((by rw [hg]; exact Nat.ne_of_gt (blk_lt (qk_ BK381)) : gb389 ≠ gb381)); replace HO_5 := Aside0.mk (Kd.R_below (qR_ HO_5) hb); replace HO_13 := Aside0.mk (Kd.R_below (Kd.R_elderB (qR_ HO_13) gb389 (Nat.le_of_eq hg.symm)) hb); replace BK381 := Aside0.mk (blk_below (qk_ BK381) hb); replace HB := Aside0.mk (below_step qB_ hb); clear hb hbox hg; have hnb21 := NB389_381.out; have hnc21 := NB381_389.out; obtain ⟨hcz22_0, hcz22_1, hfz22_0, hfz22_1⟩ := bc2_ BK389; obtain ⟨Ao23, co23, eo23⟩ := Kd.R_slice HO_5.out; subst eo23; have p390 : 0 ≤ (((rd_T43 t385 x15_1).f0) : Int) := of_decide_eq_true qa_; have q390 : ((rd_T43 t385 x15_1).f0) < (t382.length : Int) := of_decide_eq_true qa_; obtain ⟨ad390, e390, hx390_0⟩ := Kd.at_int (Kd.R_reads' HO_5.out).2.2 ((rd_T43 t385 x15_1).f0) p390 q390; cases e390; have hn390_0 : ad390.block ≠ gb389 := Kd.own_blk (Kd.R_ne HO_5.out BK389.out (by decide)); have hn390_1 : ad390.block ≠ gb389 := Kd.own_blk (Kd.R_ne HO_5.out BK389.out (by decide)); replace hx390_0 := (cell_far (p := ⟨gb389, 0, none⟩) (by first | (rw [add_block]; exact hn390_0) | (show (Addr.add _ _).block ≠ _; rw [add_block]; exact hn390_0) | exact hn390_0) (.int .i64 ((rd_T43 t385 x15_1).f0))).trans hx390_0; replace hx390_0 := (cell_far (p := ⟨gb389, 1, none⟩) (by first | (rw [add_block]; exact hn390_1) | (show (Addr.add _ _).block ≠ _; rw [add_block]; exact hn390_1) | exact hn390_1) (.int .i64 ((rd_T43 t385 x15_1).f1))).trans hx390_0; (try have hy390_0 := fun (n_ : Nat) => (show ((((w20.drewN n_).setCell ⟨gb389, 0, none⟩ (.int .i64 ((rd_T43 t385 x15_1).f0))).setCell ⟨gb389, 1, none⟩ (.int .i64 ((rd_T43 t385 x15_1).f1)))).cell? _ = some _ from hx390_0)); clear hn390_0; clear hn390_1; replace p390 := eq_true p390; replace q390 := eq_true q390) | (go_at_call 114; (with_reducible refine (impl_sizes.calls k1 _ _ t382 (rd t382 ((rd_T43 t385 x15_1).f0)) t391 _ ?side1 ?side2 A16.out).mono ?_); (case side1 => refine (Kd.R_reads' (e := 3) (base := w.heap.size) (ok := fun k_ => True) (n := t382.length) (c := co23) ?_).2.2; exact (by (with_reducible repeat (first | apply Kd.R_alloc | apply Kd.R_drewN | apply Kd.R_drew)); exact (Kd.R_mono (Kd.R_far (p := ⟨gb389, 1, none⟩) (Kd.R_far (p := ⟨gb389, 0, none⟩) (Kd.R_types HO_5.out BK389.out (by decide)) (fun _ hk => hk.2) (.int .i64 ((rd_T43 t385 x15_1).f0))) (fun _ hk => hk.2) (.int .i64 ((rd_T43 t385 x15_1).f1))) (fun _ h_ => h_.1)))); (case side2 => exact (Kd.R_reads' HO_5.out).2.1); rintro e w' ⟨rfl, ⟨nd, rfl⟩⟩; (try first | exact ⟨rfl, _, World.drewN_drewN _ _ _⟩ | exact ⟨rfl, _, Eq.trans (World.drewN_drewN _ _ _) (congrArg (World.drewN _) (Nat.add_assoc _ _ _))⟩); obtain ⟨hcz24_0, hcz24_1, hfz24_0, hfz24_1⟩ := bc2_ BK381))
          repeat (go_quiet (first | ((with_reducible refine gate_dst (N := 7) rfl ?_); refine bx_ 7 (cs := #[.int .i64 0, .int .i64 0]) (t := 43) ?_; intro gb389 hg w20 hbox hb; have BK389 := Aside0.mk (hbox); have GW389 := Aside0.mk ((qs_ : w.heap.size ≤ gb389)); have GE389 := Aside0.mk ((qs_ : w.heap.size ≤ gb389)); have NB381_389 := Aside0.mk ((by rw [hg]; exact Nat.ne_of_lt (blk_lt (qk_ BK381)) : gb381 ≠ gb389)); have NB389_381 := Aside0.mk ((by rw [hg]; exact Nat.ne_of_gt (blk_lt (qk_ BK381)) : gb389 ≠ gb381)); replace HO_5 := Aside0.mk (Kd.R_below (qR_ HO_5) hb); replace HO_13 := Aside0.mk (Kd.R_below (Kd.R_elderB (qR_ HO_13) gb389 (Nat.le_of_eq hg.symm)) hb); replace BK381 := Aside0.mk (blk_below (qk_ BK381) hb); replace HB := Aside0.mk (below_step qB_ hb); clear hb hbox hg; have hnb21 := NB389_381.out; have hnc21 := NB381_389.out; obtain ⟨hcz22_0, hcz22_1, hfz22_0, hfz22_1⟩ := bc2_ BK389; obtain ⟨Ao23, co23, eo23⟩ := Kd.R_slice HO_5.out; subst eo23; have p390 : 0 ≤ (((rd_T43 t385 x15_1).f0) : Int) := of_decide_eq_true qa_; have q390 : ((rd_T43 t385 x15_1).f0) < (t382.length : Int) := of_decide_eq_true qa_; obtain ⟨ad390, e390, hx390_0⟩ := Kd.at_int (Kd.R_reads' HO_5.out).2.2 ((rd_T43 t385 x15_1).f0) p390 q390; cases e390; have hn390_0 : ad390.block ≠ gb389 := Kd.own_blk (Kd.R_ne HO_5.out BK389.out (by decide)); have hn390_1 : ad390.block ≠ gb389 := Kd.own_blk (Kd.R_ne HO_5.out BK389.out (by decide)); replace hx390_0 := (cell_far (p := ⟨gb389, 0, none⟩) (by first | (rw [add_block]; exact hn390_0) | (show (Addr.add _ _).block ≠ _; rw [add_block]; exact hn390_0) | exact hn390_0) (.int .i64 ((rd_T43 t385 x15_1).f0))).trans hx390_0; replace hx390_0 := (cell_far (p := ⟨gb389, 1, none⟩) (by first | (rw [add_block]; exact hn390_1) | (show (Addr.add _ _).block ≠ _; rw [add_block]; exact hn390_1) | exact hn390_1) (.int .i64 ((rd_T43 t385 x15_1).f1))).trans hx390_0; (try have hy390_0 := fun (n_ : Nat) => (show ((((w20.drewN n_).setCell ⟨gb389, 0, none⟩ (.int .i64 ((rd_T43 t385 x15_1).f0))).setCell ⟨gb389, 1, none⟩ (.int .i64 ((rd_T43 t385 x15_1).f1)))).cell? _ = some _ from hx390_0)); clear hn390_0; clear hn390_1; replace p390 := eq_true p390; replace q390 := eq_true q390) | (go_at_call 114; (with_reducible refine (impl_sizes.calls k1 _ _ t382 (rd t382 ((rd_T43 t385 x15_1).f0)) t391 _ ?side1 ?side2 A16.out).mono ?_); (case side1 => refine (Kd.R_reads' (e := 3) (base := w.heap.size) (ok := fun k_ => True) (n := t382.length) (c := co23) ?_).2.2; exact (by (with_reducible repeat (first | apply Kd.R_alloc | apply Kd.R_drewN | apply Kd.R_drew)); exact (Kd.R_mono (Kd.R_far (p := ⟨gb389, 1, none⟩) (Kd.R_far (p := ⟨gb389, 0, none⟩) (Kd.R_types HO_5.out BK389.out (by decide)) (fun _ hk => hk.2) (.int .i64 ((rd_T43 t385 x15_1).f0))) (fun _ hk => hk.2) (.int .i64 ((rd_T43 t385 x15_1).f1))) (fun _ h_ => h_.1)))); (case side2 => exact (Kd.R_reads' HO_5.out).2.1); rintro e w' ⟨rfl, ⟨nd, rfl⟩⟩; (try first | exact ⟨rfl, _, World.drewN_drewN _ _ _⟩ | exact ⟨rfl, _, Eq.trans (World.drewN_drewN _ _ _) (congrArg (World.drewN _) (Nat.add_assoc _ _ _))⟩); obtain ⟨hcz24_0, hcz24_1, hfz24_0, hfz24_1⟩ := bc2_ BK381)); try go_wp2_with (first | ((with_reducible refine gate_dst (N := 7) rfl ?_); refine bx_ 7 (cs := #[.int .i64 0, .int .i64 0]) (t := 43) ?_; intro gb389 hg w20 hbox hb; have BK389 := Aside0.mk (hbox); have GW389 := Aside0.mk ((qs_ : w.heap.size ≤ gb389)); have GE389 := Aside0.mk ((qs_ : w.heap.size ≤ gb389)); have NB381_389 := Aside0.mk ((by rw [hg]; exact Nat.ne_of_lt (blk_lt (qk_ BK381)) : gb381 ≠ gb389)); have NB389_381 := Aside0.mk ((by rw [hg]; exact Nat.ne_of_gt (blk_lt (qk_ BK381)) : gb389 ≠ gb381)); replace HO_5 := Aside0.mk (Kd.R_below (qR_ HO_5) hb); replace HO_13 := Aside0.mk (Kd.R_below (Kd.R_elderB (qR_ HO_13) gb389 (Nat.le_of_eq hg.symm)) hb); replace BK381 := Aside0.mk (blk_below (qk_ BK381) hb); replace HB := Aside0.mk (below_step qB_ hb); clear hb hbox hg; have hnb21 := NB389_381.out; have hnc21 := NB381_389.out; obtain ⟨hcz22_0, hcz22_1, hfz22_0, hfz22_1⟩ := bc2_ BK389; obtain ⟨Ao23, co23, eo23⟩ := Kd.R_slice HO_5.out; subst eo23; have p390 : 0 ≤ (((rd_T43 t385 x15_1).f0) : Int) := of_decide_eq_true qa_; have q390 : ((rd_T43 t385 x15_1).f0) < (t382.length : Int) := of_decide_eq_true qa_; obtain ⟨ad390, e390, hx390_0⟩ := Kd.at_int (Kd.R_reads' HO_5.out).2.2 ((rd_T43 t385 x15_1).f0) p390 q390; cases e390; have hn390_0 : ad390.block ≠ gb389 := Kd.own_blk (Kd.R_ne HO_5.out BK389.out (by decide)); have hn390_1 : ad390.block ≠ gb389 := Kd.own_blk (Kd.R_ne HO_5.out BK389.out (by decide)); replace hx390_0 := (cell_far (p := ⟨gb389, 0, none⟩) (by first | (rw [add_block]; exact hn390_0) | (show (Addr.add _ _).block ≠ _; rw [add_block]; exact hn390_0) | exact hn390_0) (.int .i64 ((rd_T43 t385 x15_1).f0))).trans hx390_0; replace hx390_0 := (cell_far (p := ⟨gb389, 1, none⟩) (by first | (rw [add_block]; exact hn390_1) | (show (Addr.add _ _).block ≠ _; rw [add_block]; exact hn390_1) | exact hn390_1) (.int .i64 ((rd_T43 t385 x15_1).f1))).trans hx390_0; (try have hy390_0 := fun (n_ : Nat) => (show ((((w20.drewN n_).setCell ⟨gb389, 0, none⟩ (.int .i64 ((rd_T43 t385 x15_1).f0))).setCell ⟨gb389, 1, none⟩ (.int .i64 ((rd_T43 t385 x15_1).f1)))).cell? _ = some _ from hx390_0)); clear hn390_0; clear hn390_1; replace p390 := eq_true p390; replace q390 := eq_true q390) | (go_at_call 114; (with_reducible refine (impl_sizes.calls k1 _ _ t382 (rd t382 ((rd_T43 t385 x15_1).f0)) t391 _ ?side1 ?side2 A16.out).mono ?_); (case side1 => refine (Kd.R_reads' (e := 3) (base := w.heap.size) (ok := fun k_ => True) (n := t382.length) (c := co23) ?_).2.2; exact (by (with_reducible repeat (first | apply Kd.R_alloc | apply Kd.R_drewN | apply Kd.R_drew)); exact (Kd.R_mono (Kd.R_far (p := ⟨gb389, 1, none⟩) (Kd.R_far (p := ⟨gb389, 0, none⟩) (Kd.R_types HO_5.out BK389.out (by decide)) (fun _ hk => hk.2) (.int .i64 ((rd_T43 t385 x15_1).f0))) (fun _ hk => hk.2) (.int .i64 ((rd_T43 t385 x15_1).f1))) (fun _ h_ => h_.1)))); (case side2 => exact (Kd.R_reads' HO_5.out).2.1); rintro e w' ⟨rfl, ⟨nd, rfl⟩⟩; (try first | exact ⟨rfl, _, World.drewN_drewN _ _ _⟩ | exact ⟨rfl, _, Eq.trans (World.drewN_drewN _ _ _) (congrArg (World.drewN _) (Nat.add_assoc _ _ _))⟩); obtain ⟨hcz24_0, hcz24_1, hfz24_0, hfz24_1⟩ := bc2_ BK381)))
          go_ret
          exact ⟨by first | rfl | (simp [errW_none, errW_some] <;> rfl) | (simp only [← hji18]; first | rfl | (simp [errW_none, errW_some] <;> rfl)) | (simp [*, errW_none, errW_some] <;> rfl), qB_⟩
         ·rw [if_neg c19] at H
          have c19b0 : decide ((ji18) < t391) = false := decide_eq_false c19
          clear c19; have H' := Aside0.mk H; clear H
          have p388 : 0 ≤ (x15_1 : Int) := of_decide_eq_true qa_
          have q388 : x15_1 < (t385.length : Int) := of_decide_eq_true qa_
          obtain ⟨ad388, e388, hx388_0, hx388_1⟩ := at_T43 (Kd.R_reads' HO_13.out).2.2 x15_1 p388 q388
          cases e388; replace p388 := eq_true p388; replace q388 := eq_true q388
          go_wp2_with (first | ((with_reducible refine gate_dst (N := 7) rfl ?_); refine bx_ 7 (cs := #[.int .i64 0, .int .i64 0]) (t := 43) ?_; intro gb389 hg w25 hbox hb; have BK389 := Aside0.mk (hbox); have GW389 := Aside0.mk ((qs_ : w.heap.size ≤ gb389)); have GE389 := Aside0.mk ((qs_ : w.heap.size ≤ gb389)); have NB381_389 := Aside0.mk ((by rw [hg]; exact Nat.ne_of_lt (blk_lt (qk_ BK381)) : gb381 ≠ gb389)); have NB389_381 := Aside0.mk ((by rw [hg]; exact Nat.ne_of_gt (blk_lt (qk_ BK381)) : gb389 ≠ gb381)); replace HO_5 := Aside0.mk (Kd.R_below (qR_ HO_5) hb); replace HO_13 := Aside0.mk (Kd.R_below (Kd.R_elderB (qR_ HO_13) gb389 (Nat.le_of_eq hg.symm)) hb); replace BK381 := Aside0.mk (blk_below (qk_ BK381) hb); replace HB := Aside0.mk (below_step qB_ hb); clear hb hbox hg; have hnb26 := NB389_381.out; have hnc26 := NB381_389.out; obtain ⟨hcz27_0, hcz27_1, hfz27_0, hfz27_1⟩ := bc2_ BK389; obtain ⟨Ao28, co28, eo28⟩ := Kd.R_slice HO_5.out; subst eo28; have p390 : 0 ≤ (((rd_T43 t385 x15_1).f0) : Int) := of_decide_eq_true qa_; have q390 : ((rd_T43 t385 x15_1).f0) < (t382.length : Int) := of_decide_eq_true qa_; obtain ⟨ad390, e390, hx390_0⟩ := Kd.at_int (Kd.R_reads' HO_5.out).2.2 ((rd_T43 t385 x15_1).f0) p390 q390; cases e390; have hn390_0 : ad390.block ≠ gb389 := Kd.own_blk (Kd.R_ne HO_5.out BK389.out (by decide)); have hn390_1 : ad390.block ≠ gb389 := Kd.own_blk (Kd.R_ne HO_5.out BK389.out (by decide)); replace hx390_0 := (cell_far (p := ⟨gb389, 0, none⟩) (by first | (rw [add_block]; exact hn390_0) | (show (Addr.add _ _).block ≠ _; rw [add_block]; exact hn390_0) | exact hn390_0) (.int .i64 ((rd_T43 t385 x15_1).f0))).trans hx390_0; replace hx390_0 := (cell_far (p := ⟨gb389, 1, none⟩) (by first | (rw [add_block]; exact hn390_1) | (show (Addr.add _ _).block ≠ _; rw [add_block]; exact hn390_1) | exact hn390_1) (.int .i64 ((rd_T43 t385 x15_1).f1))).trans hx390_0; (try have hy390_0 := fun (n_ : Nat) => (show ((((w25.drewN n_).setCell ⟨gb389, 0, none⟩ (.int .i64 ((rd_T43 t385 x15_1).f0))).setCell ⟨gb389, 1, none⟩ (.int .i64 ((rd_T43 t385 x15_1).f1)))).cell? _ = some _ from hx390_0)); clear hn390_0; clear hn390_1; replace p390 := eq_true p390; replace q390 := eq_true q390) | (go_at_call 114; (with_reducible refine (impl_sizes.calls k1 _ _ t382 (rd t382 ((rd_T43 t385 x15_1).f0)) t391 _ ?side1 ?side2 A16.out).mono ?_); (case side1 => refine (Kd.R_reads' (e := 3) (base := w.heap.size) (ok := fun k_ => True) (n := t382.length) (c := co28) ?_).2.2; exact (by (with_reducible repeat (first | apply Kd.R_alloc | apply Kd.R_drewN | apply Kd.R_drew)); exact (Kd.R_mono (Kd.R_far (p := ⟨gb389, 1, none⟩) (Kd.R_far (p := ⟨gb389, 0, none⟩) (Kd.R_types HO_5.out BK389.out (by decide)) (fun _ hk => hk.2) (.int .i64 ((rd_T43 t385 x15_1).f0))) (fun _ hk => hk.2) (.int .i64 ((rd_T43 t385 x15_1).f1))) (fun _ h_ => h_.1)))); (case side2 => exact (Kd.R_reads' HO_5.out).2.1); rintro e w' ⟨rfl, ⟨nd, rfl⟩⟩; (try first | exact ⟨rfl, _, World.drewN_drewN _ _ _⟩ | exact ⟨rfl, _, Eq.trans (World.drewN_drewN _ _ _) (congrArg (World.drewN _) (Nat.add_assoc _ _ _))⟩); obtain ⟨hcz29_0, hcz29_1, hfz29_0, hfz29_1⟩ := bc2_ BK381))
          repeat (go_quiet (first | ((with_reducible refine gate_dst (N := 7) rfl ?_); refine bx_ 7 (cs := #[.int .i64 0, .int .i64 0]) (t := 43) ?_; intro gb389 hg w25 hbox hb; have BK389 := Aside0.mk (hbox); have GW389 := Aside0.mk ((qs_ : w.heap.size ≤ gb389)); have GE389 := Aside0.mk ((qs_ : w.heap.size ≤ gb389)); have NB381_389 := Aside0.mk ((by rw [hg]; exact Nat.ne_of_lt (blk_lt (qk_ BK381)) : gb381 ≠ gb389)); have NB389_381 := Aside0.mk ((by rw [hg]; exact Nat.ne_of_gt (blk_lt (qk_ BK381)) : gb389 ≠ gb381)); replace HO_5 := Aside0.mk (Kd.R_below (qR_ HO_5) hb); replace HO_13 := Aside0.mk (Kd.R_below (Kd.R_elderB (qR_ HO_13) gb389 (Nat.le_of_eq hg.symm)) hb); replace BK381 := Aside0.mk (blk_below (qk_ BK381) hb); replace HB := Aside0.mk (below_step qB_ hb); clear hb hbox hg; have hnb26 := NB389_381.out; have hnc26 := NB381_389.out; obtain ⟨hcz27_0, hcz27_1, hfz27_0, hfz27_1⟩ := bc2_ BK389; obtain ⟨Ao28, co28, eo28⟩ := Kd.R_slice HO_5.out; subst eo28; have p390 : 0 ≤ (((rd_T43 t385 x15_1).f0) : Int) := of_decide_eq_true qa_; have q390 : ((rd_T43 t385 x15_1).f0) < (t382.length : Int) := of_decide_eq_true qa_; obtain ⟨ad390, e390, hx390_0⟩ := Kd.at_int (Kd.R_reads' HO_5.out).2.2 ((rd_T43 t385 x15_1).f0) p390 q390; cases e390; have hn390_0 : ad390.block ≠ gb389 := Kd.own_blk (Kd.R_ne HO_5.out BK389.out (by decide)); have hn390_1 : ad390.block ≠ gb389 := Kd.own_blk (Kd.R_ne HO_5.out BK389.out (by decide)); replace hx390_0 := (cell_far (p := ⟨gb389, 0, none⟩) (by first | (rw [add_block]; exact hn390_0) | (show (Addr.add _ _).block ≠ _; rw [add_block]; exact hn390_0) | exact hn390_0) (.int .i64 ((rd_T43 t385 x15_1).f0))).trans hx390_0; replace hx390_0 := (cell_far (p := ⟨gb389, 1, none⟩) (by first | (rw [add_block]; exact hn390_1) | (show (Addr.add _ _).block ≠ _; rw [add_block]; exact hn390_1) | exact hn390_1) (.int .i64 ((rd_T43 t385 x15_1).f1))).trans hx390_0; (try have hy390_0 := fun (n_ : Nat) => (show ((((w25.drewN n_).setCell ⟨gb389, 0, none⟩ (.int .i64 ((rd_T43 t385 x15_1).f0))).setCell ⟨gb389, 1, none⟩ (.int .i64 ((rd_T43 t385 x15_1).f1)))).cell? _ = some _ from hx390_0)); clear hn390_0; clear hn390_1; replace p390 := eq_true p390; replace q390 := eq_true q390) | (go_at_call 114; (with_reducible refine (impl_sizes.calls k1 _ _ t382 (rd t382 ((rd_T43 t385 x15_1).f0)) t391 _ ?side1 ?side2 A16.out).mono ?_); (case side1 => refine (Kd.R_reads' (e := 3) (base := w.heap.size) (ok := fun k_ => True) (n := t382.length) (c := co28) ?_).2.2; exact (by (with_reducible repeat (first | apply Kd.R_alloc | apply Kd.R_drewN | apply Kd.R_drew)); exact (Kd.R_mono (Kd.R_far (p := ⟨gb389, 1, none⟩) (Kd.R_far (p := ⟨gb389, 0, none⟩) (Kd.R_types HO_5.out BK389.out (by decide)) (fun _ hk => hk.2) (.int .i64 ((rd_T43 t385 x15_1).f0))) (fun _ hk => hk.2) (.int .i64 ((rd_T43 t385 x15_1).f1))) (fun _ h_ => h_.1)))); (case side2 => exact (Kd.R_reads' HO_5.out).2.1); rintro e w' ⟨rfl, ⟨nd, rfl⟩⟩; (try first | exact ⟨rfl, _, World.drewN_drewN _ _ _⟩ | exact ⟨rfl, _, Eq.trans (World.drewN_drewN _ _ _) (congrArg (World.drewN _) (Nat.add_assoc _ _ _))⟩); obtain ⟨hcz29_0, hcz29_1, hfz29_0, hfz29_1⟩ := bc2_ BK381)); try go_wp2_with (first | ((with_reducible refine gate_dst (N := 7) rfl ?_); refine bx_ 7 (cs := #[.int .i64 0, .int .i64 0]) (t := 43) ?_; intro gb389 hg w25 hbox hb; have BK389 := Aside0.mk (hbox); have GW389 := Aside0.mk ((qs_ : w.heap.size ≤ gb389)); have GE389 := Aside0.mk ((qs_ : w.heap.size ≤ gb389)); have NB381_389 := Aside0.mk ((by rw [hg]; exact Nat.ne_of_lt (blk_lt (qk_ BK381)) : gb381 ≠ gb389)); have NB389_381 := Aside0.mk ((by rw [hg]; exact Nat.ne_of_gt (blk_lt (qk_ BK381)) : gb389 ≠ gb381)); replace HO_5 := Aside0.mk (Kd.R_below (qR_ HO_5) hb); replace HO_13 := Aside0.mk (Kd.R_below (Kd.R_elderB (qR_ HO_13) gb389 (Nat.le_of_eq hg.symm)) hb); replace BK381 := Aside0.mk (blk_below (qk_ BK381) hb); replace HB := Aside0.mk (below_step qB_ hb); clear hb hbox hg; have hnb26 := NB389_381.out; have hnc26 := NB381_389.out; obtain ⟨hcz27_0, hcz27_1, hfz27_0, hfz27_1⟩ := bc2_ BK389; obtain ⟨Ao28, co28, eo28⟩ := Kd.R_slice HO_5.out; subst eo28; have p390 : 0 ≤ (((rd_T43 t385 x15_1).f0) : Int) := of_decide_eq_true qa_; have q390 : ((rd_T43 t385 x15_1).f0) < (t382.length : Int) := of_decide_eq_true qa_; obtain ⟨ad390, e390, hx390_0⟩ := Kd.at_int (Kd.R_reads' HO_5.out).2.2 ((rd_T43 t385 x15_1).f0) p390 q390; cases e390; have hn390_0 : ad390.block ≠ gb389 := Kd.own_blk (Kd.R_ne HO_5.out BK389.out (by decide)); have hn390_1 : ad390.block ≠ gb389 := Kd.own_blk (Kd.R_ne HO_5.out BK389.out (by decide)); replace hx390_0 := (cell_far (p := ⟨gb389, 0, none⟩) (by first | (rw [add_block]; exact hn390_0) | (show (Addr.add _ _).block ≠ _; rw [add_block]; exact hn390_0) | exact hn390_0) (.int .i64 ((rd_T43 t385 x15_1).f0))).trans hx390_0; replace hx390_0 := (cell_far (p := ⟨gb389, 1, none⟩) (by first | (rw [add_block]; exact hn390_1) | (show (Addr.add _ _).block ≠ _; rw [add_block]; exact hn390_1) | exact hn390_1) (.int .i64 ((rd_T43 t385 x15_1).f1))).trans hx390_0; (try have hy390_0 := fun (n_ : Nat) => (show ((((w25.drewN n_).setCell ⟨gb389, 0, none⟩ (.int .i64 ((rd_T43 t385 x15_1).f0))).setCell ⟨gb389, 1, none⟩ (.int .i64 ((rd_T43 t385 x15_1).f1)))).cell? _ = some _ from hx390_0)); clear hn390_0; clear hn390_1; replace p390 := eq_true p390; replace q390 := eq_true q390) | (go_at_call 114; (with_reducible refine (impl_sizes.calls k1 _ _ t382 (rd t382 ((rd_T43 t385 x15_1).f0)) t391 _ ?side1 ?side2 A16.out).mono ?_); (case side1 => refine (Kd.R_reads' (e := 3) (base := w.heap.size) (ok := fun k_ => True) (n := t382.length) (c := co28) ?_).2.2; exact (by (with_reducible repeat (first | apply Kd.R_alloc | apply Kd.R_drewN | apply Kd.R_drew)); exact (Kd.R_mono (Kd.R_far (p := ⟨gb389, 1, none⟩) (Kd.R_far (p := ⟨gb389, 0, none⟩) (Kd.R_types HO_5.out BK389.out (by decide)) (fun _ hk => hk.2) (.int .i64 ((rd_T43 t385 x15_1).f0))) (fun _ hk => hk.2) (.int .i64 ((rd_T43 t385 x15_1).f1))) (fun _ h_ => h_.1)))); (case side2 => exact (Kd.R_reads' HO_5.out).2.1); rintro e w' ⟨rfl, ⟨nd, rfl⟩⟩; (try first | exact ⟨rfl, _, World.drewN_drewN _ _ _⟩ | exact ⟨rfl, _, Eq.trans (World.drewN_drewN _ _ _) (congrArg (World.drewN _) (Nat.add_assoc _ _ _))⟩); obtain ⟨hcz29_0, hcz29_1, hfz29_0, hfz29_1⟩ := bc2_ BK381)))
          go_roundg k1
          case measure => have := HK1.out; omega
          case rel => exact ⟨(wrap64 (x15_1 + 1)), qe_, H', ⟨by have := HK1.out; omega⟩, ⟨by (with_reducible repeat (first | apply Kd.R_alloc | apply Kd.R_drewN | apply Kd.R_drew)); exact Kd.R_mono (Kd.R_far (p := ⟨gb389, 1, none⟩) (Kd.R_far (p := ⟨gb389, 0, none⟩) (Kd.R_types HO_5.out BK389.out (by decide)) (fun _ hk => hk.2) (.int .i64 ((rd_T43 t385 x15_1).f0))) (fun _ hk => hk.2) (.int .i64 ((rd_T43 t385 x15_1).f1))) (fun _ hk => trivial)⟩, ⟨by (with_reducible repeat (first | apply Kd.R_alloc | apply Kd.R_drewN | apply Kd.R_drew)); exact Kd.R_mono (Kd.R_far (p := ⟨gb389, 1, none⟩) (Kd.R_far (p := ⟨gb389, 0, none⟩) (Kd.R_mono HO_13.out (fun k_ hk => (⟨hk, hk.2⟩ : _ ∧ k_ ≠ gb389))) (fun _ hk => hk.2) (.int .i64 ((rd_T43 t385 x15_1).f0))) (fun _ hk => hk.2) (.int .i64 ((rd_T43 t385 x15_1).f1))) (fun _ hk => trivial)⟩, ⟨by (with_reducible repeat (first | refine blk_drewN ?_ _ | refine blk_drew ?_ | refine blk_alloc ?_ _)); refine blk_far ?_ NB381_389.out _; (with_reducible repeat (first | refine blk_drewN ?_ _ | refine blk_drew ?_ | refine blk_alloc ?_ _)); refine blk_far ?_ NB381_389.out _; (with_reducible repeat (first | refine blk_drewN ?_ _ | refine blk_drew ?_ | refine blk_alloc ?_ _)); exact BK381.out⟩, ⟨qB_⟩⟩
        ·rw [if_neg c17] at H
         exact absurd H (by simp)
       ·rw [if_neg c15] at H
        exact absurd H (by simp)
      ·rw [if_neg c14] at H
       exact absurd H (by simp)
     ·rw [if_neg c13] at H
      exact absurd H (by simp)
    ·rw [if_neg c12] at H
     exact absurd H (by simp)
   ·rw [if_neg c11] at H
    have c11b0 : decide (x15_1 < (t385.length : Int)) = false := decide_eq_false c11
    clear c11
    obtain rfl := Option.some.inj H
    go_wp2
    repeat (go_quiet (fail); try go_wp2)
    go_ret
    exact ⟨qr_, qB_⟩

end Go.Proofs.Ytbkklafkoegdpaa.QFnExactWebLabels
