-- printed for this claim by a program of the session's own (no text of the kit's print)
import Derived.Test.YtacnlodcbbhahaaQFnExactLoseDiskx0
import Derived.Test.YtacnlodcbbhahaaQFnExactLoseDiskx2
namespace Go.Proofs.Ytacnlodcbbhahaa.QFnExactLoseDisk
open Go.RowKit Go.Proofs.YtacnlodcbbhahaaW.PrintWords Go.Proofs.YtacnlodcbbhahaaW.PrintLast Go.Proofs.YtacnlodcbbhahaaW.PrintMore
attribute [local go_sem] max2_int min2_int max_two min_two max_three min_three max_four min_four   -- for this text's walks alone
set_option linter.unusedVariables false
set_option linter.unusedSimpArgs false

/-! ### spec_LoseDisk: function 24 -/
mutual
def spec_LoseDisk.l0 : Nat → List Int → Int → List (S99) → List (S99) → Option ((List (S99)) × Bool)
  | 0, _, _, _, _ => none
  | k + 1, x1, x7, x114000, x117000 => if x7 < (x114000.length : Int) then (if 0 ≤ x7 then (if x7 < (x1.length : Int) then (spec_LoseDisk.j1 k x1 x7 (rd x1 x7) x114000 x117000 ((rd_T99 x114000 x7).f0) ((rd_T99 x114000 x7).f1) ((rd_T99 x114000 x7).f2)) else (spec_LoseDisk.j1 k x1 x7 0 x114000 x117000 ((rd_T99 x114000 x7).f0) ((rd_T99 x114000 x7).f1) ((rd_T99 x114000 x7).f2))) else (none)) else (some (x117000, true))
def spec_LoseDisk.j1 : Nat → List Int → Int → Int → List (S99) → List (S99) → ByteArray → ByteArray → Int → Option ((List (S99)) × Bool)
  | 0, _, _, _, _, _, _, _, _ => none
  | k + 1, x1, x7, x9, x114000, x117000, x119000, x119001, x119002 => if x9 > (x119001.size : Int) then (if (x119001.size : Int) < x119002 then (if 0 ≤ x119002 then (if x119002 ≤ (x119001.size : Int) then (if x117000.length < 3518437208883 then (spec_LoseDisk.l0 k x1 (wrap64 (x7 + 1)) x114000 (x117000 ++ [(⟨x119000, x119001.extract 0 (x119002 : Int).toNat, x119002⟩ : S99)])) else (none)) else (none)) else (none)) else (if 0 ≤ (x119001.size : Int) then (if (x119001.size : Int) ≤ (x119001.size : Int) then (if x117000.length < 3518437208883 then (spec_LoseDisk.l0 k x1 (wrap64 (x7 + 1)) x114000 (x117000 ++ [(⟨x119000, x119001, (x119001.size : Int)⟩ : S99)])) else (none)) else (none)) else (none))) else (if x9 < x119002 then (if 0 ≤ x119002 then (if x119002 ≤ (x119001.size : Int) then (if x117000.length < 3518437208883 then (spec_LoseDisk.l0 k x1 (wrap64 (x7 + 1)) x114000 (x117000 ++ [(⟨x119000, x119001.extract 0 (x119002 : Int).toNat, x119002⟩ : S99)])) else (none)) else (none)) else (none)) else (if 0 ≤ x9 then (if x9 ≤ (x119001.size : Int) then (if x117000.length < 3518437208883 then (spec_LoseDisk.l0 k x1 (wrap64 (x7 + 1)) x114000 (x117000 ++ [(⟨x119000, x119001.extract 0 (x9 : Int).toNat, x9⟩ : S99)])) else (none)) else (none)) else (none)))
end
def spec_LoseDisk.f (k : Nat) (l0_0 : List (S99)) (l1 : List Int) : Option ((List (S99)) × Bool) := (spec_DiskOk.f k l0_0).bind fun t115 => (if t115 = true then (spec_LoseDisk.l0 k l1 0 l0_0 ([] : List (S99))) else (some (([] : List (S99)), false)))
theorem spec_LoseDisk.mono_l : ∀ k, (∀ y0 y1 y2 y3, LeO (spec_LoseDisk.l0 k y0 y1 y2 y3) (spec_LoseDisk.l0 (k + 1) y0 y1 y2 y3)) ∧ (∀ y0 y1 y2 y3 y4 y5 y6 y7, LeO (spec_LoseDisk.j1 k y0 y1 y2 y3 y4 y5 y6 y7) (spec_LoseDisk.j1 (k + 1) y0 y1 y2 y3 y4 y5 y6 y7))
  | 0 => ⟨fun _ _ _ _ r h => by simp [spec_LoseDisk.l0] at h, fun _ _ _ _ _ _ _ _ r h => by simp [spec_LoseDisk.j1] at h⟩
  | k + 1 => by
    obtain ⟨ih0, ih1⟩ := spec_LoseDisk.mono_l k
    refine ⟨?_, ?_⟩ <;> (intros; first | unfold spec_LoseDisk.l0 | unfold spec_LoseDisk.j1) <;> repeat' first
    | (with_reducible exact ih0 _ _ _ _)
    | (with_reducible exact ih1 _ _ _ _ _ _ _ _)
    | (with_reducible exact spec_DiskOk.mono _ _)
    | (with_reducible exact LeO.refl _)
    | (with_reducible exact LeO.none _)
    | (with_reducible refine LeO.ite ?_ ?_)
    | (with_reducible refine LeO.bind ?_ (fun _ => ?_))
    | exact ih0 _ _ _ _
    | exact ih1 _ _ _ _ _ _ _ _
    | exact spec_DiskOk.mono _ _
    | exact LeO.none _
    | refine LeO.ite ?_ ?_
    | refine LeO.bind ?_ (fun _ => ?_)
theorem spec_LoseDisk.mono : ∀ a0 a1 k, LeO (spec_LoseDisk.f k a0 a1) (spec_LoseDisk.f (k + 1) a0 a1) := by
  intro a0 a1 k
  obtain ⟨ih0, ih1⟩ := spec_LoseDisk.mono_l k
  unfold spec_LoseDisk.f
  repeat' first
      | (with_reducible exact ih0 _ _ _ _)
      | (with_reducible exact ih1 _ _ _ _ _ _ _ _)
      | (with_reducible exact spec_DiskOk.mono _ _)
      | (with_reducible exact LeO.refl _)
      | (with_reducible exact LeO.none _)
      | (with_reducible refine LeO.ite ?_ ?_)
      | (with_reducible refine LeO.bind ?_ (fun _ => ?_))
      | exact ih0 _ _ _ _
      | exact ih1 _ _ _ _ _ _ _ _
      | exact spec_DiskOk.mono _ _
      | exact LeO.none _
      | refine LeO.ite ?_ ?_
      | refine LeO.bind ?_ (fun _ => ?_)
def spec_LoseDisk.T15 : Bool × List (List Nat × List Nat) := (true, [([], []), ([0], [0]), ([], []), ([2], [2]), ([], []), ([4], [4]), ([], []), ([5, 6], [5, 6]), ([], []), ([3, 7, 8], [3, 7, 8]), ([9], [9]), ([1, 10], [1, 10]), ([0, 1, 2, 3, 4, 5, 6, 7, 8, 9, 10, 11], []), ([12, 11, 11, 0, 1, 2, 3, 4, 5, 6, 7, 8, 9, 10, 11], [11, 12])])
def spec_LoseDisk.B15 : List Nat := [0, 1, 0, 4, 0, 16, 0, 112, 0, 508, 1020, 2047, 4095, 8191]
theorem spec_LoseDisk.tab15 : rtab .any (opsOf Try.f24 15) = spec_LoseDisk.T15 := by kernel_rfl
theorem spec_LoseDisk.bits15 : waitsOk spec_LoseDisk.T15.2 spec_LoseDisk.B15 = true := by kernel_rfl
set_option maxHeartbeats 8000000 in
set_option maxRecDepth 100000 in
theorem spec_LoseDisk.calls (k : Nat) (A0_0 : Option Addr) (c0_0 : Nat) (l0_0 : List (S99)) (A1 : Option Addr) (c1 : Nat) (l1 : List Int) (r1 : List (S99)) (r2 : Bool) (w : World) (hr0_0 : Kd.C k99 w A0_0 l0_0.length l0_0) (hc0_0 : l0_0.length ≤ c0_0) (hr1 : Kd.C (Kd.int .i64) w A1 l1.length l1) (hc1 : l1.length ≤ c1) (h : spec_LoseDisk.f k l0_0 l1 = some (r1, r2)) :
  Calls Try.prog 24 #[.agg #[.slice A0_0 l0_0.length c0_0], .slice A1 l1.length c1] w fun e w' => ∃ v0_ : Value, e = .returned (.tuple #[.agg #[v0_], .bool r2]) ∧ Kd.R k99 99 w' w.heap.size (fun _ => True) v0_ r1 ∧ Below w.heap.size w w' := by
 have hu44 := Try.underlying44; have hu99 := Try.underlying99
 have HR0_0 := Aside0.mk hr0_0
 have HC0_0 := Aside0.mk hc0_0
 clear hr0_0 hc0_0
 have HR1 := Aside0.mk hr1
 have HC1 := Aside0.mk hc1
 clear hr1 hc1
 have HB := Aside0.mk (Below.refl w.heap.size w)
 have H : ((spec_DiskOk.f k l0_0).bind fun t115 => (if t115 = true then (spec_LoseDisk.l0 k l1 0 l0_0 ([] : List (S99))) else (some (([] : List (S99)), false)))) = some (r1, r2) := h
 clear h
 obtain ⟨t115, A30, H⟩ := Option.bind_eq_some_iff.mp H; have A3 := Aside0.mk A30; clear A30
 by_cases c4 : t115 = true
 ·subst c4
  rw [if_pos rfl] at H; have H' := Aside0.mk H; clear H
  go_enter Try.func24, Try.ntmps24
  go_wp2_with (first | ((with_reducible refine gate_dst (N := 2) rfl ?_); refine bx_ 2 (cs := #[.slice A0_0 l0_0.length c0_0]) (t := 44) ?_; intro gb113 hg w5 hbox hb; have BK113 := Aside0.mk (hbox); have GW113 := Aside0.mk ((qs_ : w.heap.size ≤ gb113)); have GE113 := Aside0.mk ((qs_ : w.heap.size ≤ gb113)); replace HB := Aside0.mk (below_step qB_ hb); clear hb hbox hg) | ((with_reducible refine gate_dst (N := 4) rfl ?_); refine bx_ 4 (cs := #[.slice none 0 0]) (t := 44) ?_; intro gb114 hg w6 hbox hb; have BK114 := Aside0.mk (hbox); have GW114 := Aside0.mk ((qs_ : w.heap.size ≤ gb114)); have GE114 := Aside0.mk ((qs_ : w.heap.size ≤ gb114)); have NB113_114 := Aside0.mk ((by rw [hg]; exact Nat.ne_of_lt (blk_lt (qk_ BK113)) : gb113 ≠ gb114)); have NB114_113 := Aside0.mk ((by rw [hg]; exact Nat.ne_of_gt (blk_lt (qk_ BK113)) : gb114 ≠ gb113)); replace BK113 := Aside0.mk (blk_below (qk_ BK113) hb); replace HB := Aside0.mk (below_step qB_ hb); clear hb hbox hg; have hnb7 := NB113_114.out; have hnc7 := NB114_113.out; obtain ⟨hcz8_0, hfz8_0⟩ := bc1_ BK113) | ((with_reducible refine gate_callee (f := 75) rfl ?_); refine gl_ (some 11) Try.func75 #[.agg #[.slice A0_0 l0_0.length c0_0]] ?_; (with_reducible refine (spec_DiskOk.calls k _ _ l0_0 true _ ?side1 ?side2 A3.out).mono ?_); (case side1 => exact qC_ HR0_0 HB); (case side2 => exact HC0_0.out); rintro e w9 ⟨rfl, hb⟩; refine ⟨_, rfl, ?_⟩; replace BK113 := Aside0.mk (blk_below (qk_ BK113) hb); replace BK114 := Aside0.mk (blk_below (qk_ BK114) hb); replace HB := Aside0.mk (below_step qB_ hb); (try clear hb); (try clear hb2); (try clear hk); (try clear hi)) | ((with_reducible refine gate_dst (N := 6) rfl ?_); refine bx_ 6 (cs := #[.slice none 0 0]) (t := 44) ?_; intro gb116 hg w10 hbox hb; have BK116 := Aside0.mk (hbox); have GW116 := Aside0.mk ((qs_ : w.heap.size ≤ gb116)); have GE116 := Aside0.mk ((qs_ : w.heap.size ≤ gb116)); have NB113_116 := Aside0.mk ((by rw [hg]; exact Nat.ne_of_lt (blk_lt (qk_ BK113)) : gb113 ≠ gb116)); have NB116_113 := Aside0.mk ((by rw [hg]; exact Nat.ne_of_gt (blk_lt (qk_ BK113)) : gb116 ≠ gb113)); have NB114_116 := Aside0.mk ((by rw [hg]; exact Nat.ne_of_lt (blk_lt (qk_ BK114)) : gb114 ≠ gb116)); have NB116_114 := Aside0.mk ((by rw [hg]; exact Nat.ne_of_gt (blk_lt (qk_ BK114)) : gb116 ≠ gb114)); replace BK113 := Aside0.mk (blk_below (qk_ BK113) hb); replace BK114 := Aside0.mk (blk_below (qk_ BK114) hb); replace HB := Aside0.mk (below_step qB_ hb); clear hb hbox hg; have hnb11 := NB116_113.out; have hnc11 := NB113_116.out; have hnb12 := NB116_114.out; have hnc12 := NB114_116.out; obtain ⟨hcz13_0, hfz13_0⟩ := bc1_ BK116))
  go_loopg [7] k (fun kq v7 w' => ∃ (x7_1 : Int) (x117000_1 : List (S99)) (u117000 : Value), v7 = .int .i64 x7_1 ∧ Aside0 (spec_LoseDisk.l0 kq l1 x7_1 l0_0 x117000_1 = some (r1, r2)) ∧ Aside0 (kq ≤ k) ∧ Aside0 (Kd.R k99 99 w' w.heap.size (fun _ => True) u117000 x117000_1) ∧ Aside0 (w'.heap[gb113]? = some (.cells #[(.slice A0_0 l0_0.length c0_0)] 44 (0, 0))) ∧ Aside0 (w'.heap[gb114]? = some (.cells #[(.slice none 0 0)] 44 (0, 0))) ∧ Aside0 (w'.heap[gb116]? = some (.cells #[u117000] 44 (0, 0))) ∧ Aside0 (Below w.heap.size w w'))
  case atStart => exact ⟨(0), (([] : List (S99))), (.slice none 0 0), qe_, H', ⟨Nat.le_refl _⟩, ⟨by first | exact Kd.R_nil _ _ _ _ _ | exact Kd.N_nil _ _ _ _ _ | exact Kd.V_nil _ _ _ _ _ | exact Kd.Q_nil _ _ _ _ _ | exact Kd.S_nil _ _ _ _ _⟩, ⟨by (with_reducible repeat (first | refine blk_drewN ?_ _ | refine blk_drew ?_ | refine blk_alloc ?_ _)); refine blk_far ?_ NB113_116.out _; (with_reducible repeat (first | refine blk_drewN ?_ _ | refine blk_drew ?_ | refine blk_alloc ?_ _)); exact BK113.out⟩, ⟨by (with_reducible repeat (first | refine blk_drewN ?_ _ | refine blk_drew ?_ | refine blk_alloc ?_ _)); refine blk_far ?_ NB114_116.out _; (with_reducible repeat (first | refine blk_drewN ?_ _ | refine blk_drew ?_ | refine blk_alloc ?_ _)); exact BK114.out⟩, ⟨by (with_reducible repeat (first | refine blk_drewN ?_ _ | refine blk_drew ?_ | refine blk_alloc ?_ _)); refine blk_put (cs := #[.slice none 0 0]) ?_ 0 _ rfl; (with_reducible repeat (first | refine blk_drewN ?_ _ | refine blk_drew ?_ | refine blk_alloc ?_ _)); exact BK116.out⟩, ⟨qB_⟩⟩
  case round =>
   clear H'
   (try clear c1); (try clear c2); (try clear p2); (try clear c4); (try clear c7); (try clear c11); (try clear c12); (try clear hcz13_0); (try clear hcz8_0); (try clear hfz13_0); (try clear hfz8_0)
   obtain ⟨x7_1, x117000_1, u117000, rfl, HA, HK1, HO_117000, BK113, BK114, BK116, HB⟩ := hrel
   cases gk with
   | zero => exact absurd HA.out (by simp [spec_LoseDisk.l0])
   | succ k1 =>
    have H := HA.out; clear HA
    simp only [spec_LoseDisk.l0] at H
    by_cases c14 : x7_1 < (l0_0.length : Int)
    ·rw [if_pos c14] at H
     have c14b0 : decide (x7_1 < (l0_0.length : Int)) = true := decide_eq_true c14
     clear c14
     by_cases c15 : 0 ≤ x7_1
     ·rw [if_pos c15] at H
      have c15b0 : decide (0 ≤ x7_1) = true := decide_eq_true c15
      clear c15
      have HC16 := Aside0.mk H
      clear H; have hnb17 := NB113_114.out; have hnc17 := NB114_113.out; have hnb18 := NB113_116.out; have hnc18 := NB116_113.out
      obtain ⟨hcz19_0, hfz19_0⟩ := bc1_ BK113
      have p117 : 0 ≤ (x7_1 : Int) := of_decide_eq_true qa_
      have q117 : x7_1 < (l0_0.length : Int) := of_decide_eq_true qa_
      obtain ⟨ad117, e117, hx117_0, hx117_1, hx117_2⟩ := at_T99 HR0_0.out x7_1 p117 q117
      cases e117
      replace hx117_0 := (HB.out.cell (World.block_lt_of_cell? w _ hx117_0)).trans hx117_0
      replace hx117_1 := (HB.out.cell (World.block_lt_of_cell? w _ hx117_1)).trans hx117_1
      replace hx117_2 := (HB.out.cell (World.block_lt_of_cell? w _ hx117_2)).trans hx117_2
      replace p117 := eq_true p117; replace q117 := eq_true q117
      go_upto_if 30 with (first | ((with_reducible refine gate_dst (N := 8) rfl ?_); refine bx_ 8 (cs := #[.string (⟨#[]⟩ : ByteArray), .string (⟨#[]⟩ : ByteArray), .int .i64 0]) (t := 99) ?_; intro gb118 hg w20 hbox hb; have BK118 := Aside0.mk (hbox); have GW118 := Aside0.mk ((qs_ : w.heap.size ≤ gb118)); have GE118 := Aside0.mk ((qs_ : w.heap.size ≤ gb118)); have NB113_118 := Aside0.mk ((by rw [hg]; exact Nat.ne_of_lt (blk_lt (qk_ BK113)) : gb113 ≠ gb118)); have NB118_113 := Aside0.mk ((by rw [hg]; exact Nat.ne_of_gt (blk_lt (qk_ BK113)) : gb118 ≠ gb113)); have NB114_118 := Aside0.mk ((by rw [hg]; exact Nat.ne_of_lt (blk_lt (qk_ BK114)) : gb114 ≠ gb118)); have NB118_114 := Aside0.mk ((by rw [hg]; exact Nat.ne_of_gt (blk_lt (qk_ BK114)) : gb118 ≠ gb114)); have NB116_118 := Aside0.mk ((by rw [hg]; exact Nat.ne_of_lt (blk_lt (qk_ BK116)) : gb116 ≠ gb118)); have NB118_116 := Aside0.mk ((by rw [hg]; exact Nat.ne_of_gt (blk_lt (qk_ BK116)) : gb118 ≠ gb116)); replace HO_117000 := Aside0.mk (Kd.R_below (Kd.R_elderB (qR_ HO_117000) gb118 (Nat.le_of_eq hg.symm)) hb); replace BK113 := Aside0.mk (blk_below (qk_ BK113) hb); replace BK114 := Aside0.mk (blk_below (qk_ BK114) hb); replace BK116 := Aside0.mk (blk_below (qk_ BK116) hb); replace HB := Aside0.mk (below_step qB_ hb); clear hb hbox hg; have hnb21 := NB118_113.out; have hnc21 := NB113_118.out; have hnb22 := NB118_114.out; have hnc22 := NB114_118.out; have hnb23 := NB118_116.out; have hnc23 := NB116_118.out; obtain ⟨hcz24_0, hcz24_1, hcz24_2, hfz24_0, hfz24_1, hfz24_2⟩ := bc3_ BK118))
      (try simp only [Act.put, List.setIfInBounds_toArray, List.set_cons_zero, List.set_cons_succ])
      go_cut [9] (fun v9 wc => ∃ (kq : Nat) (x9_15 : Int), v9 = .int .i64 x9_15 ∧ Aside0 (spec_LoseDisk.j1 kq l1 x7_1 x9_15 l0_0 x117000_1 ((rd_T99 l0_0 x7_1).f0) ((rd_T99 l0_0 x7_1).f1) ((rd_T99 l0_0 x7_1).f2) = some (r1, r2)) ∧ Aside0 (kq ≤ k1) ∧ Aside0 (Kd.R k99 99 wc w.heap.size (fun k_ => k_ ≠ gb118) u117000 x117000_1) ∧ Aside0 (wc.heap[gb113]? = some (.cells #[(.slice (some ad117) l0_0.length c0_0)] 44 (0, 0))) ∧ Aside0 (wc.heap[gb114]? = some (.cells #[(.slice none 0 0)] 44 (0, 0))) ∧ Aside0 (wc.heap[gb116]? = some (.cells #[u117000] 44 (0, 0))) ∧ Aside0 (wc.heap[gb118]? = some (.cells #[.string ((rd_T99 l0_0 x7_1).f0), .string ((rd_T99 l0_0 x7_1).f1), .int .i64 ((rd_T99 l0_0 x7_1).f2)] 99 (0, 0))) ∧ Aside0 (Below w.heap.size w wc))
      case first =>
       have H := HC16.out; clear HC16
       by_cases c25 : x7_1 < (l1.length : Int)
       ·rw [if_pos c25] at H
        have c25b0 : decide (x7_1 < (l1.length : Int)) = true := decide_eq_true c25
        clear c25
        (first | rw [c25b0] | (simp only [i64_w, i32_w]; rw [c25b0]) | skip)
        have H' := Aside0.mk H; clear H
        have p119 : 0 ≤ (x7_1 : Int) := of_decide_eq_true qa_
        have q119 : x7_1 < (l1.length : Int) := of_decide_eq_true qa_
        obtain ⟨ad119, e119, hx119_0⟩ := Kd.at_int HR1.out x7_1 p119 q119
        cases e119
        have hn119_0 : ad119.block ≠ gb118 := Nat.ne_of_lt (Nat.lt_of_lt_of_le (by have := World.block_lt_of_cell? _ _ hx119_0; first | rwa [add_block] at this | exact this) GW118.out)
        have hn119_1 : ad119.block ≠ gb118 := Nat.ne_of_lt (Nat.lt_of_lt_of_le (by have := World.block_lt_of_cell? _ _ hx119_0; first | rwa [add_block] at this | exact this) GW118.out)
        have hn119_2 : ad119.block ≠ gb118 := Nat.ne_of_lt (Nat.lt_of_lt_of_le (by have := World.block_lt_of_cell? _ _ hx119_0; first | rwa [add_block] at this | exact this) GW118.out)
        replace hx119_0 := (HB.out.cell (World.block_lt_of_cell? w _ hx119_0)).trans hx119_0
        replace hx119_0 := (cell_far (p := ⟨gb118, 0, none⟩) (by first | (rw [add_block]; exact hn119_0) | (show (Addr.add _ _).block ≠ _; rw [add_block]; exact hn119_0) | exact hn119_0) (.string ((rd_T99 l0_0 x7_1).f0))).trans hx119_0
        replace hx119_0 := (cell_far (p := ⟨gb118, 1, none⟩) (by first | (rw [add_block]; exact hn119_1) | (show (Addr.add _ _).block ≠ _; rw [add_block]; exact hn119_1) | exact hn119_1) (.string ((rd_T99 l0_0 x7_1).f1))).trans hx119_0
        replace hx119_0 := (cell_far (p := ⟨gb118, 2, none⟩) (by first | (rw [add_block]; exact hn119_2) | (show (Addr.add _ _).block ≠ _; rw [add_block]; exact hn119_2) | exact hn119_2) (.int .i64 ((rd_T99 l0_0 x7_1).f2))).trans hx119_0
        clear hn119_0; clear hn119_1; clear hn119_2; replace p119 := eq_true p119; replace q119 := eq_true q119
        go_wp2
        go_meet
        case rel => exact ⟨_, (rd l1 x7_1), qe_, H', ⟨by have := HK1.out; first | omega | exact Nat.le_refl _⟩, ⟨by (with_reducible repeat (first | apply Kd.R_alloc | apply Kd.R_drewN | apply Kd.R_drew)); exact Kd.R_mono (Kd.R_far (p := ⟨gb118, 2, none⟩) (Kd.R_far (p := ⟨gb118, 1, none⟩) (Kd.R_far (p := ⟨gb118, 0, none⟩) (Kd.R_mono HO_117000.out (fun k_ hk => (⟨hk, hk.2⟩ : _ ∧ k_ ≠ gb118))) (fun _ hk => hk.2) (.string ((rd_T99 l0_0 x7_1).f0))) (fun _ hk => hk.2) (.string ((rd_T99 l0_0 x7_1).f1))) (fun _ hk => hk.2) (.int .i64 ((rd_T99 l0_0 x7_1).f2))) (fun _ hk => hk.1.2)⟩, ⟨by (with_reducible repeat (first | refine blk_drewN ?_ _ | refine blk_drew ?_ | refine blk_alloc ?_ _)); refine blk_far ?_ NB113_118.out _; (with_reducible repeat (first | refine blk_drewN ?_ _ | refine blk_drew ?_ | refine blk_alloc ?_ _)); refine blk_far ?_ NB113_118.out _; (with_reducible repeat (first | refine blk_drewN ?_ _ | refine blk_drew ?_ | refine blk_alloc ?_ _)); refine blk_far ?_ NB113_118.out _; (with_reducible repeat (first | refine blk_drewN ?_ _ | refine blk_drew ?_ | refine blk_alloc ?_ _)); exact BK113.out⟩, ⟨by (with_reducible repeat (first | refine blk_drewN ?_ _ | refine blk_drew ?_ | refine blk_alloc ?_ _)); refine blk_far ?_ NB114_118.out _; (with_reducible repeat (first | refine blk_drewN ?_ _ | refine blk_drew ?_ | refine blk_alloc ?_ _)); refine blk_far ?_ NB114_118.out _; (with_reducible repeat (first | refine blk_drewN ?_ _ | refine blk_drew ?_ | refine blk_alloc ?_ _)); refine blk_far ?_ NB114_118.out _; (with_reducible repeat (first | refine blk_drewN ?_ _ | refine blk_drew ?_ | refine blk_alloc ?_ _)); exact BK114.out⟩, ⟨by (with_reducible repeat (first | refine blk_drewN ?_ _ | refine blk_drew ?_ | refine blk_alloc ?_ _)); refine blk_far ?_ NB116_118.out _; (with_reducible repeat (first | refine blk_drewN ?_ _ | refine blk_drew ?_ | refine blk_alloc ?_ _)); refine blk_far ?_ NB116_118.out _; (with_reducible repeat (first | refine blk_drewN ?_ _ | refine blk_drew ?_ | refine blk_alloc ?_ _)); refine blk_far ?_ NB116_118.out _; (with_reducible repeat (first | refine blk_drewN ?_ _ | refine blk_drew ?_ | refine blk_alloc ?_ _)); exact BK116.out⟩, ⟨by (with_reducible repeat (first | refine blk_drewN ?_ _ | refine blk_drew ?_ | refine blk_alloc ?_ _)); refine blk_put (cs := #[.string ((rd_T99 l0_0 x7_1).f0), .string ((rd_T99 l0_0 x7_1).f1), .int .i64 0]) ?_ 2 _ rfl; (with_reducible repeat (first | refine blk_drewN ?_ _ | refine blk_drew ?_ | refine blk_alloc ?_ _)); refine blk_put (cs := #[.string ((rd_T99 l0_0 x7_1).f0), .string (⟨#[]⟩ : ByteArray), .int .i64 0]) ?_ 1 _ rfl; (with_reducible repeat (first | refine blk_drewN ?_ _ | refine blk_drew ?_ | refine blk_alloc ?_ _)); refine blk_put (cs := #[.string (⟨#[]⟩ : ByteArray), .string (⟨#[]⟩ : ByteArray), .int .i64 0]) ?_ 0 _ rfl; (with_reducible repeat (first | refine blk_drewN ?_ _ | refine blk_drew ?_ | refine blk_alloc ?_ _)); exact BK118.out⟩, ⟨qB_⟩⟩
       ·rw [if_neg c25] at H
        have c25b0 : decide (x7_1 < (l1.length : Int)) = false := decide_eq_false c25
        clear c25
        (first | rw [c25b0] | (simp only [i64_w, i32_w]; rw [c25b0]) | skip)
        have H' := Aside0.mk H; clear H
        go_wp2
        go_meet
        case rel => exact ⟨_, (0), qe_, H', ⟨by have := HK1.out; first | omega | exact Nat.le_refl _⟩, ⟨by (with_reducible repeat (first | apply Kd.R_alloc | apply Kd.R_drewN | apply Kd.R_drew)); exact Kd.R_mono (Kd.R_far (p := ⟨gb118, 2, none⟩) (Kd.R_far (p := ⟨gb118, 1, none⟩) (Kd.R_far (p := ⟨gb118, 0, none⟩) (Kd.R_mono HO_117000.out (fun k_ hk => (⟨hk, hk.2⟩ : _ ∧ k_ ≠ gb118))) (fun _ hk => hk.2) (.string ((rd_T99 l0_0 x7_1).f0))) (fun _ hk => hk.2) (.string ((rd_T99 l0_0 x7_1).f1))) (fun _ hk => hk.2) (.int .i64 ((rd_T99 l0_0 x7_1).f2))) (fun _ hk => hk.1.2)⟩, ⟨by (with_reducible repeat (first | refine blk_drewN ?_ _ | refine blk_drew ?_ | refine blk_alloc ?_ _)); refine blk_far ?_ NB113_118.out _; (with_reducible repeat (first | refine blk_drewN ?_ _ | refine blk_drew ?_ | refine blk_alloc ?_ _)); refine blk_far ?_ NB113_118.out _; (with_reducible repeat (first | refine blk_drewN ?_ _ | refine blk_drew ?_ | refine blk_alloc ?_ _)); refine blk_far ?_ NB113_118.out _; (with_reducible repeat (first | refine blk_drewN ?_ _ | refine blk_drew ?_ | refine blk_alloc ?_ _)); exact BK113.out⟩, ⟨by (with_reducible repeat (first | refine blk_drewN ?_ _ | refine blk_drew ?_ | refine blk_alloc ?_ _)); refine blk_far ?_ NB114_118.out _; (with_reducible repeat (first | refine blk_drewN ?_ _ | refine blk_drew ?_ | refine blk_alloc ?_ _)); refine blk_far ?_ NB114_118.out _; (with_reducible repeat (first | refine blk_drewN ?_ _ | refine blk_drew ?_ | refine blk_alloc ?_ _)); refine blk_far ?_ NB114_118.out _; (with_reducible repeat (first | refine blk_drewN ?_ _ | refine blk_drew ?_ | refine blk_alloc ?_ _)); exact BK114.out⟩, ⟨by (with_reducible repeat (first | refine blk_drewN ?_ _ | refine blk_drew ?_ | refine blk_alloc ?_ _)); refine blk_far ?_ NB116_118.out _; (with_reducible repeat (first | refine blk_drewN ?_ _ | refine blk_drew ?_ | refine blk_alloc ?_ _)); refine blk_far ?_ NB116_118.out _; (with_reducible repeat (first | refine blk_drewN ?_ _ | refine blk_drew ?_ | refine blk_alloc ?_ _)); refine blk_far ?_ NB116_118.out _; (with_reducible repeat (first | refine blk_drewN ?_ _ | refine blk_drew ?_ | refine blk_alloc ?_ _)); exact BK116.out⟩, ⟨by (with_reducible repeat (first | refine blk_drewN ?_ _ | refine blk_drew ?_ | refine blk_alloc ?_ _)); refine blk_put (cs := #[.string ((rd_T99 l0_0 x7_1).f0), .string ((rd_T99 l0_0 x7_1).f1), .int .i64 0]) ?_ 2 _ rfl; (with_reducible repeat (first | refine blk_drewN ?_ _ | refine blk_drew ?_ | refine blk_alloc ?_ _)); refine blk_put (cs := #[.string ((rd_T99 l0_0 x7_1).f0), .string (⟨#[]⟩ : ByteArray), .int .i64 0]) ?_ 1 _ rfl; (with_reducible repeat (first | refine blk_drewN ?_ _ | refine blk_drew ?_ | refine blk_alloc ?_ _)); refine blk_put (cs := #[.string (⟨#[]⟩ : ByteArray), .string (⟨#[]⟩ : ByteArray), .int .i64 0]) ?_ 0 _ rfl; (with_reducible repeat (first | refine blk_drewN ?_ _ | refine blk_drew ?_ | refine blk_alloc ?_ _)); exact BK118.out⟩, ⟨qB_⟩⟩
      case rest =>
       clear HC16; (try clear c1); (try clear p1); (try clear q1); (try clear hx1); (try clear c2); (try clear p2); (try clear c4); (try clear c7); (try clear c11); (try clear p11); (try clear q11); (try clear hx11); (try clear c12); (try clear c14); (try clear c14b0); (try clear c15); (try clear c15b0); (try clear c17); (try clear c18); (try clear c21); (try clear c22); (try clear c23); (try clear c24); (try clear c25); (try clear c25b0); (try clear hcz13_0); (try clear hcz19_0); (try clear hcz24_0); (try clear hcz24_1); (try clear hcz24_2); (try clear hcz8_0); (try clear hfz13_0); (try clear hfz19_0); (try clear hfz24_0); (try clear hfz24_1); (try clear hfz24_2); (try clear hfz8_0); (try clear hx117_0); (try clear hx117_1); (try clear hx117_2); (try clear hx119_0); (try clear p117); (try clear p119); (try clear p2); (try clear q117); (try clear q119)
       obtain ⟨kq, x9_15, rfl, HA, HJ15, HO_117000, BK113, BK114, BK116, BK118, HB⟩ := hcut
       cases kq with
       | zero => exact absurd HA.out (by simp [spec_LoseDisk.j1])
       | succ kj15 =>
        have H := HA.out; clear HA
        simp only [spec_LoseDisk.j1] at H
        by_cases c26 : x9_15 > (((rd_T99 l0_0 x7_1).f1).size : Int)
        ·rw [if_pos c26] at H
         have c26b0 : decide ((((rd_T99 l0_0 x7_1).f1).size : Int) < x9_15) = true := decide_eq_true c26
         clear c26
         by_cases c27 : (((rd_T99 l0_0 x7_1).f1).size : Int) < ((rd_T99 l0_0 x7_1).f2)
         ·rw [if_pos c27] at H
          have c27b0 : decide ((((rd_T99 l0_0 x7_1).f1).size : Int) < ((rd_T99 l0_0 x7_1).f2)) = true := decide_eq_true c27
          clear c27
          by_cases c28 : 0 ≤ ((rd_T99 l0_0 x7_1).f2)
          ·rw [if_pos c28] at H
           have c28b0 := eq_true c28
           have c28b1 : decide (0 ≤ ((rd_T99 l0_0 x7_1).f2)) = true := decide_eq_true c28
           clear c28
           by_cases c29 : ((rd_T99 l0_0 x7_1).f2) ≤ (((rd_T99 l0_0 x7_1).f1).size : Int)
           ·rw [if_pos c29] at H
            have c29b0 := eq_true c29
            have c29b1 : decide (((rd_T99 l0_0 x7_1).f2) ≤ (((rd_T99 l0_0 x7_1).f1).size : Int)) = true := decide_eq_true c29
            clear c29
            by_cases c30 : x117000_1.length < 3518437208883
            ·rw [if_pos c30] at H
             have LMc30 := Aside0.mk c30
             clear c30
             obtain ⟨y120, hy120⟩ : ∃ y_ : List (S99), y_ = (x117000_1 ++ [(⟨((rd_T99 l0_0 x7_1).f0), ((rd_T99 l0_0 x7_1).f1).extract 0 (((rd_T99 l0_0 x7_1).f2) : Int).toNat, ((rd_T99 l0_0 x7_1).f2)⟩ : S99)]) := ⟨_, rfl⟩
             replace H : (spec_LoseDisk.l0 kj15 l1 (wrap64 (x7_1 + 1)) l0_0 y120) = some (r1, r2) := by first | (rw [hy120]; with_reducible exact H) | (have H2_ := (Option.bind_some _ _).symm.trans H; rw [hy120]; with_reducible exact H2_) | (have H2_ := (Option.bind_some _ _).symm.trans H; with_reducible exact H2_) | with_reducible exact H | (rw [hy120]; exact H) | exact H
             have Ny120 := Aside0.mk hy120
             clear hy120; have H' := Aside0.mk H; clear H; have hnb31 := NB118_113.out; have hnc31 := NB113_118.out; have hnb32 := NB118_114.out; have hnc32 := NB114_118.out; have hnb33 := NB118_116.out; have hnc33 := NB116_118.out
             obtain ⟨hcz34_0, hcz34_1, hcz34_2, hfz34_0, hfz34_1, hfz34_2⟩ := bc3_ BK118
             try go_wp2
             have n0_ := Aside0.mk (Kd.R_drew HO_117000.out)
             have n1_ := Aside0.mk (blk_drew BK113.out)
             have n2_ := Aside0.mk (blk_drew BK114.out)
             have n3_ := Aside0.mk (blk_drew BK116.out)
             have n4_ := Aside0.mk (blk_drew BK118.out)
             have n5_ := Aside0.mk (below_drew1 HB.out)
             clear HO_117000; clear BK113; clear BK114; clear BK116; clear BK118; clear HB; have HO_117000 := n0_; have BK113 := n1_; have BK114 := n2_; have BK116 := n3_; have BK118 := n4_; have HB := n5_; clear n0_ n1_ n2_ n3_ n4_ n5_
             refine start_ (n := 14) (S := fun w' => w'.cell? ⟨gb116, 0, none⟩ = some (u117000) ∧ w'.cell? ⟨gb118, 0, none⟩ = some (.string ((rd_T99 l0_0 x7_1).f0)) ∧ w'.cell? ⟨gb118, 1, none⟩ = some (.string ((rd_T99 l0_0 x7_1).f1)) ∧ w'.cell? ⟨gb118, 2, none⟩ = some (.int .i64 ((rd_T99 l0_0 x7_1).f2))) (ds := [13]) (bm 14 0) (by kernel_rfl) rfl (by kernel_rfl) ⟨(blk_cell BK116.out 0).trans rfl, (blk_cell BK118.out 0).trans rfl, (blk_cell BK118.out 1).trans rfl, (blk_cell BK118.out 2).trans rfl⟩ (fun hHeld => ?_); refine with_tabW spec_LoseDisk.tab15 spec_LoseDisk.bits15 (fun HT_ HW_ => ?_)
             generalize wc.drew = w35 at HO_117000 BK113 BK114 BK116 BK118 HB hHeld ⊢
             refine pz_ 0 49 (bm 14 1) ?_; refine pz_ 2 51 (bm 14 5) ?_; refine pz_ 4 53 (bm 14 21) ?_; refine pz_ 6 55 (bm 14 85) ?_; refine pz_ 8 57 (bm 14 341) ?_; refine tz4_ 1 50 (bm 14 343) ?_; refine tz4_ 3 52 (bm 14 351) ?_; refine tz4_ 5 54 (bm 14 383) ?_; refine pz_ 7 56 (bm 14 511) ?_; refine pz_ 9 58 (bm 14 1023) ?_
             refine one_ (i := 10) (N := some 59) (bm 14 2047) rfl rfl (one_of HT_.out (by kernel_rfl)) (by decide) (fun K hK => ?_)
             refine value_ (w1 := ?_) (v := ?_) (by rfl) rfl ?_ ?_
             rotate_left 2
             ·go_simp
              constructor
              ·rfl
              ·rfl
             refine hK.out _ _ ⟨(blk_cell (blk_alloc BK116.out _) 0).trans rfl, (blk_cell (blk_alloc BK118.out _) 0).trans rfl, (blk_cell (blk_alloc BK118.out _) 1).trans rfl, (blk_cell (blk_alloc BK118.out _) 2).trans rfl⟩ (fun hHeld => ?_)
             clear hK K
             refine norm_ (a' := ?_) ?_ ?_
             rotate_left
             ·show Act.put _ (some 59) _ = _
              simp only [Act.put, List.setIfInBounds_toArray, List.set_cons_zero, List.set_cons_succ, i64_w, i32_w]
              rfl
             refine one_ (i := 11) (N := some 60) (bm 14 4095) rfl rfl (one_of HT_.out (by kernel_rfl)) (by decide) (fun K hK => ?_)
             refine Kd.R_append_step k99 (w0 := w) w.heap.size (by rfl) (.tmp 50) (.tmp 59) 42 99 (.agg #[(.string ⟨#[]⟩), (.string ⟨#[]⟩), (.int .i64 0)]) 40 rfl Try.underlying42 info99 rfl (by decide) (by omega) u117000 x117000_1 (⟨((rd_T99 l0_0 x7_1).f0), ((rd_T99 l0_0 x7_1).f1).extract 0 (((rd_T99 l0_0 x7_1).f2) : Int).toNat, ((rd_T99 l0_0 x7_1).f2)⟩ : S99) [.string ((rd_T99 l0_0 x7_1).f0), .string (((rd_T99 l0_0 x7_1).f1).extract 0 (((rd_T99 l0_0 x7_1).f2) : Int).toNat), .int .i64 ((rd_T99 l0_0 x7_1).f2)] (fun k_ => k_ ≠ gb118) (fun _ => False) rfl rfl ?aP (fun _ hk => hk.elim) ?aF ?aO ?aB ?aS ?aL ?_
             (case aP => exact k99_mkM _ _ _ (⟨((rd_T99 l0_0 x7_1).f0), ((rd_T99 l0_0 x7_1).f1).extract 0 (((rd_T99 l0_0 x7_1).f2) : Int).toNat, ((rd_T99 l0_0 x7_1).f2)⟩ : S99))
             (case aB => exact qB_)
             (case aF => exact (fun k_ hk => Kd.freshB (qk_ BK118) k_ hk))
             (case aO => exact (qR_ HO_117000))
             (case aS => exact (below_size qB_))
             (case aL => have := LMc30.out; omega)
             intro v121 w36 ho hb hg hat
             rw [← Ny120.out] at ho
             have n0_ := Aside0.mk (blk_grown (qk_ BK113) hg (Kd.R_ne HO_117000.out BK113.out (by decide)))
             have n1_ := Aside0.mk (blk_grown (qk_ BK114) hg (Kd.R_ne HO_117000.out BK114.out (by decide)))
             have n2_ := Aside0.mk (blk_grown (qk_ BK116) hg (Kd.R_ne HO_117000.out BK116.out (by decide)))
             have n3_ := Aside0.mk (blk_grown (qk_ BK118) hg (Kd.R_away HO_117000.out (fun _ hk => hk)))
             have n4_ := Aside0.mk (hb)
             have n5_ := Aside0.mk (ho)
             clear BK113; clear BK114; clear BK116; clear BK118; clear HB; clear HO_117000; have BK113 := n0_; have BK114 := n1_; have BK116 := n2_; have BK118 := n3_; have HB := n4_; have HO122 := n5_; clear n0_ n1_ n2_ n3_ n4_ n5_; clear ho hb hg hat
             obtain ⟨Ao37, co37, eo37⟩ := Kd.R_slice HO122.out
             (first | subst eo37 | (injection eo37 with f1_ f2_ f3_; have f4_ := f1_.symm; have f5_ := f3_.symm; clear f1_ f2_ f3_; subst f4_; subst f5_))
             refine hK.out _ _ ⟨(blk_cell BK116.out 0).trans rfl, (blk_cell BK118.out 0).trans rfl, (blk_cell BK118.out 1).trans rfl, (blk_cell BK118.out 2).trans rfl⟩ (fun hHeld => ?_)
             clear hK K
             refine norm_ (a' := ?_) ?_ ?_
             rotate_left
             ·show Act.put _ (some 60) _ = _
              simp only [Act.put, List.setIfInBounds_toArray, List.set_cons_zero, List.set_cons_succ, i64_w, i32_w]
              rfl
             refine pz_ 12 61 (bm 14 8191) ?_
             refine last_ (i := 13) (N := none) (bm 14 16383) rfl rfl (one_of HT_.out (by kernel_rfl)) (by decide) (fun K hK => ?_)
             have hs38 : w36.cell? ⟨gb116, 0, none⟩ = some (u117000) := (blk_cell BK116.out 0).trans rfl
             have hfs38 := blk_frozen BK116.out 0
             have hns38_0 := NB113_116.out; have hns38_1 := NB114_116.out; have hns38_3 := NB118_116.out; have hms38_0 := NB116_113.out; have hms38_1 := NB116_114.out; have hms38_3 := NB116_118.out
             refine skip_ (w1 := ?_) (by rfl) rfl ?_ ?_
             rotate_left
             ·go_simp
              rfl
             refine hK.out _ _ ?_
             clear hK K
             refine done_ (done_of HT_.out (by kernel_rfl)) ?_
             try go_wp2
             go_roundg kj15
             case measure => have := HK1.out; have := HJ15.out; omega
             case rel => exact ⟨(wrap64 (x7_1 + 1)), (y120), (.slice Ao37 y120.length co37), qe_, H', ⟨by have := HK1.out; have := HJ15.out; omega⟩, ⟨by (with_reducible repeat (first | apply Kd.R_alloc | apply Kd.R_drewN | apply Kd.R_drew)); exact Kd.R_mono (Kd.R_far (p := ⟨gb116, 0, none⟩) (Kd.R_types HO122.out BK116.out (by decide)) (fun _ hk => hk.2) (.slice Ao37 y120.length co37)) (fun _ hk => trivial)⟩, ⟨by (with_reducible repeat (first | refine blk_drewN ?_ _ | refine blk_drew ?_ | refine blk_alloc ?_ _)); refine blk_far ?_ NB113_116.out _; (with_reducible repeat (first | refine blk_drewN ?_ _ | refine blk_drew ?_ | refine blk_alloc ?_ _)); exact BK113.out⟩, ⟨by (with_reducible repeat (first | refine blk_drewN ?_ _ | refine blk_drew ?_ | refine blk_alloc ?_ _)); refine blk_far ?_ NB114_116.out _; (with_reducible repeat (first | refine blk_drewN ?_ _ | refine blk_drew ?_ | refine blk_alloc ?_ _)); exact BK114.out⟩, ⟨by (with_reducible repeat (first | refine blk_drewN ?_ _ | refine blk_drew ?_ | refine blk_alloc ?_ _)); refine blk_put (cs := #[u117000]) ?_ 0 _ rfl; (with_reducible repeat (first | refine blk_drewN ?_ _ | refine blk_drew ?_ | refine blk_alloc ?_ _)); exact BK116.out⟩, ⟨qB_⟩⟩
            ·rw [if_neg c30] at H
             exact absurd H (by simp)
           ·rw [if_neg c29] at H
            exact absurd H (by simp)
          ·rw [if_neg c28] at H
           exact absurd H (by simp)
         ·rw [if_neg c27] at H
          have c27b0 : decide ((((rd_T99 l0_0 x7_1).f1).size : Int) < ((rd_T99 l0_0 x7_1).f2)) = false := decide_eq_false c27
          clear c27
          by_cases c39 : 0 ≤ (((rd_T99 l0_0 x7_1).f1).size : Int)
          ·rw [if_pos c39] at H
           have c39b0 := eq_true c39
           have c39b1 : decide (0 ≤ (((rd_T99 l0_0 x7_1).f1).size : Int)) = true := decide_eq_true c39
           clear c39
           by_cases c40 : (((rd_T99 l0_0 x7_1).f1).size : Int) ≤ (((rd_T99 l0_0 x7_1).f1).size : Int)
           ·rw [if_pos c40] at H
            have c40b0 := eq_true c40
            have c40b1 : decide ((((rd_T99 l0_0 x7_1).f1).size : Int) ≤ (((rd_T99 l0_0 x7_1).f1).size : Int)) = true := decide_eq_true c40
            clear c40
            by_cases c41 : x117000_1.length < 3518437208883
            ·rw [if_pos c41] at H
             have LMc41 := Aside0.mk c41
             clear c41
             obtain ⟨y123, hy123⟩ : ∃ y_ : List (S99), y_ = (x117000_1 ++ [(⟨((rd_T99 l0_0 x7_1).f0), ((rd_T99 l0_0 x7_1).f1), (((rd_T99 l0_0 x7_1).f1).size : Int)⟩ : S99)]) := ⟨_, rfl⟩
             replace H : (spec_LoseDisk.l0 kj15 l1 (wrap64 (x7_1 + 1)) l0_0 y123) = some (r1, r2) := by first | (rw [hy123]; with_reducible exact H) | (have H2_ := (Option.bind_some _ _).symm.trans H; rw [hy123]; with_reducible exact H2_) | (have H2_ := (Option.bind_some _ _).symm.trans H; with_reducible exact H2_) | with_reducible exact H | (rw [hy123]; exact H) | exact H
             have Ny123 := Aside0.mk hy123
             clear hy123; have H' := Aside0.mk H; clear H; have hnb42 := NB118_113.out; have hnc42 := NB113_118.out; have hnb43 := NB118_114.out; have hnc43 := NB114_118.out; have hnb44 := NB118_116.out; have hnc44 := NB116_118.out
             obtain ⟨hcz45_0, hcz45_1, hcz45_2, hfz45_0, hfz45_1, hfz45_2⟩ := bc3_ BK118
             try go_wp2
             have n0_ := Aside0.mk (Kd.R_drew HO_117000.out)
             have n1_ := Aside0.mk (blk_drew BK113.out)
             have n2_ := Aside0.mk (blk_drew BK114.out)
             have n3_ := Aside0.mk (blk_drew BK116.out)
             have n4_ := Aside0.mk (blk_drew BK118.out)
             have n5_ := Aside0.mk (below_drew1 HB.out)
             clear HO_117000; clear BK113; clear BK114; clear BK116; clear BK118; clear HB; have HO_117000 := n0_; have BK113 := n1_; have BK114 := n2_; have BK116 := n3_; have BK118 := n4_; have HB := n5_; clear n0_ n1_ n2_ n3_ n4_ n5_
             refine start_ (n := 14) (S := fun w' => w'.cell? ⟨gb116, 0, none⟩ = some (u117000) ∧ w'.cell? ⟨gb118, 0, none⟩ = some (.string ((rd_T99 l0_0 x7_1).f0)) ∧ w'.cell? ⟨gb118, 1, none⟩ = some (.string ((rd_T99 l0_0 x7_1).f1)) ∧ w'.cell? ⟨gb118, 2, none⟩ = some (.int .i64 ((rd_T99 l0_0 x7_1).f2))) (ds := [13]) (bm 14 0) (by kernel_rfl) rfl (by kernel_rfl) ⟨(blk_cell BK116.out 0).trans rfl, (blk_cell BK118.out 0).trans rfl, (blk_cell BK118.out 1).trans rfl, (blk_cell BK118.out 2).trans rfl⟩ (fun hHeld => ?_); refine with_tabW spec_LoseDisk.tab15 spec_LoseDisk.bits15 (fun HT_ HW_ => ?_)
             generalize wc.drew = w46 at HO_117000 BK113 BK114 BK116 BK118 HB hHeld ⊢
             refine pz_ 0 49 (bm 14 1) ?_; refine pz_ 2 51 (bm 14 5) ?_; refine pz_ 4 53 (bm 14 21) ?_; refine pz_ 6 55 (bm 14 85) ?_; refine pz_ 8 57 (bm 14 341) ?_; refine tz4_ 1 50 (bm 14 343) ?_; refine tz4_ 3 52 (bm 14 351) ?_; refine tz4_ 5 54 (bm 14 383) ?_; refine pz_ 7 56 (bm 14 511) ?_; refine pz_ 9 58 (bm 14 1023) ?_
             refine one_ (i := 10) (N := some 59) (bm 14 2047) rfl rfl (one_of HT_.out (by kernel_rfl)) (by decide) (fun K hK => ?_)
             refine value_ (w1 := ?_) (v := ?_) (by rfl) rfl ?_ ?_
             rotate_left 2
             ·go_simp
              constructor
              ·rfl
              ·rfl
             refine hK.out _ _ ⟨(blk_cell (blk_alloc BK116.out _) 0).trans rfl, (blk_cell (blk_alloc BK118.out _) 0).trans rfl, (blk_cell (blk_alloc BK118.out _) 1).trans rfl, (blk_cell (blk_alloc BK118.out _) 2).trans rfl⟩ (fun hHeld => ?_)
             clear hK K
             refine norm_ (a' := ?_) ?_ ?_
             rotate_left
             ·show Act.put _ (some 59) _ = _
              simp only [Act.put, List.setIfInBounds_toArray, List.set_cons_zero, List.set_cons_succ, i64_w, i32_w]
              rfl
             refine one_ (i := 11) (N := some 60) (bm 14 4095) rfl rfl (one_of HT_.out (by kernel_rfl)) (by decide) (fun K hK => ?_)
             refine Kd.R_append_step k99 (w0 := w) w.heap.size (by rfl) (.tmp 50) (.tmp 59) 42 99 (.agg #[(.string ⟨#[]⟩), (.string ⟨#[]⟩), (.int .i64 0)]) 40 rfl Try.underlying42 info99 rfl (by decide) (by omega) u117000 x117000_1 (⟨((rd_T99 l0_0 x7_1).f0), ((rd_T99 l0_0 x7_1).f1), (((rd_T99 l0_0 x7_1).f1).size : Int)⟩ : S99) [.string ((rd_T99 l0_0 x7_1).f0), .string ((rd_T99 l0_0 x7_1).f1), .int .i64 (((rd_T99 l0_0 x7_1).f1).size : Int)] (fun k_ => k_ ≠ gb118) (fun _ => False) rfl rfl ?aP (fun _ hk => hk.elim) ?aF ?aO ?aB ?aS ?aL ?_
             (case aP => exact k99_mkM _ _ _ (⟨((rd_T99 l0_0 x7_1).f0), ((rd_T99 l0_0 x7_1).f1), (((rd_T99 l0_0 x7_1).f1).size : Int)⟩ : S99))
             (case aB => exact qB_)
             (case aF => exact (fun k_ hk => Kd.freshB (qk_ BK118) k_ hk))
             (case aO => exact (qR_ HO_117000))
             (case aS => exact (below_size qB_))
             (case aL => have := LMc41.out; omega)
             intro v124 w47 ho hb hg hat
             rw [← Ny123.out] at ho
             have n0_ := Aside0.mk (blk_grown (qk_ BK113) hg (Kd.R_ne HO_117000.out BK113.out (by decide)))
             have n1_ := Aside0.mk (blk_grown (qk_ BK114) hg (Kd.R_ne HO_117000.out BK114.out (by decide)))
             have n2_ := Aside0.mk (blk_grown (qk_ BK116) hg (Kd.R_ne HO_117000.out BK116.out (by decide)))
             have n3_ := Aside0.mk (blk_grown (qk_ BK118) hg (Kd.R_away HO_117000.out (fun _ hk => hk)))
             have n4_ := Aside0.mk (hb)
             have n5_ := Aside0.mk (ho)
             clear BK113; clear BK114; clear BK116; clear BK118; clear HB; clear HO_117000; have BK113 := n0_; have BK114 := n1_; have BK116 := n2_; have BK118 := n3_; have HB := n4_; have HO125 := n5_; clear n0_ n1_ n2_ n3_ n4_ n5_; clear ho hb hg hat
             obtain ⟨Ao48, co48, eo48⟩ := Kd.R_slice HO125.out
             (first | subst eo48 | (injection eo48 with f1_ f2_ f3_; have f4_ := f1_.symm; have f5_ := f3_.symm; clear f1_ f2_ f3_; subst f4_; subst f5_))
             refine hK.out _ _ ⟨(blk_cell BK116.out 0).trans rfl, (blk_cell BK118.out 0).trans rfl, (blk_cell BK118.out 1).trans rfl, (blk_cell BK118.out 2).trans rfl⟩ (fun hHeld => ?_)
             clear hK K
             refine norm_ (a' := ?_) ?_ ?_
             rotate_left
             ·show Act.put _ (some 60) _ = _
              simp only [Act.put, List.setIfInBounds_toArray, List.set_cons_zero, List.set_cons_succ, i64_w, i32_w]
              rfl
             refine pz_ 12 61 (bm 14 8191) ?_
             refine last_ (i := 13) (N := none) (bm 14 16383) rfl rfl (one_of HT_.out (by kernel_rfl)) (by decide) (fun K hK => ?_)
             have hs49 : w47.cell? ⟨gb116, 0, none⟩ = some (u117000) := (blk_cell BK116.out 0).trans rfl
             have hfs49 := blk_frozen BK116.out 0
             have hns49_0 := NB113_116.out; have hns49_1 := NB114_116.out; have hns49_3 := NB118_116.out; have hms49_0 := NB116_113.out; have hms49_1 := NB116_114.out; have hms49_3 := NB116_118.out
             refine skip_ (w1 := ?_) (by rfl) rfl ?_ ?_
             rotate_left
             ·go_simp
              rfl
             refine hK.out _ _ ?_
             clear hK K
             refine done_ (done_of HT_.out (by kernel_rfl)) ?_
             try go_wp2
             go_roundg kj15
             case measure => have := HK1.out; have := HJ15.out; omega
             case rel => exact ⟨(wrap64 (x7_1 + 1)), (y123), (.slice Ao48 y123.length co48), qe_, H', ⟨by have := HK1.out; have := HJ15.out; omega⟩, ⟨by (with_reducible repeat (first | apply Kd.R_alloc | apply Kd.R_drewN | apply Kd.R_drew)); exact Kd.R_mono (Kd.R_far (p := ⟨gb116, 0, none⟩) (Kd.R_types HO125.out BK116.out (by decide)) (fun _ hk => hk.2) (.slice Ao48 y123.length co48)) (fun _ hk => trivial)⟩, ⟨by (with_reducible repeat (first | refine blk_drewN ?_ _ | refine blk_drew ?_ | refine blk_alloc ?_ _)); refine blk_far ?_ NB113_116.out _; (with_reducible repeat (first | refine blk_drewN ?_ _ | refine blk_drew ?_ | refine blk_alloc ?_ _)); exact BK113.out⟩, ⟨by (with_reducible repeat (first | refine blk_drewN ?_ _ | refine blk_drew ?_ | refine blk_alloc ?_ _)); refine blk_far ?_ NB114_116.out _; (with_reducible repeat (first | refine blk_drewN ?_ _ | refine blk_drew ?_ | refine blk_alloc ?_ _)); exact BK114.out⟩, ⟨by (with_reducible repeat (first | refine blk_drewN ?_ _ | refine blk_drew ?_ | refine blk_alloc ?_ _)); refine blk_put (cs := #[u117000]) ?_ 0 _ rfl; (with_reducible repeat (first | refine blk_drewN ?_ _ | refine blk_drew ?_ | refine blk_alloc ?_ _)); exact BK116.out⟩, ⟨qB_⟩⟩
            ·rw [if_neg c41] at H
             exact absurd H (by simp)
           ·rw [if_neg c40] at H
            exact absurd H (by simp)
          ·rw [if_neg c39] at H
           exact absurd H (by simp)
        ·rw [if_neg c26] at H
         have c26b0 : decide ((((rd_T99 l0_0 x7_1).f1).size : Int) < x9_15) = false := decide_eq_false c26
         clear c26
         by_cases c50 : x9_15 < ((rd_T99 l0_0 x7_1).f2)
         ·rw [if_pos c50] at H
          have c50b0 : decide (x9_15 < ((rd_T99 l0_0 x7_1).f2)) = true := decide_eq_true c50
          clear c50
          by_cases c51 : 0 ≤ ((rd_T99 l0_0 x7_1).f2)
          ·rw [if_pos c51] at H
           have c51b0 := eq_true c51
           have c51b1 : decide (0 ≤ ((rd_T99 l0_0 x7_1).f2)) = true := decide_eq_true c51
           clear c51
           by_cases c52 : ((rd_T99 l0_0 x7_1).f2) ≤ (((rd_T99 l0_0 x7_1).f1).size : Int)
           ·rw [if_pos c52] at H
            have c52b0 := eq_true c52
            have c52b1 : decide (((rd_T99 l0_0 x7_1).f2) ≤ (((rd_T99 l0_0 x7_1).f1).size : Int)) = true := decide_eq_true c52
            clear c52
            by_cases c53 : x117000_1.length < 3518437208883
            ·rw [if_pos c53] at H
             have LMc53 := Aside0.mk c53
             clear c53
             obtain ⟨y126, hy126⟩ : ∃ y_ : List (S99), y_ = (x117000_1 ++ [(⟨((rd_T99 l0_0 x7_1).f0), ((rd_T99 l0_0 x7_1).f1).extract 0 (((rd_T99 l0_0 x7_1).f2) : Int).toNat, ((rd_T99 l0_0 x7_1).f2)⟩ : S99)]) := ⟨_, rfl⟩
             replace H : (spec_LoseDisk.l0 kj15 l1 (wrap64 (x7_1 + 1)) l0_0 y126) = some (r1, r2) := by first | (rw [hy126]; with_reducible exact H) | (have H2_ := (Option.bind_some _ _).symm.trans H; rw [hy126]; with_reducible exact H2_) | (have H2_ := (Option.bind_some _ _).symm.trans H; with_reducible exact H2_) | with_reducible exact H | (rw [hy126]; exact H) | exact H
             have Ny126 := Aside0.mk hy126
             clear hy126; have H' := Aside0.mk H; clear H; have hnb54 := NB118_113.out; have hnc54 := NB113_118.out; have hnb55 := NB118_114.out; have hnc55 := NB114_118.out; have hnb56 := NB118_116.out; have hnc56 := NB116_118.out
             obtain ⟨hcz57_0, hcz57_1, hcz57_2, hfz57_0, hfz57_1, hfz57_2⟩ := bc3_ BK118
             try go_wp2
             have n0_ := Aside0.mk (Kd.R_drew HO_117000.out)
             have n1_ := Aside0.mk (blk_drew BK113.out)
             have n2_ := Aside0.mk (blk_drew BK114.out)
             have n3_ := Aside0.mk (blk_drew BK116.out)
             have n4_ := Aside0.mk (blk_drew BK118.out)
             have n5_ := Aside0.mk (below_drew1 HB.out)
             clear HO_117000; clear BK113; clear BK114; clear BK116; clear BK118; clear HB; have HO_117000 := n0_; have BK113 := n1_; have BK114 := n2_; have BK116 := n3_; have BK118 := n4_; have HB := n5_; clear n0_ n1_ n2_ n3_ n4_ n5_
             refine start_ (n := 14) (S := fun w' => w'.cell? ⟨gb116, 0, none⟩ = some (u117000) ∧ w'.cell? ⟨gb118, 0, none⟩ = some (.string ((rd_T99 l0_0 x7_1).f0)) ∧ w'.cell? ⟨gb118, 1, none⟩ = some (.string ((rd_T99 l0_0 x7_1).f1)) ∧ w'.cell? ⟨gb118, 2, none⟩ = some (.int .i64 ((rd_T99 l0_0 x7_1).f2))) (ds := [13]) (bm 14 0) (by kernel_rfl) rfl (by kernel_rfl) ⟨(blk_cell BK116.out 0).trans rfl, (blk_cell BK118.out 0).trans rfl, (blk_cell BK118.out 1).trans rfl, (blk_cell BK118.out 2).trans rfl⟩ (fun hHeld => ?_); refine with_tabW spec_LoseDisk.tab15 spec_LoseDisk.bits15 (fun HT_ HW_ => ?_)
             generalize wc.drew = w58 at HO_117000 BK113 BK114 BK116 BK118 HB hHeld ⊢
             refine pz_ 0 49 (bm 14 1) ?_; refine pz_ 2 51 (bm 14 5) ?_; refine pz_ 4 53 (bm 14 21) ?_; refine pz_ 6 55 (bm 14 85) ?_; refine pz_ 8 57 (bm 14 341) ?_; refine tz4_ 1 50 (bm 14 343) ?_; refine tz4_ 3 52 (bm 14 351) ?_; refine tz4_ 5 54 (bm 14 383) ?_; refine pz_ 7 56 (bm 14 511) ?_; refine pz_ 9 58 (bm 14 1023) ?_
             refine one_ (i := 10) (N := some 59) (bm 14 2047) rfl rfl (one_of HT_.out (by kernel_rfl)) (by decide) (fun K hK => ?_)
             refine value_ (w1 := ?_) (v := ?_) (by rfl) rfl ?_ ?_
             rotate_left 2
             ·go_simp
              constructor
              ·rfl
              ·rfl
             refine hK.out _ _ ⟨(blk_cell (blk_alloc BK116.out _) 0).trans rfl, (blk_cell (blk_alloc BK118.out _) 0).trans rfl, (blk_cell (blk_alloc BK118.out _) 1).trans rfl, (blk_cell (blk_alloc BK118.out _) 2).trans rfl⟩ (fun hHeld => ?_)
             clear hK K
             refine norm_ (a' := ?_) ?_ ?_
             rotate_left
             ·show Act.put _ (some 59) _ = _
              simp only [Act.put, List.setIfInBounds_toArray, List.set_cons_zero, List.set_cons_succ, i64_w, i32_w]
              rfl
             refine one_ (i := 11) (N := some 60) (bm 14 4095) rfl rfl (one_of HT_.out (by kernel_rfl)) (by decide) (fun K hK => ?_)
             refine Kd.R_append_step k99 (w0 := w) w.heap.size (by rfl) (.tmp 50) (.tmp 59) 42 99 (.agg #[(.string ⟨#[]⟩), (.string ⟨#[]⟩), (.int .i64 0)]) 40 rfl Try.underlying42 info99 rfl (by decide) (by omega) u117000 x117000_1 (⟨((rd_T99 l0_0 x7_1).f0), ((rd_T99 l0_0 x7_1).f1).extract 0 (((rd_T99 l0_0 x7_1).f2) : Int).toNat, ((rd_T99 l0_0 x7_1).f2)⟩ : S99) [.string ((rd_T99 l0_0 x7_1).f0), .string (((rd_T99 l0_0 x7_1).f1).extract 0 (((rd_T99 l0_0 x7_1).f2) : Int).toNat), .int .i64 ((rd_T99 l0_0 x7_1).f2)] (fun k_ => k_ ≠ gb118) (fun _ => False) rfl rfl ?aP (fun _ hk => hk.elim) ?aF ?aO ?aB ?aS ?aL ?_
             (case aP => exact k99_mkM _ _ _ (⟨((rd_T99 l0_0 x7_1).f0), ((rd_T99 l0_0 x7_1).f1).extract 0 (((rd_T99 l0_0 x7_1).f2) : Int).toNat, ((rd_T99 l0_0 x7_1).f2)⟩ : S99))
             (case aB => exact qB_)
             (case aF => exact (fun k_ hk => Kd.freshB (qk_ BK118) k_ hk))
             (case aO => exact (qR_ HO_117000))
             (case aS => exact (below_size qB_))
             (case aL => have := LMc53.out; omega)
             intro v127 w59 ho hb hg hat
             rw [← Ny126.out] at ho
             have n0_ := Aside0.mk (blk_grown (qk_ BK113) hg (Kd.R_ne HO_117000.out BK113.out (by decide)))
             have n1_ := Aside0.mk (blk_grown (qk_ BK114) hg (Kd.R_ne HO_117000.out BK114.out (by decide)))
             have n2_ := Aside0.mk (blk_grown (qk_ BK116) hg (Kd.R_ne HO_117000.out BK116.out (by decide)))
             have n3_ := Aside0.mk (blk_grown (qk_ BK118) hg (Kd.R_away HO_117000.out (fun _ hk => hk)))
             have n4_ := Aside0.mk (hb)
             have n5_ := Aside0.mk (ho)
             clear BK113; clear BK114; clear BK116; clear BK118; clear HB; clear HO_117000; have BK113 := n0_; have BK114 := n1_; have BK116 := n2_; have BK118 := n3_; have HB := n4_; have HO128 := n5_; clear n0_ n1_ n2_ n3_ n4_ n5_; clear ho hb hg hat
             obtain ⟨Ao60, co60, eo60⟩ := Kd.R_slice HO128.out
             (first | subst eo60 | (injection eo60 with f1_ f2_ f3_; have f4_ := f1_.symm; have f5_ := f3_.symm; clear f1_ f2_ f3_; subst f4_; subst f5_))
             refine hK.out _ _ ⟨(blk_cell BK116.out 0).trans rfl, (blk_cell BK118.out 0).trans rfl, (blk_cell BK118.out 1).trans rfl, (blk_cell BK118.out 2).trans rfl⟩ (fun hHeld => ?_)
             clear hK K
             refine norm_ (a' := ?_) ?_ ?_
             rotate_left
             ·show Act.put _ (some 60) _ = _
              simp only [Act.put, List.setIfInBounds_toArray, List.set_cons_zero, List.set_cons_succ, i64_w, i32_w]
              rfl
             refine pz_ 12 61 (bm 14 8191) ?_
             refine last_ (i := 13) (N := none) (bm 14 16383) rfl rfl (one_of HT_.out (by kernel_rfl)) (by decide) (fun K hK => ?_)
             have hs61 : w59.cell? ⟨gb116, 0, none⟩ = some (u117000) := (blk_cell BK116.out 0).trans rfl
             have hfs61 := blk_frozen BK116.out 0
             have hns61_0 := NB113_116.out; have hns61_1 := NB114_116.out; have hns61_3 := NB118_116.out; have hms61_0 := NB116_113.out; have hms61_1 := NB116_114.out; have hms61_3 := NB116_118.out
             refine skip_ (w1 := ?_) (by rfl) rfl ?_ ?_
             rotate_left
             ·go_simp
              rfl
             refine hK.out _ _ ?_
             clear hK K
             refine done_ (done_of HT_.out (by kernel_rfl)) ?_
             try go_wp2
             go_roundg kj15
             case measure => have := HK1.out; have := HJ15.out; omega
             case rel => exact ⟨(wrap64 (x7_1 + 1)), (y126), (.slice Ao60 y126.length co60), qe_, H', ⟨by have := HK1.out; have := HJ15.out; omega⟩, ⟨by (with_reducible repeat (first | apply Kd.R_alloc | apply Kd.R_drewN | apply Kd.R_drew)); exact Kd.R_mono (Kd.R_far (p := ⟨gb116, 0, none⟩) (Kd.R_types HO128.out BK116.out (by decide)) (fun _ hk => hk.2) (.slice Ao60 y126.length co60)) (fun _ hk => trivial)⟩, ⟨by (with_reducible repeat (first | refine blk_drewN ?_ _ | refine blk_drew ?_ | refine blk_alloc ?_ _)); refine blk_far ?_ NB113_116.out _; (with_reducible repeat (first | refine blk_drewN ?_ _ | refine blk_drew ?_ | refine blk_alloc ?_ _)); exact BK113.out⟩, ⟨by (with_reducible repeat (first | refine blk_drewN ?_ _ | refine blk_drew ?_ | refine blk_alloc ?_ _)); refine blk_far ?_ NB114_116.out _; (with_reducible repeat (first | refine blk_drewN ?_ _ | refine blk_drew ?_ | refine blk_alloc ?_ _)); exact BK114.out⟩, ⟨by (with_reducible repeat (first | refine blk_drewN ?_ _ | refine blk_drew ?_ | refine blk_alloc ?_ _)); refine blk_put (cs := #[u117000]) ?_ 0 _ rfl; (with_reducible repeat (first | refine blk_drewN ?_ _ | refine blk_drew ?_ | refine blk_alloc ?_ _)); exact BK116.out⟩, ⟨qB_⟩⟩
            ·rw [if_neg c53] at H
             exact absurd H (by simp)
           ·rw [if_neg c52] at H
            exact absurd H (by simp)
          ·rw [if_neg c51] at H
           exact absurd H (by simp)
         ·rw [if_neg c50] at H
          have c50b0 : decide (x9_15 < ((rd_T99 l0_0 x7_1).f2)) = false := decide_eq_false c50
          clear c50
          by_cases c62 : 0 ≤ x9_15
          ·rw [if_pos c62] at H
           have c62b0 := eq_true c62
           have c62b1 : decide (0 ≤ x9_15) = true := decide_eq_true c62
           clear c62
           by_cases c63 : x9_15 ≤ (((rd_T99 l0_0 x7_1).f1).size : Int)
           ·rw [if_pos c63] at H
            have c63b0 := eq_true c63
            have c63b1 : decide (x9_15 ≤ (((rd_T99 l0_0 x7_1).f1).size : Int)) = true := decide_eq_true c63
            clear c63
            by_cases c64 : x117000_1.length < 3518437208883
            ·rw [if_pos c64] at H
             have LMc64 := Aside0.mk c64
             clear c64
             obtain ⟨y129, hy129⟩ : ∃ y_ : List (S99), y_ = (x117000_1 ++ [(⟨((rd_T99 l0_0 x7_1).f0), ((rd_T99 l0_0 x7_1).f1).extract 0 (x9_15 : Int).toNat, x9_15⟩ : S99)]) := ⟨_, rfl⟩
             replace H : (spec_LoseDisk.l0 kj15 l1 (wrap64 (x7_1 + 1)) l0_0 y129) = some (r1, r2) := by first | (rw [hy129]; with_reducible exact H) | (have H2_ := (Option.bind_some _ _).symm.trans H; rw [hy129]; with_reducible exact H2_) | (have H2_ := (Option.bind_some _ _).symm.trans H; with_reducible exact H2_) | with_reducible exact H | (rw [hy129]; exact H) | exact H
             have Ny129 := Aside0.mk hy129
             clear hy129; have H' := Aside0.mk H; clear H; have hnb65 := NB118_113.out; have hnc65 := NB113_118.out; have hnb66 := NB118_114.out; have hnc66 := NB114_118.out; have hnb67 := NB118_116.out; have hnc67 := NB116_118.out
             obtain ⟨hcz68_0, hcz68_1, hcz68_2, hfz68_0, hfz68_1, hfz68_2⟩ := bc3_ BK118
             try go_wp2
             have n0_ := Aside0.mk (Kd.R_drew HO_117000.out)
             have n1_ := Aside0.mk (blk_drew BK113.out)
             have n2_ := Aside0.mk (blk_drew BK114.out)
             have n3_ := Aside0.mk (blk_drew BK116.out)
             have n4_ := Aside0.mk (blk_drew BK118.out)
             have n5_ := Aside0.mk (below_drew1 HB.out)
             clear HO_117000; clear BK113; clear BK114; clear BK116; clear BK118; clear HB; have HO_117000 := n0_; have BK113 := n1_; have BK114 := n2_; have BK116 := n3_; have BK118 := n4_; have HB := n5_; clear n0_ n1_ n2_ n3_ n4_ n5_
             refine start_ (n := 14) (S := fun w' => w'.cell? ⟨gb116, 0, none⟩ = some (u117000) ∧ w'.cell? ⟨gb118, 0, none⟩ = some (.string ((rd_T99 l0_0 x7_1).f0)) ∧ w'.cell? ⟨gb118, 1, none⟩ = some (.string ((rd_T99 l0_0 x7_1).f1)) ∧ w'.cell? ⟨gb118, 2, none⟩ = some (.int .i64 ((rd_T99 l0_0 x7_1).f2))) (ds := [13]) (bm 14 0) (by kernel_rfl) rfl (by kernel_rfl) ⟨(blk_cell BK116.out 0).trans rfl, (blk_cell BK118.out 0).trans rfl, (blk_cell BK118.out 1).trans rfl, (blk_cell BK118.out 2).trans rfl⟩ (fun hHeld => ?_); refine with_tabW spec_LoseDisk.tab15 spec_LoseDisk.bits15 (fun HT_ HW_ => ?_)
             generalize wc.drew = w69 at HO_117000 BK113 BK114 BK116 BK118 HB hHeld ⊢
             refine pz_ 0 49 (bm 14 1) ?_; refine pz_ 2 51 (bm 14 5) ?_; refine pz_ 4 53 (bm 14 21) ?_; refine pz_ 6 55 (bm 14 85) ?_; refine pz_ 8 57 (bm 14 341) ?_; refine tz4_ 1 50 (bm 14 343) ?_; refine tz4_ 3 52 (bm 14 351) ?_; refine tz4_ 5 54 (bm 14 383) ?_; refine pz_ 7 56 (bm 14 511) ?_; refine pz_ 9 58 (bm 14 1023) ?_
             refine one_ (i := 10) (N := some 59) (bm 14 2047) rfl rfl (one_of HT_.out (by kernel_rfl)) (by decide) (fun K hK => ?_)
             refine value_ (w1 := ?_) (v := ?_) (by rfl) rfl ?_ ?_
             rotate_left 2
             ·go_simp
              constructor
              ·rfl
              ·rfl
             refine hK.out _ _ ⟨(blk_cell (blk_alloc BK116.out _) 0).trans rfl, (blk_cell (blk_alloc BK118.out _) 0).trans rfl, (blk_cell (blk_alloc BK118.out _) 1).trans rfl, (blk_cell (blk_alloc BK118.out _) 2).trans rfl⟩ (fun hHeld => ?_)
             clear hK K
             refine norm_ (a' := ?_) ?_ ?_
             rotate_left
             ·show Act.put _ (some 59) _ = _
              simp only [Act.put, List.setIfInBounds_toArray, List.set_cons_zero, List.set_cons_succ, i64_w, i32_w]
              rfl
             refine one_ (i := 11) (N := some 60) (bm 14 4095) rfl rfl (one_of HT_.out (by kernel_rfl)) (by decide) (fun K hK => ?_)
             refine Kd.R_append_step k99 (w0 := w) w.heap.size (by rfl) (.tmp 50) (.tmp 59) 42 99 (.agg #[(.string ⟨#[]⟩), (.string ⟨#[]⟩), (.int .i64 0)]) 40 rfl Try.underlying42 info99 rfl (by decide) (by omega) u117000 x117000_1 (⟨((rd_T99 l0_0 x7_1).f0), ((rd_T99 l0_0 x7_1).f1).extract 0 (x9_15 : Int).toNat, x9_15⟩ : S99) [.string ((rd_T99 l0_0 x7_1).f0), .string (((rd_T99 l0_0 x7_1).f1).extract 0 (x9_15 : Int).toNat), .int .i64 x9_15] (fun k_ => k_ ≠ gb118) (fun _ => False) rfl rfl ?aP (fun _ hk => hk.elim) ?aF ?aO ?aB ?aS ?aL ?_
             (case aP => exact k99_mkM _ _ _ (⟨((rd_T99 l0_0 x7_1).f0), ((rd_T99 l0_0 x7_1).f1).extract 0 (x9_15 : Int).toNat, x9_15⟩ : S99))
             (case aB => exact qB_)
             (case aF => exact (fun k_ hk => Kd.freshB (qk_ BK118) k_ hk))
             (case aO => exact (qR_ HO_117000))
             (case aS => exact (below_size qB_))
             (case aL => have := LMc64.out; omega)
             intro v130 w70 ho hb hg hat
             rw [← Ny129.out] at ho
             have n0_ := Aside0.mk (blk_grown (qk_ BK113) hg (Kd.R_ne HO_117000.out BK113.out (by decide)))
             have n1_ := Aside0.mk (blk_grown (qk_ BK114) hg (Kd.R_ne HO_117000.out BK114.out (by decide)))
             have n2_ := Aside0.mk (blk_grown (qk_ BK116) hg (Kd.R_ne HO_117000.out BK116.out (by decide)))
             have n3_ := Aside0.mk (blk_grown (qk_ BK118) hg (Kd.R_away HO_117000.out (fun _ hk => hk)))
             have n4_ := Aside0.mk (hb)
             have n5_ := Aside0.mk (ho)
             clear BK113; clear BK114; clear BK116; clear BK118; clear HB; clear HO_117000; have BK113 := n0_; have BK114 := n1_; have BK116 := n2_; have BK118 := n3_; have HB := n4_; have HO131 := n5_; clear n0_ n1_ n2_ n3_ n4_ n5_; clear ho hb hg hat
             obtain ⟨Ao71, co71, eo71⟩ := Kd.R_slice HO131.out
             (first | subst eo71 | (injection eo71 with f1_ f2_ f3_; have f4_ := f1_.symm; have f5_ := f3_.symm; clear f1_ f2_ f3_; subst f4_; subst f5_))
             refine hK.out _ _ ⟨(blk_cell BK116.out 0).trans rfl, (blk_cell BK118.out 0).trans rfl, (blk_cell BK118.out 1).trans rfl, (blk_cell BK118.out 2).trans rfl⟩ (fun hHeld => ?_)
             clear hK K
             refine norm_ (a' := ?_) ?_ ?_
             rotate_left
             ·show Act.put _ (some 60) _ = _
              simp only [Act.put, List.setIfInBounds_toArray, List.set_cons_zero, List.set_cons_succ, i64_w, i32_w]
              rfl
             refine pz_ 12 61 (bm 14 8191) ?_
             refine last_ (i := 13) (N := none) (bm 14 16383) rfl rfl (one_of HT_.out (by kernel_rfl)) (by decide) (fun K hK => ?_)
             have hs72 : w70.cell? ⟨gb116, 0, none⟩ = some (u117000) := (blk_cell BK116.out 0).trans rfl
             have hfs72 := blk_frozen BK116.out 0
             have hns72_0 := NB113_116.out; have hns72_1 := NB114_116.out; have hns72_3 := NB118_116.out; have hms72_0 := NB116_113.out; have hms72_1 := NB116_114.out; have hms72_3 := NB116_118.out
             refine skip_ (w1 := ?_) (by rfl) rfl ?_ ?_
             rotate_left
             ·go_simp
              rfl
             refine hK.out _ _ ?_
             clear hK K
             refine done_ (done_of HT_.out (by kernel_rfl)) ?_
             try go_wp2
             go_roundg kj15
             case measure => have := HK1.out; have := HJ15.out; omega
             case rel => exact ⟨(wrap64 (x7_1 + 1)), (y129), (.slice Ao71 y129.length co71), qe_, H', ⟨by have := HK1.out; have := HJ15.out; omega⟩, ⟨by (with_reducible repeat (first | apply Kd.R_alloc | apply Kd.R_drewN | apply Kd.R_drew)); exact Kd.R_mono (Kd.R_far (p := ⟨gb116, 0, none⟩) (Kd.R_types HO131.out BK116.out (by decide)) (fun _ hk => hk.2) (.slice Ao71 y129.length co71)) (fun _ hk => trivial)⟩, ⟨by (with_reducible repeat (first | refine blk_drewN ?_ _ | refine blk_drew ?_ | refine blk_alloc ?_ _)); refine blk_far ?_ NB113_116.out _; (with_reducible repeat (first | refine blk_drewN ?_ _ | refine blk_drew ?_ | refine blk_alloc ?_ _)); exact BK113.out⟩, ⟨by (with_reducible repeat (first | refine blk_drewN ?_ _ | refine blk_drew ?_ | refine blk_alloc ?_ _)); refine blk_far ?_ NB114_116.out _; (with_reducible repeat (first | refine blk_drewN ?_ _ | refine blk_drew ?_ | refine blk_alloc ?_ _)); exact BK114.out⟩, ⟨by (with_reducible repeat (first | refine blk_drewN ?_ _ | refine blk_drew ?_ | refine blk_alloc ?_ _)); refine blk_put (cs := #[u117000]) ?_ 0 _ rfl; (with_reducible repeat (first | refine blk_drewN ?_ _ | refine blk_drew ?_ | refine blk_alloc ?_ _)); exact BK116.out⟩, ⟨qB_⟩⟩
            ·rw [if_neg c64] at H
             exact absurd H (by simp)
           ·rw [if_neg c63] at H
            exact absurd H (by simp)
          ·rw [if_neg c62] at H
           exact absurd H (by simp)
     ·rw [if_neg c15] at H
      exact absurd H (by simp)
    ·rw [if_neg c14] at H
     have c14b0 : decide (x7_1 < (l0_0.length : Int)) = false := decide_eq_false c14
     clear c14
     simp only [Option.some.injEq, Prod.mk.injEq] at H
     obtain ⟨rfl, rfl⟩ := H
     have hnb73 := NB113_114.out; have hnc73 := NB114_113.out; have hnb74 := NB113_116.out; have hnc74 := NB116_113.out
     obtain ⟨hcz75_0, hfz75_0⟩ := bc1_ BK113
     have hnb76 := NB116_114.out; have hnc76 := NB114_116.out
     obtain ⟨hcz77_0, hfz77_0⟩ := bc1_ BK116
     obtain ⟨Ao78, co78, eo78⟩ := Kd.R_slice HO_117000.out
     subst eo78
     obtain ⟨hcz79_0, hfz79_0⟩ := bc1_ BK114
     go_wp2
     refine bodyPost_ret (results_ct rfl _ _ gb114 44 #[.slice Ao78 x117000_1.length co78] (0, 0) _ rfl (by (with_reducible repeat (first | refine blk_drewN ?_ _ | refine blk_drew ?_ | refine blk_alloc ?_ _)); refine blk_put (cs := #[.slice none 0 0]) ?_ 0 _ rfl; (with_reducible repeat (first | refine blk_drewN ?_ _ | refine blk_drew ?_ | refine blk_alloc ?_ _)); exact BK114.out) Try.underlying44 rfl (by kernel_rfl)) rfl ?_
     exact ⟨_, qr_, by (with_reducible repeat (first | apply Kd.R_alloc | apply Kd.R_drewN | apply Kd.R_drew)); exact Kd.R_mono (Kd.R_far (p := ⟨gb114, 0, none⟩) (Kd.R_types HO_117000.out BK114.out (by decide)) (fun _ hk => hk.2) (.slice Ao78 x117000_1.length co78)) (fun _ hk => trivial), qB_⟩
 ·replace c4 := Bool.eq_false_iff.mpr c4
  subst c4
  rw [if_neg (show ¬ (false = true) by decide)] at H
  simp only [Option.some.injEq, Prod.mk.injEq] at H
  obtain ⟨rfl, rfl⟩ := H
  go_enter Try.func24, Try.ntmps24
  go_wp2_with (first | ((with_reducible refine gate_dst (N := 2) rfl ?_); refine bx_ 2 (cs := #[.slice A0_0 l0_0.length c0_0]) (t := 44) ?_; intro gb113 hg w80 hbox hb; have BK113 := Aside0.mk (hbox); have GW113 := Aside0.mk ((qs_ : w.heap.size ≤ gb113)); have GE113 := Aside0.mk ((qs_ : w.heap.size ≤ gb113)); replace HB := Aside0.mk (below_step qB_ hb); clear hb hbox hg) | ((with_reducible refine gate_dst (N := 4) rfl ?_); refine bx_ 4 (cs := #[.slice none 0 0]) (t := 44) ?_; intro gb114 hg w81 hbox hb; have BK114 := Aside0.mk (hbox); have GW114 := Aside0.mk ((qs_ : w.heap.size ≤ gb114)); have GE114 := Aside0.mk ((qs_ : w.heap.size ≤ gb114)); have NB113_114 := Aside0.mk ((by rw [hg]; exact Nat.ne_of_lt (blk_lt (qk_ BK113)) : gb113 ≠ gb114)); have NB114_113 := Aside0.mk ((by rw [hg]; exact Nat.ne_of_gt (blk_lt (qk_ BK113)) : gb114 ≠ gb113)); replace BK113 := Aside0.mk (blk_below (qk_ BK113) hb); replace HB := Aside0.mk (below_step qB_ hb); clear hb hbox hg; have hnb82 := NB113_114.out; have hnc82 := NB114_113.out; obtain ⟨hcz83_0, hfz83_0⟩ := bc1_ BK113) | ((with_reducible refine gate_callee (f := 75) rfl ?_); refine gl_ (some 11) Try.func75 #[.agg #[.slice A0_0 l0_0.length c0_0]] ?_; (with_reducible refine (spec_DiskOk.calls k _ _ l0_0 false _ ?side1 ?side2 A3.out).mono ?_); (case side1 => exact qC_ HR0_0 HB); (case side2 => exact HC0_0.out); rintro e w84 ⟨rfl, hb⟩; refine ⟨_, rfl, ?_⟩; replace BK113 := Aside0.mk (blk_below (qk_ BK113) hb); replace BK114 := Aside0.mk (blk_below (qk_ BK114) hb); replace HB := Aside0.mk (below_step qB_ hb); (try clear hb); (try clear hb2); (try clear hk); (try clear hi); obtain ⟨hcz85_0, hfz85_0⟩ := bc1_ BK114))
  refine bodyPost_ret (results_ct rfl _ _ gb114 44 #[.slice none 0 0] (0, 0) _ rfl (by (with_reducible repeat (first | refine blk_drewN ?_ _ | refine blk_drew ?_ | refine blk_alloc ?_ _)); refine blk_put (cs := #[.slice none 0 0]) ?_ 0 _ rfl; (with_reducible repeat (first | refine blk_drewN ?_ _ | refine blk_drew ?_ | refine blk_alloc ?_ _)); exact BK114.out) Try.underlying44 rfl (by kernel_rfl)) rfl ?_
  exact ⟨_, qr_, by first | exact Kd.R_nil _ _ _ _ _ | exact Kd.N_nil _ _ _ _ _ | exact Kd.V_nil _ _ _ _ _ | exact Kd.Q_nil _ _ _ _ _ | exact Kd.S_nil _ _ _ _ _, qB_⟩

end Go.Proofs.Ytacnlodcbbhahaa.QFnExactLoseDisk
