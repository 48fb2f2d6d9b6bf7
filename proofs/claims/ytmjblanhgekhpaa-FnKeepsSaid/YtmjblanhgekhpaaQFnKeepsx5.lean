-- printed for this claim by a program of the session's own (no text of the kit's print)
import Derived.Test.YtmjblanhgekhpaaQFnKeepsx0
namespace Go.Proofs.Ytmjblanhgekhpaa.QFnKeeps
open Go.RowKit Go.Proofs.YtmjblanhgekhpaaW.PrintWords Go.Proofs.YtmjblanhgekhpaaW.PrintLast Go.Proofs.YtmjblanhgekhpaaW.PrintMore
attribute [local go_sem] max2_int min2_int max_two min_two max_three min_three max_four min_four   -- for this text's walks alone
set_option linter.unusedVariables false
set_option linter.unusedSimpArgs false

/-! ### spec_l03Put: function 96 -/
mutual
def spec_l03Put.l0 : Nat → Int → List (S94) → ByteArray → ByteArray → Int → List (S94) → Option ((List (S94)))
  | 0, _, _, _, _, _, _ => none
  | k + 1, x6, x156000, x157000, x157001, x157002, x159000 => if x6 < (x156000.length : Int) then (if 0 ≤ x6 then (if (Op.bytesLess (((rd_T94 x156000 x6).f0).toList) x157000.toList) = true then (if x159000.length < 3518437208883 then (spec_l03Put.l0 k (wrap64 (x6 + 1)) x156000 x157000 x157001 x157002 (x159000 ++ [(⟨(rd_T94 x156000 x6).f0, (rd_T94 x156000 x6).f1, (rd_T94 x156000 x6).f2⟩ : S94)])) else (none)) else (spec_l03Put.l0 k (wrap64 (x6 + 1)) x156000 x157000 x157001 x157002 x159000)) else (none)) else (if x159000.length < 3518437208883 then (spec_l03Put.l1 k 0 x156000 x157000 x157001 x157002 (x159000 ++ [(⟨x157000, x157001, x157002⟩ : S94)])) else (none))
def spec_l03Put.l1 : Nat → Int → List (S94) → ByteArray → ByteArray → Int → List (S94) → Option ((List (S94)))
  | 0, _, _, _, _, _, _ => none
  | k + 1, x7, x156000, x157000, x157001, x157002, x159000 => if x7 < (x156000.length : Int) then (if 0 ≤ x7 then (if ((Op.bytesLess (((rd_T94 x156000 x7).f0).toList) x157000.toList || ((((rd_T94 x156000 x7).f0).toList) == x157000.toList)) = true) then (spec_l03Put.l1 k (wrap64 (x7 + 1)) x156000 x157000 x157001 x157002 x159000) else (if x159000.length < 3518437208883 then (spec_l03Put.l1 k (wrap64 (x7 + 1)) x156000 x157000 x157001 x157002 (x159000 ++ [(⟨(rd_T94 x156000 x7).f0, (rd_T94 x156000 x7).f1, (rd_T94 x156000 x7).f2⟩ : S94)])) else (none))) else (none)) else (some x159000)
end
def spec_l03Put.f (k : Nat) (l0_0 : List (S94)) (a1_0 : ByteArray) (a1_1 : ByteArray) (a1_2 : Int) : Option ((List (S94))) := spec_l03Put.l0 k 0 l0_0 a1_0 a1_1 a1_2 ([] : List (S94))
theorem spec_l03Put.mono_l : ∀ k, (∀ y0 y1 y2 y3 y4 y5, LeO (spec_l03Put.l0 k y0 y1 y2 y3 y4 y5) (spec_l03Put.l0 (k + 1) y0 y1 y2 y3 y4 y5)) ∧ (∀ y0 y1 y2 y3 y4 y5, LeO (spec_l03Put.l1 k y0 y1 y2 y3 y4 y5) (spec_l03Put.l1 (k + 1) y0 y1 y2 y3 y4 y5))
  | 0 => ⟨fun _ _ _ _ _ _ r h => by simp [spec_l03Put.l0] at h, fun _ _ _ _ _ _ r h => by simp [spec_l03Put.l1] at h⟩
  | k + 1 => by
    obtain ⟨ih0, ih1⟩ := spec_l03Put.mono_l k
    refine ⟨?_, ?_⟩ <;> (intros; first | unfold spec_l03Put.l0 | unfold spec_l03Put.l1) <;> repeat' first
    | (with_reducible exact ih0 _ _ _ _ _ _)
    | (with_reducible exact ih1 _ _ _ _ _ _)
    | (with_reducible exact LeO.refl _)
    | (with_reducible exact LeO.none _)
    | (with_reducible refine LeO.ite ?_ ?_)
    | (with_reducible refine LeO.bind ?_ (fun _ => ?_))
    | exact ih0 _ _ _ _ _ _
    | exact ih1 _ _ _ _ _ _
    | exact LeO.none _
    | refine LeO.ite ?_ ?_
    | refine LeO.bind ?_ (fun _ => ?_)
theorem spec_l03Put.mono : ∀ a0 a1 a2 a3 k, LeO (spec_l03Put.f k a0 a1 a2 a3) (spec_l03Put.f (k + 1) a0 a1 a2 a3) := by
  intro a0 a1 a2 a3 k
  obtain ⟨ih0, ih1⟩ := spec_l03Put.mono_l k
  unfold spec_l03Put.f
  repeat' first
      | (with_reducible exact ih0 _ _ _ _ _ _)
      | (with_reducible exact ih1 _ _ _ _ _ _)
      | (with_reducible exact LeO.refl _)
      | (with_reducible exact LeO.none _)
      | (with_reducible refine LeO.ite ?_ ?_)
      | (with_reducible refine LeO.bind ?_ (fun _ => ?_))
      | exact ih0 _ _ _ _ _ _
      | exact ih1 _ _ _ _ _ _
      | exact LeO.none _
      | refine LeO.ite ?_ ?_
      | refine LeO.bind ?_ (fun _ => ?_)
def spec_l03Put.T5 : Bool × List (List Nat × List Nat) := (true, [([], []), ([0], [0]), ([], []), ([1, 2], [1, 2]), ([3], [3]), ([4], [4]), ([], []), ([6], [6]), ([5, 7], [5, 7])])
def spec_l03Put.B5 : List Nat := [0, 1, 0, 7, 15, 31, 0, 64, 255]
theorem spec_l03Put.tab5 : rtab .any (opsOf Try.f96 5) = spec_l03Put.T5 := by kernel_rfl
theorem spec_l03Put.bits5 : waitsOk spec_l03Put.T5.2 spec_l03Put.B5 = true := by kernel_rfl
def spec_l03Put.T6 : Bool × List (List Nat × List Nat) := (true, [([], []), ([0], [0]), ([], []), ([2], [2]), ([], []), ([3, 4], [3, 4]), ([5], [5]), ([6], [6]), ([1, 7], [1, 7]), ([0, 1, 2, 3, 4, 5, 6, 7, 8], []), ([9, 8, 8, 0, 1, 2, 3, 4, 5, 6, 7, 8], [8, 9])])
def spec_l03Put.B6 : List Nat := [0, 1, 0, 4, 0, 28, 60, 124, 255, 511, 1023]
theorem spec_l03Put.tab6 : rtab .any (opsOf Try.f96 6) = spec_l03Put.T6 := by kernel_rfl
theorem spec_l03Put.bits6 : waitsOk spec_l03Put.T6.2 spec_l03Put.B6 = true := by kernel_rfl
def spec_l03Put.T11 : Bool × List (List Nat × List Nat) := (true, [([], []), ([0], [0]), ([], []), ([1, 2], [1, 2]), ([3], [3]), ([4], [4]), ([], []), ([6], [6]), ([5, 7], [5, 7])])
def spec_l03Put.B11 : List Nat := [0, 1, 0, 7, 15, 31, 0, 64, 255]
theorem spec_l03Put.tab11 : rtab .any (opsOf Try.f96 11) = spec_l03Put.T11 := by kernel_rfl
theorem spec_l03Put.bits11 : waitsOk spec_l03Put.T11.2 spec_l03Put.B11 = true := by kernel_rfl
def spec_l03Put.T12 : Bool × List (List Nat × List Nat) := (true, [([], []), ([0], [0]), ([], []), ([2], [2]), ([], []), ([3, 4], [3, 4]), ([5], [5]), ([6], [6]), ([1, 7], [1, 7]), ([0, 1, 2, 3, 4, 5, 6, 7, 8], []), ([9, 8, 8, 0, 1, 2, 3, 4, 5, 6, 7, 8], [8, 9])])
def spec_l03Put.B12 : List Nat := [0, 1, 0, 4, 0, 28, 60, 124, 255, 511, 1023]
theorem spec_l03Put.tab12 : rtab .any (opsOf Try.f96 12) = spec_l03Put.T12 := by kernel_rfl
theorem spec_l03Put.bits12 : waitsOk spec_l03Put.T12.2 spec_l03Put.B12 = true := by kernel_rfl
set_option maxHeartbeats 8000000 in
set_option maxRecDepth 100000 in
theorem spec_l03Put.calls (k : Nat) (A0_0 : Option Addr) (c0_0 : Nat) (l0_0 : List (S94)) (a1_0 : ByteArray) (a1_1 : ByteArray) (a1_2 : Int) (r : List (S94)) (w : World) (hr0_0 : Kd.C k94 w A0_0 l0_0.length l0_0) (hc0_0 : l0_0.length ≤ c0_0) (h : spec_l03Put.f k l0_0 a1_0 a1_1 a1_2 = some r) :
  Calls Try.prog 96 #[.agg #[.slice A0_0 l0_0.length c0_0], .agg #[.string a1_0, .string a1_1, .int .i64 a1_2]] w fun e w' => ∃ v0_ : Value, e = .returned (.agg #[v0_]) ∧ Kd.R k94 94 w' w.heap.size (fun _ => True) v0_ r ∧ Below w.heap.size w w' := by
 have hu75 := Try.underlying75; have hu94 := Try.underlying94
 have HR0_0 := Aside0.mk hr0_0
 have HC0_0 := Aside0.mk hc0_0
 clear hr0_0 hc0_0
 have HB := Aside0.mk (Below.refl w.heap.size w)
 have H : (spec_l03Put.l0 k 0 l0_0 a1_0 a1_1 a1_2 ([] : List (S94))) = some r := h
 clear h; have H' := Aside0.mk H; clear H
 go_enter Try.func96, Try.ntmps96
 go_wp2_with (first | ((with_reducible refine gate_dst (N := 2) rfl ?_); refine bx_ 2 (cs := #[.slice A0_0 l0_0.length c0_0]) (t := 75) ?_; intro gb155 hg w3 hbox hb; have BK155 := Aside0.mk (hbox); have GW155 := Aside0.mk ((qs_ : w.heap.size ≤ gb155)); have GE155 := Aside0.mk ((qs_ : w.heap.size ≤ gb155)); replace HB := Aside0.mk (below_step qB_ hb); clear hb hbox hg) | ((with_reducible refine gate_dst (N := 3) rfl ?_); refine bx_ 3 (cs := #[.string a1_0, .string a1_1, .int .i64 a1_2]) (t := 94) ?_; intro gb156 hg w4 hbox hb; have BK156 := Aside0.mk (hbox); have GW156 := Aside0.mk ((qs_ : w.heap.size ≤ gb156)); have GE156 := Aside0.mk ((qs_ : w.heap.size ≤ gb156)); have NB155_156 := Aside0.mk ((by rw [hg]; exact Nat.ne_of_lt (blk_lt (qk_ BK155)) : gb155 ≠ gb156)); have NB156_155 := Aside0.mk ((by rw [hg]; exact Nat.ne_of_gt (blk_lt (qk_ BK155)) : gb156 ≠ gb155)); replace BK155 := Aside0.mk (blk_below (qk_ BK155) hb); replace HB := Aside0.mk (below_step qB_ hb); clear hb hbox hg) | ((with_reducible refine gate_dst (N := 4) rfl ?_); refine bx_ 4 (cs := #[.slice none 0 0]) (t := 75) ?_; intro gb157 hg w5 hbox hb; have BK157 := Aside0.mk (hbox); have GW157 := Aside0.mk ((qs_ : w.heap.size ≤ gb157)); have GE157 := Aside0.mk ((qs_ : w.heap.size ≤ gb157)); have NB155_157 := Aside0.mk ((by rw [hg]; exact Nat.ne_of_lt (blk_lt (qk_ BK155)) : gb155 ≠ gb157)); have NB157_155 := Aside0.mk ((by rw [hg]; exact Nat.ne_of_gt (blk_lt (qk_ BK155)) : gb157 ≠ gb155)); have NB156_157 := Aside0.mk ((by rw [hg]; exact Nat.ne_of_lt (blk_lt (qk_ BK156)) : gb156 ≠ gb157)); have NB157_156 := Aside0.mk ((by rw [hg]; exact Nat.ne_of_gt (blk_lt (qk_ BK156)) : gb157 ≠ gb156)); replace BK155 := Aside0.mk (blk_below (qk_ BK155) hb); replace BK156 := Aside0.mk (blk_below (qk_ BK156) hb); replace HB := Aside0.mk (below_step qB_ hb); clear hb hbox hg) | ((with_reducible refine gate_dst (N := 5) rfl ?_); refine bx_ 5 (cs := #[.slice none 0 0]) (t := 75) ?_; intro gb158 hg w6 hbox hb; have BK158 := Aside0.mk (hbox); have GW158 := Aside0.mk ((qs_ : w.heap.size ≤ gb158)); have GE158 := Aside0.mk ((qs_ : w.heap.size ≤ gb158)); have NB155_158 := Aside0.mk ((by rw [hg]; exact Nat.ne_of_lt (blk_lt (qk_ BK155)) : gb155 ≠ gb158)); have NB158_155 := Aside0.mk ((by rw [hg]; exact Nat.ne_of_gt (blk_lt (qk_ BK155)) : gb158 ≠ gb155)); have NB156_158 := Aside0.mk ((by rw [hg]; exact Nat.ne_of_lt (blk_lt (qk_ BK156)) : gb156 ≠ gb158)); have NB158_156 := Aside0.mk ((by rw [hg]; exact Nat.ne_of_gt (blk_lt (qk_ BK156)) : gb158 ≠ gb156)); have NB157_158 := Aside0.mk ((by rw [hg]; exact Nat.ne_of_lt (blk_lt (qk_ BK157)) : gb157 ≠ gb158)); have NB158_157 := Aside0.mk ((by rw [hg]; exact Nat.ne_of_gt (blk_lt (qk_ BK157)) : gb158 ≠ gb157)); replace BK155 := Aside0.mk (blk_below (qk_ BK155) hb); replace BK156 := Aside0.mk (blk_below (qk_ BK156) hb); replace BK157 := Aside0.mk (blk_below (qk_ BK157) hb); replace HB := Aside0.mk (below_step qB_ hb); clear hb hbox hg; have hnb7 := NB158_155.out; have hnc7 := NB155_158.out; have hnb8 := NB158_156.out; have hnc8 := NB156_158.out; have hnb9 := NB158_157.out; have hnc9 := NB157_158.out; obtain ⟨hcz10_0, hfz10_0⟩ := bc1_ BK158))
 go_loopg [6] k (fun kq v6 w' => ∃ (x6_1 : Int) (x159000_1 : List (S94)) (u159000 : Value), v6 = .int .i64 x6_1 ∧ Aside0 (spec_l03Put.l0 kq x6_1 l0_0 a1_0 a1_1 a1_2 x159000_1 = some r) ∧ Aside0 (kq ≤ k) ∧ Aside0 (Kd.R k94 94 w' w.heap.size (fun k_ => k_ ≠ gb156) u159000 x159000_1) ∧ Aside0 (w'.heap[gb155]? = some (.cells #[(.slice A0_0 l0_0.length c0_0)] 75 (0, 0))) ∧ Aside0 (w'.heap[gb156]? = some (.cells #[.string a1_0, .string a1_1, .int .i64 a1_2] 94 (0, 0))) ∧ Aside0 (w'.heap[gb157]? = some (.cells #[(.slice none 0 0)] 75 (0, 0))) ∧ Aside0 (w'.heap[gb158]? = some (.cells #[u159000] 75 (0, 0))) ∧ Aside0 (Below w.heap.size w w'))
 case atStart => exact ⟨(0), (([] : List (S94))), (.slice none 0 0), qe_, H', ⟨Nat.le_refl _⟩, ⟨by first | exact Kd.R_nil _ _ _ _ _ | exact Kd.N_nil _ _ _ _ _ | exact Kd.V_nil _ _ _ _ _ | exact Kd.Q_nil _ _ _ _ _ | exact Kd.S_nil _ _ _ _ _⟩, ⟨by (with_reducible repeat (first | refine blk_drewN ?_ _ | refine blk_drew ?_ | refine blk_alloc ?_ _)); refine blk_far ?_ NB155_158.out _; (with_reducible repeat (first | refine blk_drewN ?_ _ | refine blk_drew ?_ | refine blk_alloc ?_ _)); exact BK155.out⟩, ⟨by (with_reducible repeat (first | refine blk_drewN ?_ _ | refine blk_drew ?_ | refine blk_alloc ?_ _)); refine blk_far ?_ NB156_158.out _; (with_reducible repeat (first | refine blk_drewN ?_ _ | refine blk_drew ?_ | refine blk_alloc ?_ _)); exact BK156.out⟩, ⟨by (with_reducible repeat (first | refine blk_drewN ?_ _ | refine blk_drew ?_ | refine blk_alloc ?_ _)); refine blk_far ?_ NB157_158.out _; (with_reducible repeat (first | refine blk_drewN ?_ _ | refine blk_drew ?_ | refine blk_alloc ?_ _)); exact BK157.out⟩, ⟨by (with_reducible repeat (first | refine blk_drewN ?_ _ | refine blk_drew ?_ | refine blk_alloc ?_ _)); refine blk_put (cs := #[.slice none 0 0]) ?_ 0 _ rfl; (with_reducible repeat (first | refine blk_drewN ?_ _ | refine blk_drew ?_ | refine blk_alloc ?_ _)); exact BK158.out⟩, ⟨qB_⟩⟩
 case round =>
  clear H'
  (try clear p2); (try clear c7); (try clear c8); (try clear c9); (try clear hcz10_0); (try clear hfz10_0)
  obtain ⟨x6_1, x159000_1, u159000, rfl, HA, HK1, HO_159000, BK155, BK156, BK157, BK158, HB⟩ := hrel
  cases gk with
  | zero => exact absurd HA.out (by simp [spec_l03Put.l0])
  | succ k1 =>
   have H := HA.out; clear HA
   simp only [spec_l03Put.l0] at H
   by_cases c11 : x6_1 < (l0_0.length : Int)
   ·rw [if_pos c11] at H
    have c11b0 : decide (x6_1 < (l0_0.length : Int)) = true := decide_eq_true c11
    clear c11
    by_cases c12 : 0 ≤ x6_1
    ·rw [if_pos c12] at H
     have c12b0 : decide (0 ≤ x6_1) = true := decide_eq_true c12
     clear c12
     by_cases c13 : (Op.bytesLess (((rd_T94 l0_0 x6_1).f0).toList) a1_0.toList) = true
     ·rw [if_pos c13] at H
      have c13b0 : (Op.bytesLess (((rd_T94 l0_0 x6_1).f0).toList) a1_0.toList) = true := c13
      clear c13
      by_cases c14 : x159000_1.length < 3518437208883
      ·rw [if_pos c14] at H
       have LMc14 := Aside0.mk c14
       clear c14
       obtain ⟨y161, hy161⟩ : ∃ y_ : List (S94), y_ = (x159000_1 ++ [(⟨(rd_T94 l0_0 x6_1).f0, (rd_T94 l0_0 x6_1).f1, (rd_T94 l0_0 x6_1).f2⟩ : S94)]) := ⟨_, rfl⟩
       replace H : (spec_l03Put.l0 k1 (wrap64 (x6_1 + 1)) l0_0 a1_0 a1_1 a1_2 y161) = some r := by first | (rw [hy161]; with_reducible exact H) | (have H2_ := (Option.bind_some _ _).symm.trans H; rw [hy161]; with_reducible exact H2_) | (have H2_ := (Option.bind_some _ _).symm.trans H; with_reducible exact H2_) | with_reducible exact H | (rw [hy161]; exact H) | exact H
       have Ny161 := Aside0.mk hy161
       clear hy161; have H' := Aside0.mk H; clear H; have hnb15 := NB155_156.out; have hnc15 := NB156_155.out; have hnb16 := NB155_157.out; have hnc16 := NB157_155.out; have hnb17 := NB155_158.out; have hnc17 := NB158_155.out
       obtain ⟨hcz18_0, hfz18_0⟩ := bc1_ BK155
       try go_wp2
       have n0_ := Aside0.mk (Kd.R_drew HO_159000.out)
       have n1_ := Aside0.mk (blk_drew BK155.out)
       have n2_ := Aside0.mk (blk_drew BK156.out)
       have n3_ := Aside0.mk (blk_drew BK157.out)
       have n4_ := Aside0.mk (blk_drew BK158.out)
       have n5_ := Aside0.mk (below_drew1 HB.out)
       clear HO_159000; clear BK155; clear BK156; clear BK157; clear BK158; clear HB; have HO_159000 := n0_; have BK155 := n1_; have BK156 := n2_; have BK157 := n3_; have BK158 := n4_; have HB := n5_; clear n0_ n1_ n2_ n3_ n4_ n5_
       have p159 : 0 ≤ (x6_1 : Int) := of_decide_eq_true qa_
       have q159 : x6_1 < (l0_0.length : Int) := of_decide_eq_true qa_
       obtain ⟨ad159, e159, hx159_0, hx159_1, hx159_2⟩ := at_T94 HR0_0.out x6_1 p159 q159
       have hw159_2 := hx159_2; have hw159_1 := hx159_1; have hw159_0 := hx159_0; cases e159
       replace hx159_0 := (HB.out.cell (World.block_lt_of_cell? w _ hx159_0)).trans hx159_0
       replace hx159_1 := (HB.out.cell (World.block_lt_of_cell? w _ hx159_1)).trans hx159_1
       replace hx159_2 := (HB.out.cell (World.block_lt_of_cell? w _ hx159_2)).trans hx159_2
       replace p159 := eq_true p159; replace q159 := eq_true q159
       refine start_ (n := 9) (S := fun w' => w'.cell? ⟨gb155, 0, none⟩ = some (.slice (some ad159) l0_0.length c0_0) ∧ w'.cell? ⟨gb156, 0, none⟩ = some (.string a1_0) ∧ w'.cell? ⟨gb156, 1, none⟩ = some (.string a1_1) ∧ w'.cell? ⟨gb156, 2, none⟩ = some (.int .i64 a1_2) ∧ w'.cell? (ad159.add ((x6_1).toNat * 3)) = some (.string ((rd_T94 l0_0 x6_1).f0)) ∧ w'.cell? ⟨(ad159.add ((x6_1).toNat * 3)).block, (ad159.add ((x6_1).toNat * 3)).off + 1, none⟩ = some (.string ((rd_T94 l0_0 x6_1).f1)) ∧ w'.cell? ⟨(ad159.add ((x6_1).toNat * 3)).block, (ad159.add ((x6_1).toNat * 3)).off + 2, none⟩ = some (.int .i64 ((rd_T94 l0_0 x6_1).f2))) (ds := []) (bm 9 0) (by kernel_rfl) rfl (by kernel_rfl) ⟨(blk_cell BK155.out 0).trans rfl, (blk_cell BK156.out 0).trans rfl, (blk_cell BK156.out 1).trans rfl, (blk_cell BK156.out 2).trans rfl, ((HB.out.cell (World.block_lt_of_cell? w _ hw159_0)).trans hw159_0), ((HB.out.cell (World.block_lt_of_cell? w _ hw159_1)).trans hw159_1), ((HB.out.cell (World.block_lt_of_cell? w _ hw159_2)).trans hw159_2)⟩ (fun hHeld => ?_); refine with_tabW spec_l03Put.tab5 spec_l03Put.bits5 (fun HT_ HW_ => ?_)
       generalize wr.drew = w19 at HO_159000 BK155 BK156 BK157 BK158 HB hx159_0 hx159_1 hx159_2 hHeld ⊢
       refine pz_ 0 16 (bm 9 1) ?_; refine pz_ 2 18 (bm 9 5) ?_; refine pz_ 6 22 (bm 9 69) ?_; refine tz7_ 1 17 (bm 9 71) ?_; refine pz_ 3 19 (bm 9 79) ?_; refine pz_ 4 20 (bm 9 95) ?_; refine tz7_ 5 21 (bm 9 127) ?_; refine tz7_ 7 23 (bm 9 255) ?_; refine pz_ 8 24 (bm 9 511) ?_
       refine done_ (done_of HT_.out (by kernel_rfl)) ?_
       try go_wp2
       have n0_ := Aside0.mk (Kd.R_drew HO_159000.out)
       have n1_ := Aside0.mk (blk_drew BK155.out)
       have n2_ := Aside0.mk (blk_drew BK156.out)
       have n3_ := Aside0.mk (blk_drew BK157.out)
       have n4_ := Aside0.mk (blk_drew BK158.out)
       have n5_ := Aside0.mk (below_drew1 HB.out)
       clear HO_159000; clear BK155; clear BK156; clear BK157; clear BK158; clear HB; have HO_159000 := n0_; have BK155 := n1_; have BK156 := n2_; have BK157 := n3_; have BK158 := n4_; have HB := n5_; clear n0_ n1_ n2_ n3_ n4_ n5_
       have p160 : 0 ≤ (x6_1 : Int) := of_decide_eq_true qa_
       have q160 : x6_1 < (l0_0.length : Int) := of_decide_eq_true qa_
       obtain ⟨ad160, e160, hx160_0, hx160_1, hx160_2⟩ := at_T94 HR0_0.out x6_1 p160 q160
       have hw160_2 := hx160_2; have hw160_1 := hx160_1; have hw160_0 := hx160_0
       obtain rfl : ad159 = ad160 := (by injection e160)
       replace hx160_0 := (HB.out.cell (World.block_lt_of_cell? w _ hx160_0)).trans hx160_0
       replace hx160_1 := (HB.out.cell (World.block_lt_of_cell? w _ hx160_1)).trans hx160_1
       replace hx160_2 := (HB.out.cell (World.block_lt_of_cell? w _ hx160_2)).trans hx160_2
       replace p160 := eq_true p160; replace q160 := eq_true q160
       refine start_ (n := 11) (S := fun w' => w'.cell? ⟨gb158, 0, none⟩ = some (u159000) ∧ w'.cell? ⟨gb155, 0, none⟩ = some (.slice (some ad159) l0_0.length c0_0) ∧ w'.cell? (ad159.add ((x6_1).toNat * 3)) = some (.string ((rd_T94 l0_0 x6_1).f0)) ∧ w'.cell? ⟨(ad159.add ((x6_1).toNat * 3)).block, (ad159.add ((x6_1).toNat * 3)).off + 1, none⟩ = some (.string ((rd_T94 l0_0 x6_1).f1)) ∧ w'.cell? ⟨(ad159.add ((x6_1).toNat * 3)).block, (ad159.add ((x6_1).toNat * 3)).off + 2, none⟩ = some (.int .i64 ((rd_T94 l0_0 x6_1).f2))) (ds := [10]) (bm 11 0) (by kernel_rfl) rfl (by kernel_rfl) ⟨(blk_cell BK158.out 0).trans rfl, (blk_cell BK155.out 0).trans rfl, ((HB.out.cell (World.block_lt_of_cell? w _ hw160_0)).trans hw160_0), ((HB.out.cell (World.block_lt_of_cell? w _ hw160_1)).trans hw160_1), ((HB.out.cell (World.block_lt_of_cell? w _ hw160_2)).trans hw160_2)⟩ (fun hHeld => ?_); refine with_tabW spec_l03Put.tab6 spec_l03Put.bits6 (fun HT_ HW_ => ?_)
       generalize w19.drew = w20 at HO_159000 BK155 BK156 BK157 BK158 HB hx160_0 hx160_1 hx160_2 hHeld ⊢
       refine pz_ 0 25 (bm 11 1) ?_; refine pz_ 2 27 (bm 11 5) ?_; refine pz_ 4 29 (bm 11 21) ?_; refine tz5_ 1 26 (bm 11 23) ?_; refine tz5_ 3 28 (bm 11 31) ?_; refine pz_ 5 30 (bm 11 63) ?_; refine tz5_ 6 31 (bm 11 127) ?_
       refine one_ (i := 7) (N := some 32) (bm 11 255) rfl rfl (one_of HT_.out (by kernel_rfl)) (by decide) (fun K hK => ?_)
       refine value_ (w1 := ?_) (v := ?_) (by rfl) rfl ?_ ?_
       rotate_left 2
       ·go_simp
        constructor
        ·rfl
        ·rfl
       refine hK.out _ _ ⟨(blk_cell (blk_alloc BK158.out _) 0).trans rfl, (blk_cell (blk_alloc BK155.out _) 0).trans rfl, (World.cell?_alloc_lt _ _ _ (World.block_lt_of_cell? _ _ (((HB.out.cell (World.block_lt_of_cell? w _ hw160_0)).trans hw160_0)))).trans (((HB.out.cell (World.block_lt_of_cell? w _ hw160_0)).trans hw160_0)), (World.cell?_alloc_lt _ _ _ (World.block_lt_of_cell? _ _ (((HB.out.cell (World.block_lt_of_cell? w _ hw160_1)).trans hw160_1)))).trans (((HB.out.cell (World.block_lt_of_cell? w _ hw160_1)).trans hw160_1)), (World.cell?_alloc_lt _ _ _ (World.block_lt_of_cell? _ _ (((HB.out.cell (World.block_lt_of_cell? w _ hw160_2)).trans hw160_2)))).trans (((HB.out.cell (World.block_lt_of_cell? w _ hw160_2)).trans hw160_2))⟩ (fun hHeld => ?_)
       clear hK K
       refine norm_ (a' := ?_) ?_ ?_
       rotate_left
       ·show Act.put _ (some 32) _ = _
        simp only [Act.put, List.setIfInBounds_toArray, List.set_cons_zero, List.set_cons_succ, i64_w, i32_w]
        rfl
       refine one_ (i := 8) (N := some 33) (bm 11 511) rfl rfl (one_of HT_.out (by kernel_rfl)) (by decide) (fun K hK => ?_)
       refine Kd.R_append_step k94 (w0 := w) w.heap.size (by rfl) (.tmp 26) (.tmp 32) 73 94 (.agg #[(.string ⟨#[]⟩), (.string ⟨#[]⟩), (.int .i64 0)]) 40 rfl Try.underlying73 info94 rfl (by decide) (by omega) u159000 x159000_1 (⟨(rd_T94 l0_0 x6_1).f0, (rd_T94 l0_0 x6_1).f1, (rd_T94 l0_0 x6_1).f2⟩ : S94) [.string ((rd_T94 l0_0 x6_1).f0), .string ((rd_T94 l0_0 x6_1).f1), .int .i64 ((rd_T94 l0_0 x6_1).f2)] (fun k_ => k_ ≠ gb156) (fun _ => False) rfl rfl ?aP (fun _ hk => hk.elim) ?aF ?aO ?aB ?aS ?aL ?_
       (case aP => exact k94_mkM _ _ _ (⟨(rd_T94 l0_0 x6_1).f0, (rd_T94 l0_0 x6_1).f1, (rd_T94 l0_0 x6_1).f2⟩ : S94))
       (case aB => exact qB_)
       (case aF => exact (fun k_ hk => Kd.freshB (qk_ BK156) k_ hk))
       (case aO => exact (qR_ HO_159000))
       (case aS => exact (below_size qB_))
       (case aL => have := LMc14.out; omega)
       intro v162 w21 ho hb hg hat
       rw [← Ny161.out] at ho
       have n0_ := Aside0.mk (blk_grown (qk_ BK155) hg (Kd.R_ne HO_159000.out BK155.out (by decide)))
       have n1_ := Aside0.mk (blk_grown (qk_ BK156) hg (Kd.R_away HO_159000.out (fun _ hk => hk)))
       have n2_ := Aside0.mk (blk_grown (qk_ BK157) hg (Kd.R_ne HO_159000.out BK157.out (by decide)))
       have n3_ := Aside0.mk (blk_grown (qk_ BK158) hg (Kd.R_ne HO_159000.out BK158.out (by decide)))
       have n4_ := Aside0.mk (hb)
       have n5_ := Aside0.mk (ho)
       clear BK155; clear BK156; clear BK157; clear BK158; clear HB; clear HO_159000; have BK155 := n0_; have BK156 := n1_; have BK157 := n2_; have BK158 := n3_; have HB := n4_; have HO163 := n5_; clear n0_ n1_ n2_ n3_ n4_ n5_; clear ho hb hg hat
       obtain ⟨Ao22, co22, eo22⟩ := Kd.R_slice HO163.out
       (first | subst eo22 | (injection eo22 with f1_ f2_ f3_; have f4_ := f1_.symm; have f5_ := f3_.symm; clear f1_ f2_ f3_; subst f4_; subst f5_))
       refine hK.out _ _ ⟨(blk_cell BK158.out 0).trans rfl, (blk_cell BK155.out 0).trans rfl, ((HB.out.cell (World.block_lt_of_cell? w _ hw160_0)).trans hw160_0), ((HB.out.cell (World.block_lt_of_cell? w _ hw160_1)).trans hw160_1), ((HB.out.cell (World.block_lt_of_cell? w _ hw160_2)).trans hw160_2)⟩ (fun hHeld => ?_)
       clear hK K
       refine norm_ (a' := ?_) ?_ ?_
       rotate_left
       ·show Act.put _ (some 33) _ = _
        simp only [Act.put, List.setIfInBounds_toArray, List.set_cons_zero, List.set_cons_succ, i64_w, i32_w]
        rfl
       refine pz_ 9 34 (bm 11 1023) ?_
       refine last_ (i := 10) (N := none) (bm 11 2047) rfl rfl (one_of HT_.out (by kernel_rfl)) (by decide) (fun K hK => ?_)
       have hs23 : w21.cell? ⟨gb158, 0, none⟩ = some (u159000) := (blk_cell BK158.out 0).trans rfl
       have hfs23 := blk_frozen BK158.out 0
       have hns23_0 := NB155_158.out; have hns23_1 := NB156_158.out; have hns23_2 := NB157_158.out; have hms23_0 := NB158_155.out; have hms23_1 := NB158_156.out; have hms23_2 := NB158_157.out
       refine skip_ (w1 := ?_) (by rfl) rfl ?_ ?_
       rotate_left
       ·go_simp
        rfl
       refine hK.out _ _ ?_
       clear hK K
       refine done_ (done_of HT_.out (by kernel_rfl)) ?_
       try go_wp2
       go_roundg k1
       case measure => have := HK1.out; omega
       case rel => exact ⟨(wrap64 (x6_1 + 1)), (y161), (.slice Ao22 y161.length co22), qe_, H', ⟨by have := HK1.out; omega⟩, ⟨by (with_reducible repeat (first | apply Kd.R_alloc | apply Kd.R_drewN | apply Kd.R_drew)); exact Kd.R_mono (Kd.R_far (p := ⟨gb158, 0, none⟩) (Kd.R_types HO163.out BK158.out (by decide)) (fun _ hk => hk.2) (.slice Ao22 y161.length co22)) (fun _ hk => hk.1)⟩, ⟨by (with_reducible repeat (first | refine blk_drewN ?_ _ | refine blk_drew ?_ | refine blk_alloc ?_ _)); refine blk_far ?_ NB155_158.out _; (with_reducible repeat (first | refine blk_drewN ?_ _ | refine blk_drew ?_ | refine blk_alloc ?_ _)); exact BK155.out⟩, ⟨by (with_reducible repeat (first | refine blk_drewN ?_ _ | refine blk_drew ?_ | refine blk_alloc ?_ _)); refine blk_far ?_ NB156_158.out _; (with_reducible repeat (first | refine blk_drewN ?_ _ | refine blk_drew ?_ | refine blk_alloc ?_ _)); exact BK156.out⟩, ⟨by (with_reducible repeat (first | refine blk_drewN ?_ _ | refine blk_drew ?_ | refine blk_alloc ?_ _)); refine blk_far ?_ NB157_158.out _; (with_reducible repeat (first | refine blk_drewN ?_ _ | refine blk_drew ?_ | refine blk_alloc ?_ _)); exact BK157.out⟩, ⟨by (with_reducible repeat (first | refine blk_drewN ?_ _ | refine blk_drew ?_ | refine blk_alloc ?_ _)); refine blk_put (cs := #[u159000]) ?_ 0 _ rfl; (with_reducible repeat (first | refine blk_drewN ?_ _ | refine blk_drew ?_ | refine blk_alloc ?_ _)); exact BK158.out⟩, ⟨qB_⟩⟩
      ·rw [if_neg c14] at H
       exact absurd H (by simp)
     ·rw [if_neg c13] at H
      have c13b0 : (Op.bytesLess (((rd_T94 l0_0 x6_1).f0).toList) a1_0.toList) = false := by simpa using c13
      clear c13; have H' := Aside0.mk H; clear H; have hnb24 := NB155_156.out; have hnc24 := NB156_155.out; have hnb25 := NB155_157.out; have hnc25 := NB157_155.out; have hnb26 := NB155_158.out; have hnc26 := NB158_155.out
      obtain ⟨hcz27_0, hfz27_0⟩ := bc1_ BK155
      try go_wp2
      have n0_ := Aside0.mk (Kd.R_drew HO_159000.out)
      have n1_ := Aside0.mk (blk_drew BK155.out)
      have n2_ := Aside0.mk (blk_drew BK156.out)
      have n3_ := Aside0.mk (blk_drew BK157.out)
      have n4_ := Aside0.mk (blk_drew BK158.out)
      have n5_ := Aside0.mk (below_drew1 HB.out)
      clear HO_159000; clear BK155; clear BK156; clear BK157; clear BK158; clear HB; have HO_159000 := n0_; have BK155 := n1_; have BK156 := n2_; have BK157 := n3_; have BK158 := n4_; have HB := n5_; clear n0_ n1_ n2_ n3_ n4_ n5_
      have p159 : 0 ≤ (x6_1 : Int) := of_decide_eq_true qa_
      have q159 : x6_1 < (l0_0.length : Int) := of_decide_eq_true qa_
      obtain ⟨ad159, e159, hx159_0, hx159_1, hx159_2⟩ := at_T94 HR0_0.out x6_1 p159 q159
      have hw159_2 := hx159_2; have hw159_1 := hx159_1; have hw159_0 := hx159_0; cases e159
      replace hx159_0 := (HB.out.cell (World.block_lt_of_cell? w _ hx159_0)).trans hx159_0
      replace hx159_1 := (HB.out.cell (World.block_lt_of_cell? w _ hx159_1)).trans hx159_1
      replace hx159_2 := (HB.out.cell (World.block_lt_of_cell? w _ hx159_2)).trans hx159_2
      replace p159 := eq_true p159; replace q159 := eq_true q159
      refine start_ (n := 9) (S := fun w' => w'.cell? ⟨gb155, 0, none⟩ = some (.slice (some ad159) l0_0.length c0_0) ∧ w'.cell? ⟨gb156, 0, none⟩ = some (.string a1_0) ∧ w'.cell? ⟨gb156, 1, none⟩ = some (.string a1_1) ∧ w'.cell? ⟨gb156, 2, none⟩ = some (.int .i64 a1_2) ∧ w'.cell? (ad159.add ((x6_1).toNat * 3)) = some (.string ((rd_T94 l0_0 x6_1).f0)) ∧ w'.cell? ⟨(ad159.add ((x6_1).toNat * 3)).block, (ad159.add ((x6_1).toNat * 3)).off + 1, none⟩ = some (.string ((rd_T94 l0_0 x6_1).f1)) ∧ w'.cell? ⟨(ad159.add ((x6_1).toNat * 3)).block, (ad159.add ((x6_1).toNat * 3)).off + 2, none⟩ = some (.int .i64 ((rd_T94 l0_0 x6_1).f2))) (ds := []) (bm 9 0) (by kernel_rfl) rfl (by kernel_rfl) ⟨(blk_cell BK155.out 0).trans rfl, (blk_cell BK156.out 0).trans rfl, (blk_cell BK156.out 1).trans rfl, (blk_cell BK156.out 2).trans rfl, ((HB.out.cell (World.block_lt_of_cell? w _ hw159_0)).trans hw159_0), ((HB.out.cell (World.block_lt_of_cell? w _ hw159_1)).trans hw159_1), ((HB.out.cell (World.block_lt_of_cell? w _ hw159_2)).trans hw159_2)⟩ (fun hHeld => ?_); refine with_tabW spec_l03Put.tab5 spec_l03Put.bits5 (fun HT_ HW_ => ?_)
      generalize wr.drew = w28 at HO_159000 BK155 BK156 BK157 BK158 HB hx159_0 hx159_1 hx159_2 hHeld ⊢
      refine pz_ 0 16 (bm 9 1) ?_; refine pz_ 2 18 (bm 9 5) ?_; refine pz_ 6 22 (bm 9 69) ?_; refine tz7_ 1 17 (bm 9 71) ?_; refine pz_ 3 19 (bm 9 79) ?_; refine pz_ 4 20 (bm 9 95) ?_; refine tz7_ 5 21 (bm 9 127) ?_; refine tz7_ 7 23 (bm 9 255) ?_; refine pz_ 8 24 (bm 9 511) ?_
      refine done_ (done_of HT_.out (by kernel_rfl)) ?_
      try go_wp2
      go_roundg k1
      case measure => have := HK1.out; omega
      case rel => exact ⟨(wrap64 (x6_1 + 1)), (x159000_1), (u159000), qe_, H', ⟨by have := HK1.out; omega⟩, ⟨by (with_reducible repeat (first | apply Kd.R_alloc | apply Kd.R_drewN | apply Kd.R_drew)); first | exact HO_159000.out | (have h_ := HO_159000.out; simp only [own_slice] at h_ ⊢; exact h_)⟩, ⟨qk_ BK155⟩, ⟨qk_ BK156⟩, ⟨qk_ BK157⟩, ⟨qk_ BK158⟩, ⟨qB_⟩⟩
    ·rw [if_neg c12] at H
     exact absurd H (by simp)
   ·rw [if_neg c11] at H
    have c11b0 : decide (x6_1 < (l0_0.length : Int)) = false := decide_eq_false c11
    clear c11
    by_cases c29 : x159000_1.length < 3518437208883
    ·rw [if_pos c29] at H
     have LMc29 := Aside0.mk c29
     clear c29
     obtain ⟨y164, hy164⟩ : ∃ y_ : List (S94), y_ = (x159000_1 ++ [(⟨a1_0, a1_1, a1_2⟩ : S94)]) := ⟨_, rfl⟩
     replace H : (spec_l03Put.l1 k1 0 l0_0 a1_0 a1_1 a1_2 y164) = some r := by first | (rw [hy164]; with_reducible exact H) | (have H2_ := (Option.bind_some _ _).symm.trans H; rw [hy164]; with_reducible exact H2_) | (have H2_ := (Option.bind_some _ _).symm.trans H; with_reducible exact H2_) | with_reducible exact H | (rw [hy164]; exact H) | exact H
     have Ny164 := Aside0.mk hy164
     clear hy164; have H' := Aside0.mk H; clear H; have hnb30 := NB155_156.out; have hnc30 := NB156_155.out; have hnb31 := NB155_157.out; have hnc31 := NB157_155.out; have hnb32 := NB155_158.out; have hnc32 := NB158_155.out
     obtain ⟨hcz33_0, hfz33_0⟩ := bc1_ BK155
     have hnb34 := NB158_156.out; have hnc34 := NB156_158.out; have hnb35 := NB158_157.out; have hnc35 := NB157_158.out
     obtain ⟨hcz36_0, hfz36_0⟩ := bc1_ BK158
     have hnb37 := NB156_157.out; have hnc37 := NB157_156.out
     obtain ⟨hcz38_0, hcz38_1, hcz38_2, hfz38_0, hfz38_1, hfz38_2⟩ := bc3_ BK156
     go_wp2_with (first | ((with_reducible refine gate_builtin (b := .append) (xs := #[.tmp 36, .tmp 38]) rfl ?_); at_builtin; refine Kd.R_append k94 (w0 := w) w.heap.size rfl (.tmp 36) (.tmp 38) 73 94 (.agg #[(.string ⟨#[]⟩), (.string ⟨#[]⟩), (.int .i64 0)]) 40 rfl Try.underlying73 info94 rfl (by decide) (by omega) u159000 x159000_1 (⟨a1_0, a1_1, a1_2⟩ : S94) [.string a1_0, .string a1_1, .int .i64 a1_2] (fun k_ => k_ ≠ gb156) (fun _ => False) rfl rfl ?aP (fun _ hk => hk.elim) ?aF ?aO ?aB ?aS ?aL ?_; (case aP => exact k94_mkM _ _ _ (⟨a1_0, a1_1, a1_2⟩ : S94)); (case aB => exact qB_); (case aF => exact (fun k_ hk => Kd.freshB (qk_ BK156) k_ hk)); (case aO => exact (qR_ HO_159000)); (case aS => exact (below_size qB_)); (case aL => have := LMc29.out; omega); intro v165 w39 ho hb hg hat; rw [← Ny164.out] at ho; have HO166 := Aside0.mk (ho); replace BK155 := Aside0.mk (blk_grown (qk_ BK155) hg (Kd.R_ne HO_159000.out BK155.out (by decide))); replace BK156 := Aside0.mk (blk_grown (qk_ BK156) hg (Kd.R_away HO_159000.out (fun _ hk => hk))); replace BK157 := Aside0.mk (blk_grown (qk_ BK157) hg (Kd.R_ne HO_159000.out BK157.out (by decide))); replace BK158 := Aside0.mk (blk_grown (qk_ BK158) hg (Kd.R_ne HO_159000.out BK158.out (by decide))); replace HB := Aside0.mk (hb); clear HO_159000; clear ho hb hg hat; obtain ⟨Ao40, co40, eo40⟩ := Kd.R_slice HO166.out; subst eo40; obtain ⟨hcz41_0, hfz41_0⟩ := bc1_ BK158))
     go_loopg [7] k1 (fun kq v7 w' => ∃ (x7_2 : Int) (x159000_2 : List (S94)) (u159000 : Value), v7 = .int .i64 x7_2 ∧ Aside0 (spec_l03Put.l1 kq x7_2 l0_0 a1_0 a1_1 a1_2 x159000_2 = some r) ∧ Aside0 (kq ≤ k1) ∧ Aside0 (Kd.R k94 94 w' w.heap.size (fun k_ => k_ ≠ gb156) u159000 x159000_2) ∧ Aside0 (w'.heap[gb155]? = some (.cells #[(.slice A0_0 l0_0.length c0_0)] 75 (0, 0))) ∧ Aside0 (w'.heap[gb156]? = some (.cells #[.string a1_0, .string a1_1, .int .i64 a1_2] 94 (0, 0))) ∧ Aside0 (w'.heap[gb157]? = some (.cells #[(.slice none 0 0)] 75 (0, 0))) ∧ Aside0 (w'.heap[gb158]? = some (.cells #[u159000] 75 (0, 0))) ∧ Aside0 (Below w.heap.size w w'))
     case atStart => exact ⟨(0), (y164), (.slice Ao40 y164.length co40), qe_, H', ⟨Nat.le_refl _⟩, ⟨by (with_reducible repeat (first | apply Kd.R_alloc | apply Kd.R_drewN | apply Kd.R_drew)); exact Kd.R_mono (Kd.R_far (p := ⟨gb158, 0, none⟩) (Kd.R_types HO166.out BK158.out (by decide)) (fun _ hk => hk.2) (.slice Ao40 y164.length co40)) (fun _ hk => hk.1)⟩, ⟨by (with_reducible repeat (first | refine blk_drewN ?_ _ | refine blk_drew ?_ | refine blk_alloc ?_ _)); refine blk_far ?_ NB155_158.out _; (with_reducible repeat (first | refine blk_drewN ?_ _ | refine blk_drew ?_ | refine blk_alloc ?_ _)); exact BK155.out⟩, ⟨by (with_reducible repeat (first | refine blk_drewN ?_ _ | refine blk_drew ?_ | refine blk_alloc ?_ _)); refine blk_far ?_ NB156_158.out _; (with_reducible repeat (first | refine blk_drewN ?_ _ | refine blk_drew ?_ | refine blk_alloc ?_ _)); exact BK156.out⟩, ⟨by (with_reducible repeat (first | refine blk_drewN ?_ _ | refine blk_drew ?_ | refine blk_alloc ?_ _)); refine blk_far ?_ NB157_158.out _; (with_reducible repeat (first | refine blk_drewN ?_ _ | refine blk_drew ?_ | refine blk_alloc ?_ _)); exact BK157.out⟩, ⟨by (with_reducible repeat (first | refine blk_drewN ?_ _ | refine blk_drew ?_ | refine blk_alloc ?_ _)); refine blk_put (cs := #[u159000]) ?_ 0 _ rfl; (with_reducible repeat (first | refine blk_drewN ?_ _ | refine blk_drew ?_ | refine blk_alloc ?_ _)); exact BK158.out⟩, ⟨qB_⟩⟩
     case round =>
      clear H'
      (try clear c1); (try clear p1); (try clear q1); (try clear hx1); (try clear c2); (try clear p2); (try clear c3); (try clear p6); (try clear c7); (try clear c8); (try clear c9); (try clear c11); (try clear c11b0); (try clear c12); (try clear c12b0); (try clear c13); (try clear c13b0); (try clear c14); (try clear c15); (try clear p15); (try clear q15); (try clear hx15); (try clear c16); (try clear p16); (try clear q16); (try clear hx16); (try clear c17); (try clear c24); (try clear c25); (try clear c26); (try clear c29); (try clear c30); (try clear c31); (try clear c32); (try clear c34); (try clear c35); (try clear c37); (try clear hcz10_0); (try clear hcz18_0); (try clear hcz27_0); (try clear hcz33_0); (try clear hcz36_0); (try clear hcz38_0); (try clear hcz38_1); (try clear hcz38_2); (try clear hcz41_0); (try clear hfz10_0); (try clear hfz18_0); (try clear hfz27_0); (try clear hfz33_0); (try clear hfz36_0); (try clear hfz38_0); (try clear hfz38_1); (try clear hfz38_2); (try clear hfz41_0); (try clear hx159_0); (try clear hx159_1); (try clear hx159_2); (try clear hx160_0); (try clear hx160_1); (try clear hx160_2); (try clear p159); (try clear p160); (try clear p2); (try clear q159); (try clear q160)
      obtain ⟨x7_2, x159000_2, u159000, rfl, HA, HK2, HO_159000, BK155, BK156, BK157, BK158, HB⟩ := hrel
      cases gk with
      | zero => exact absurd HA.out (by simp [spec_l03Put.l1])
      | succ k2 =>
       have H := HA.out; clear HA
       simp only [spec_l03Put.l1] at H
       by_cases c42 : x7_2 < (l0_0.length : Int)
       ·rw [if_pos c42] at H
        have c42b0 : decide (x7_2 < (l0_0.length : Int)) = true := decide_eq_true c42
        clear c42
        by_cases c43 : 0 ≤ x7_2
        ·rw [if_pos c43] at H
         have c43b0 : decide (0 ≤ x7_2) = true := decide_eq_true c43
         clear c43
         by_cases c44 : ((Op.bytesLess (((rd_T94 l0_0 x7_2).f0).toList) a1_0.toList || ((((rd_T94 l0_0 x7_2).f0).toList) == a1_0.toList)) = true)
         ·rw [if_pos c44] at H
          have c44b0 : (Op.bytesLess (((rd_T94 l0_0 x7_2).f0).toList) a1_0.toList || ((((rd_T94 l0_0 x7_2).f0).toList) == a1_0.toList)) = true := c44
          clear c44; have H' := Aside0.mk H; clear H; have hnb45 := NB155_156.out; have hnc45 := NB156_155.out; have hnb46 := NB155_157.out; have hnc46 := NB157_155.out; have hnb47 := NB155_158.out; have hnc47 := NB158_155.out
          obtain ⟨hcz48_0, hfz48_0⟩ := bc1_ BK155
          try go_wp2
          have n0_ := Aside0.mk (Kd.R_drew HO_159000.out)
          have n1_ := Aside0.mk (blk_drew BK155.out)
          have n2_ := Aside0.mk (blk_drew BK156.out)
          have n3_ := Aside0.mk (blk_drew BK157.out)
          have n4_ := Aside0.mk (blk_drew BK158.out)
          have n5_ := Aside0.mk (below_drew1 HB.out)
          clear HO_159000; clear BK155; clear BK156; clear BK157; clear BK158; clear HB; have HO_159000 := n0_; have BK155 := n1_; have BK156 := n2_; have BK157 := n3_; have BK158 := n4_; have HB := n5_; clear n0_ n1_ n2_ n3_ n4_ n5_
          have p167 : 0 ≤ (x7_2 : Int) := of_decide_eq_true qa_
          have q167 : x7_2 < (l0_0.length : Int) := of_decide_eq_true qa_
          obtain ⟨ad167, e167, hx167_0, hx167_1, hx167_2⟩ := at_T94 HR0_0.out x7_2 p167 q167
          have hw167_2 := hx167_2; have hw167_1 := hx167_1; have hw167_0 := hx167_0; cases e167
          replace hx167_0 := (HB.out.cell (World.block_lt_of_cell? w _ hx167_0)).trans hx167_0
          replace hx167_1 := (HB.out.cell (World.block_lt_of_cell? w _ hx167_1)).trans hx167_1
          replace hx167_2 := (HB.out.cell (World.block_lt_of_cell? w _ hx167_2)).trans hx167_2
          replace p167 := eq_true p167; replace q167 := eq_true q167
          refine start_ (n := 9) (S := fun w' => w'.cell? ⟨gb155, 0, none⟩ = some (.slice (some ad167) l0_0.length c0_0) ∧ w'.cell? ⟨gb156, 0, none⟩ = some (.string a1_0) ∧ w'.cell? ⟨gb156, 1, none⟩ = some (.string a1_1) ∧ w'.cell? ⟨gb156, 2, none⟩ = some (.int .i64 a1_2) ∧ w'.cell? (ad167.add ((x7_2).toNat * 3)) = some (.string ((rd_T94 l0_0 x7_2).f0)) ∧ w'.cell? ⟨(ad167.add ((x7_2).toNat * 3)).block, (ad167.add ((x7_2).toNat * 3)).off + 1, none⟩ = some (.string ((rd_T94 l0_0 x7_2).f1)) ∧ w'.cell? ⟨(ad167.add ((x7_2).toNat * 3)).block, (ad167.add ((x7_2).toNat * 3)).off + 2, none⟩ = some (.int .i64 ((rd_T94 l0_0 x7_2).f2))) (ds := []) (bm 9 0) (by kernel_rfl) rfl (by kernel_rfl) ⟨(blk_cell BK155.out 0).trans rfl, (blk_cell BK156.out 0).trans rfl, (blk_cell BK156.out 1).trans rfl, (blk_cell BK156.out 2).trans rfl, ((HB.out.cell (World.block_lt_of_cell? w _ hw167_0)).trans hw167_0), ((HB.out.cell (World.block_lt_of_cell? w _ hw167_1)).trans hw167_1), ((HB.out.cell (World.block_lt_of_cell? w _ hw167_2)).trans hw167_2)⟩ (fun hHeld => ?_); refine with_tabW spec_l03Put.tab11 spec_l03Put.bits11 (fun HT_ HW_ => ?_)
          generalize wr.drew = w49 at HO_159000 BK155 BK156 BK157 BK158 HB hx167_0 hx167_1 hx167_2 hHeld ⊢
          refine pz_ 0 48 (bm 9 1) ?_; refine pz_ 2 50 (bm 9 5) ?_; refine pz_ 6 54 (bm 9 69) ?_; refine tz7_ 1 49 (bm 9 71) ?_; refine pz_ 3 51 (bm 9 79) ?_; refine pz_ 4 52 (bm 9 95) ?_; refine tz7_ 5 53 (bm 9 127) ?_; refine tz7_ 7 55 (bm 9 255) ?_; refine pz_ 8 56 (bm 9 511) ?_
          refine done_ (done_of HT_.out (by kernel_rfl)) ?_
          try go_wp2
          go_roundg k2
          case measure => have := HK1.out; have := HK2.out; omega
          case rel => exact ⟨(wrap64 (x7_2 + 1)), (x159000_2), (u159000), qe_, H', ⟨by have := HK1.out; have := HK2.out; omega⟩, ⟨by (with_reducible repeat (first | apply Kd.R_alloc | apply Kd.R_drewN | apply Kd.R_drew)); first | exact HO_159000.out | (have h_ := HO_159000.out; simp only [own_slice] at h_ ⊢; exact h_)⟩, ⟨qk_ BK155⟩, ⟨qk_ BK156⟩, ⟨qk_ BK157⟩, ⟨qk_ BK158⟩, ⟨qB_⟩⟩
         ·rw [if_neg c44] at H
          have c44b0 : (Op.bytesLess (((rd_T94 l0_0 x7_2).f0).toList) a1_0.toList || ((((rd_T94 l0_0 x7_2).f0).toList) == a1_0.toList)) = false := by simpa using c44
          clear c44
          by_cases c50 : x159000_2.length < 3518437208883
          ·rw [if_pos c50] at H
           have LMc50 := Aside0.mk c50
           clear c50
           obtain ⟨y169, hy169⟩ : ∃ y_ : List (S94), y_ = (x159000_2 ++ [(⟨(rd_T94 l0_0 x7_2).f0, (rd_T94 l0_0 x7_2).f1, (rd_T94 l0_0 x7_2).f2⟩ : S94)]) := ⟨_, rfl⟩
           replace H : (spec_l03Put.l1 k2 (wrap64 (x7_2 + 1)) l0_0 a1_0 a1_1 a1_2 y169) = some r := by first | (rw [hy169]; with_reducible exact H) | (have H2_ := (Option.bind_some _ _).symm.trans H; rw [hy169]; with_reducible exact H2_) | (have H2_ := (Option.bind_some _ _).symm.trans H; with_reducible exact H2_) | with_reducible exact H | (rw [hy169]; exact H) | exact H
           have Ny169 := Aside0.mk hy169
           clear hy169; have H' := Aside0.mk H; clear H; have hnb51 := NB155_156.out; have hnc51 := NB156_155.out; have hnb52 := NB155_157.out; have hnc52 := NB157_155.out; have hnb53 := NB155_158.out; have hnc53 := NB158_155.out
           obtain ⟨hcz54_0, hfz54_0⟩ := bc1_ BK155
           try go_wp2
           have n0_ := Aside0.mk (Kd.R_drew HO_159000.out)
           have n1_ := Aside0.mk (blk_drew BK155.out)
           have n2_ := Aside0.mk (blk_drew BK156.out)
           have n3_ := Aside0.mk (blk_drew BK157.out)
           have n4_ := Aside0.mk (blk_drew BK158.out)
           have n5_ := Aside0.mk (below_drew1 HB.out)
           clear HO_159000; clear BK155; clear BK156; clear BK157; clear BK158; clear HB; have HO_159000 := n0_; have BK155 := n1_; have BK156 := n2_; have BK157 := n3_; have BK158 := n4_; have HB := n5_; clear n0_ n1_ n2_ n3_ n4_ n5_
           have p167 : 0 ≤ (x7_2 : Int) := of_decide_eq_true qa_
           have q167 : x7_2 < (l0_0.length : Int) := of_decide_eq_true qa_
           obtain ⟨ad167, e167, hx167_0, hx167_1, hx167_2⟩ := at_T94 HR0_0.out x7_2 p167 q167
           have hw167_2 := hx167_2; have hw167_1 := hx167_1; have hw167_0 := hx167_0; cases e167
           replace hx167_0 := (HB.out.cell (World.block_lt_of_cell? w _ hx167_0)).trans hx167_0
           replace hx167_1 := (HB.out.cell (World.block_lt_of_cell? w _ hx167_1)).trans hx167_1
           replace hx167_2 := (HB.out.cell (World.block_lt_of_cell? w _ hx167_2)).trans hx167_2
           replace p167 := eq_true p167; replace q167 := eq_true q167
           refine start_ (n := 9) (S := fun w' => w'.cell? ⟨gb155, 0, none⟩ = some (.slice (some ad167) l0_0.length c0_0) ∧ w'.cell? ⟨gb156, 0, none⟩ = some (.string a1_0) ∧ w'.cell? ⟨gb156, 1, none⟩ = some (.string a1_1) ∧ w'.cell? ⟨gb156, 2, none⟩ = some (.int .i64 a1_2) ∧ w'.cell? (ad167.add ((x7_2).toNat * 3)) = some (.string ((rd_T94 l0_0 x7_2).f0)) ∧ w'.cell? ⟨(ad167.add ((x7_2).toNat * 3)).block, (ad167.add ((x7_2).toNat * 3)).off + 1, none⟩ = some (.string ((rd_T94 l0_0 x7_2).f1)) ∧ w'.cell? ⟨(ad167.add ((x7_2).toNat * 3)).block, (ad167.add ((x7_2).toNat * 3)).off + 2, none⟩ = some (.int .i64 ((rd_T94 l0_0 x7_2).f2))) (ds := []) (bm 9 0) (by kernel_rfl) rfl (by kernel_rfl) ⟨(blk_cell BK155.out 0).trans rfl, (blk_cell BK156.out 0).trans rfl, (blk_cell BK156.out 1).trans rfl, (blk_cell BK156.out 2).trans rfl, ((HB.out.cell (World.block_lt_of_cell? w _ hw167_0)).trans hw167_0), ((HB.out.cell (World.block_lt_of_cell? w _ hw167_1)).trans hw167_1), ((HB.out.cell (World.block_lt_of_cell? w _ hw167_2)).trans hw167_2)⟩ (fun hHeld => ?_); refine with_tabW spec_l03Put.tab11 spec_l03Put.bits11 (fun HT_ HW_ => ?_)
           generalize wr.drew = w55 at HO_159000 BK155 BK156 BK157 BK158 HB hx167_0 hx167_1 hx167_2 hHeld ⊢
           refine pz_ 0 48 (bm 9 1) ?_; refine pz_ 2 50 (bm 9 5) ?_; refine pz_ 6 54 (bm 9 69) ?_; refine tz7_ 1 49 (bm 9 71) ?_; refine pz_ 3 51 (bm 9 79) ?_; refine pz_ 4 52 (bm 9 95) ?_; refine tz7_ 5 53 (bm 9 127) ?_; refine tz7_ 7 55 (bm 9 255) ?_; refine pz_ 8 56 (bm 9 511) ?_
           refine done_ (done_of HT_.out (by kernel_rfl)) ?_
           try go_wp2
           have n0_ := Aside0.mk (Kd.R_drew HO_159000.out)
           have n1_ := Aside0.mk (blk_drew BK155.out)
           have n2_ := Aside0.mk (blk_drew BK156.out)
           have n3_ := Aside0.mk (blk_drew BK157.out)
           have n4_ := Aside0.mk (blk_drew BK158.out)
           have n5_ := Aside0.mk (below_drew1 HB.out)
           clear HO_159000; clear BK155; clear BK156; clear BK157; clear BK158; clear HB; have HO_159000 := n0_; have BK155 := n1_; have BK156 := n2_; have BK157 := n3_; have BK158 := n4_; have HB := n5_; clear n0_ n1_ n2_ n3_ n4_ n5_
           have p168 : 0 ≤ (x7_2 : Int) := of_decide_eq_true qa_
           have q168 : x7_2 < (l0_0.length : Int) := of_decide_eq_true qa_
           obtain ⟨ad168, e168, hx168_0, hx168_1, hx168_2⟩ := at_T94 HR0_0.out x7_2 p168 q168
           have hw168_2 := hx168_2; have hw168_1 := hx168_1; have hw168_0 := hx168_0
           obtain rfl : ad167 = ad168 := (by injection e168)
           replace hx168_0 := (HB.out.cell (World.block_lt_of_cell? w _ hx168_0)).trans hx168_0
           replace hx168_1 := (HB.out.cell (World.block_lt_of_cell? w _ hx168_1)).trans hx168_1
           replace hx168_2 := (HB.out.cell (World.block_lt_of_cell? w _ hx168_2)).trans hx168_2
           replace p168 := eq_true p168; replace q168 := eq_true q168
           refine start_ (n := 11) (S := fun w' => w'.cell? ⟨gb158, 0, none⟩ = some (u159000) ∧ w'.cell? ⟨gb155, 0, none⟩ = some (.slice (some ad167) l0_0.length c0_0) ∧ w'.cell? (ad167.add ((x7_2).toNat * 3)) = some (.string ((rd_T94 l0_0 x7_2).f0)) ∧ w'.cell? ⟨(ad167.add ((x7_2).toNat * 3)).block, (ad167.add ((x7_2).toNat * 3)).off + 1, none⟩ = some (.string ((rd_T94 l0_0 x7_2).f1)) ∧ w'.cell? ⟨(ad167.add ((x7_2).toNat * 3)).block, (ad167.add ((x7_2).toNat * 3)).off + 2, none⟩ = some (.int .i64 ((rd_T94 l0_0 x7_2).f2))) (ds := [10]) (bm 11 0) (by kernel_rfl) rfl (by kernel_rfl) ⟨(blk_cell BK158.out 0).trans rfl, (blk_cell BK155.out 0).trans rfl, ((HB.out.cell (World.block_lt_of_cell? w _ hw168_0)).trans hw168_0), ((HB.out.cell (World.block_lt_of_cell? w _ hw168_1)).trans hw168_1), ((HB.out.cell (World.block_lt_of_cell? w _ hw168_2)).trans hw168_2)⟩ (fun hHeld => ?_); refine with_tabW spec_l03Put.tab12 spec_l03Put.bits12 (fun HT_ HW_ => ?_)
           generalize w55.drew = w56 at HO_159000 BK155 BK156 BK157 BK158 HB hx168_0 hx168_1 hx168_2 hHeld ⊢
           refine pz_ 0 57 (bm 11 1) ?_; refine pz_ 2 59 (bm 11 5) ?_; refine pz_ 4 61 (bm 11 21) ?_; refine tz5_ 1 58 (bm 11 23) ?_; refine tz5_ 3 60 (bm 11 31) ?_; refine pz_ 5 62 (bm 11 63) ?_; refine tz5_ 6 63 (bm 11 127) ?_
           refine one_ (i := 7) (N := some 64) (bm 11 255) rfl rfl (one_of HT_.out (by kernel_rfl)) (by decide) (fun K hK => ?_)
           refine value_ (w1 := ?_) (v := ?_) (by rfl) rfl ?_ ?_
           rotate_left 2
           ·go_simp
            constructor
            ·rfl
            ·rfl
           refine hK.out _ _ ⟨(blk_cell (blk_alloc BK158.out _) 0).trans rfl, (blk_cell (blk_alloc BK155.out _) 0).trans rfl, (World.cell?_alloc_lt _ _ _ (World.block_lt_of_cell? _ _ (((HB.out.cell (World.block_lt_of_cell? w _ hw168_0)).trans hw168_0)))).trans (((HB.out.cell (World.block_lt_of_cell? w _ hw168_0)).trans hw168_0)), (World.cell?_alloc_lt _ _ _ (World.block_lt_of_cell? _ _ (((HB.out.cell (World.block_lt_of_cell? w _ hw168_1)).trans hw168_1)))).trans (((HB.out.cell (World.block_lt_of_cell? w _ hw168_1)).trans hw168_1)), (World.cell?_alloc_lt _ _ _ (World.block_lt_of_cell? _ _ (((HB.out.cell (World.block_lt_of_cell? w _ hw168_2)).trans hw168_2)))).trans (((HB.out.cell (World.block_lt_of_cell? w _ hw168_2)).trans hw168_2))⟩ (fun hHeld => ?_)
           clear hK K
           refine norm_ (a' := ?_) ?_ ?_
           rotate_left
           ·show Act.put _ (some 64) _ = _
            simp only [Act.put, List.setIfInBounds_toArray, List.set_cons_zero, List.set_cons_succ, i64_w, i32_w]
            rfl
           refine one_ (i := 8) (N := some 65) (bm 11 511) rfl rfl (one_of HT_.out (by kernel_rfl)) (by decide) (fun K hK => ?_)
           refine Kd.R_append_step k94 (w0 := w) w.heap.size (by rfl) (.tmp 58) (.tmp 64) 73 94 (.agg #[(.string ⟨#[]⟩), (.string ⟨#[]⟩), (.int .i64 0)]) 40 rfl Try.underlying73 info94 rfl (by decide) (by omega) u159000 x159000_2 (⟨(rd_T94 l0_0 x7_2).f0, (rd_T94 l0_0 x7_2).f1, (rd_T94 l0_0 x7_2).f2⟩ : S94) [.string ((rd_T94 l0_0 x7_2).f0), .string ((rd_T94 l0_0 x7_2).f1), .int .i64 ((rd_T94 l0_0 x7_2).f2)] (fun k_ => k_ ≠ gb156) (fun _ => False) rfl rfl ?aP (fun _ hk => hk.elim) ?aF ?aO ?aB ?aS ?aL ?_
           (case aP => exact k94_mkM _ _ _ (⟨(rd_T94 l0_0 x7_2).f0, (rd_T94 l0_0 x7_2).f1, (rd_T94 l0_0 x7_2).f2⟩ : S94))
           (case aB => exact qB_)
           (case aF => exact (fun k_ hk => Kd.freshB (qk_ BK156) k_ hk))
           (case aO => exact (qR_ HO_159000))
           (case aS => exact (below_size qB_))
           (case aL => have := LMc50.out; omega)
           intro v170 w57 ho hb hg hat
           rw [← Ny169.out] at ho
           have n0_ := Aside0.mk (blk_grown (qk_ BK155) hg (Kd.R_ne HO_159000.out BK155.out (by decide)))
           have n1_ := Aside0.mk (blk_grown (qk_ BK156) hg (Kd.R_away HO_159000.out (fun _ hk => hk)))
           have n2_ := Aside0.mk (blk_grown (qk_ BK157) hg (Kd.R_ne HO_159000.out BK157.out (by decide)))
           have n3_ := Aside0.mk (blk_grown (qk_ BK158) hg (Kd.R_ne HO_159000.out BK158.out (by decide)))
           have n4_ := Aside0.mk (hb)
           have n5_ := Aside0.mk (ho)
           clear BK155; clear BK156; clear BK157; clear BK158; clear HB; clear HO_159000; have BK155 := n0_; have BK156 := n1_; have BK157 := n2_; have BK158 := n3_; have HB := n4_; have HO171 := n5_; clear n0_ n1_ n2_ n3_ n4_ n5_; clear ho hb hg hat
           obtain ⟨Ao58, co58, eo58⟩ := Kd.R_slice HO171.out
           (first | subst eo58 | (injection eo58 with f1_ f2_ f3_; have f4_ := f1_.symm; have f5_ := f3_.symm; clear f1_ f2_ f3_; subst f4_; subst f5_))
           refine hK.out _ _ ⟨(blk_cell BK158.out 0).trans rfl, (blk_cell BK155.out 0).trans rfl, ((HB.out.cell (World.block_lt_of_cell? w _ hw168_0)).trans hw168_0), ((HB.out.cell (World.block_lt_of_cell? w _ hw168_1)).trans hw168_1), ((HB.out.cell (World.block_lt_of_cell? w _ hw168_2)).trans hw168_2)⟩ (fun hHeld => ?_)
           clear hK K
           refine norm_ (a' := ?_) ?_ ?_
           rotate_left
           ·show Act.put _ (some 65) _ = _
            simp only [Act.put, List.setIfInBounds_toArray, List.set_cons_zero, List.set_cons_succ, i64_w, i32_w]
            rfl
           refine pz_ 9 66 (bm 11 1023) ?_
           refine last_ (i := 10) (N := none) (bm 11 2047) rfl rfl (one_of HT_.out (by kernel_rfl)) (by decide) (fun K hK => ?_)
           have hs59 : w57.cell? ⟨gb158, 0, none⟩ = some (u159000) := (blk_cell BK158.out 0).trans rfl
           have hfs59 := blk_frozen BK158.out 0
           have hns59_0 := NB155_158.out; have hns59_1 := NB156_158.out; have hns59_2 := NB157_158.out; have hms59_0 := NB158_155.out; have hms59_1 := NB158_156.out; have hms59_2 := NB158_157.out
           refine skip_ (w1 := ?_) (by rfl) rfl ?_ ?_
           rotate_left
           ·go_simp
            rfl
           refine hK.out _ _ ?_
           clear hK K
           refine done_ (done_of HT_.out (by kernel_rfl)) ?_
           try go_wp2
           go_roundg k2
           case measure => have := HK1.out; have := HK2.out; omega
           case rel => exact ⟨(wrap64 (x7_2 + 1)), (y169), (.slice Ao58 y169.length co58), qe_, H', ⟨by have := HK1.out; have := HK2.out; omega⟩, ⟨by (with_reducible repeat (first | apply Kd.R_alloc | apply Kd.R_drewN | apply Kd.R_drew)); exact Kd.R_mono (Kd.R_far (p := ⟨gb158, 0, none⟩) (Kd.R_types HO171.out BK158.out (by decide)) (fun _ hk => hk.2) (.slice Ao58 y169.length co58)) (fun _ hk => hk.1)⟩, ⟨by (with_reducible repeat (first | refine blk_drewN ?_ _ | refine blk_drew ?_ | refine blk_alloc ?_ _)); refine blk_far ?_ NB155_158.out _; (with_reducible repeat (first | refine blk_drewN ?_ _ | refine blk_drew ?_ | refine blk_alloc ?_ _)); exact BK155.out⟩, ⟨by (with_reducible repeat (first | refine blk_drewN ?_ _ | refine blk_drew ?_ | refine blk_alloc ?_ _)); refine blk_far ?_ NB156_158.out _; (with_reducible repeat (first | refine blk_drewN ?_ _ | refine blk_drew ?_ | refine blk_alloc ?_ _)); exact BK156.out⟩, ⟨by (with_reducible repeat (first | refine blk_drewN ?_ _ | refine blk_drew ?_ | refine blk_alloc ?_ _)); refine blk_far ?_ NB157_158.out _; (with_reducible repeat (first | refine blk_drewN ?_ _ | refine blk_drew ?_ | refine blk_alloc ?_ _)); exact BK157.out⟩, ⟨by (with_reducible repeat (first | refine blk_drewN ?_ _ | refine blk_drew ?_ | refine blk_alloc ?_ _)); refine blk_put (cs := #[u159000]) ?_ 0 _ rfl; (with_reducible repeat (first | refine blk_drewN ?_ _ | refine blk_drew ?_ | refine blk_alloc ?_ _)); exact BK158.out⟩, ⟨qB_⟩⟩
          ·rw [if_neg c50] at H
           exact absurd H (by simp)
        ·rw [if_neg c43] at H
         exact absurd H (by simp)
       ·rw [if_neg c42] at H
        have c42b0 : decide (x7_2 < (l0_0.length : Int)) = false := decide_eq_false c42
        clear c42
        obtain rfl := Option.some.inj H
        have hnb60 := NB155_156.out; have hnc60 := NB156_155.out; have hnb61 := NB155_157.out; have hnc61 := NB157_155.out; have hnb62 := NB155_158.out; have hnc62 := NB158_155.out
        obtain ⟨hcz63_0, hfz63_0⟩ := bc1_ BK155
        have hnb64 := NB158_156.out; have hnc64 := NB156_158.out; have hnb65 := NB158_157.out; have hnc65 := NB157_158.out
        obtain ⟨hcz66_0, hfz66_0⟩ := bc1_ BK158
        obtain ⟨Ao67, co67, eo67⟩ := Kd.R_slice HO_159000.out
        subst eo67; have hnb68 := NB157_156.out; have hnc68 := NB156_157.out
        obtain ⟨hcz69_0, hfz69_0⟩ := bc1_ BK157
        go_wp2
        refine bodyPost_ret (results_cell_row rfl _ _ gb157 75 #[.slice Ao67 x159000_2.length co67] (0, 0) _ rfl (by (with_reducible repeat (first | refine blk_drewN ?_ _ | refine blk_drew ?_ | refine blk_alloc ?_ _)); refine blk_put (cs := #[.slice none 0 0]) ?_ 0 _ rfl; (with_reducible repeat (first | refine blk_drewN ?_ _ | refine blk_drew ?_ | refine blk_alloc ?_ _)); exact BK157.out) Try.underlying75 rfl (by kernel_rfl)) rfl ?_
        exact ⟨_, qr_, by (with_reducible repeat (first | apply Kd.R_alloc | apply Kd.R_drewN | apply Kd.R_drew)); exact Kd.R_mono (Kd.R_far (p := ⟨gb157, 0, none⟩) (Kd.R_types HO_159000.out BK157.out (by decide)) (fun _ hk => hk.2) (.slice Ao67 x159000_2.length co67)) (fun _ hk => trivial), qB_⟩
    ·rw [if_neg c29] at H
     exact absurd H (by simp)

end Go.Proofs.Ytmjblanhgekhpaa.QFnKeeps
