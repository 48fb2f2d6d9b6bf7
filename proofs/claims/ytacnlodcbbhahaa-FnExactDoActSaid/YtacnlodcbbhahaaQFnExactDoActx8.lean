-- printed for this claim by a program of the session's own (no text of the kit's print)
import Derived.Test.YtacnlodcbbhahaaQFnExactDoActx0
namespace Go.Proofs.Ytacnlodcbbhahaa.QFnExactDoAct
open Go.RowKit Go.Proofs.YtacnlodcbbhahaaW.PrintWords Go.Proofs.YtacnlodcbbhahaaW.PrintLast Go.Proofs.YtacnlodcbbhahaaW.PrintMore
attribute [local go_sem] max2_int min2_int max_two min_two max_three min_three max_four min_four   -- for this text's walks alone
set_option linter.unusedVariables false
set_option linter.unusedSimpArgs false

/-! ### spec_l03Without: function 85 -/
def spec_l03Without.l0 : Nat → ByteArray → Int → List (S99) → List (S99) → Option ((List (S99)))
  | 0, _, _, _, _ => none
  | k + 1, x1, x6, x177000, x179000 => if x6 < (x177000.length : Int) then (if 0 ≤ x6 then (if ((rd_T99 x177000 x6).f0).toList = x1.toList then (spec_l03Without.l0 k x1 (wrap64 (x6 + 1)) x177000 x179000) else (if x179000.length < 3518437208883 then (spec_l03Without.l0 k x1 (wrap64 (x6 + 1)) x177000 (x179000 ++ [(⟨(rd_T99 x177000 x6).f0, (rd_T99 x177000 x6).f1, (rd_T99 x177000 x6).f2⟩ : S99)])) else (none))) else (none)) else (some x179000)
def spec_l03Without.f (k : Nat) (l0_0 : List (S99)) (a1 : ByteArray) : Option ((List (S99))) := spec_l03Without.l0 k a1 0 l0_0 ([] : List (S99))
theorem spec_l03Without.mono_l : ∀ k, (∀ y0 y1 y2 y3, LeO (spec_l03Without.l0 k y0 y1 y2 y3) (spec_l03Without.l0 (k + 1) y0 y1 y2 y3))
  | 0 => fun _ _ _ _ r h => by simp [spec_l03Without.l0] at h
  | k + 1 => by
    have ih0 := spec_l03Without.mono_l k
    · intro y0 y1 y2 y3
      unfold spec_l03Without.l0
      repeat' first
      | (with_reducible exact ih0 _ _ _ _)
      | (with_reducible exact LeO.refl _)
      | (with_reducible exact LeO.none _)
      | (with_reducible refine LeO.ite ?_ ?_)
      | (with_reducible refine LeO.bind ?_ (fun _ => ?_))
      | exact ih0 _ _ _ _
      | exact LeO.none _
      | refine LeO.ite ?_ ?_
      | refine LeO.bind ?_ (fun _ => ?_)
theorem spec_l03Without.mono : ∀ a0 a1 k, LeO (spec_l03Without.f k a0 a1) (spec_l03Without.f (k + 1) a0 a1) := by
  intro a0 a1 k
  have ih0 := spec_l03Without.mono_l k
  unfold spec_l03Without.f
  repeat' first
      | (with_reducible exact ih0 _ _ _ _)
      | (with_reducible exact LeO.refl _)
      | (with_reducible exact LeO.none _)
      | (with_reducible refine LeO.ite ?_ ?_)
      | (with_reducible refine LeO.bind ?_ (fun _ => ?_))
      | exact ih0 _ _ _ _
      | exact LeO.none _
      | refine LeO.ite ?_ ?_
      | refine LeO.bind ?_ (fun _ => ?_)
def spec_l03Without.T6 : Bool × List (List Nat × List Nat) := (true, [([], []), ([0], [0]), ([], []), ([2], [2]), ([], []), ([3, 4], [3, 4]), ([5], [5]), ([6], [6]), ([1, 7], [1, 7]), ([0, 1, 2, 3, 4, 5, 6, 7, 8], []), ([9, 8, 8, 0, 1, 2, 3, 4, 5, 6, 7, 8], [8, 9])])
def spec_l03Without.B6 : List Nat := [0, 1, 0, 4, 0, 28, 60, 124, 255, 511, 1023]
theorem spec_l03Without.tab6 : rtab .any (opsOf Try.f85 6) = spec_l03Without.T6 := by kernel_rfl
theorem spec_l03Without.bits6 : waitsOk spec_l03Without.T6.2 spec_l03Without.B6 = true := by kernel_rfl
set_option maxHeartbeats 8000000 in
set_option maxRecDepth 100000 in
theorem spec_l03Without.calls (k : Nat) (A0_0 : Option Addr) (c0_0 : Nat) (l0_0 : List (S99)) (a1 : ByteArray) (r : List (S99)) (w : World) (hr0_0 : Kd.C k99 w A0_0 l0_0.length l0_0) (hc0_0 : l0_0.length ≤ c0_0) (h : spec_l03Without.f k l0_0 a1 = some r) :
  Calls Try.prog 85 #[.agg #[.slice A0_0 l0_0.length c0_0], .string a1] w fun e w' => ∃ v0_ : Value, e = .returned (.agg #[v0_]) ∧ Kd.R k99 99 w' w.heap.size (fun _ => True) v0_ r ∧ Below w.heap.size w w' := by
 have hu44 := Try.underlying44; have hu99 := Try.underlying99
 have HR0_0 := Aside0.mk hr0_0
 have HC0_0 := Aside0.mk hc0_0
 clear hr0_0 hc0_0
 have HB := Aside0.mk (Below.refl w.heap.size w)
 have H : (spec_l03Without.l0 k a1 0 l0_0 ([] : List (S99))) = some r := h
 clear h; have H' := Aside0.mk H; clear H
 go_enter Try.func85, Try.ntmps85
 go_wp2_with (first | ((with_reducible refine gate_dst (N := 2) rfl ?_); refine bx_ 2 (cs := #[.slice A0_0 l0_0.length c0_0]) (t := 44) ?_; intro gb176 hg w3 hbox hb; have BK176 := Aside0.mk (hbox); have GW176 := Aside0.mk ((qs_ : w.heap.size ≤ gb176)); have GE176 := Aside0.mk ((qs_ : w.heap.size ≤ gb176)); replace HB := Aside0.mk (below_step qB_ hb); clear hb hbox hg) | ((with_reducible refine gate_dst (N := 4) rfl ?_); refine bx_ 4 (cs := #[.slice none 0 0]) (t := 44) ?_; intro gb177 hg w4 hbox hb; have BK177 := Aside0.mk (hbox); have GW177 := Aside0.mk ((qs_ : w.heap.size ≤ gb177)); have GE177 := Aside0.mk ((qs_ : w.heap.size ≤ gb177)); have NB176_177 := Aside0.mk ((by rw [hg]; exact Nat.ne_of_lt (blk_lt (qk_ BK176)) : gb176 ≠ gb177)); have NB177_176 := Aside0.mk ((by rw [hg]; exact Nat.ne_of_gt (blk_lt (qk_ BK176)) : gb177 ≠ gb176)); replace BK176 := Aside0.mk (blk_below (qk_ BK176) hb); replace HB := Aside0.mk (below_step qB_ hb); clear hb hbox hg) | ((with_reducible refine gate_dst (N := 5) rfl ?_); refine bx_ 5 (cs := #[.slice none 0 0]) (t := 44) ?_; intro gb178 hg w5 hbox hb; have BK178 := Aside0.mk (hbox); have GW178 := Aside0.mk ((qs_ : w.heap.size ≤ gb178)); have GE178 := Aside0.mk ((qs_ : w.heap.size ≤ gb178)); have NB176_178 := Aside0.mk ((by rw [hg]; exact Nat.ne_of_lt (blk_lt (qk_ BK176)) : gb176 ≠ gb178)); have NB178_176 := Aside0.mk ((by rw [hg]; exact Nat.ne_of_gt (blk_lt (qk_ BK176)) : gb178 ≠ gb176)); have NB177_178 := Aside0.mk ((by rw [hg]; exact Nat.ne_of_lt (blk_lt (qk_ BK177)) : gb177 ≠ gb178)); have NB178_177 := Aside0.mk ((by rw [hg]; exact Nat.ne_of_gt (blk_lt (qk_ BK177)) : gb178 ≠ gb177)); replace BK176 := Aside0.mk (blk_below (qk_ BK176) hb); replace BK177 := Aside0.mk (blk_below (qk_ BK177) hb); replace HB := Aside0.mk (below_step qB_ hb); clear hb hbox hg; have hnb6 := NB178_176.out; have hnc6 := NB176_178.out; have hnb7 := NB178_177.out; have hnc7 := NB177_178.out; obtain ⟨hcz8_0, hfz8_0⟩ := bc1_ BK178))
 go_loopg [6] k (fun kq v6 w' => ∃ (x6_1 : Int) (x179000_1 : List (S99)) (u179000 : Value), v6 = .int .i64 x6_1 ∧ Aside0 (spec_l03Without.l0 kq a1 x6_1 l0_0 x179000_1 = some r) ∧ Aside0 (kq ≤ k) ∧ Aside0 (Kd.R k99 99 w' w.heap.size (fun _ => True) u179000 x179000_1) ∧ Aside0 (w'.heap[gb176]? = some (.cells #[(.slice A0_0 l0_0.length c0_0)] 44 (0, 0))) ∧ Aside0 (w'.heap[gb177]? = some (.cells #[(.slice none 0 0)] 44 (0, 0))) ∧ Aside0 (w'.heap[gb178]? = some (.cells #[u179000] 44 (0, 0))) ∧ Aside0 (Below w.heap.size w w'))
 case atStart => exact ⟨(0), (([] : List (S99))), (.slice none 0 0), qe_, H', ⟨Nat.le_refl _⟩, ⟨by first | exact Kd.R_nil _ _ _ _ _ | exact Kd.N_nil _ _ _ _ _ | exact Kd.V_nil _ _ _ _ _ | exact Kd.Q_nil _ _ _ _ _ | exact Kd.S_nil _ _ _ _ _⟩, ⟨by (with_reducible repeat (first | refine blk_drewN ?_ _ | refine blk_drew ?_ | refine blk_alloc ?_ _)); refine blk_far ?_ NB176_178.out _; (with_reducible repeat (first | refine blk_drewN ?_ _ | refine blk_drew ?_ | refine blk_alloc ?_ _)); exact BK176.out⟩, ⟨by (with_reducible repeat (first | refine blk_drewN ?_ _ | refine blk_drew ?_ | refine blk_alloc ?_ _)); refine blk_far ?_ NB177_178.out _; (with_reducible repeat (first | refine blk_drewN ?_ _ | refine blk_drew ?_ | refine blk_alloc ?_ _)); exact BK177.out⟩, ⟨by (with_reducible repeat (first | refine blk_drewN ?_ _ | refine blk_drew ?_ | refine blk_alloc ?_ _)); refine blk_put (cs := #[.slice none 0 0]) ?_ 0 _ rfl; (with_reducible repeat (first | refine blk_drewN ?_ _ | refine blk_drew ?_ | refine blk_alloc ?_ _)); exact BK178.out⟩, ⟨qB_⟩⟩
 case round =>
  clear H'
  (try clear p2); (try clear c6); (try clear c7); (try clear c8); (try clear hcz8_0); (try clear hfz8_0)
  obtain ⟨x6_1, x179000_1, u179000, rfl, HA, HK1, HO_179000, BK176, BK177, BK178, HB⟩ := hrel
  cases gk with
  | zero => exact absurd HA.out (by simp [spec_l03Without.l0])
  | succ k1 =>
   have H := HA.out; clear HA
   simp only [spec_l03Without.l0] at H
   by_cases c9 : x6_1 < (l0_0.length : Int)
   ·rw [if_pos c9] at H
    have c9b0 : decide (x6_1 < (l0_0.length : Int)) = true := decide_eq_true c9
    clear c9
    by_cases c10 : 0 ≤ x6_1
    ·rw [if_pos c10] at H
     have c10b0 : decide (0 ≤ x6_1) = true := decide_eq_true c10
     clear c10
     by_cases c11 : ((rd_T99 l0_0 x6_1).f0).toList = a1.toList
     ·rw [if_pos c11] at H
      have c11b0 : (((rd_T99 l0_0 x6_1).f0).toList == a1.toList) = true := beq_iff_eq.mpr c11
      have c11b1 : (((rd_T99 l0_0 x6_1).f0).toList != a1.toList) = false := bne_eq_false_iff_eq.mpr c11
      clear c11; have H' := Aside0.mk H; clear H; have hnb12 := NB176_177.out; have hnc12 := NB177_176.out; have hnb13 := NB176_178.out; have hnc13 := NB178_176.out
      obtain ⟨hcz14_0, hfz14_0⟩ := bc1_ BK176
      have p179 : 0 ≤ (x6_1 : Int) := of_decide_eq_true qa_
      have q179 : x6_1 < (l0_0.length : Int) := of_decide_eq_true qa_
      obtain ⟨ad179, e179, hx179_0, hx179_1, hx179_2⟩ := at_T99 HR0_0.out x6_1 p179 q179
      cases e179
      replace hx179_0 := (HB.out.cell (World.block_lt_of_cell? w _ hx179_0)).trans hx179_0
      replace hx179_1 := (HB.out.cell (World.block_lt_of_cell? w _ hx179_1)).trans hx179_1
      replace hx179_2 := (HB.out.cell (World.block_lt_of_cell? w _ hx179_2)).trans hx179_2
      replace p179 := eq_true p179; replace q179 := eq_true q179
      go_wp2
      go_roundg k1
      case measure => have := HK1.out; omega
      case rel => exact ⟨(wrap64 (x6_1 + 1)), (x179000_1), (u179000), qe_, H', ⟨by have := HK1.out; omega⟩, ⟨by (with_reducible repeat (first | apply Kd.R_alloc | apply Kd.R_drewN | apply Kd.R_drew)); first | exact HO_179000.out | (have h_ := HO_179000.out; simp only [own_slice] at h_ ⊢; exact h_)⟩, ⟨qk_ BK176⟩, ⟨qk_ BK177⟩, ⟨qk_ BK178⟩, ⟨qB_⟩⟩
     ·rw [if_neg c11] at H
      have c11b0 : (((rd_T99 l0_0 x6_1).f0).toList == a1.toList) = false := beq_eq_false_iff_ne.mpr c11
      have c11b1 : (((rd_T99 l0_0 x6_1).f0).toList != a1.toList) = true := bne_iff_ne.mpr c11
      by_cases c15 : x179000_1.length < 3518437208883
      ·rw [if_pos c15] at H
       have LMc15 := Aside0.mk c15
       clear c15
       obtain ⟨y181, hy181⟩ : ∃ y_ : List (S99), y_ = (x179000_1 ++ [(⟨(rd_T99 l0_0 x6_1).f0, (rd_T99 l0_0 x6_1).f1, (rd_T99 l0_0 x6_1).f2⟩ : S99)]) := ⟨_, rfl⟩
       replace H : (spec_l03Without.l0 k1 a1 (wrap64 (x6_1 + 1)) l0_0 y181) = some r := by first | (rw [hy181]; with_reducible exact H) | (have H2_ := (Option.bind_some _ _).symm.trans H; rw [hy181]; with_reducible exact H2_) | (have H2_ := (Option.bind_some _ _).symm.trans H; with_reducible exact H2_) | with_reducible exact H | (rw [hy181]; exact H) | exact H
       have Ny181 := Aside0.mk hy181
       clear hy181; have H' := Aside0.mk H; clear H; have hnb16 := NB176_177.out; have hnc16 := NB177_176.out; have hnb17 := NB176_178.out; have hnc17 := NB178_176.out
       obtain ⟨hcz18_0, hfz18_0⟩ := bc1_ BK176
       have p179 : 0 ≤ (x6_1 : Int) := of_decide_eq_true qa_
       have q179 : x6_1 < (l0_0.length : Int) := of_decide_eq_true qa_
       obtain ⟨ad179, e179, hx179_0, hx179_1, hx179_2⟩ := at_T99 HR0_0.out x6_1 p179 q179
       cases e179
       replace hx179_0 := (HB.out.cell (World.block_lt_of_cell? w _ hx179_0)).trans hx179_0
       replace hx179_1 := (HB.out.cell (World.block_lt_of_cell? w _ hx179_1)).trans hx179_1
       replace hx179_2 := (HB.out.cell (World.block_lt_of_cell? w _ hx179_2)).trans hx179_2
       replace p179 := eq_true p179; replace q179 := eq_true q179
       try go_wp2
       have n0_ := Aside0.mk (Kd.R_drew HO_179000.out)
       have n1_ := Aside0.mk (blk_drew BK176.out)
       have n2_ := Aside0.mk (blk_drew BK177.out)
       have n3_ := Aside0.mk (blk_drew BK178.out)
       have n4_ := Aside0.mk (below_drew1 HB.out)
       clear HO_179000; clear BK176; clear BK177; clear BK178; clear HB; have HO_179000 := n0_; have BK176 := n1_; have BK177 := n2_; have BK178 := n3_; have HB := n4_; clear n0_ n1_ n2_ n3_ n4_
       have p180 : 0 ≤ (x6_1 : Int) := of_decide_eq_true qa_
       have q180 : x6_1 < (l0_0.length : Int) := of_decide_eq_true qa_
       obtain ⟨ad180, e180, hx180_0, hx180_1, hx180_2⟩ := at_T99 HR0_0.out x6_1 p180 q180
       have hw180_2 := hx180_2; have hw180_1 := hx180_1; have hw180_0 := hx180_0
       obtain rfl : ad179 = ad180 := (by injection e180)
       replace hx180_0 := (HB.out.cell (World.block_lt_of_cell? w _ hx180_0)).trans hx180_0
       replace hx180_1 := (HB.out.cell (World.block_lt_of_cell? w _ hx180_1)).trans hx180_1
       replace hx180_2 := (HB.out.cell (World.block_lt_of_cell? w _ hx180_2)).trans hx180_2
       replace p180 := eq_true p180; replace q180 := eq_true q180
       refine start_ (n := 11) (S := fun w' => w'.cell? ⟨gb178, 0, none⟩ = some (u179000) ∧ w'.cell? ⟨gb176, 0, none⟩ = some (.slice (some ad179) l0_0.length c0_0) ∧ w'.cell? (ad179.add ((x6_1).toNat * 3)) = some (.string ((rd_T99 l0_0 x6_1).f0)) ∧ w'.cell? ⟨(ad179.add ((x6_1).toNat * 3)).block, (ad179.add ((x6_1).toNat * 3)).off + 1, none⟩ = some (.string ((rd_T99 l0_0 x6_1).f1)) ∧ w'.cell? ⟨(ad179.add ((x6_1).toNat * 3)).block, (ad179.add ((x6_1).toNat * 3)).off + 2, none⟩ = some (.int .i64 ((rd_T99 l0_0 x6_1).f2))) (ds := [10]) (bm 11 0) (by kernel_rfl) rfl (by kernel_rfl) ⟨(blk_cell BK178.out 0).trans rfl, (blk_cell BK176.out 0).trans rfl, ((HB.out.cell (World.block_lt_of_cell? w _ hw180_0)).trans hw180_0), ((HB.out.cell (World.block_lt_of_cell? w _ hw180_1)).trans hw180_1), ((HB.out.cell (World.block_lt_of_cell? w _ hw180_2)).trans hw180_2)⟩ (fun hHeld => ?_); refine with_tabW spec_l03Without.tab6 spec_l03Without.bits6 (fun HT_ HW_ => ?_)
       generalize wr.drew = w19 at HO_179000 BK176 BK177 BK178 HB hx180_0 hx180_1 hx180_2 hHeld ⊢
       refine pz_ 0 23 (bm 11 1) ?_; refine pz_ 2 25 (bm 11 5) ?_; refine pz_ 4 27 (bm 11 21) ?_; refine tz5_ 1 24 (bm 11 23) ?_; refine tz5_ 3 26 (bm 11 31) ?_; refine pz_ 5 28 (bm 11 63) ?_; refine tz5_ 6 29 (bm 11 127) ?_
       refine one_ (i := 7) (N := some 30) (bm 11 255) rfl rfl (one_of HT_.out (by kernel_rfl)) (by decide) (fun K hK => ?_)
       refine value_ (w1 := ?_) (v := ?_) (by rfl) rfl ?_ ?_
       rotate_left 2
       ·go_simp
        constructor
        ·rfl
        ·rfl
       refine hK.out _ _ ⟨(blk_cell (blk_alloc BK178.out _) 0).trans rfl, (blk_cell (blk_alloc BK176.out _) 0).trans rfl, (World.cell?_alloc_lt _ _ _ (World.block_lt_of_cell? _ _ (((HB.out.cell (World.block_lt_of_cell? w _ hw180_0)).trans hw180_0)))).trans (((HB.out.cell (World.block_lt_of_cell? w _ hw180_0)).trans hw180_0)), (World.cell?_alloc_lt _ _ _ (World.block_lt_of_cell? _ _ (((HB.out.cell (World.block_lt_of_cell? w _ hw180_1)).trans hw180_1)))).trans (((HB.out.cell (World.block_lt_of_cell? w _ hw180_1)).trans hw180_1)), (World.cell?_alloc_lt _ _ _ (World.block_lt_of_cell? _ _ (((HB.out.cell (World.block_lt_of_cell? w _ hw180_2)).trans hw180_2)))).trans (((HB.out.cell (World.block_lt_of_cell? w _ hw180_2)).trans hw180_2))⟩ (fun hHeld => ?_)
       clear hK K
       refine norm_ (a' := ?_) ?_ ?_
       rotate_left
       ·show Act.put _ (some 30) _ = _
        simp only [Act.put, List.setIfInBounds_toArray, List.set_cons_zero, List.set_cons_succ, i64_w, i32_w]
        rfl
       refine one_ (i := 8) (N := some 31) (bm 11 511) rfl rfl (one_of HT_.out (by kernel_rfl)) (by decide) (fun K hK => ?_)
       refine Kd.R_append_step k99 (w0 := w) w.heap.size (by rfl) (.tmp 24) (.tmp 30) 42 99 (.agg #[(.string ⟨#[]⟩), (.string ⟨#[]⟩), (.int .i64 0)]) 40 rfl Try.underlying42 info99 rfl (by decide) (by omega) u179000 x179000_1 (⟨(rd_T99 l0_0 x6_1).f0, (rd_T99 l0_0 x6_1).f1, (rd_T99 l0_0 x6_1).f2⟩ : S99) [.string ((rd_T99 l0_0 x6_1).f0), .string ((rd_T99 l0_0 x6_1).f1), .int .i64 ((rd_T99 l0_0 x6_1).f2)] (fun _ => True) (fun _ => False) rfl rfl ?aP (fun _ hk => hk.elim) ?aF ?aO ?aB ?aS ?aL ?_
       (case aP => exact k99_mkM _ _ _ (⟨(rd_T99 l0_0 x6_1).f0, (rd_T99 l0_0 x6_1).f1, (rd_T99 l0_0 x6_1).f2⟩ : S99))
       (case aB => exact qB_)
       (case aF => exact (fun _ _ => trivial))
       (case aO => exact (qR_ HO_179000))
       (case aS => exact (below_size qB_))
       (case aL => have := LMc15.out; omega)
       intro v182 w20 ho hb hg hat
       rw [← Ny181.out] at ho
       have n0_ := Aside0.mk (blk_grown (qk_ BK176) hg (Kd.R_ne HO_179000.out BK176.out (by decide)))
       have n1_ := Aside0.mk (blk_grown (qk_ BK177) hg (Kd.R_ne HO_179000.out BK177.out (by decide)))
       have n2_ := Aside0.mk (blk_grown (qk_ BK178) hg (Kd.R_ne HO_179000.out BK178.out (by decide)))
       have n3_ := Aside0.mk (hb)
       have n4_ := Aside0.mk (ho)
       clear BK176; clear BK177; clear BK178; clear HB; clear HO_179000; have BK176 := n0_; have BK177 := n1_; have BK178 := n2_; have HB := n3_; have HO183 := n4_; clear n0_ n1_ n2_ n3_ n4_; clear ho hb hg hat
       obtain ⟨Ao21, co21, eo21⟩ := Kd.R_slice HO183.out
       (first | subst eo21 | (injection eo21 with f1_ f2_ f3_; have f4_ := f1_.symm; have f5_ := f3_.symm; clear f1_ f2_ f3_; subst f4_; subst f5_))
       refine hK.out _ _ ⟨(blk_cell BK178.out 0).trans rfl, (blk_cell BK176.out 0).trans rfl, ((HB.out.cell (World.block_lt_of_cell? w _ hw180_0)).trans hw180_0), ((HB.out.cell (World.block_lt_of_cell? w _ hw180_1)).trans hw180_1), ((HB.out.cell (World.block_lt_of_cell? w _ hw180_2)).trans hw180_2)⟩ (fun hHeld => ?_)
       clear hK K
       refine norm_ (a' := ?_) ?_ ?_
       rotate_left
       ·show Act.put _ (some 31) _ = _
        simp only [Act.put, List.setIfInBounds_toArray, List.set_cons_zero, List.set_cons_succ, i64_w, i32_w]
        rfl
       refine pz_ 9 32 (bm 11 1023) ?_
       refine last_ (i := 10) (N := none) (bm 11 2047) rfl rfl (one_of HT_.out (by kernel_rfl)) (by decide) (fun K hK => ?_)
       have hs22 : w20.cell? ⟨gb178, 0, none⟩ = some (u179000) := (blk_cell BK178.out 0).trans rfl
       have hfs22 := blk_frozen BK178.out 0
       have hns22_0 := NB176_178.out; have hns22_1 := NB177_178.out; have hms22_0 := NB178_176.out; have hms22_1 := NB178_177.out
       refine skip_ (w1 := ?_) (by rfl) rfl ?_ ?_
       rotate_left
       ·go_simp
        rfl
       refine hK.out _ _ ?_
       clear hK K
       refine done_ (done_of HT_.out (by kernel_rfl)) ?_
       try go_wp2
       go_roundg k1
       case measure => have := HK1.out; omega
       case rel => exact ⟨(wrap64 (x6_1 + 1)), (y181), (.slice Ao21 y181.length co21), qe_, H', ⟨by have := HK1.out; omega⟩, ⟨by (with_reducible repeat (first | apply Kd.R_alloc | apply Kd.R_drewN | apply Kd.R_drew)); exact Kd.R_mono (Kd.R_far (p := ⟨gb178, 0, none⟩) (Kd.R_types HO183.out BK178.out (by decide)) (fun _ hk => hk.2) (.slice Ao21 y181.length co21)) (fun _ hk => trivial)⟩, ⟨by (with_reducible repeat (first | refine blk_drewN ?_ _ | refine blk_drew ?_ | refine blk_alloc ?_ _)); refine blk_far ?_ NB176_178.out _; (with_reducible repeat (first | refine blk_drewN ?_ _ | refine blk_drew ?_ | refine blk_alloc ?_ _)); exact BK176.out⟩, ⟨by (with_reducible repeat (first | refine blk_drewN ?_ _ | refine blk_drew ?_ | refine blk_alloc ?_ _)); refine blk_far ?_ NB177_178.out _; (with_reducible repeat (first | refine blk_drewN ?_ _ | refine blk_drew ?_ | refine blk_alloc ?_ _)); exact BK177.out⟩, ⟨by (with_reducible repeat (first | refine blk_drewN ?_ _ | refine blk_drew ?_ | refine blk_alloc ?_ _)); refine blk_put (cs := #[u179000]) ?_ 0 _ rfl; (with_reducible repeat (first | refine blk_drewN ?_ _ | refine blk_drew ?_ | refine blk_alloc ?_ _)); exact BK178.out⟩, ⟨qB_⟩⟩
      ·rw [if_neg c15] at H
       exact absurd H (by simp)
    ·rw [if_neg c10] at H
     exact absurd H (by simp)
   ·rw [if_neg c9] at H
    have c9b0 : decide (x6_1 < (l0_0.length : Int)) = false := decide_eq_false c9
    clear c9
    obtain rfl := Option.some.inj H
    have hnb23 := NB176_177.out; have hnc23 := NB177_176.out; have hnb24 := NB176_178.out; have hnc24 := NB178_176.out
    obtain ⟨hcz25_0, hfz25_0⟩ := bc1_ BK176
    have hnb26 := NB178_177.out; have hnc26 := NB177_178.out
    obtain ⟨hcz27_0, hfz27_0⟩ := bc1_ BK178
    obtain ⟨Ao28, co28, eo28⟩ := Kd.R_slice HO_179000.out
    subst eo28
    obtain ⟨hcz29_0, hfz29_0⟩ := bc1_ BK177
    go_wp2
    refine bodyPost_ret (results_cell_row rfl _ _ gb177 44 #[.slice Ao28 x179000_1.length co28] (0, 0) _ rfl (by (with_reducible repeat (first | refine blk_drewN ?_ _ | refine blk_drew ?_ | refine blk_alloc ?_ _)); refine blk_put (cs := #[.slice none 0 0]) ?_ 0 _ rfl; (with_reducible repeat (first | refine blk_drewN ?_ _ | refine blk_drew ?_ | refine blk_alloc ?_ _)); exact BK177.out) Try.underlying44 rfl (by kernel_rfl)) rfl ?_
    exact ⟨_, qr_, by (with_reducible repeat (first | apply Kd.R_alloc | apply Kd.R_drewN | apply Kd.R_drew)); exact Kd.R_mono (Kd.R_far (p := ⟨gb177, 0, none⟩) (Kd.R_types HO_179000.out BK177.out (by decide)) (fun _ hk => hk.2) (.slice Ao28 x179000_1.length co28)) (fun _ hk => trivial), qB_⟩

end Go.Proofs.Ytacnlodcbbhahaa.QFnExactDoAct
