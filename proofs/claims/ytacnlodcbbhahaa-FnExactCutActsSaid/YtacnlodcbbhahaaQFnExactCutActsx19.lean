-- printed for this claim by a program of the session's own (no text of the kit's print)
import Derived.Test.YtacnlodcbbhahaaQFnExactCutActsx0
namespace Go.Proofs.Ytacnlodcbbhahaa.QFnExactCutActs
open Go.RowKit Go.Proofs.YtacnlodcbbhahaaW.PrintWords Go.Proofs.YtacnlodcbbhahaaW.PrintLast Go.Proofs.YtacnlodcbbhahaaW.PrintMore
attribute [local go_sem] max2_int min2_int max_two min_two max_three min_three max_four min_four   -- for this text's walks alone
set_option linter.unusedVariables false
set_option linter.unusedSimpArgs false

/-! ### spec_l03Without: function 85 -/
def spec_l03Without.l0 : Nat → ByteArray → Int → List (S99) → List (S99) → Option ((List (S99)))
  | 0, _, _, _, _ => none
  | k + 1, x1, x6, x323000, x325000 => if x6 < (x323000.length : Int) then (if 0 ≤ x6 then (if ((rd_T99 x323000 x6).f0).toList = x1.toList then (spec_l03Without.l0 k x1 (wrap64 (x6 + 1)) x323000 x325000) else (if x325000.length < 3518437208883 then (spec_l03Without.l0 k x1 (wrap64 (x6 + 1)) x323000 (x325000 ++ [(⟨(rd_T99 x323000 x6).f0, (rd_T99 x323000 x6).f1, (rd_T99 x323000 x6).f2⟩ : S99)])) else (none))) else (none)) else (some x325000)
def spec_l03Without.f (k : Nat) (l0_0 : List (S99)) (a1 : ByteArray) : Option ((List (S99))) := spec_l03Without.l0 k a1 0 l0_0 ([] : List (S99))
theorem spec_l03Without.mono_l : ∀ k, (∀ y0 y1 y2 y3, LeO (spec_l03Without.l0 k y0 y1 y2 y3) (spec_l03Without.l0 (k + 1) y0 y1 y2 y3))
  | 0 => fun _ _ _ _ r h => by simp [spec_l03Without.l0] at h
  | k + 1 => by
    have ih0 := spec_l03Without.mono_l k
    · intro y0 y1 y2 y3
      unfold spec_l03Without.l0
      repeat' first | (with_reducible first | exact ih0 _ _ _ _ | exact LeO.refl _ | exact LeO.none _ | refine LeO.ite ?_ ?_ | refine LeO.bind ?_ (fun _ => ?_)) | exact LeO.none _ | refine LeO.ite ?_ ?_ | refine LeO.bind ?_ (fun _ => ?_)
theorem spec_l03Without.mono : ∀ a0 a1 k, LeO (spec_l03Without.f k a0 a1) (spec_l03Without.f (k + 1) a0 a1) := by
  intro a0 a1 k
  have ih0 := spec_l03Without.mono_l k
  unfold spec_l03Without.f
  repeat' first | (with_reducible first | exact ih0 _ _ _ _ | exact LeO.refl _ | exact LeO.none _ | refine LeO.ite ?_ ?_ | refine LeO.bind ?_ (fun _ => ?_)) | exact LeO.none _ | refine LeO.ite ?_ ?_ | refine LeO.bind ?_ (fun _ => ?_)
def spec_l03Without.T6 : Bool × List (List Nat × List Nat) := (true, [([], []), ([0], [0]), ([], []), ([2], [2]), ([], []), ([3, 4], [3, 4]), ([5], [5]), ([6], [6]), ([1, 7], [1, 7]), ([0, 1, 2, 3, 4, 5, 6, 7, 8], []), ([9, 8, 8, 0, 1, 2, 3, 4, 5, 6, 7, 8], [8, 9])])
def spec_l03Without.B6 : List Nat := [0, 1, 0, 4, 0, 28, 60, 124, 255, 511, 1023]
theorem spec_l03Without.tab6 : rtab .any (opsOf Try.f85 6) = spec_l03Without.T6 := by kernel_rfl
theorem spec_l03Without.bits6 : waitsOk spec_l03Without.T6.2 spec_l03Without.B6 = true := by kernel_rfl
set_option maxHeartbeats 8000000 in
set_option maxRecDepth 100000 in
theorem spec_l03Without.calls (k : Nat) (A0_0 : Option Addr) (c0_0 : Nat) (l0_0 : List (S99)) (a1 : ByteArray) (r : List (S99)) (w : World) (hr0_0 : Kd.C k99 w A0_0 l0_0.length l0_0) (hc0_0 : l0_0.length ≤ c0_0) (h : spec_l03Without.f k l0_0 a1 = some r) :
  Calls Try.prog 85 #[.agg #[.slice A0_0 l0_0.length c0_0], .string a1] w fun e w' => ∃ v0_ : Value, e = .returned (.agg #[v0_]) ∧ Kd.R k99 99 w' w.heap.size (fun _ => True) v0_ r ∧ Below w.heap.size w w' := by
 have hu44 := Try.underlying44; have hu99 := Try.underlying99
 have HR0_0 := am_ hr0_0
 have HC0_0 := am_ hc0_0
 clear hr0_0 hc0_0
 have HB := am_ (Below.refl w.heap.size w)
 have H : (spec_l03Without.l0 k a1 0 l0_0 ([] : List (S99))) = some r := h
 clear h; have H' := am_ H; clear H
 go_enter Try.func85, Try.ntmps85
 go_wp2_with (first | ((with_reducible refine gate_dst (N := 2) rfl ?_); refine bx_ 2 (cs := #[.slice A0_0 l0_0.length c0_0]) (t := 44) ?_; intro gb322 hg w3 hbox hb; have BK322 := am_ (hbox); have GW322 := am_ ((qs_ : w.heap.size ≤ gb322)); have GE322 := GW322; replace HB := hs_ hb; clear hb hbox hg) | ((with_reducible refine gate_dst (N := 4) rfl ?_); refine bx_ 4 (cs := #[.slice none 0 0]) (t := 44) ?_; intro gb323 hg w4 hbox hb; have BK323 := am_ (hbox); have GW323 := am_ ((qs_ : w.heap.size ≤ gb323)); have GE323 := GW323; obtain ⟨NB322_323, NB323_322⟩ := qn_ BK322 hg; replace BK322 := qbl_ BK322 hb; replace HB := hs_ hb; clear hb hbox hg) | ((with_reducible refine gate_dst (N := 5) rfl ?_); refine bx_ 5 (cs := #[.slice none 0 0]) (t := 44) ?_; intro gb324 hg w5 hbox hb; have BK324 := am_ (hbox); have GW324 := am_ ((qs_ : w.heap.size ≤ gb324)); have GE324 := GW324; obtain ⟨NB322_324, NB324_322⟩ := qn_ BK322 hg; obtain ⟨NB323_324, NB324_323⟩ := qn_ BK323 hg; replace BK322 := qbl_ BK322 hb; replace BK323 := qbl_ BK323 hb; replace HB := hs_ hb; clear hb hbox hg; obtain ⟨hnb6, hnc6⟩ := nn_ NB324_322; obtain ⟨hnb7, hnc7⟩ := nn_ NB324_323; obtain ⟨hcz8_0, hfz8_0⟩ := bc1_ BK324))
 go_loopg [6] k (fun kq v6 w' => ∃ (x6_1 : Int) (x325000_1 : List (S99)) (u325000 : Value), v6 = .int .i64 x6_1 ∧ Aside0 (spec_l03Without.l0 kq a1 x6_1 l0_0 x325000_1 = some r) ∧ Aside0 (kq ≤ k) ∧ Aside0 (Kd.R k99 99 w' w.heap.size (fun _ => True) u325000 x325000_1) ∧ Aside0 (w'.heap[gb322]? = some (.cells #[(.slice A0_0 l0_0.length c0_0)] 44 (0, 0))) ∧ Aside0 (w'.heap[gb323]? = some (.cells #[(.slice none 0 0)] 44 (0, 0))) ∧ Aside0 (w'.heap[gb324]? = some (.cells #[u325000] 44 (0, 0))) ∧ Aside0 (Below w.heap.size w w'))
 case atStart => exact ⟨(0), (([] : List (S99))), (.slice none 0 0), qe_, H', ⟨Nat.le_refl _⟩, ⟨by first | exact Kd.R_nil _ _ _ _ _ | exact Kd.N_nil _ _ _ _ _ | exact Kd.V_nil _ _ _ _ _ | exact Kd.Q_nil _ _ _ _ _ | exact Kd.S_nil _ _ _ _ _⟩, ⟨qf_ BK322⟩, ⟨qf_ BK323⟩, ⟨by (with_reducible repeat (first | refine blk_drewN ?_ _ | refine blk_drew ?_ | refine blk_alloc ?_ _)); refine blk_put (cs := #[.slice none 0 0]) ?_ 0 _ rfl; exact qf_ BK324⟩, ⟨qB_⟩⟩
 case round =>
  clear H'
  (try clear p2); (try clear c6); (try clear c7); (try clear c8); (try clear hcz8_0 hfz8_0)
  obtain ⟨x6_1, x325000_1, u325000, rfl, HA, HK1, HO_325000, BK322, BK323, BK324, HB⟩ := hrel
  cases gk with
  | zero => exact absurd HA.out (by simp [spec_l03Without.l0])
  | succ k1 =>
   have H := HA.out; clear HA
   simp only [spec_l03Without.l0] at H
   by_cases c9 : x6_1 < (l0_0.length : Int)
   ·rw [if_pos c9] at H
    have c9b0 : decide (x6_1 < (l0_0.length : Int)) = true := decide_eq_true c9
    clear c9
    by_cases c10 : 0 ≤ x6_1
    ·rw [if_pos c10] at H
     have c10b0 : decide (0 ≤ x6_1) = true := decide_eq_true c10
     clear c10
     by_cases c11 : ((rd_T99 l0_0 x6_1).f0).toList = a1.toList
     ·rw [if_pos c11] at H
      have c11b0 : (((rd_T99 l0_0 x6_1).f0).toList == a1.toList) = true := beq_iff_eq.mpr c11
      have c11b1 : (((rd_T99 l0_0 x6_1).f0).toList != a1.toList) = false := bne_eq_false_iff_eq.mpr c11
      clear c11; have H' := am_ H; clear H; obtain ⟨hnb12, hnc12⟩ := nn_ NB322_323; obtain ⟨hnb13, hnc13⟩ := nn_ NB322_324
      obtain ⟨hcz14_0, hfz14_0⟩ := bc1_ BK322
      have p325 : 0 ≤ (x6_1 : Int) := of_decide_eq_true qa_
      have q325 : x6_1 < (l0_0.length : Int) := of_decide_eq_true qa_
      obtain ⟨ad325, e325, hx325_0, hx325_1, hx325_2⟩ := at_T99 HR0_0.out x6_1 p325 q325
      cases e325
      replace hx325_0 := qx_ HB hx325_0
      replace hx325_1 := qx_ HB hx325_1
      replace hx325_2 := qx_ HB hx325_2
      replace p325 := eq_true p325; replace q325 := eq_true q325
      go_wp2
      go_roundg k1
      case measure => have := HK1.out; omega
      case rel => exact ⟨(wrap64 (x6_1 + 1)), (x325000_1), (u325000), qe_, H', ⟨by have := HK1.out; omega⟩, ⟨by (with_reducible repeat (first | apply Kd.R_alloc | apply Kd.R_drewN | apply Kd.R_drew)); first | exact HO_325000.out | (have h_ := HO_325000.out; simp only [own_slice] at h_ ⊢; exact h_)⟩, ⟨qk_ BK322⟩, ⟨qk_ BK323⟩, ⟨qk_ BK324⟩, ⟨qB_⟩⟩
     rw [if_neg c11] at H
     have c11b0 : (((rd_T99 l0_0 x6_1).f0).toList == a1.toList) = false := beq_eq_false_iff_ne.mpr c11
     have c11b1 : (((rd_T99 l0_0 x6_1).f0).toList != a1.toList) = true := bne_iff_ne.mpr c11
     by_cases c15 : x325000_1.length < 3518437208883
     ·rw [if_pos c15] at H
      have LMc15 := am_ c15
      clear c15
      obtain ⟨y327, hy327⟩ : ∃ y_ : List (S99), y_ = (x325000_1 ++ [(⟨(rd_T99 l0_0 x6_1).f0, (rd_T99 l0_0 x6_1).f1, (rd_T99 l0_0 x6_1).f2⟩ : S99)]) := ⟨_, rfl⟩
      replace H : (spec_l03Without.l0 k1 a1 (wrap64 (x6_1 + 1)) l0_0 y327) = some r := by first | (rw [hy327]; with_reducible exact H) | (have H2_ := (Option.bind_some _ _).symm.trans H; rw [hy327]; with_reducible exact H2_) | (have H2_ := (Option.bind_some _ _).symm.trans H; with_reducible exact H2_) | with_reducible exact H | (rw [hy327]; exact H) | exact H
      have Ny327 := am_ hy327
      clear hy327; have H' := am_ H; clear H; obtain ⟨hnb16, hnc16⟩ := nn_ NB322_323; obtain ⟨hnb17, hnc17⟩ := nn_ NB322_324
      obtain ⟨hcz18_0, hfz18_0⟩ := bc1_ BK322
      have p325 : 0 ≤ (x6_1 : Int) := of_decide_eq_true qa_
      have q325 : x6_1 < (l0_0.length : Int) := of_decide_eq_true qa_
      obtain ⟨ad325, e325, hx325_0, hx325_1, hx325_2⟩ := at_T99 HR0_0.out x6_1 p325 q325
      cases e325
      replace hx325_0 := qx_ HB hx325_0
      replace hx325_1 := qx_ HB hx325_1
      replace hx325_2 := qx_ HB hx325_2
      replace p325 := eq_true p325; replace q325 := eq_true q325
      try go_wp2
      replace HO_325000 := am_ (Kd.R_drew HO_325000.out); replace BK322 := am_ (blk_drew BK322.out); replace BK323 := am_ (blk_drew BK323.out); replace BK324 := am_ (blk_drew BK324.out); replace HB := am_ (below_drew1 HB.out)
      have p326 : 0 ≤ (x6_1 : Int) := of_decide_eq_true qa_
      have q326 : x6_1 < (l0_0.length : Int) := of_decide_eq_true qa_
      obtain ⟨ad326, e326, hx326_0, hx326_1, hx326_2⟩ := at_T99 HR0_0.out x6_1 p326 q326
      have hw326_2 := hx326_2; have hw326_1 := hx326_1; have hw326_0 := hx326_0
      obtain rfl : ad325 = ad326 := (by injection e326)
      replace hx326_0 := qx_ HB hx326_0
      replace hx326_1 := qx_ HB hx326_1
      replace hx326_2 := qx_ HB hx326_2
      replace p326 := eq_true p326; replace q326 := eq_true q326
      refine start_ (n := 11) (S := fun w' => w'.cell? ⟨gb324, 0, none⟩ = some (u325000) ∧ w'.cell? ⟨gb322, 0, none⟩ = some (.slice (some ad325) l0_0.length c0_0) ∧ w'.cell? (ad325.add ((x6_1).toNat * 3)) = some (.string ((rd_T99 l0_0 x6_1).f0)) ∧ w'.cell? ⟨(ad325.add ((x6_1).toNat * 3)).block, (ad325.add ((x6_1).toNat * 3)).off + 1, none⟩ = some (.string ((rd_T99 l0_0 x6_1).f1)) ∧ w'.cell? ⟨(ad325.add ((x6_1).toNat * 3)).block, (ad325.add ((x6_1).toNat * 3)).off + 2, none⟩ = some (.int .i64 ((rd_T99 l0_0 x6_1).f2))) (ds := [10]) (bm 11 0) (by kernel_rfl) rfl (by kernel_rfl) ⟨bl_ BK324 0, bl_ BK322 0, ((qx_ HB hw326_0).trans rfl), ((qx_ HB hw326_1).trans rfl), ((qx_ HB hw326_2).trans rfl)⟩ (fun hHeld => ?_); refine with_tabW spec_l03Without.tab6 spec_l03Without.bits6 (fun HT_ HW_ => ?_)
      generalize wr.drew = w19 at HO_325000 BK322 BK323 BK324 HB hx326_0 hx326_1 hx326_2 hHeld ⊢
      refine pz_ 0 23 (bm 11 1) ?_; refine pz_ 2 25 (bm 11 5) ?_; refine pz_ 4 27 (bm 11 21) ?_; refine tz5_ 1 24 (bm 11 23) ?_; refine tz5_ 3 26 (bm 11 31) ?_; refine pz_ 5 28 (bm 11 63) ?_; refine tz5_ 6 29 (bm 11 127) ?_
      refine o1_ 7 (some 30) (bm 11 255) (fun K hK => ?_)
      refine value_ (w1 := ?_) (v := ?_) (by rfl) rfl ?_ ?_
      rotate_left 2
      ·go_simp
       constructor
       ·rfl
       rfl
      refine hK.out _ _ ⟨(blk_cell (blk_alloc BK324.out _) 0).trans rfl, (blk_cell (blk_alloc BK322.out _) 0).trans rfl, (World.cell?_alloc_lt _ _ _ (World.block_lt_of_cell? _ _ (((qx_ HB hw326_0).trans rfl)))).trans (((qx_ HB hw326_0).trans rfl)), (World.cell?_alloc_lt _ _ _ (World.block_lt_of_cell? _ _ (((qx_ HB hw326_1).trans rfl)))).trans (((qx_ HB hw326_1).trans rfl)), (World.cell?_alloc_lt _ _ _ (World.block_lt_of_cell? _ _ (((qx_ HB hw326_2).trans rfl)))).trans (((qx_ HB hw326_2).trans rfl))⟩ (fun hHeld => ?_)
      clear hK K
      refine nm_ 30 ?_
      refine o1_ 8 (some 31) (bm 11 511) (fun K hK => ?_)
      refine Kd.R_append_step k99 (w0 := w) w.heap.size (by rfl) (.tmp 24) (.tmp 30) 42 99 (.agg #[(.string ⟨#[]⟩), (.string ⟨#[]⟩), (.int .i64 0)]) 40 rfl Try.underlying42 info99 rfl (by decide) (by omega) u325000 x325000_1 (⟨(rd_T99 l0_0 x6_1).f0, (rd_T99 l0_0 x6_1).f1, (rd_T99 l0_0 x6_1).f2⟩ : S99) [.string ((rd_T99 l0_0 x6_1).f0), .string ((rd_T99 l0_0 x6_1).f1), .int .i64 ((rd_T99 l0_0 x6_1).f2)] (fun _ => True) (fun _ => False) rfl rfl ?aP (fun _ hk => hk.elim) ?aF ?aO ?aB ?aS ?aL ?_
      (case aP => exact k99_mkM _ _ _ (⟨(rd_T99 l0_0 x6_1).f0, (rd_T99 l0_0 x6_1).f1, (rd_T99 l0_0 x6_1).f2⟩ : S99))
      (case aB => exact qB_)
      (case aF => exact (fun _ _ => trivial))
      (case aO => exact (qR_ HO_325000))
      (case aS => exact (below_size qB_))
      (case aL => have := LMc15.out; omega)
      intro v328 w20 ho hb hg hat
      rw [← Ny327.out] at ho
      have HO329 := am_ (ho); replace BK322 := am_ (blk_grown (qk_ BK322) hg (Kd.R_ne HO_325000.out BK322.out (by decide))); replace BK323 := am_ (blk_grown (qk_ BK323) hg (Kd.R_ne HO_325000.out BK323.out (by decide))); replace BK324 := am_ (blk_grown (qk_ BK324) hg (Kd.R_ne HO_325000.out BK324.out (by decide))); replace HB := am_ (hb); clear HO_325000; clear ho hb hg hat
      obtain ⟨Ao21, co21, eo21⟩ := Kd.R_slice HO329.out
      (first | subst eo21 | (injection eo21 with f1_ f2_ f3_; have f4_ := f1_.symm; have f5_ := f3_.symm; clear f1_ f2_ f3_; subst f4_; subst f5_))
      refine hK.out _ _ ⟨bl_ BK324 0, bl_ BK322 0, ((qx_ HB hw326_0).trans rfl), ((qx_ HB hw326_1).trans rfl), ((qx_ HB hw326_2).trans rfl)⟩ (fun hHeld => ?_)
      clear hK K
      refine nm_ 31 ?_
      refine pz_ 9 32 (bm 11 1023) ?_
      refine last_ (i := 10) (N := none) (bm 11 2047) rfl rfl (one_of HT_.out (by kernel_rfl)) (by decide) (fun K hK => ?_)
      have hs22 : w20.cell? ⟨gb324, 0, none⟩ = some (u325000) := bl_ BK324 0
      have hfs22 := blk_frozen BK324.out 0
      have hns22_0 := NB322_324.out; have hns22_1 := NB323_324.out; have hms22_0 := NB324_322.out; have hms22_1 := NB324_323.out
      refine skip_ (w1 := ?_) (by rfl) rfl ?_ ?_
      rotate_left
      ·go_simp
       rfl
      refine hK.out _ _ ?_
      clear hK K
      refine done_ (done_of HT_.out (by kernel_rfl)) ?_
      try go_wp2
      go_roundg k1
      case measure => have := HK1.out; omega
      case rel => exact ⟨(wrap64 (x6_1 + 1)), (y327), (.slice Ao21 y327.length co21), qe_, H', ⟨by have := HK1.out; omega⟩, ⟨by (with_reducible repeat (first | apply Kd.R_alloc | apply Kd.R_drewN | apply Kd.R_drew)); exact Kd.R_mono (Kd.R_far (p := ⟨gb324, 0, none⟩) (Kd.R_types HO329.out BK324.out (by decide)) (fun _ hk => hk.2) (.slice Ao21 y327.length co21)) (fun _ hk => trivial)⟩, ⟨qf_ BK322⟩, ⟨qf_ BK323⟩, ⟨by (with_reducible repeat (first | refine blk_drewN ?_ _ | refine blk_drew ?_ | refine blk_alloc ?_ _)); refine blk_put (cs := #[u325000]) ?_ 0 _ rfl; exact qf_ BK324⟩, ⟨qB_⟩⟩
     rw [if_neg c15] at H
     exact absurd H (by simp)
    rw [if_neg c10] at H
    exact absurd H (by simp)
   rw [if_neg c9] at H
   have c9b0 : decide (x6_1 < (l0_0.length : Int)) = false := decide_eq_false c9
   clear c9
   obtain rfl := Option.some.inj H
   obtain ⟨hnb23, hnc23⟩ := nn_ NB322_323; obtain ⟨hnb24, hnc24⟩ := nn_ NB322_324
   obtain ⟨hcz25_0, hfz25_0⟩ := bc1_ BK322
   obtain ⟨hnb26, hnc26⟩ := nn_ NB324_323
   obtain ⟨hcz27_0, hfz27_0⟩ := bc1_ BK324
   obtain ⟨Ao28, co28, eo28⟩ := Kd.R_slice HO_325000.out
   subst eo28
   obtain ⟨hcz29_0, hfz29_0⟩ := bc1_ BK323
   go_wp2
   refine bodyPost_ret (results_cell_row rfl _ _ gb323 44 #[.slice Ao28 x325000_1.length co28] (0, 0) _ rfl (by (with_reducible repeat (first | refine blk_drewN ?_ _ | refine blk_drew ?_ | refine blk_alloc ?_ _)); refine blk_put (cs := #[.slice none 0 0]) ?_ 0 _ rfl; exact qf_ BK323) Try.underlying44 rfl (by kernel_rfl)) rfl ?_
   exact ⟨_, qr_, by (with_reducible repeat (first | apply Kd.R_alloc | apply Kd.R_drewN | apply Kd.R_drew)); exact Kd.R_mono (Kd.R_far (p := ⟨gb323, 0, none⟩) (Kd.R_types HO_325000.out BK323.out (by decide)) (fun _ hk => hk.2) (.slice Ao28 x325000_1.length co28)) (fun _ hk => trivial), qB_⟩

end Go.Proofs.Ytacnlodcbbhahaa.QFnExactCutActs
