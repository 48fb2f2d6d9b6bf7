-- printed for this claim by a program of the session's own (no text of the kit's print)
import Derived.Test.YtacnlodcbbhahaaQFnExactEdgesOfx0
namespace Go.Proofs.Ytacnlodcbbhahaa.QFnExactEdgesOf
open Go.RowKit Go.Proofs.YtacnlodcbbhahaaW.PrintWords Go.Proofs.YtacnlodcbbhahaaW.PrintLast Go.Proofs.YtacnlodcbbhahaaW.PrintMore
attribute [local go_sem] max2_int min2_int max_two min_two max_three min_three max_four min_four   -- for this text's walks alone
set_option linter.unusedVariables false
set_option linter.unusedSimpArgs false

/-! ### spec_l05Less: function 111 -/
def spec_l05Less.f (a0_0 : Int) (a0_1 : Int) (a1_0 : Int) (a1_1 : Int) : Option (Bool) := if a0_0 < a1_0 then (some true) else (if a0_0 = a1_0 then (some (decide (a0_1 < a1_1))) else (some false))
set_option maxHeartbeats 8000000 in
set_option maxRecDepth 100000 in
theorem spec_l05Less.calls (a0_0 : Int) (a0_1 : Int) (a1_0 : Int) (a1_1 : Int) (r : Bool) (w : World) (h : spec_l05Less.f a0_0 a0_1 a1_0 a1_1 = some r) :
  Calls Try.prog 111 #[.agg #[.int .i64 a0_0, .int .i64 a0_1], .agg #[.int .i64 a1_0, .int .i64 a1_1]] w fun e w' => e = .returned (.bool r) ∧ Below w.heap.size w w' := by
 have hu112 := Try.underlying112
 have HB := Aside0.mk (Below.refl w.heap.size w)
 have H : (if a0_0 < a1_0 then (some true) else (if a0_0 = a1_0 then (some (decide (a0_1 < a1_1))) else (some false))) = some r := h
 clear h
 by_cases c3 : a0_0 < a1_0
 ·rw [if_pos c3] at H
  have c3b0 : decide (a0_0 < a1_0) = true := decide_eq_true c3
  clear c3
  obtain rfl := Option.some.inj H
  go_enter Try.func111, Try.ntmps111
  go_wp2_with (first | ((with_reducible refine gate_dst (N := 2) rfl ?_); refine bx_ 2 (cs := #[.int .i64 a0_0, .int .i64 a0_1]) (t := 112) ?_; intro gb185 hg w4 hbox hb; have BK185 := Aside0.mk (hbox); have GW185 := Aside0.mk ((qs_ : w.heap.size ≤ gb185)); have GE185 := Aside0.mk ((qs_ : w.heap.size ≤ gb185)); replace HB := Aside0.mk (below_step qB_ hb); clear hb hbox hg) | ((with_reducible refine gate_dst (N := 3) rfl ?_); refine bx_ 3 (cs := #[.int .i64 a1_0, .int .i64 a1_1]) (t := 112) ?_; intro gb186 hg w5 hbox hb; have BK186 := Aside0.mk (hbox); have GW186 := Aside0.mk ((qs_ : w.heap.size ≤ gb186)); have GE186 := Aside0.mk ((qs_ : w.heap.size ≤ gb186)); have NB185_186 := Aside0.mk ((by rw [hg]; exact Nat.ne_of_lt (blk_lt (qk_ BK185)) : gb185 ≠ gb186)); have NB186_185 := Aside0.mk ((by rw [hg]; exact Nat.ne_of_gt (blk_lt (qk_ BK185)) : gb186 ≠ gb185)); replace BK185 := Aside0.mk (blk_below (qk_ BK185) hb); replace HB := Aside0.mk (below_step qB_ hb); clear hb hbox hg; have hnb6 := NB185_186.out; have hnc6 := NB186_185.out; obtain ⟨hcz7_0, hcz7_1, hfz7_0, hfz7_1⟩ := bc2_ BK185; obtain ⟨hcz8_0, hcz8_1, hfz8_0, hfz8_1⟩ := bc2_ BK186))
  go_ret
  exact ⟨qr_, qB_⟩
 ·rw [if_neg c3] at H
  have c3b0 : decide (a0_0 < a1_0) = false := decide_eq_false c3
  clear c3
  by_cases c9 : a0_0 = a1_0
  ·rw [if_pos c9] at H
   have c9b0 : (a0_0 == a1_0) = true := beq_iff_eq.mpr c9
   have c9b1 : (a0_0 != a1_0) = false := bne_eq_false_iff_eq.mpr c9
   clear c9
   obtain rfl := Option.some.inj H
   go_enter Try.func111, Try.ntmps111
   go_wp2_with (first | ((with_reducible refine gate_dst (N := 2) rfl ?_); refine bx_ 2 (cs := #[.int .i64 a0_0, .int .i64 a0_1]) (t := 112) ?_; intro gb185 hg w10 hbox hb; have BK185 := Aside0.mk (hbox); have GW185 := Aside0.mk ((qs_ : w.heap.size ≤ gb185)); have GE185 := Aside0.mk ((qs_ : w.heap.size ≤ gb185)); replace HB := Aside0.mk (below_step qB_ hb); clear hb hbox hg) | ((with_reducible refine gate_dst (N := 3) rfl ?_); refine bx_ 3 (cs := #[.int .i64 a1_0, .int .i64 a1_1]) (t := 112) ?_; intro gb186 hg w11 hbox hb; have BK186 := Aside0.mk (hbox); have GW186 := Aside0.mk ((qs_ : w.heap.size ≤ gb186)); have GE186 := Aside0.mk ((qs_ : w.heap.size ≤ gb186)); have NB185_186 := Aside0.mk ((by rw [hg]; exact Nat.ne_of_lt (blk_lt (qk_ BK185)) : gb185 ≠ gb186)); have NB186_185 := Aside0.mk ((by rw [hg]; exact Nat.ne_of_gt (blk_lt (qk_ BK185)) : gb186 ≠ gb185)); replace BK185 := Aside0.mk (blk_below (qk_ BK185) hb); replace HB := Aside0.mk (below_step qB_ hb); clear hb hbox hg; have hnb12 := NB185_186.out; have hnc12 := NB186_185.out; obtain ⟨hcz13_0, hcz13_1, hfz13_0, hfz13_1⟩ := bc2_ BK185; obtain ⟨hcz14_0, hcz14_1, hfz14_0, hfz14_1⟩ := bc2_ BK186))
   go_ret
   exact ⟨qr_, qB_⟩
  ·rw [if_neg c9] at H
   have c9b0 : (a0_0 == a1_0) = false := beq_eq_false_iff_ne.mpr c9
   have c9b1 : (a0_0 != a1_0) = true := bne_iff_ne.mpr c9
   obtain rfl := Option.some.inj H
   go_enter Try.func111, Try.ntmps111
   go_wp2_with (first | ((with_reducible refine gate_dst (N := 2) rfl ?_); refine bx_ 2 (cs := #[.int .i64 a0_0, .int .i64 a0_1]) (t := 112) ?_; intro gb185 hg w15 hbox hb; have BK185 := Aside0.mk (hbox); have GW185 := Aside0.mk ((qs_ : w.heap.size ≤ gb185)); have GE185 := Aside0.mk ((qs_ : w.heap.size ≤ gb185)); replace HB := Aside0.mk (below_step qB_ hb); clear hb hbox hg) | ((with_reducible refine gate_dst (N := 3) rfl ?_); refine bx_ 3 (cs := #[.int .i64 a1_0, .int .i64 a1_1]) (t := 112) ?_; intro gb186 hg w16 hbox hb; have BK186 := Aside0.mk (hbox); have GW186 := Aside0.mk ((qs_ : w.heap.size ≤ gb186)); have GE186 := Aside0.mk ((qs_ : w.heap.size ≤ gb186)); have NB185_186 := Aside0.mk ((by rw [hg]; exact Nat.ne_of_lt (blk_lt (qk_ BK185)) : gb185 ≠ gb186)); have NB186_185 := Aside0.mk ((by rw [hg]; exact Nat.ne_of_gt (blk_lt (qk_ BK185)) : gb186 ≠ gb185)); replace BK185 := Aside0.mk (blk_below (qk_ BK185) hb); replace HB := Aside0.mk (below_step qB_ hb); clear hb hbox hg; have hnb17 := NB185_186.out; have hnc17 := NB186_185.out; obtain ⟨hcz18_0, hcz18_1, hfz18_0, hfz18_1⟩ := bc2_ BK185; obtain ⟨hcz19_0, hcz19_1, hfz19_0, hfz19_1⟩ := bc2_ BK186))
   go_ret
   exact ⟨qr_, qB_⟩

/-! ### spec_l05Put: function 89 -/
mutual
def spec_l05Put.l0 : Nat → List (S112) → List (S112) → Int → Int → Int → Option ((List (S112)))
  | 0, _, _, _, _, _ => none
  | k + 1, x0, x5, x6, x188000, x188001 => if x6 < (x0.length : Int) then (if 0 ≤ x6 then ((spec_l05Less.f ((rd_T112 x0 x6).f0) ((rd_T112 x0 x6).f1) x188000 x188001).bind fun t192 => (if t192 = true then (if x5.length < 8796093022208 then (spec_l05Put.l0 k x0 (x5 ++ [(⟨(rd_T112 x0 x6).f0, (rd_T112 x0 x6).f1⟩ : S112)]) (wrap64 (x6 + 1)) x188000 x188001) else (none)) else (spec_l05Put.l0 k x0 x5 (wrap64 (x6 + 1)) x188000 x188001))) else (none)) else (if x5.length < 8796093022208 then (spec_l05Put.l1 k x0 (x5 ++ [(⟨x188000, x188001⟩ : S112)]) 0 x188000 x188001) else (none))
def spec_l05Put.l1 : Nat → List (S112) → List (S112) → Int → Int → Int → Option ((List (S112)))
  | 0, _, _, _, _, _ => none
  | k + 1, x0, x5, x7, x188000, x188001 => if x7 < (x0.length : Int) then (if 0 ≤ x7 then ((spec_l05Less.f x188000 x188001 ((rd_T112 x0 x7).f0) ((rd_T112 x0 x7).f1)).bind fun t201 => (if t201 = true then (if x5.length < 8796093022208 then (spec_l05Put.l1 k x0 (x5 ++ [(⟨(rd_T112 x0 x7).f0, (rd_T112 x0 x7).f1⟩ : S112)]) (wrap64 (x7 + 1)) x188000 x188001) else (none)) else (spec_l05Put.l1 k x0 x5 (wrap64 (x7 + 1)) x188000 x188001))) else (none)) else (some x5)
end
def spec_l05Put.f (k : Nat) (l0 : List (S112)) (a1_0 : Int) (a1_1 : Int) : Option ((List (S112))) := spec_l05Put.l0 k l0 (([] : List (S112))) 0 a1_0 a1_1
theorem spec_l05Put.mono_l : ∀ k, (∀ y0 y1 y2 y3 y4, LeO (spec_l05Put.l0 k y0 y1 y2 y3 y4) (spec_l05Put.l0 (k + 1) y0 y1 y2 y3 y4)) ∧ (∀ y0 y1 y2 y3 y4, LeO (spec_l05Put.l1 k y0 y1 y2 y3 y4) (spec_l05Put.l1 (k + 1) y0 y1 y2 y3 y4))
  | 0 => ⟨fun _ _ _ _ _ r h => by simp [spec_l05Put.l0] at h, fun _ _ _ _ _ r h => by simp [spec_l05Put.l1] at h⟩
  | k + 1 => by
    obtain ⟨ih0, ih1⟩ := spec_l05Put.mono_l k
    refine ⟨?_, ?_⟩ <;> (intros; first | unfold spec_l05Put.l0 | unfold spec_l05Put.l1) <;> repeat' first
    | (with_reducible exact ih0 _ _ _ _ _)
    | (with_reducible exact ih1 _ _ _ _ _)
    | (with_reducible exact LeO.refl _)
    | (with_reducible exact LeO.none _)
    | (with_reducible refine LeO.ite ?_ ?_)
    | (with_reducible refine LeO.bind ?_ (fun _ => ?_))
    | exact ih0 _ _ _ _ _
    | exact ih1 _ _ _ _ _
    | exact LeO.none _
    | refine LeO.ite ?_ ?_
    | refine LeO.bind ?_ (fun _ => ?_)
theorem spec_l05Put.mono : ∀ a0 a1 a2 k, LeO (spec_l05Put.f k a0 a1 a2) (spec_l05Put.f (k + 1) a0 a1 a2) := by
  intro a0 a1 a2 k
  obtain ⟨ih0, ih1⟩ := spec_l05Put.mono_l k
  unfold spec_l05Put.f
  repeat' first
      | (with_reducible exact ih0 _ _ _ _ _)
      | (with_reducible exact ih1 _ _ _ _ _)
      | (with_reducible exact LeO.refl _)
      | (with_reducible exact LeO.none _)
      | (with_reducible refine LeO.ite ?_ ?_)
      | (with_reducible refine LeO.bind ?_ (fun _ => ?_))
      | exact ih0 _ _ _ _ _
      | exact ih1 _ _ _ _ _
      | exact LeO.none _
      | refine LeO.ite ?_ ?_
      | refine LeO.bind ?_ (fun _ => ?_)
set_option maxHeartbeats 8000000 in
set_option maxRecDepth 100000 in
theorem spec_l05Put.calls (k : Nat) (A0 : Option Addr) (c0 : Nat) (l0 : List (S112)) (a1_0 : Int) (a1_1 : Int) (r : List (S112)) (w : World) (hr0 : Kd.C k112 w A0 l0.length l0) (hc0 : l0.length ≤ c0) (h : spec_l05Put.f k l0 a1_0 a1_1 = some r) :
  Calls Try.prog 89 #[.slice A0 l0.length c0, .agg #[.int .i64 a1_0, .int .i64 a1_1]] w fun e w' => ∃ v0_ : Value, e = .returned (v0_) ∧ Kd.R k112 112 w' w.heap.size (fun _ => True) v0_ r ∧ Below w.heap.size w w' := by
 have hu112 := Try.underlying112
 have HR0 := Aside0.mk hr0
 have HC0 := Aside0.mk hc0
 clear hr0 hc0
 have HB := Aside0.mk (Below.refl w.heap.size w)
 have H : (spec_l05Put.l0 k l0 (([] : List (S112))) 0 a1_0 a1_1) = some r := h
 clear h
 obtain ⟨y188, hy188⟩ : ∃ y_ : List (S112), y_ = (([] : List (S112))) := ⟨_, rfl⟩
 replace H : (spec_l05Put.l0 k l0 y188 0 a1_0 a1_1) = some r := by first | (rw [hy188]; with_reducible exact H) | (have H2_ := (Option.bind_some _ _).symm.trans H; rw [hy188]; with_reducible exact H2_) | (have H2_ := (Option.bind_some _ _).symm.trans H; with_reducible exact H2_) | with_reducible exact H | (rw [hy188]; exact H) | exact H
 have Ny188 := Aside0.mk hy188
 clear hy188; have H' := Aside0.mk H; clear H
 go_enter Try.func89, Try.ntmps89
 go_wp2_with (first | ((with_reducible refine gate_dst (N := 3) rfl ?_); refine bx_ 3 (cs := #[.int .i64 a1_0, .int .i64 a1_1]) (t := 112) ?_; intro gb187 hg w3 hbox hb; have BK187 := Aside0.mk (hbox); have GW187 := Aside0.mk ((qs_ : w.heap.size ≤ gb187)); have GE187 := Aside0.mk ((qs_ : w.heap.size ≤ gb187)); replace HB := Aside0.mk (below_step qB_ hb); clear hb hbox hg) | ((with_reducible refine gate_dst (N := 8) rfl ?_); refine Kd.R_lit k112 _ 112 ?hg (N := 8) ?hd (xs := ([] : List (S112))) (inner := []) (ok := fun _ => True) (okp := fun _ => True) ?hr ?hp (fun _ hk => hk) trivial (Below.refl _ _) (Nat.le_refl _) (by simp) ?_; (case hd => rfl); (case hg => rfl); (case hr => first | (go_simp; done) | (go_simp; rfl)); (case hp => exact (Reps.none _ _)); intro v189 w4 ho5 hb hg_ hnew_; clear hg_ hnew_; (first | rw [← Ny188.out] at ho5 | (simp only [Int.reduceToNat] at ho5; rw [← Ny188.out] at ho5)); have HO190 := Aside0.mk (Kd.R_lower (Kd.R_newB ho5 (qk_ BK187)) (below_size qB_)); replace BK187 := Aside0.mk (blk_below (qk_ BK187) hb); replace HB := Aside0.mk (below_step qB_ hb); clear hb ho5))
 go_loopg [5, 6] k (fun kq v5 v6 w' => ∃ (x5_1 : List (S112)) (x6_1 : Int), v6 = .int .i64 x6_1 ∧ Aside0 (spec_l05Put.l0 kq l0 x5_1 x6_1 a1_0 a1_1 = some r) ∧ Aside0 (kq ≤ k) ∧ Aside0 (Kd.R k112 112 w' w.heap.size (fun k_ => k_ ≠ gb187) v5 x5_1) ∧ Aside0 (w'.heap[gb187]? = some (.cells #[.int .i64 a1_0, .int .i64 a1_1] 112 (0, 0))) ∧ Aside0 (Below w.heap.size w w'))
 case atStart => exact ⟨(y188), (0), qe_, H', ⟨Nat.le_refl _⟩, ⟨by (with_reducible repeat (first | apply Kd.R_alloc | apply Kd.R_drewN | apply Kd.R_drew)); exact Kd.R_mono HO190.out (fun _ hk => hk.2)⟩, ⟨qk_ BK187⟩, ⟨qB_⟩⟩
 case round =>
  clear H'
  (try clear p2)
  obtain ⟨x5_1, x6_1, rfl, HA, HK1, HO_5, BK187, HB⟩ := hrel
  cases gk with
  | zero => exact absurd HA.out (by simp [spec_l05Put.l0])
  | succ k1 =>
   have H := HA.out; clear HA
   simp only [spec_l05Put.l0] at H
   by_cases c6 : x6_1 < (l0.length : Int)
   ·rw [if_pos c6] at H
    have c6b0 : decide (x6_1 < (l0.length : Int)) = true := decide_eq_true c6
    clear c6
    by_cases c7 : 0 ≤ x6_1
    ·rw [if_pos c7] at H
     have c7b0 : decide (0 ≤ x6_1) = true := decide_eq_true c7
     clear c7
     obtain ⟨t192, A80, H⟩ := Option.bind_eq_some_iff.mp H; have A8 := Aside0.mk A80; clear A80
     by_cases c9 : t192 = true
     ·subst c9
      rw [if_pos rfl] at H
      by_cases c10 : x5_1.length < 8796093022208
      ·rw [if_pos c10] at H
       have LMc10 := Aside0.mk c10
       clear c10
       obtain ⟨y194, hy194⟩ : ∃ y_ : List (S112), y_ = (x5_1 ++ [(⟨(rd_T112 l0 x6_1).f0, (rd_T112 l0 x6_1).f1⟩ : S112)]) := ⟨_, rfl⟩
       replace H : (spec_l05Put.l0 k1 l0 y194 (wrap64 (x6_1 + 1)) a1_0 a1_1) = some r := by first | (rw [hy194]; with_reducible exact H) | (have H2_ := (Option.bind_some _ _).symm.trans H; rw [hy194]; with_reducible exact H2_) | (have H2_ := (Option.bind_some _ _).symm.trans H; with_reducible exact H2_) | with_reducible exact H | (rw [hy194]; exact H) | exact H
       have Ny194 := Aside0.mk hy194
       clear hy194; have H' := Aside0.mk H; clear H
       try go_wp2
       have n0_ := Aside0.mk (Kd.R_drew HO_5.out)
       have n1_ := Aside0.mk (blk_drew BK187.out)
       have n2_ := Aside0.mk (below_drew1 HB.out)
       clear HO_5; clear BK187; clear HB; have HO_5 := n0_; have BK187 := n1_; have HB := n2_; clear n0_ n1_ n2_
       have p191 : 0 ≤ (x6_1 : Int) := of_decide_eq_true qa_
       have q191 : x6_1 < (l0.length : Int) := of_decide_eq_true qa_
       obtain ⟨ad191, e191, hx191_0, hx191_1⟩ := at_T112 HR0.out x6_1 p191 q191
       have hw191_1 := hx191_1; have hw191_0 := hx191_0; cases e191
       replace hx191_0 := (HB.out.cell (World.block_lt_of_cell? w _ hx191_0)).trans hx191_0
       replace hx191_1 := (HB.out.cell (World.block_lt_of_cell? w _ hx191_1)).trans hx191_1
       replace p191 := eq_true p191; replace q191 := eq_true q191
       refine start_ (n := 6) (S := fun w' => w'.cell? ⟨gb187, 0, none⟩ = some (.int .i64 a1_0) ∧ w'.cell? ⟨gb187, 1, none⟩ = some (.int .i64 a1_1) ∧ w'.cell? (ad191.add ((x6_1).toNat * 2)) = some (.int .i64 ((rd_T112 l0 x6_1).f0)) ∧ w'.cell? ⟨(ad191.add ((x6_1).toNat * 2)).block, (ad191.add ((x6_1).toNat * 2)).off + 1, none⟩ = some (.int .i64 ((rd_T112 l0 x6_1).f1))) (ds := []) (bm 6 0) (by kernel_rfl) rfl (by kernel_rfl) ⟨(blk_cell BK187.out 0).trans rfl, (blk_cell BK187.out 1).trans rfl, ((HB.out.cell (World.block_lt_of_cell? w _ hw191_0)).trans hw191_0), ((HB.out.cell (World.block_lt_of_cell? w _ hw191_1)).trans hw191_1)⟩ (fun hHeld => ?_)
       generalize wr.drew = w11 at HO_5 BK187 HB hx191_0 hx191_1 hHeld ⊢
       refine pure_ (i := 0) (N := some 15) (v := ?_) (a' := ?_) (bm 6 1) rfl rfl (by kernel_rfl) (fun _ _ _ h => h) (Or.inl ⟨by rfl, ?_⟩) ?_ ?_
       rotate_left
       ·intro w'
        go_simp
        with_reducible rfl
       rotate_left
       ·simp only [Act.put, List.setIfInBounds_toArray, List.set_cons_zero, List.set_cons_succ, i64_w, i32_w]
        rfl
       refine pure_ (i := 1) (N := some 16) (v := ?_) (a' := ?_) (bm 6 3) rfl rfl (by kernel_rfl) (fun _ _ _ h => h) (Or.inl ⟨by rfl, ?_⟩) ?_ ?_
       rotate_left
       ·intro w'
        go_simp
        with_reducible rfl
       rotate_left
       ·simp only [Act.put, List.setIfInBounds_toArray, List.set_cons_zero, List.set_cons_succ, i64_w, i32_w]
        rfl
       refine pure_ (i := 2) (N := some 17) (v := ?_) (a' := ?_) (bm 6 7) rfl rfl (by kernel_rfl) (fun _ _ _ h => h) (Or.inl ⟨by rfl, ?_⟩) ?_ ?_
       rotate_left
       ·intro w'
        go_simp
        with_reducible rfl
       rotate_left
       ·simp only [Act.put, List.setIfInBounds_toArray, List.set_cons_zero, List.set_cons_succ, i64_w, i32_w]
        rfl
       refine take_ (i := 3) (N := some 18) (v := ?_) (a' := ?_) (bm 6 15) rfl rfl (by kernel_rfl) (fun _ _ _ h => h) (Or.inl ⟨by rfl, ?_⟩) hHeld ?_ ?_
       rotate_left
       ·rintro w' ⟨s0, s1, s2, s3⟩
        go_simp
        with_reducible rfl
       rotate_left
       ·simp only [Act.put, List.setIfInBounds_toArray, List.set_cons_zero, List.set_cons_succ, i64_w, i32_w]
        rfl
       refine take_ (i := 4) (N := some 19) (v := ?_) (a' := ?_) (bm 6 31) rfl rfl (by kernel_rfl) (fun _ _ _ h => h) (Or.inl ⟨by rfl, ?_⟩) hHeld ?_ ?_
       rotate_left
       ·rintro w' ⟨s0, s1, s2, s3⟩
        go_simp
        with_reducible rfl
       rotate_left
       ·simp only [Act.put, List.setIfInBounds_toArray, List.set_cons_zero, List.set_cons_succ, i64_w, i32_w]
        rfl
       refine one_ (i := 5) (N := some 20) (bm 6 63) rfl rfl (by kernel_rfl) (by decide) (fun K hK => ?_)
       refine goes_ Try.func111 (by kernel_rfl) rfl #[.agg #[.int .i64 ((rd_T112 l0 x6_1).f0), .int .i64 ((rd_T112 l0 x6_1).f1)], .agg #[.int .i64 a1_0, .int .i64 a1_1]] (by rfl) rfl rfl (by (try simp only [List.map_toArray, List.map_cons, List.map_nil]); first | done | rfl | (simp only [List.length_drop, List.length_take]; rfl)) ?_
       with_reducible refine (spec_l05Less.calls ((rd_T112 l0 x6_1).f0) ((rd_T112 l0 x6_1).f1) a1_0 a1_1 true _ A8.out).mono ?_
       rintro e w12 ⟨rfl, hb⟩
       refine ⟨_, rfl, ?_⟩
       have n0_ := Aside0.mk (Kd.R_below (qR_ HO_5) hb)
       have n1_ := Aside0.mk (blk_below (qk_ BK187) hb)
       have n2_ := Aside0.mk (below_step qB_ hb)
       clear HO_5; clear BK187; clear HB; have HO_5 := n0_; have BK187 := n1_; have HB := n2_; clear n0_ n1_ n2_; (try clear hb); (try clear hb2); (try clear hk); (try clear hi)
       refine hK.out _ _ ⟨(blk_cell BK187.out 0).trans rfl, (blk_cell BK187.out 1).trans rfl, ((HB.out.cell (World.block_lt_of_cell? w _ hw191_0)).trans hw191_0), ((HB.out.cell (World.block_lt_of_cell? w _ hw191_1)).trans hw191_1)⟩ (fun hHeld => ?_)
       clear hK K
       refine norm_ (a' := ?_) ?_ ?_
       rotate_left
       ·show Act.put _ (some 20) _ = _
        simp only [Act.put, List.setIfInBounds_toArray, List.set_cons_zero, List.set_cons_succ, i64_w, i32_w]
        rfl
       refine done_ (by kernel_rfl) ?_
       have p193 : 0 ≤ (x6_1 : Int) := of_decide_eq_true qa_
       have q193 : x6_1 < (l0.length : Int) := of_decide_eq_true qa_
       obtain ⟨ad193, e193, hx193_0, hx193_1⟩ := at_T112 HR0.out x6_1 p193 q193
       obtain rfl : ad191 = ad193 := (by injection e193)
       replace hx193_0 := (HB.out.cell (World.block_lt_of_cell? w _ hx193_0)).trans hx193_0
       replace hx193_1 := (HB.out.cell (World.block_lt_of_cell? w _ hx193_1)).trans hx193_1
       replace p193 := eq_true p193; replace q193 := eq_true q193
       try go_wp2_with (first | ((with_reducible refine gate_builtin (b := .append) (xs := #[.tmp 21, .tmp 26]) rfl ?_); at_builtin; refine Kd.R_append k112 (w0 := w) w.heap.size rfl (.tmp 21) (.tmp 26) 63 112 (.agg #[(.int .i64 0), (.int .i64 0)]) 16 rfl Try.underlying63 info112 rfl (by decide) (by omega) u5 x5_1 (⟨(rd_T112 l0 x6_1).f0, (rd_T112 l0 x6_1).f1⟩ : S112) [.int .i64 ((rd_T112 l0 x6_1).f0), .int .i64 ((rd_T112 l0 x6_1).f1)] (fun k_ => k_ ≠ gb187) (fun _ => False) rfl rfl ?aP (fun _ hk => hk.elim) ?aF ?aO ?aB ?aS ?aL ?_; (case aP => exact k112_mkM _ _ _ (⟨(rd_T112 l0 x6_1).f0, (rd_T112 l0 x6_1).f1⟩ : S112)); (case aB => exact qB_); (case aF => exact (fun k_ hk => Kd.freshB (qk_ BK187) k_ hk)); (case aO => exact (qR_ HO_5)); (case aS => exact (below_size qB_)); (case aL => have := LMc10.out; omega); intro v195 w13 ho hb hg hat; rw [← Ny194.out] at ho; have HO196 := Aside0.mk (ho); replace BK187 := Aside0.mk (blk_grown (qk_ BK187) hg (Kd.R_away HO_5.out (fun _ hk => hk))); replace HB := Aside0.mk (hb); clear HO_5; clear ho hb hg hat))
       go_roundg k1
       case measure => have := HK1.out; omega
       case rel => exact ⟨(y194), (wrap64 (x6_1 + 1)), qe_, H', ⟨by have := HK1.out; omega⟩, ⟨by (with_reducible repeat (first | apply Kd.R_alloc | apply Kd.R_drewN | apply Kd.R_drew)); first | exact HO196.out | (have h_ := HO196.out; simp only [own_slice] at h_ ⊢; exact h_)⟩, ⟨qk_ BK187⟩, ⟨qB_⟩⟩
      ·rw [if_neg c10] at H
       exact absurd H (by simp)
     ·replace c9 := Bool.eq_false_iff.mpr c9
      subst c9
      rw [if_neg (show ¬ (false = true) by decide)] at H; have H' := Aside0.mk H; clear H
      try go_wp2
      have n0_ := Aside0.mk (Kd.R_drew HO_5.out)
      have n1_ := Aside0.mk (blk_drew BK187.out)
      have n2_ := Aside0.mk (below_drew1 HB.out)
      clear HO_5; clear BK187; clear HB; have HO_5 := n0_; have BK187 := n1_; have HB := n2_; clear n0_ n1_ n2_
      have p191 : 0 ≤ (x6_1 : Int) := of_decide_eq_true qa_
      have q191 : x6_1 < (l0.length : Int) := of_decide_eq_true qa_
      obtain ⟨ad191, e191, hx191_0, hx191_1⟩ := at_T112 HR0.out x6_1 p191 q191
      have hw191_1 := hx191_1; have hw191_0 := hx191_0; cases e191
      replace hx191_0 := (HB.out.cell (World.block_lt_of_cell? w _ hx191_0)).trans hx191_0
      replace hx191_1 := (HB.out.cell (World.block_lt_of_cell? w _ hx191_1)).trans hx191_1
      replace p191 := eq_true p191; replace q191 := eq_true q191
      refine start_ (n := 6) (S := fun w' => w'.cell? ⟨gb187, 0, none⟩ = some (.int .i64 a1_0) ∧ w'.cell? ⟨gb187, 1, none⟩ = some (.int .i64 a1_1) ∧ w'.cell? (ad191.add ((x6_1).toNat * 2)) = some (.int .i64 ((rd_T112 l0 x6_1).f0)) ∧ w'.cell? ⟨(ad191.add ((x6_1).toNat * 2)).block, (ad191.add ((x6_1).toNat * 2)).off + 1, none⟩ = some (.int .i64 ((rd_T112 l0 x6_1).f1))) (ds := []) (bm 6 0) (by kernel_rfl) rfl (by kernel_rfl) ⟨(blk_cell BK187.out 0).trans rfl, (blk_cell BK187.out 1).trans rfl, ((HB.out.cell (World.block_lt_of_cell? w _ hw191_0)).trans hw191_0), ((HB.out.cell (World.block_lt_of_cell? w _ hw191_1)).trans hw191_1)⟩ (fun hHeld => ?_)
      generalize wr.drew = w14 at HO_5 BK187 HB hx191_0 hx191_1 hHeld ⊢
      refine pure_ (i := 0) (N := some 15) (v := ?_) (a' := ?_) (bm 6 1) rfl rfl (by kernel_rfl) (fun _ _ _ h => h) (Or.inl ⟨by rfl, ?_⟩) ?_ ?_
      rotate_left
      ·intro w'
       go_simp
       with_reducible rfl
      rotate_left
      ·simp only [Act.put, List.setIfInBounds_toArray, List.set_cons_zero, List.set_cons_succ, i64_w, i32_w]
       rfl
      refine pure_ (i := 1) (N := some 16) (v := ?_) (a' := ?_) (bm 6 3) rfl rfl (by kernel_rfl) (fun _ _ _ h => h) (Or.inl ⟨by rfl, ?_⟩) ?_ ?_
      rotate_left
      ·intro w'
       go_simp
       with_reducible rfl
      rotate_left
      ·simp only [Act.put, List.setIfInBounds_toArray, List.set_cons_zero, List.set_cons_succ, i64_w, i32_w]
       rfl
      refine pure_ (i := 2) (N := some 17) (v := ?_) (a' := ?_) (bm 6 7) rfl rfl (by kernel_rfl) (fun _ _ _ h => h) (Or.inl ⟨by rfl, ?_⟩) ?_ ?_
      rotate_left
      ·intro w'
       go_simp
       with_reducible rfl
      rotate_left
      ·simp only [Act.put, List.setIfInBounds_toArray, List.set_cons_zero, List.set_cons_succ, i64_w, i32_w]
       rfl
      refine take_ (i := 3) (N := some 18) (v := ?_) (a' := ?_) (bm 6 15) rfl rfl (by kernel_rfl) (fun _ _ _ h => h) (Or.inl ⟨by rfl, ?_⟩) hHeld ?_ ?_
      rotate_left
      ·rintro w' ⟨s0, s1, s2, s3⟩
       go_simp
       with_reducible rfl
      rotate_left
      ·simp only [Act.put, List.setIfInBounds_toArray, List.set_cons_zero, List.set_cons_succ, i64_w, i32_w]
       rfl
      refine take_ (i := 4) (N := some 19) (v := ?_) (a' := ?_) (bm 6 31) rfl rfl (by kernel_rfl) (fun _ _ _ h => h) (Or.inl ⟨by rfl, ?_⟩) hHeld ?_ ?_
      rotate_left
      ·rintro w' ⟨s0, s1, s2, s3⟩
       go_simp
       with_reducible rfl
      rotate_left
      ·simp only [Act.put, List.setIfInBounds_toArray, List.set_cons_zero, List.set_cons_succ, i64_w, i32_w]
       rfl
      refine one_ (i := 5) (N := some 20) (bm 6 63) rfl rfl (by kernel_rfl) (by decide) (fun K hK => ?_)
      refine goes_ Try.func111 (by kernel_rfl) rfl #[.agg #[.int .i64 ((rd_T112 l0 x6_1).f0), .int .i64 ((rd_T112 l0 x6_1).f1)], .agg #[.int .i64 a1_0, .int .i64 a1_1]] (by rfl) rfl rfl (by (try simp only [List.map_toArray, List.map_cons, List.map_nil]); first | done | rfl | (simp only [List.length_drop, List.length_take]; rfl)) ?_
      with_reducible refine (spec_l05Less.calls ((rd_T112 l0 x6_1).f0) ((rd_T112 l0 x6_1).f1) a1_0 a1_1 false _ A8.out).mono ?_
      rintro e w15 ⟨rfl, hb⟩
      refine ⟨_, rfl, ?_⟩
      have n0_ := Aside0.mk (Kd.R_below (qR_ HO_5) hb)
      have n1_ := Aside0.mk (blk_below (qk_ BK187) hb)
      have n2_ := Aside0.mk (below_step qB_ hb)
      clear HO_5; clear BK187; clear HB; have HO_5 := n0_; have BK187 := n1_; have HB := n2_; clear n0_ n1_ n2_; (try clear hb); (try clear hb2); (try clear hk); (try clear hi)
      refine hK.out _ _ ⟨(blk_cell BK187.out 0).trans rfl, (blk_cell BK187.out 1).trans rfl, ((HB.out.cell (World.block_lt_of_cell? w _ hw191_0)).trans hw191_0), ((HB.out.cell (World.block_lt_of_cell? w _ hw191_1)).trans hw191_1)⟩ (fun hHeld => ?_)
      clear hK K
      refine norm_ (a' := ?_) ?_ ?_
      rotate_left
      ·show Act.put _ (some 20) _ = _
       simp only [Act.put, List.setIfInBounds_toArray, List.set_cons_zero, List.set_cons_succ, i64_w, i32_w]
       rfl
      refine done_ (by kernel_rfl) ?_
      try go_wp2
      go_roundg k1
      case measure => have := HK1.out; omega
      case rel => exact ⟨(x5_1), (wrap64 (x6_1 + 1)), qe_, H', ⟨by have := HK1.out; omega⟩, ⟨by (with_reducible repeat (first | apply Kd.R_alloc | apply Kd.R_drewN | apply Kd.R_drew)); first | exact HO_5.out | (have h_ := HO_5.out; simp only [own_slice] at h_ ⊢; exact h_)⟩, ⟨qk_ BK187⟩, ⟨qB_⟩⟩
    ·rw [if_neg c7] at H
     exact absurd H (by simp)
   ·rw [if_neg c6] at H
    have c6b0 : decide (x6_1 < (l0.length : Int)) = false := decide_eq_false c6
    clear c6
    by_cases c16 : x5_1.length < 8796093022208
    ·rw [if_pos c16] at H
     have LMc16 := Aside0.mk c16
     clear c16
     obtain ⟨y197, hy197⟩ : ∃ y_ : List (S112), y_ = (x5_1 ++ [(⟨a1_0, a1_1⟩ : S112)]) := ⟨_, rfl⟩
     replace H : (spec_l05Put.l1 k1 l0 y197 0 a1_0 a1_1) = some r := by first | (rw [hy197]; with_reducible exact H) | (have H2_ := (Option.bind_some _ _).symm.trans H; rw [hy197]; with_reducible exact H2_) | (have H2_ := (Option.bind_some _ _).symm.trans H; with_reducible exact H2_) | with_reducible exact H | (rw [hy197]; exact H) | exact H
     have Ny197 := Aside0.mk hy197
     clear hy197; have H' := Aside0.mk H; clear H
     obtain ⟨hcz17_0, hcz17_1, hfz17_0, hfz17_1⟩ := bc2_ BK187
     go_wp2_with (first | ((with_reducible refine gate_builtin (b := .append) (xs := #[.tmp 28, .tmp 30]) rfl ?_); at_builtin; refine Kd.R_append k112 (w0 := w) w.heap.size rfl (.tmp 28) (.tmp 30) 63 112 (.agg #[(.int .i64 0), (.int .i64 0)]) 16 rfl Try.underlying63 info112 rfl (by decide) (by omega) u5 x5_1 (⟨a1_0, a1_1⟩ : S112) [.int .i64 a1_0, .int .i64 a1_1] (fun k_ => k_ ≠ gb187) (fun _ => False) rfl rfl ?aP (fun _ hk => hk.elim) ?aF ?aO ?aB ?aS ?aL ?_; (case aP => exact k112_mkM _ _ _ (⟨a1_0, a1_1⟩ : S112)); (case aB => exact qB_); (case aF => exact (fun k_ hk => Kd.freshB (qk_ BK187) k_ hk)); (case aO => exact (qR_ HO_5)); (case aS => exact (below_size qB_)); (case aL => have := LMc16.out; omega); intro v198 w18 ho hb hg hat; rw [← Ny197.out] at ho; have HO199 := Aside0.mk (ho); replace BK187 := Aside0.mk (blk_grown (qk_ BK187) hg (Kd.R_away HO_5.out (fun _ hk => hk))); replace HB := Aside0.mk (hb); clear HO_5; clear ho hb hg hat))
     go_loopg [5, 7] k1 (fun kq v5 v7 w' => ∃ (x5_2 : List (S112)) (x7_2 : Int), v7 = .int .i64 x7_2 ∧ Aside0 (spec_l05Put.l1 kq l0 x5_2 x7_2 a1_0 a1_1 = some r) ∧ Aside0 (kq ≤ k1) ∧ Aside0 (Kd.R k112 112 w' w.heap.size (fun k_ => k_ ≠ gb187) v5 x5_2) ∧ Aside0 (w'.heap[gb187]? = some (.cells #[.int .i64 a1_0, .int .i64 a1_1] 112 (0, 0))) ∧ Aside0 (Below w.heap.size w w'))
     case atStart => exact ⟨(y197), (0), qe_, H', ⟨Nat.le_refl _⟩, ⟨by (with_reducible repeat (first | apply Kd.R_alloc | apply Kd.R_drewN | apply Kd.R_drew)); first | exact HO199.out | (have h_ := HO199.out; simp only [own_slice] at h_ ⊢; exact h_)⟩, ⟨qk_ BK187⟩, ⟨qB_⟩⟩
     case round =>
      clear H'
      (try clear c1); (try clear p1); (try clear q1); (try clear hx1); (try clear p2); (try clear c6); (try clear c6b0); (try clear p6); (try clear c7); (try clear c7b0); (try clear c8); (try clear c9); (try clear c10); (try clear c11); (try clear c16); (try clear hcz17_0); (try clear hcz17_1); (try clear hfz17_0); (try clear hfz17_1); (try clear hx191_0); (try clear hx191_1); (try clear hx193_0); (try clear hx193_1); (try clear p191); (try clear p193); (try clear p2); (try clear q191); (try clear q193)
      obtain ⟨x5_2, x7_2, rfl, HA, HK2, HO_5, BK187, HB⟩ := hrel
      cases gk with
      | zero => exact absurd HA.out (by simp [spec_l05Put.l1])
      | succ k2 =>
       have H := HA.out; clear HA
       simp only [spec_l05Put.l1] at H
       by_cases c19 : x7_2 < (l0.length : Int)
       ·rw [if_pos c19] at H
        have c19b0 : decide (x7_2 < (l0.length : Int)) = true := decide_eq_true c19
        clear c19
        by_cases c20 : 0 ≤ x7_2
        ·rw [if_pos c20] at H
         have c20b0 : decide (0 ≤ x7_2) = true := decide_eq_true c20
         clear c20
         obtain ⟨t201, A210, H⟩ := Option.bind_eq_some_iff.mp H; have A21 := Aside0.mk A210; clear A210
         by_cases c22 : t201 = true
         ·subst c22
          rw [if_pos rfl] at H
          by_cases c23 : x5_2.length < 8796093022208
          ·rw [if_pos c23] at H
           have LMc23 := Aside0.mk c23
           clear c23
           obtain ⟨y203, hy203⟩ : ∃ y_ : List (S112), y_ = (x5_2 ++ [(⟨(rd_T112 l0 x7_2).f0, (rd_T112 l0 x7_2).f1⟩ : S112)]) := ⟨_, rfl⟩
           replace H : (spec_l05Put.l1 k2 l0 y203 (wrap64 (x7_2 + 1)) a1_0 a1_1) = some r := by first | (rw [hy203]; with_reducible exact H) | (have H2_ := (Option.bind_some _ _).symm.trans H; rw [hy203]; with_reducible exact H2_) | (have H2_ := (Option.bind_some _ _).symm.trans H; with_reducible exact H2_) | with_reducible exact H | (rw [hy203]; exact H) | exact H
           have Ny203 := Aside0.mk hy203
           clear hy203; have H' := Aside0.mk H; clear H
           try go_wp2
           have n0_ := Aside0.mk (Kd.R_drew HO_5.out)
           have n1_ := Aside0.mk (blk_drew BK187.out)
           have n2_ := Aside0.mk (below_drew1 HB.out)
           clear HO_5; clear BK187; clear HB; have HO_5 := n0_; have BK187 := n1_; have HB := n2_; clear n0_ n1_ n2_
           have p200 : 0 ≤ (x7_2 : Int) := of_decide_eq_true qa_
           have q200 : x7_2 < (l0.length : Int) := of_decide_eq_true qa_
           obtain ⟨ad200, e200, hx200_0, hx200_1⟩ := at_T112 HR0.out x7_2 p200 q200
           have hw200_1 := hx200_1; have hw200_0 := hx200_0; cases e200
           replace hx200_0 := (HB.out.cell (World.block_lt_of_cell? w _ hx200_0)).trans hx200_0
           replace hx200_1 := (HB.out.cell (World.block_lt_of_cell? w _ hx200_1)).trans hx200_1
           replace p200 := eq_true p200; replace q200 := eq_true q200
           refine start_ (n := 6) (S := fun w' => w'.cell? ⟨gb187, 0, none⟩ = some (.int .i64 a1_0) ∧ w'.cell? ⟨gb187, 1, none⟩ = some (.int .i64 a1_1) ∧ w'.cell? (ad200.add ((x7_2).toNat * 2)) = some (.int .i64 ((rd_T112 l0 x7_2).f0)) ∧ w'.cell? ⟨(ad200.add ((x7_2).toNat * 2)).block, (ad200.add ((x7_2).toNat * 2)).off + 1, none⟩ = some (.int .i64 ((rd_T112 l0 x7_2).f1))) (ds := []) (bm 6 0) (by kernel_rfl) rfl (by kernel_rfl) ⟨(blk_cell BK187.out 0).trans rfl, (blk_cell BK187.out 1).trans rfl, ((HB.out.cell (World.block_lt_of_cell? w _ hw200_0)).trans hw200_0), ((HB.out.cell (World.block_lt_of_cell? w _ hw200_1)).trans hw200_1)⟩ (fun hHeld => ?_)
           generalize wr.drew = w24 at HO_5 BK187 HB hx200_0 hx200_1 hHeld ⊢
           refine pure_ (i := 1) (N := some 39) (v := ?_) (a' := ?_) (bm 6 2) rfl rfl (by kernel_rfl) (fun _ _ _ h => h) (Or.inl ⟨by rfl, ?_⟩) ?_ ?_
           rotate_left
           ·intro w'
            go_simp
            with_reducible rfl
           rotate_left
           ·simp only [Act.put, List.setIfInBounds_toArray, List.set_cons_zero, List.set_cons_succ, i64_w, i32_w]
            rfl
           refine pure_ (i := 2) (N := some 40) (v := ?_) (a' := ?_) (bm 6 6) rfl rfl (by kernel_rfl) (fun _ _ _ h => h) (Or.inl ⟨by rfl, ?_⟩) ?_ ?_
           rotate_left
           ·intro w'
            go_simp
            with_reducible rfl
           rotate_left
           ·simp only [Act.put, List.setIfInBounds_toArray, List.set_cons_zero, List.set_cons_succ, i64_w, i32_w]
            rfl
           refine pure_ (i := 3) (N := some 41) (v := ?_) (a' := ?_) (bm 6 14) rfl rfl (by kernel_rfl) (fun _ _ _ h => h) (Or.inl ⟨by rfl, ?_⟩) ?_ ?_
           rotate_left
           ·intro w'
            go_simp
            with_reducible rfl
           rotate_left
           ·simp only [Act.put, List.setIfInBounds_toArray, List.set_cons_zero, List.set_cons_succ, i64_w, i32_w]
            rfl
           refine take_ (i := 0) (N := some 38) (v := ?_) (a' := ?_) (bm 6 15) rfl rfl (by kernel_rfl) (fun _ _ _ h => h) (Or.inl ⟨by rfl, ?_⟩) hHeld ?_ ?_
           rotate_left
           ·rintro w' ⟨s0, s1, s2, s3⟩
            go_simp
            with_reducible rfl
           rotate_left
           ·simp only [Act.put, List.setIfInBounds_toArray, List.set_cons_zero, List.set_cons_succ, i64_w, i32_w]
            rfl
           refine take_ (i := 4) (N := some 42) (v := ?_) (a' := ?_) (bm 6 31) rfl rfl (by kernel_rfl) (fun _ _ _ h => h) (Or.inl ⟨by rfl, ?_⟩) hHeld ?_ ?_
           rotate_left
           ·rintro w' ⟨s0, s1, s2, s3⟩
            go_simp
            with_reducible rfl
           rotate_left
           ·simp only [Act.put, List.setIfInBounds_toArray, List.set_cons_zero, List.set_cons_succ, i64_w, i32_w]
            rfl
           refine one_ (i := 5) (N := some 43) (bm 6 63) rfl rfl (by kernel_rfl) (by decide) (fun K hK => ?_)
           refine goes_ Try.func111 (by kernel_rfl) rfl #[.agg #[.int .i64 a1_0, .int .i64 a1_1], .agg #[.int .i64 ((rd_T112 l0 x7_2).f0), .int .i64 ((rd_T112 l0 x7_2).f1)]] (by rfl) rfl rfl (by (try simp only [List.map_toArray, List.map_cons, List.map_nil]); first | done | rfl | (simp only [List.length_drop, List.length_take]; rfl)) ?_
           with_reducible refine (spec_l05Less.calls a1_0 a1_1 ((rd_T112 l0 x7_2).f0) ((rd_T112 l0 x7_2).f1) true _ A21.out).mono ?_
           rintro e w25 ⟨rfl, hb⟩
           refine ⟨_, rfl, ?_⟩
           have n0_ := Aside0.mk (Kd.R_below (qR_ HO_5) hb)
           have n1_ := Aside0.mk (blk_below (qk_ BK187) hb)
           have n2_ := Aside0.mk (below_step qB_ hb)
           clear HO_5; clear BK187; clear HB; have HO_5 := n0_; have BK187 := n1_; have HB := n2_; clear n0_ n1_ n2_; (try clear hb); (try clear hb2); (try clear hk); (try clear hi)
           refine hK.out _ _ ⟨(blk_cell BK187.out 0).trans rfl, (blk_cell BK187.out 1).trans rfl, ((HB.out.cell (World.block_lt_of_cell? w _ hw200_0)).trans hw200_0), ((HB.out.cell (World.block_lt_of_cell? w _ hw200_1)).trans hw200_1)⟩ (fun hHeld => ?_)
           clear hK K
           refine norm_ (a' := ?_) ?_ ?_
           rotate_left
           ·show Act.put _ (some 43) _ = _
            simp only [Act.put, List.setIfInBounds_toArray, List.set_cons_zero, List.set_cons_succ, i64_w, i32_w]
            rfl
           refine done_ (by kernel_rfl) ?_
           have p202 : 0 ≤ (x7_2 : Int) := of_decide_eq_true qa_
           have q202 : x7_2 < (l0.length : Int) := of_decide_eq_true qa_
           obtain ⟨ad202, e202, hx202_0, hx202_1⟩ := at_T112 HR0.out x7_2 p202 q202
           obtain rfl : ad200 = ad202 := (by injection e202)
           replace hx202_0 := (HB.out.cell (World.block_lt_of_cell? w _ hx202_0)).trans hx202_0
           replace hx202_1 := (HB.out.cell (World.block_lt_of_cell? w _ hx202_1)).trans hx202_1
           replace p202 := eq_true p202; replace q202 := eq_true q202
           try go_wp2_with (first | ((with_reducible refine gate_builtin (b := .append) (xs := #[.tmp 44, .tmp 49]) rfl ?_); at_builtin; refine Kd.R_append k112 (w0 := w) w.heap.size rfl (.tmp 44) (.tmp 49) 63 112 (.agg #[(.int .i64 0), (.int .i64 0)]) 16 rfl Try.underlying63 info112 rfl (by decide) (by omega) u5 x5_2 (⟨(rd_T112 l0 x7_2).f0, (rd_T112 l0 x7_2).f1⟩ : S112) [.int .i64 ((rd_T112 l0 x7_2).f0), .int .i64 ((rd_T112 l0 x7_2).f1)] (fun k_ => k_ ≠ gb187) (fun _ => False) rfl rfl ?aP (fun _ hk => hk.elim) ?aF ?aO ?aB ?aS ?aL ?_; (case aP => exact k112_mkM _ _ _ (⟨(rd_T112 l0 x7_2).f0, (rd_T112 l0 x7_2).f1⟩ : S112)); (case aB => exact qB_); (case aF => exact (fun k_ hk => Kd.freshB (qk_ BK187) k_ hk)); (case aO => exact (qR_ HO_5)); (case aS => exact (below_size qB_)); (case aL => have := LMc23.out; omega); intro v204 w26 ho hb hg hat; rw [← Ny203.out] at ho; have HO205 := Aside0.mk (ho); replace BK187 := Aside0.mk (blk_grown (qk_ BK187) hg (Kd.R_away HO_5.out (fun _ hk => hk))); replace HB := Aside0.mk (hb); clear HO_5; clear ho hb hg hat))
           go_roundg k2
           case measure => have := HK1.out; have := HK2.out; omega
           case rel => exact ⟨(y203), (wrap64 (x7_2 + 1)), qe_, H', ⟨by have := HK1.out; have := HK2.out; omega⟩, ⟨by (with_reducible repeat (first | apply Kd.R_alloc | apply Kd.R_drewN | apply Kd.R_drew)); first | exact HO205.out | (have h_ := HO205.out; simp only [own_slice] at h_ ⊢; exact h_)⟩, ⟨qk_ BK187⟩, ⟨qB_⟩⟩
          ·rw [if_neg c23] at H
           exact absurd H (by simp)
         ·replace c22 := Bool.eq_false_iff.mpr c22
          subst c22
          rw [if_neg (show ¬ (false = true) by decide)] at H; have H' := Aside0.mk H; clear H
          try go_wp2
          have n0_ := Aside0.mk (Kd.R_drew HO_5.out)
          have n1_ := Aside0.mk (blk_drew BK187.out)
          have n2_ := Aside0.mk (below_drew1 HB.out)
          clear HO_5; clear BK187; clear HB; have HO_5 := n0_; have BK187 := n1_; have HB := n2_; clear n0_ n1_ n2_
          have p200 : 0 ≤ (x7_2 : Int) := of_decide_eq_true qa_
          have q200 : x7_2 < (l0.length : Int) := of_decide_eq_true qa_
          obtain ⟨ad200, e200, hx200_0, hx200_1⟩ := at_T112 HR0.out x7_2 p200 q200
          have hw200_1 := hx200_1; have hw200_0 := hx200_0; cases e200
          replace hx200_0 := (HB.out.cell (World.block_lt_of_cell? w _ hx200_0)).trans hx200_0
          replace hx200_1 := (HB.out.cell (World.block_lt_of_cell? w _ hx200_1)).trans hx200_1
          replace p200 := eq_true p200; replace q200 := eq_true q200
          refine start_ (n := 6) (S := fun w' => w'.cell? ⟨gb187, 0, none⟩ = some (.int .i64 a1_0) ∧ w'.cell? ⟨gb187, 1, none⟩ = some (.int .i64 a1_1) ∧ w'.cell? (ad200.add ((x7_2).toNat * 2)) = some (.int .i64 ((rd_T112 l0 x7_2).f0)) ∧ w'.cell? ⟨(ad200.add ((x7_2).toNat * 2)).block, (ad200.add ((x7_2).toNat * 2)).off + 1, none⟩ = some (.int .i64 ((rd_T112 l0 x7_2).f1))) (ds := []) (bm 6 0) (by kernel_rfl) rfl (by kernel_rfl) ⟨(blk_cell BK187.out 0).trans rfl, (blk_cell BK187.out 1).trans rfl, ((HB.out.cell (World.block_lt_of_cell? w _ hw200_0)).trans hw200_0), ((HB.out.cell (World.block_lt_of_cell? w _ hw200_1)).trans hw200_1)⟩ (fun hHeld => ?_)
          generalize wr.drew = w27 at HO_5 BK187 HB hx200_0 hx200_1 hHeld ⊢
          refine pure_ (i := 1) (N := some 39) (v := ?_) (a' := ?_) (bm 6 2) rfl rfl (by kernel_rfl) (fun _ _ _ h => h) (Or.inl ⟨by rfl, ?_⟩) ?_ ?_
          rotate_left
          ·intro w'
           go_simp
           with_reducible rfl
          rotate_left
          ·simp only [Act.put, List.setIfInBounds_toArray, List.set_cons_zero, List.set_cons_succ, i64_w, i32_w]
           rfl
          refine pure_ (i := 2) (N := some 40) (v := ?_) (a' := ?_) (bm 6 6) rfl rfl (by kernel_rfl) (fun _ _ _ h => h) (Or.inl ⟨by rfl, ?_⟩) ?_ ?_
          rotate_left
          ·intro w'
           go_simp
           with_reducible rfl
          rotate_left
          ·simp only [Act.put, List.setIfInBounds_toArray, List.set_cons_zero, List.set_cons_succ, i64_w, i32_w]
           rfl
          refine pure_ (i := 3) (N := some 41) (v := ?_) (a' := ?_) (bm 6 14) rfl rfl (by kernel_rfl) (fun _ _ _ h => h) (Or.inl ⟨by rfl, ?_⟩) ?_ ?_
          rotate_left
          ·intro w'
           go_simp
           with_reducible rfl
          rotate_left
          ·simp only [Act.put, List.setIfInBounds_toArray, List.set_cons_zero, List.set_cons_succ, i64_w, i32_w]
           rfl
          refine take_ (i := 0) (N := some 38) (v := ?_) (a' := ?_) (bm 6 15) rfl rfl (by kernel_rfl) (fun _ _ _ h => h) (Or.inl ⟨by rfl, ?_⟩) hHeld ?_ ?_
          rotate_left
          ·rintro w' ⟨s0, s1, s2, s3⟩
           go_simp
           with_reducible rfl
          rotate_left
          ·simp only [Act.put, List.setIfInBounds_toArray, List.set_cons_zero, List.set_cons_succ, i64_w, i32_w]
           rfl
          refine take_ (i := 4) (N := some 42) (v := ?_) (a' := ?_) (bm 6 31) rfl rfl (by kernel_rfl) (fun _ _ _ h => h) (Or.inl ⟨by rfl, ?_⟩) hHeld ?_ ?_
          rotate_left
          ·rintro w' ⟨s0, s1, s2, s3⟩
           go_simp
           with_reducible rfl
          rotate_left
          ·simp only [Act.put, List.setIfInBounds_toArray, List.set_cons_zero, List.set_cons_succ, i64_w, i32_w]
           rfl
          refine one_ (i := 5) (N := some 43) (bm 6 63) rfl rfl (by kernel_rfl) (by decide) (fun K hK => ?_)
          refine goes_ Try.func111 (by kernel_rfl) rfl #[.agg #[.int .i64 a1_0, .int .i64 a1_1], .agg #[.int .i64 ((rd_T112 l0 x7_2).f0), .int .i64 ((rd_T112 l0 x7_2).f1)]] (by rfl) rfl rfl (by (try simp only [List.map_toArray, List.map_cons, List.map_nil]); first | done | rfl | (simp only [List.length_drop, List.length_take]; rfl)) ?_
          with_reducible refine (spec_l05Less.calls a1_0 a1_1 ((rd_T112 l0 x7_2).f0) ((rd_T112 l0 x7_2).f1) false _ A21.out).mono ?_
          rintro e w28 ⟨rfl, hb⟩
          refine ⟨_, rfl, ?_⟩
          have n0_ := Aside0.mk (Kd.R_below (qR_ HO_5) hb)
          have n1_ := Aside0.mk (blk_below (qk_ BK187) hb)
          have n2_ := Aside0.mk (below_step qB_ hb)
          clear HO_5; clear BK187; clear HB; have HO_5 := n0_; have BK187 := n1_; have HB := n2_; clear n0_ n1_ n2_; (try clear hb); (try clear hb2); (try clear hk); (try clear hi)
          refine hK.out _ _ ⟨(blk_cell BK187.out 0).trans rfl, (blk_cell BK187.out 1).trans rfl, ((HB.out.cell (World.block_lt_of_cell? w _ hw200_0)).trans hw200_0), ((HB.out.cell (World.block_lt_of_cell? w _ hw200_1)).trans hw200_1)⟩ (fun hHeld => ?_)
          clear hK K
          refine norm_ (a' := ?_) ?_ ?_
          rotate_left
          ·show Act.put _ (some 43) _ = _
           simp only [Act.put, List.setIfInBounds_toArray, List.set_cons_zero, List.set_cons_succ, i64_w, i32_w]
           rfl
          refine done_ (by kernel_rfl) ?_
          try go_wp2
          go_roundg k2
          case measure => have := HK1.out; have := HK2.out; omega
          case rel => exact ⟨(x5_2), (wrap64 (x7_2 + 1)), qe_, H', ⟨by have := HK1.out; have := HK2.out; omega⟩, ⟨by (with_reducible repeat (first | apply Kd.R_alloc | apply Kd.R_drewN | apply Kd.R_drew)); first | exact HO_5.out | (have h_ := HO_5.out; simp only [own_slice] at h_ ⊢; exact h_)⟩, ⟨qk_ BK187⟩, ⟨qB_⟩⟩
        ·rw [if_neg c20] at H
         exact absurd H (by simp)
       ·rw [if_neg c19] at H
        have c19b0 : decide (x7_2 < (l0.length : Int)) = false := decide_eq_false c19
        clear c19
        obtain rfl := Option.some.inj H
        go_wp2
        go_ret
        exact ⟨_, qr_, by (with_reducible repeat (first | apply Kd.R_alloc | apply Kd.R_drewN | apply Kd.R_drew)); exact Kd.R_mono HO_5.out (fun _ hk => trivial), qB_⟩
    ·rw [if_neg c16] at H
     exact absurd H (by simp)

end Go.Proofs.Ytacnlodcbbhahaa.QFnExactEdgesOf
