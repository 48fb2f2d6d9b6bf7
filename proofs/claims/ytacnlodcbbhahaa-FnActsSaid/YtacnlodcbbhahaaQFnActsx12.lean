import Derived.Test.YtacnlodcbbhahaaQFnActsx0
namespace Go.Proofs.Ytacnlodcbbhahaa.QFnActs
open Go.RowKit Go.Proofs.YtacnlodcbbhahaaW.PrintWords Go.Proofs.YtacnlodcbbhahaaW.PrintLast Go.Proofs.YtacnlodcbbhahaaW.PrintMore
set_option maxHeartbeats 8000000
set_option maxRecDepth 100000
set_option linter.unusedVariables false
set_option linter.unusedSimpArgs false
def spec_l03Without.l0 : Nat → ByteArray → Int → List (S99) → List (S99) → Option ((List (S99)))
  | 0, _, _, _, _ => none
  | k + 1, x1, x6, x172000, x174000 => if x6 < (x172000.length : Int) then (if 0 ≤ x6 then (if ((rd_T99 x172000 x6).f0).toList = x1.toList then (spec_l03Without.l0 k x1 (wrap64 (x6 + 1)) x172000 x174000) else (if x174000.length < 3518437208883 then (spec_l03Without.l0 k x1 (wrap64 (x6 + 1)) x172000 (x174000 ++ [(⟨(rd_T99 x172000 x6).f0, (rd_T99 x172000 x6).f1, (rd_T99 x172000 x6).f2⟩ : S99)])) else (none))) else (none)) else (some x174000)
def spec_l03Without.f (k : Nat) (l0_0 : List (S99)) (a1 : ByteArray) : Option ((List (S99))) := spec_l03Without.l0 k a1 0 l0_0 ([] : List (S99))
def spec_l03Without.T6 : Bool × List (List Nat × List Nat) := (true, [([], []), ([0], [0]), ([], []), ([2], [2]), ([], []), ([3, 4], [3, 4]), ([5], [5]), ([6], [6]), ([1, 7], [1, 7]), ([0, 1, 2, 3, 4, 5, 6, 7, 8], []), ([9, 8, 8, 0, 1, 2, 3, 4, 5, 6, 7, 8], [8, 9])])
def spec_l03Without.B6 : List Nat := [0, 1, 0, 4, 0, 28, 60, 124, 255, 511, 1023]
theorem spec_l03Without.tab6 : rtab .any (opsOf Try.f85 6) = spec_l03Without.T6 := by kernel_rfl
theorem spec_l03Without.bits6 : waitsOk spec_l03Without.T6.2 spec_l03Without.B6 = true := by kernel_rfl
theorem spec_l03Without.calls (k : Nat) (q : Option Addr) (l : Nat) (c : List (S99)) (D : ByteArray) (r : List (S99)) (w : World) (hr0_0 : Kd.C k99 w q c.length c) (hc0_0 : c.length ≤ l) (h : spec_l03Without.f k c D = some r) :
  Calls Try.prog 85 #[.agg #[.slice q c.length l], .string D] w fun e w' => ∃ M : Value, e = .returned (.agg #[M]) ∧ Kd.R k99 99 w' w.heap.size (fun _ => True) M r ∧ Below w.heap.size w w' := by
 have hu44 := Try.underlying44; have hu99 := Try.underlying99
 have o := am_ hr0_0
 have b0 := am_ hc0_0
 clear hr0_0 hc0_0
 have HB := am_ (Below.refl w.heap.size w)
 rw [spec_l03Without.f] at h; have H := h; clear h; have H' := am_ H; clear H
 go_enter Try.func85, Try.ntmps85
 go_wp2_with (first | ((with_reducible refine gd_ 2 ?_); refine by_ 2 (cs := #[.slice q c.length l]) (t := 44) ?_; intro c1 hg d7 g hb; have d8 := gw_ hg; replace HB := hs_ hb; clear hb hg) | ((with_reducible refine gd_ 4 ?_); refine by_ 4 (cs := #[.slice none 0 0]) (t := 44) ?_; intro b1 hg d9 m hb; have e0 := gw_ hg; obtain ⟨b2, e1⟩ := qn_ g hg; replace g := qbl_ g hb; replace HB := hs_ hb; clear hb hg) | ((with_reducible refine gd_ 5 ?_); refine by_ 5 (cs := #[.slice none 0 0]) (t := 44) ?_; intro a2 hg e2 j hb; have e3 := gw_ hg; obtain ⟨a3, c2⟩ := qn_ g hg; obtain ⟨d2, b3⟩ := qn_ m hg; replace g := qbl_ g hb; replace m := qbl_ m hb; replace HB := hs_ hb; clear hb hg; obtain ⟨e4, e5⟩ := nn_ c2; obtain ⟨e6, e7⟩ := nn_ b3; obtain ⟨d3, d4⟩ := bc1_ j))
 go_loopg [6] k (fun kq v6 w' => ∃ (a : Int) (B : List (S99)) (E : Value), v6 = .int .i64 a ∧ Aside0 (spec_l03Without.l0 kq D a c B = some r) ∧ Aside0 (kq ≤ k) ∧ Aside0 (Kd.R k99 99 w' w.heap.size (fun _ => True) E B) ∧ Aside0 (w'.heap[c1]? = some (.cells #[(.slice q c.length l)] 44 (0, 0))) ∧ Aside0 (w'.heap[b1]? = some (.cells #[(.slice none 0 0)] 44 (0, 0))) ∧ Aside0 (w'.heap[a2]? = some (.cells #[E] 44 (0, 0))) ∧ Aside0 (Below w.heap.size w w'))
 case atStart => exact ⟨(0), (([] : List (S99))), (.slice none 0 0), qe_, H', ⟨Nat.le_refl _⟩, ⟨by first | exact Kd.R_nil _ _ _ _ _ | exact Kd.N_nil _ _ _ _ _ | exact Kd.V_nil _ _ _ _ _ | exact Kd.Q_nil _ _ _ _ _ | exact Kd.S_nil _ _ _ _ _⟩, ⟨qf_ g⟩, ⟨qf_ m⟩, ⟨qp_ j⟩, ⟨qB_⟩⟩
 case round =>
  clear H' d3 d4
  obtain ⟨a, B, E, rfl, HA, HK1, s, g, m, j, HB⟩ := hrel
  cases gk with
  | zero => exact absurd HA.out (by simp [spec_l03Without.l0])
  | succ c3 =>
   have H := HA.out; clear HA
   simp only [spec_l03Without.l0] at H
   refine ib_ H ?_ ?_ <;> clear H <;> intro c4 H
   ·obtain rfl := oi_ H
    obtain ⟨f5, f6⟩ := nn_ b2; obtain ⟨f7, f8⟩ := nn_ a3
    obtain ⟨f9, g0⟩ := bc1_ g
    obtain ⟨g1, g2⟩ := nn_ b3
    obtain ⟨g3, g4⟩ := bc1_ j
    obtain ⟨c5, c6, d5⟩ := Kd.R_slice s.out
    subst d5
    obtain ⟨g5, g6⟩ := bc1_ m
    go_wp2
    refine bodyPost_ret (results_cell_row rfl _ _ b1 44 #[.slice c5 B.length c6] (0, 0) _ rfl (qp_ m) Try.underlying44 rfl (by kernel_rfl)) rfl ?_
    exact ⟨_, qr_, by (with_reducible repeat (first | apply Kd.R_alloc | apply Kd.R_drewN | apply Kd.R_drew)); exact Kd.R_mono (Kd.R_far (p := ⟨b1, 0, none⟩) (Kd.R_types s.out m.out (by decide)) (fun _ hk => hk.2) (.slice c5 B.length c6)) (fun _ hk => trivial), qB_⟩
   refine ig_ H ?_; clear H; intro b4 H
   refine jc_ H ?_ ?_ <;> clear H <;> intro u H
   ·have F : (((rd_T99 c a).f0).toList == D.toList) = true := beq_iff_eq.mpr u
    have G : (((rd_T99 c a).f0).toList != D.toList) = false := bne_eq_false_iff_eq.mpr u
    clear u; have H' := am_ H; clear H; obtain ⟨g7, g8⟩ := nn_ b2; obtain ⟨g9, h0⟩ := nn_ a3
    obtain ⟨h1, h2⟩ := bc1_ g
    have x := dt_ a
    have y := du_ a c.length
    obtain ⟨d, z, O, T, U⟩ := at_T99 o.out a (ot_ x) (ot_ y)
    cases z
    replace O := qx_ HB O
    replace T := qx_ HB T
    replace U := qx_ HB U
    go_wp2
    go_roundg c3
    case measure => have := HK1.out; omega
    case rel => exact ⟨(wrap64 (a + 1)), (B), (E), qe_, H', ⟨by have := HK1.out; omega⟩, ⟨ra_ s⟩, ⟨qk_ g⟩, ⟨qk_ m⟩, ⟨qk_ j⟩, ⟨qB_⟩⟩
   have F : (((rd_T99 c a).f0).toList == D.toList) = false := beq_eq_false_iff_ne.mpr u
   have G : (((rd_T99 c a).f0).toList != D.toList) = true := bne_iff_ne.mpr u
   refine jg_ H ?_; clear H; intro V H
   have I := am_ V
   clear V
   generalize A : (B ++ [(⟨(rd_T99 c a).f0, (rd_T99 c a).f1, (rd_T99 c a).f2⟩ : S99)]) = b5 at H; replace H := bh_ H; have J := am_ A.symm; clear A; have H' := am_ H; clear H; obtain ⟨h3, h4⟩ := nn_ b2; obtain ⟨h5, h6⟩ := nn_ a3
   obtain ⟨h7, h8⟩ := bc1_ g
   have x := dt_ a
   have y := du_ a c.length
   obtain ⟨d, z, O, T, U⟩ := at_T99 o.out a (ot_ x) (ot_ y)
   cases z
   replace O := qx_ HB O
   replace T := qx_ HB T
   replace U := qx_ HB U
   try go_wp2
   replace s := rd_ s; replace g := bd_ g; replace m := bd_ m; replace j := bd_ j; replace HB := hd_ HB
   have X := dt_ a
   have Y := du_ a c.length
   obtain ⟨L, Z, a4, a5, a6⟩ := at_T99 o.out a (ot_ X) (ot_ Y)
   have a7 := a6; have a8 := a5; have a9 := a4
   obtain rfl : d = L := (by injection Z)
   replace a4 := qx_ HB a4
   replace a5 := qx_ HB a5
   replace a6 := qx_ HB a6
   refine start_ (n := 11) (S := fun w' => w'.cell? ⟨a2, 0, none⟩ = some (E) ∧ w'.cell? ⟨c1, 0, none⟩ = some (.slice (some d) c.length l) ∧ w'.cell? (d.add ((a).toNat * 3)) = some (.string ((rd_T99 c a).f0)) ∧ w'.cell? ⟨(d.add ((a).toNat * 3)).block, (d.add ((a).toNat * 3)).off + 1, none⟩ = some (.string ((rd_T99 c a).f1)) ∧ w'.cell? ⟨(d.add ((a).toNat * 3)).block, (d.add ((a).toNat * 3)).off + 2, none⟩ = some (.int .i64 ((rd_T99 c a).f2))) (ds := [10]) (bm 11 0) (by kernel_rfl) rfl (by kernel_rfl) ⟨bl_ j 0, bl_ g 0, ((qx_ HB a9).trans rfl), ((qx_ HB a8).trans rfl), ((qx_ HB a7).trans rfl)⟩ (fun hHeld => ?_); refine with_tabW spec_l03Without.tab6 spec_l03Without.bits6 (fun HT_ HW_ => ?_)
   generalize wr.drew = d6 at s g m j HB a4 a5 a6 hHeld ⊢
   refine pz_ 0 23 11 1 ?_; refine pz_ 2 25 11 5 ?_; refine pz_ 4 27 11 21 ?_; refine tz5_ 1 24 11 23 ?_; refine tz5_ 3 26 11 31 ?_; refine pz_ 5 28 11 63 ?_; refine tz5_ 6 29 11 127 ?_
   refine o1_ 7 (some 30) 11 255 (fun K hK => ?_)
   refine value_ (w1 := ?_) (v := ?_) (by rfl) rfl ?_ ?_
   rotate_left 2
   ·go_simp
    constructor
    ·rfl
    rfl
   refine hK.out _ _ ⟨(blk_cell (blk_alloc j.out _) 0).trans rfl, (blk_cell (blk_alloc g.out _) 0).trans rfl, (World.cell?_alloc_lt _ _ _ (World.block_lt_of_cell? _ _ (((qx_ HB a9).trans rfl)))).trans (((qx_ HB a9).trans rfl)), (World.cell?_alloc_lt _ _ _ (World.block_lt_of_cell? _ _ (((qx_ HB a8).trans rfl)))).trans (((qx_ HB a8).trans rfl)), (World.cell?_alloc_lt _ _ _ (World.block_lt_of_cell? _ _ (((qx_ HB a7).trans rfl)))).trans (((qx_ HB a7).trans rfl))⟩ (fun hHeld => ?_)
   clear hK K
   refine nm_ 30 ?_
   refine o1_ 8 (some 31) 11 511 (fun K hK => ?_)
   refine Kd.R_append_step k99 (w0 := w) w.heap.size (by rfl) (.tmp 24) (.tmp 30) 42 99 (.agg #[(.string ⟨#[]⟩), (.string ⟨#[]⟩), (.int .i64 0)]) 40 rfl Try.underlying42 info99 rfl (by decide) (by omega) E B (⟨(rd_T99 c a).f0, (rd_T99 c a).f1, (rd_T99 c a).f2⟩ : S99) [.string ((rd_T99 c a).f0), .string ((rd_T99 c a).f1), .int .i64 ((rd_T99 c a).f2)] (fun _ => True) (fun _ => False) rfl rfl ?aP (fun _ hk => hk.elim) ?aF ?aO ?aB ?aS ?aL ?_
   (case aP => exact k99_mkM _ _ _ (⟨(rd_T99 c a).f0, (rd_T99 c a).f1, (rd_T99 c a).f2⟩ : S99))
   (case aB => exact qB_)
   (case aF => exact (fun _ _ => trivial))
   (case aO => exact (qR_ s))
   (case aS => exact (below_size qB_))
   (case aL => have := I.out; omega)
   intro h9 b6 ho hb hg hat
   rw [← J.out] at ho
   have c7 := am_ (ho); replace g := am_ (blk_grown (qk_ g) hg (Kd.R_ne s.out g.out (by decide))); replace m := am_ (blk_grown (qk_ m) hg (Kd.R_ne s.out m.out (by decide))); replace j := am_ (blk_grown (qk_ j) hg (Kd.R_ne s.out j.out (by decide))); replace HB := am_ (hb); clear s ho hb hg hat
   obtain ⟨c8, c9, d0⟩ := Kd.R_slice c7.out
   (first | subst d0 | (injection d0 with a0 b7 a1; have b8 := a0.symm; have b9 := a1.symm; clear a0 b7 a1; subst b8; subst b9))
   refine hK.out _ _ ⟨bl_ j 0, bl_ g 0, ((qx_ HB a9).trans rfl), ((qx_ HB a8).trans rfl), ((qx_ HB a7).trans rfl)⟩ (fun hHeld => ?_)
   clear hK K
   refine nm_ 31 ?_
   refine pz_ 9 32 11 1023 ?_
   refine last_ (i := 10) (N := none) (bm 11 2047) rfl rfl (one_of HT_.out (by kernel_rfl)) (by decide) (fun K hK => ?_)
   have d1 : b6.cell? ⟨a2, 0, none⟩ = some (E) := bl_ j 0
   have c0 := blk_frozen j.out 0
   have i0 := a3.out; have i1 := d2.out; have i2 := c2.out; have i3 := b3.out
   refine skip_ (w1 := ?_) (by rfl) rfl ?_ ?_
   rotate_left
   ·go_simp
    rfl
   refine hK.out _ _ ?_
   clear hK K
   refine done_ (done_of HT_.out (by kernel_rfl)) ?_
   try go_wp2
   go_roundg c3
   case measure => have := HK1.out; omega
   case rel => exact ⟨(wrap64 (a + 1)), (b5), (.slice c8 b5.length c9), qe_, H', ⟨by have := HK1.out; omega⟩, ⟨by (with_reducible repeat (first | apply Kd.R_alloc | apply Kd.R_drewN | apply Kd.R_drew)); exact Kd.R_mono (Kd.R_far (p := ⟨a2, 0, none⟩) (Kd.R_types c7.out j.out (by decide)) (fun _ hk => hk.2) (.slice c8 b5.length c9)) (fun _ hk => trivial)⟩, ⟨qf_ g⟩, ⟨qf_ m⟩, ⟨qp_ j⟩, ⟨qB_⟩⟩
end Go.Proofs.Ytacnlodcbbhahaa.QFnActs
