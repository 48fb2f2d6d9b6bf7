import Derived.Test.YtacnlodcbbhahaaQFnActsx0
namespace Go.Proofs.Ytacnlodcbbhahaa.QFnActs
open Go.RowKit Go.Proofs.YtacnlodcbbhahaaW.PrintWords Go.Proofs.YtacnlodcbbhahaaW.PrintLast Go.Proofs.YtacnlodcbbhahaaW.PrintMore
set_option maxHeartbeats 8000000
set_option maxRecDepth 100000
set_option linter.unusedVariables false
set_option linter.unusedSimpArgs false
mutual
def spec_l03Put.l0 : Nat → Int → List (S99) → ByteArray → ByteArray → Int → List (S99) → Option ((List (S99)))
  | 0, _, _, _, _, _, _ => none
  | k + 1, x6, x155000, x156000, x156001, x156002, x158000 => if x6 < (x155000.length : Int) then (if 0 ≤ x6 then (if (Op.bytesLess (((rd_T99 x155000 x6).f0).toList) x156000.toList) = true then (if x158000.length < 3518437208883 then (spec_l03Put.l0 k (wrap64 (x6 + 1)) x155000 x156000 x156001 x156002 (x158000 ++ [(⟨(rd_T99 x155000 x6).f0, (rd_T99 x155000 x6).f1, (rd_T99 x155000 x6).f2⟩ : S99)])) else (none)) else (spec_l03Put.l0 k (wrap64 (x6 + 1)) x155000 x156000 x156001 x156002 x158000)) else (none)) else (if x158000.length < 3518437208883 then (spec_l03Put.l1 k 0 x155000 x156000 x156001 x156002 (x158000 ++ [(⟨x156000, x156001, x156002⟩ : S99)])) else (none))
def spec_l03Put.l1 : Nat → Int → List (S99) → ByteArray → ByteArray → Int → List (S99) → Option ((List (S99)))
  | 0, _, _, _, _, _, _ => none
  | k + 1, x7, x155000, x156000, x156001, x156002, x158000 => if x7 < (x155000.length : Int) then (if 0 ≤ x7 then (if ((Op.bytesLess (((rd_T99 x155000 x7).f0).toList) x156000.toList || ((((rd_T99 x155000 x7).f0).toList) == x156000.toList)) = true) then (spec_l03Put.l1 k (wrap64 (x7 + 1)) x155000 x156000 x156001 x156002 x158000) else (if x158000.length < 3518437208883 then (spec_l03Put.l1 k (wrap64 (x7 + 1)) x155000 x156000 x156001 x156002 (x158000 ++ [(⟨(rd_T99 x155000 x7).f0, (rd_T99 x155000 x7).f1, (rd_T99 x155000 x7).f2⟩ : S99)])) else (none))) else (none)) else (some x158000)
end
def spec_l03Put.f (k : Nat) (l0_0 : List (S99)) (a1_0 : ByteArray) (a1_1 : ByteArray) (a1_2 : Int) : Option ((List (S99))) := spec_l03Put.l0 k 0 l0_0 a1_0 a1_1 a1_2 ([] : List (S99))
def spec_l03Put.T5 : Bool × List (List Nat × List Nat) := (true, [([], []), ([0], [0]), ([], []), ([1, 2], [1, 2]), ([3], [3]), ([4], [4]), ([], []), ([6], [6]), ([5, 7], [5, 7])])
def spec_l03Put.B5 : List Nat := [0, 1, 0, 7, 15, 31, 0, 64, 255]
theorem spec_l03Put.tab5 : rtab .any (opsOf Try.f84 5) = spec_l03Put.T5 := by kernel_rfl
theorem spec_l03Put.bits5 : waitsOk spec_l03Put.T5.2 spec_l03Put.B5 = true := by kernel_rfl
def spec_l03Put.T6 : Bool × List (List Nat × List Nat) := (true, [([], []), ([0], [0]), ([], []), ([2], [2]), ([], []), ([3, 4], [3, 4]), ([5], [5]), ([6], [6]), ([1, 7], [1, 7]), ([0, 1, 2, 3, 4, 5, 6, 7, 8], []), ([9, 8, 8, 0, 1, 2, 3, 4, 5, 6, 7, 8], [8, 9])])
def spec_l03Put.B6 : List Nat := [0, 1, 0, 4, 0, 28, 60, 124, 255, 511, 1023]
theorem spec_l03Put.tab6 : rtab .any (opsOf Try.f84 6) = spec_l03Put.T6 := by kernel_rfl
theorem spec_l03Put.bits6 : waitsOk spec_l03Put.T6.2 spec_l03Put.B6 = true := by kernel_rfl
def spec_l03Put.T11 : Bool × List (List Nat × List Nat) := (true, [([], []), ([0], [0]), ([], []), ([1, 2], [1, 2]), ([3], [3]), ([4], [4]), ([], []), ([6], [6]), ([5, 7], [5, 7])])
def spec_l03Put.B11 : List Nat := [0, 1, 0, 7, 15, 31, 0, 64, 255]
theorem spec_l03Put.tab11 : rtab .any (opsOf Try.f84 11) = spec_l03Put.T11 := by kernel_rfl
theorem spec_l03Put.bits11 : waitsOk spec_l03Put.T11.2 spec_l03Put.B11 = true := by kernel_rfl
def spec_l03Put.T12 : Bool × List (List Nat × List Nat) := (true, [([], []), ([0], [0]), ([], []), ([2], [2]), ([], []), ([3, 4], [3, 4]), ([5], [5]), ([6], [6]), ([1, 7], [1, 7]), ([0, 1, 2, 3, 4, 5, 6, 7, 8], []), ([9, 8, 8, 0, 1, 2, 3, 4, 5, 6, 7, 8], [8, 9])])
def spec_l03Put.B12 : List Nat := [0, 1, 0, 4, 0, 28, 60, 124, 255, 511, 1023]
theorem spec_l03Put.tab12 : rtab .any (opsOf Try.f84 12) = spec_l03Put.T12 := by kernel_rfl
theorem spec_l03Put.bits12 : waitsOk spec_l03Put.T12.2 spec_l03Put.B12 = true := by kernel_rfl
theorem spec_l03Put.calls (k : Nat) (D : Option Addr) (z : Nat) (a : List (S99)) (l : ByteArray) (s : ByteArray) (u : Int) (r : List (S99)) (w : World) (hr0_0 : Kd.C k99 w D a.length a) (hc0_0 : a.length ≤ z) (h : spec_l03Put.f k a l s u = some r) :
  Calls Try.prog 84 #[.agg #[.slice D a.length z], .agg #[.string l, .string s, .int .i64 u]] w fun e w' => ∃ d2 : Value, e = .returned (.agg #[d2]) ∧ Kd.R k99 99 w' w.heap.size (fun _ => True) d2 r ∧ Below w.heap.size w w' := by
 have hu44 := Try.underlying44; have hu99 := Try.underlying99
 have A := am_ hr0_0
 have f7 := am_ hc0_0
 clear hr0_0 hc0_0
 have HB := am_ (Below.refl w.heap.size w)
 rw [spec_l03Put.f] at h; have H := h; clear h; have H' := am_ H; clear H
 go_enter Try.func84, Try.ntmps84
 go_wp2_with (first | ((with_reducible refine gd_ 2 ?_); refine by_ 2 (cs := #[.slice D a.length z]) (t := 44) ?_; intro a8 hg o3 m hb; have o4 := gw_ hg; replace HB := hs_ hb; clear hb hg) | ((with_reducible refine gd_ 3 ?_); refine by_ 3 (cs := #[.string l, .string s, .int .i64 u]) (t := 99) ?_; intro B hg o5 o hb; have o6 := gw_ hg; obtain ⟨d0, o7⟩ := qn_ m hg; replace m := qbl_ m hb; replace HB := hs_ hb; clear hb hg) | ((with_reducible refine gd_ 4 ?_); refine by_ 4 (cs := #[.slice none 0 0]) (t := 44) ?_; intro e3 hg o8 x hb; have o9 := gw_ hg; obtain ⟨d1, p0⟩ := qn_ m hg; obtain ⟨j7, j8⟩ := qn_ o hg; replace m := qbl_ m hb; replace o := qbl_ o hb; replace HB := hs_ hb; clear hb hg) | ((with_reducible refine gd_ 5 ?_); refine by_ 5 (cs := #[.slice none 0 0]) (t := 44) ?_; intro a3 hg p1 q hb; have p2 := gw_ hg; obtain ⟨a9, f8⟩ := qn_ m hg; obtain ⟨h6, d3⟩ := qn_ o hg; obtain ⟨h7, d4⟩ := qn_ x hg; replace m := qbl_ m hb; replace o := qbl_ o hb; replace x := qbl_ x hb; replace HB := hs_ hb; clear hb hg; obtain ⟨p3, p4⟩ := nn_ f8; obtain ⟨p5, p6⟩ := nn_ d3; obtain ⟨p7, p8⟩ := nn_ d4; obtain ⟨h8, h9⟩ := bc1_ q))
 go_loopg [6] k (fun kq v6 w' => ∃ (d : Int) (b0 : List (S99)) (E : Value), v6 = .int .i64 d ∧ Aside0 (spec_l03Put.l0 kq d a l s u b0 = some r) ∧ Aside0 (kq ≤ k) ∧ Aside0 (Kd.R k99 99 w' w.heap.size (fun k_ => k_ ≠ B) E b0) ∧ Aside0 (w'.heap[a8]? = some (.cells #[(.slice D a.length z)] 44 (0, 0))) ∧ Aside0 (w'.heap[B]? = some (.cells #[.string l, .string s, .int .i64 u] 99 (0, 0))) ∧ Aside0 (w'.heap[e3]? = some (.cells #[(.slice none 0 0)] 44 (0, 0))) ∧ Aside0 (w'.heap[a3]? = some (.cells #[E] 44 (0, 0))) ∧ Aside0 (Below w.heap.size w w'))
 case atStart => exact ⟨(0), (([] : List (S99))), (.slice none 0 0), qe_, H', ⟨Nat.le_refl _⟩, ⟨by first | exact Kd.R_nil _ _ _ _ _ | exact Kd.N_nil _ _ _ _ _ | exact Kd.V_nil _ _ _ _ _ | exact Kd.Q_nil _ _ _ _ _ | exact Kd.S_nil _ _ _ _ _⟩, ⟨qf_ m⟩, ⟨qf_ o⟩, ⟨qf_ x⟩, ⟨qp_ q⟩, ⟨qB_⟩⟩
 case round =>
  clear H' h8 h9
  obtain ⟨d, b0, E, rfl, HA, HK1, y, m, o, x, q, HB⟩ := hrel
  cases gk with
  | zero => exact absurd HA.out (by simp [spec_l03Put.l0])
  | succ e4 =>
   have H := HA.out; clear HA
   simp only [spec_l03Put.l0] at H
   refine ic_ H ?_ ?_ <;> clear H <;> intro b4 H
   ·refine ig_ H ?_; clear H; intro b5 H
    refine jb_ H ?_ ?_ <;> clear H <;> intro I H
    ·have J : (Op.bytesLess (((rd_T99 a d).f0).toList) l.toList) = false := by simpa using I
     clear I; have H' := am_ H; clear H; obtain ⟨p9, q0⟩ := nn_ d0; obtain ⟨q1, q2⟩ := nn_ d1; obtain ⟨q3, q4⟩ := nn_ a9
     obtain ⟨k2, k3⟩ := bc1_ m
     try go_wp2
     replace y := rd_ y; replace m := bd_ m; replace o := bd_ o; replace x := bd_ x; replace q := bd_ q; replace HB := hd_ HB
     have F := dt_ d
     have G := du_ d a.length
     obtain ⟨g, L, a0, a1, a2⟩ := at_T99 A.out d (ot_ F) (ot_ G)
     have f9 := a2; have g0 := a1; have g1 := a0; cases L
     replace a0 := qx_ HB a0
     replace a1 := qx_ HB a1
     replace a2 := qx_ HB a2
     refine start_ (n := 9) (S := fun w' => w'.cell? ⟨a8, 0, none⟩ = some (.slice (some g) a.length z) ∧ w'.cell? ⟨B, 0, none⟩ = some (.string l) ∧ w'.cell? ⟨B, 1, none⟩ = some (.string s) ∧ w'.cell? ⟨B, 2, none⟩ = some (.int .i64 u) ∧ w'.cell? (g.add ((d).toNat * 3)) = some (.string ((rd_T99 a d).f0)) ∧ w'.cell? ⟨(g.add ((d).toNat * 3)).block, (g.add ((d).toNat * 3)).off + 1, none⟩ = some (.string ((rd_T99 a d).f1)) ∧ w'.cell? ⟨(g.add ((d).toNat * 3)).block, (g.add ((d).toNat * 3)).off + 2, none⟩ = some (.int .i64 ((rd_T99 a d).f2))) (ds := []) (bm 9 0) (by kernel_rfl) rfl (by kernel_rfl) ⟨bl_ m 0, bl_ o 0, bl_ o 1, bl_ o 2, ((qx_ HB g1).trans rfl), ((qx_ HB g0).trans rfl), ((qx_ HB f9).trans rfl)⟩ (fun hHeld => ?_); refine with_tabW spec_l03Put.tab5 spec_l03Put.bits5 (fun HT_ HW_ => ?_)
     generalize wr.drew = k4 at y m o x q HB a0 a1 a2 hHeld ⊢
     refine pz_ 0 16 9 1 ?_; refine pz_ 2 18 9 5 ?_; refine pz_ 6 22 9 69 ?_; refine tz7_ 1 17 9 71 ?_; refine pz_ 3 19 9 79 ?_; refine pz_ 4 20 9 95 ?_; refine tz7_ 5 21 9 127 ?_; refine tz7_ 7 23 9 255 ?_; refine pz_ 8 24 9 511 ?_
     refine done_ (done_of HT_.out (by kernel_rfl)) ?_
     try go_wp2
     go_roundg e4
     case measure => have := HK1.out; omega
     case rel => exact ⟨(wrap64 (d + 1)), (b0), (E), qe_, H', ⟨by have := HK1.out; omega⟩, ⟨ra_ y⟩, ⟨qk_ m⟩, ⟨qk_ o⟩, ⟨qk_ x⟩, ⟨qk_ q⟩, ⟨qB_⟩⟩
    have J : (Op.bytesLess (((rd_T99 a d).f0).toList) l.toList) = true := I
    clear I
    refine jg_ H ?_; clear H; intro b6 H
    have b7 := am_ b6
    clear b6
    generalize M : (b0 ++ [(⟨(rd_T99 a d).f0, (rd_T99 a d).f1, (rd_T99 a d).f2⟩ : S99)]) = g2 at H; replace H := bh_ H; have b8 := am_ M.symm; clear M; have H' := am_ H; clear H; obtain ⟨q5, q6⟩ := nn_ d0; obtain ⟨q7, q8⟩ := nn_ d1; obtain ⟨q9, r0⟩ := nn_ a9
    obtain ⟨k5, k6⟩ := bc1_ m
    try go_wp2
    replace y := rd_ y; replace m := bd_ m; replace o := bd_ o; replace x := bd_ x; replace q := bd_ q; replace HB := hd_ HB
    have F := dt_ d
    have G := du_ d a.length
    obtain ⟨g, L, a0, a1, a2⟩ := at_T99 A.out d (ot_ F) (ot_ G)
    have f9 := a2; have g0 := a1; have g1 := a0; cases L
    replace a0 := qx_ HB a0
    replace a1 := qx_ HB a1
    replace a2 := qx_ HB a2
    refine start_ (n := 9) (S := fun w' => w'.cell? ⟨a8, 0, none⟩ = some (.slice (some g) a.length z) ∧ w'.cell? ⟨B, 0, none⟩ = some (.string l) ∧ w'.cell? ⟨B, 1, none⟩ = some (.string s) ∧ w'.cell? ⟨B, 2, none⟩ = some (.int .i64 u) ∧ w'.cell? (g.add ((d).toNat * 3)) = some (.string ((rd_T99 a d).f0)) ∧ w'.cell? ⟨(g.add ((d).toNat * 3)).block, (g.add ((d).toNat * 3)).off + 1, none⟩ = some (.string ((rd_T99 a d).f1)) ∧ w'.cell? ⟨(g.add ((d).toNat * 3)).block, (g.add ((d).toNat * 3)).off + 2, none⟩ = some (.int .i64 ((rd_T99 a d).f2))) (ds := []) (bm 9 0) (by kernel_rfl) rfl (by kernel_rfl) ⟨bl_ m 0, bl_ o 0, bl_ o 1, bl_ o 2, ((qx_ HB g1).trans rfl), ((qx_ HB g0).trans rfl), ((qx_ HB f9).trans rfl)⟩ (fun hHeld => ?_); refine with_tabW spec_l03Put.tab5 spec_l03Put.bits5 (fun HT_ HW_ => ?_)
    generalize wr.drew = g3 at y m o x q HB a0 a1 a2 hHeld ⊢
    refine pz_ 0 16 9 1 ?_; refine pz_ 2 18 9 5 ?_; refine pz_ 6 22 9 69 ?_; refine tz7_ 1 17 9 71 ?_; refine pz_ 3 19 9 79 ?_; refine pz_ 4 20 9 95 ?_; refine tz7_ 5 21 9 127 ?_; refine tz7_ 7 23 9 255 ?_; refine pz_ 8 24 9 511 ?_
    refine done_ (done_of HT_.out (by kernel_rfl)) ?_
    try go_wp2
    replace y := rd_ y; replace m := bd_ m; replace o := bd_ o; replace x := bd_ x; replace q := bd_ q; replace HB := hd_ HB
    have b1 := dt_ d
    have b2 := du_ d a.length
    obtain ⟨b9, d5, d6, d7, d8⟩ := at_T99 A.out d (ot_ b1) (ot_ b2)
    have e5 := d8; have e6 := d7; have e7 := d6
    obtain rfl : g = b9 := (by injection d5)
    replace d6 := qx_ HB d6
    replace d7 := qx_ HB d7
    replace d8 := qx_ HB d8
    refine start_ (n := 11) (S := fun w' => w'.cell? ⟨a3, 0, none⟩ = some (E) ∧ w'.cell? ⟨a8, 0, none⟩ = some (.slice (some g) a.length z) ∧ w'.cell? (g.add ((d).toNat * 3)) = some (.string ((rd_T99 a d).f0)) ∧ w'.cell? ⟨(g.add ((d).toNat * 3)).block, (g.add ((d).toNat * 3)).off + 1, none⟩ = some (.string ((rd_T99 a d).f1)) ∧ w'.cell? ⟨(g.add ((d).toNat * 3)).block, (g.add ((d).toNat * 3)).off + 2, none⟩ = some (.int .i64 ((rd_T99 a d).f2))) (ds := [10]) (bm 11 0) (by kernel_rfl) rfl (by kernel_rfl) ⟨bl_ q 0, bl_ m 0, ((qx_ HB e7).trans rfl), ((qx_ HB e6).trans rfl), ((qx_ HB e5).trans rfl)⟩ (fun hHeld => ?_); refine with_tabW spec_l03Put.tab6 spec_l03Put.bits6 (fun HT_ HW_ => ?_)
    generalize g3.drew = k7 at y m o x q HB d6 d7 d8 hHeld ⊢
    refine pz_ 0 25 11 1 ?_; refine pz_ 2 27 11 5 ?_; refine pz_ 4 29 11 21 ?_; refine tz5_ 1 26 11 23 ?_; refine tz5_ 3 28 11 31 ?_; refine pz_ 5 30 11 63 ?_; refine tz5_ 6 31 11 127 ?_
    refine o1_ 7 (some 32) 11 255 (fun K hK => ?_)
    refine value_ (w1 := ?_) (v := ?_) (by rfl) rfl ?_ ?_
    rotate_left 2
    ·go_simp
     constructor
     ·rfl
     rfl
    refine hK.out _ _ ⟨(blk_cell (blk_alloc q.out _) 0).trans rfl, (blk_cell (blk_alloc m.out _) 0).trans rfl, (World.cell?_alloc_lt _ _ _ (World.block_lt_of_cell? _ _ (((qx_ HB e7).trans rfl)))).trans (((qx_ HB e7).trans rfl)), (World.cell?_alloc_lt _ _ _ (World.block_lt_of_cell? _ _ (((qx_ HB e6).trans rfl)))).trans (((qx_ HB e6).trans rfl)), (World.cell?_alloc_lt _ _ _ (World.block_lt_of_cell? _ _ (((qx_ HB e5).trans rfl)))).trans (((qx_ HB e5).trans rfl))⟩ (fun hHeld => ?_)
    clear hK K
    refine nm_ 32 ?_
    refine o1_ 8 (some 33) 11 511 (fun K hK => ?_)
    refine Kd.R_append_step k99 (w0 := w) w.heap.size (by rfl) (.tmp 26) (.tmp 32) 42 99 (.agg #[(.string ⟨#[]⟩), (.string ⟨#[]⟩), (.int .i64 0)]) 40 rfl Try.underlying42 info99 rfl (by decide) (by omega) E b0 (⟨(rd_T99 a d).f0, (rd_T99 a d).f1, (rd_T99 a d).f2⟩ : S99) [.string ((rd_T99 a d).f0), .string ((rd_T99 a d).f1), .int .i64 ((rd_T99 a d).f2)] (fun k_ => k_ ≠ B) (fun _ => False) rfl rfl ?aP (fun _ hk => hk.elim) ?aF ?aO ?aB ?aS ?aL ?_
    (case aP => exact k99_mkM _ _ _ (⟨(rd_T99 a d).f0, (rd_T99 a d).f1, (rd_T99 a d).f2⟩ : S99))
    (case aB => exact qB_)
    (case aF => exact (fun k_ hk => Kd.freshB (qk_ o) k_ hk))
    (case aO => exact (qR_ y))
    (case aS => exact (below_size qB_))
    (case aL => have := b7.out; omega)
    intro r1 g4 ho hb hg hat
    rw [← b8.out] at ho
    have i1 := am_ (ho); replace m := am_ (blk_grown (qk_ m) hg (Kd.R_ne y.out m.out (by decide))); replace o := am_ (blk_grown (qk_ o) hg (Kd.R_away y.out (fun _ hk => hk))); replace x := am_ (blk_grown (qk_ x) hg (Kd.R_ne y.out x.out (by decide))); replace q := am_ (blk_grown (qk_ q) hg (Kd.R_ne y.out q.out (by decide))); replace HB := am_ (hb); clear y ho hb hg hat
    obtain ⟨i2, i3, i4⟩ := Kd.R_slice i1.out
    (first | subst i4 | (injection i4 with O c0 T; have c1 := O.symm; have c2 := T.symm; clear O c0 T; subst c1; subst c2))
    refine hK.out _ _ ⟨bl_ q 0, bl_ m 0, ((qx_ HB e7).trans rfl), ((qx_ HB e6).trans rfl), ((qx_ HB e5).trans rfl)⟩ (fun hHeld => ?_)
    clear hK K
    refine nm_ 33 ?_
    refine pz_ 9 34 11 1023 ?_
    refine last_ (i := 10) (N := none) (bm 11 2047) rfl rfl (one_of HT_.out (by kernel_rfl)) (by decide) (fun K hK => ?_)
    have i5 : g4.cell? ⟨a3, 0, none⟩ = some (E) := bl_ q 0
    have g5 := blk_frozen q.out 0
    have r2 := a9.out; have r3 := h6.out; have r4 := h7.out; have r5 := f8.out; have r6 := d3.out; have r7 := d4.out
    refine skip_ (w1 := ?_) (by rfl) rfl ?_ ?_
    rotate_left
    ·go_simp
     rfl
    refine hK.out _ _ ?_
    clear hK K
    refine done_ (done_of HT_.out (by kernel_rfl)) ?_
    try go_wp2
    go_roundg e4
    case measure => have := HK1.out; omega
    case rel => exact ⟨(wrap64 (d + 1)), (g2), (.slice i2 g2.length i3), qe_, H', ⟨by have := HK1.out; omega⟩, ⟨by (with_reducible repeat (first | apply Kd.R_alloc | apply Kd.R_drewN | apply Kd.R_drew)); exact Kd.R_mono (Kd.R_far (p := ⟨a3, 0, none⟩) (Kd.R_types i1.out q.out (by decide)) (fun _ hk => hk.2) (.slice i2 g2.length i3)) (fun _ hk => hk.1)⟩, ⟨qf_ m⟩, ⟨qf_ o⟩, ⟨qf_ x⟩, ⟨qp_ q⟩, ⟨qB_⟩⟩
   refine jg_ H ?_; clear H; intro c3 H
   have c4 := am_ c3
   clear c3
   generalize U : (b0 ++ [(⟨l, s, u⟩ : S99)]) = g6 at H; replace H := bh_ H; have c5 := am_ U.symm; clear U; have H' := am_ H; clear H; obtain ⟨r8, r9⟩ := nn_ d0; obtain ⟨s0, s1⟩ := nn_ d1; obtain ⟨s2, s3⟩ := nn_ a9
   obtain ⟨k8, k9⟩ := bc1_ m
   obtain ⟨s4, s5⟩ := nn_ d3; obtain ⟨s6, s7⟩ := nn_ d4
   obtain ⟨l2, l3⟩ := bc1_ q
   obtain ⟨s8, s9⟩ := nn_ j7
   obtain ⟨l4, l5, l6, l7, l8, l9⟩ := bc3_ o
   go_wp2_with (first | ((with_reducible refine gate_builtin (b := .append) (xs := #[.tmp 36, .tmp 38]) rfl ?_); at_builtin; refine Kd.R_append k99 (w0 := w) w.heap.size rfl (.tmp 36) (.tmp 38) 42 99 (.agg #[(.string ⟨#[]⟩), (.string ⟨#[]⟩), (.int .i64 0)]) 40 rfl Try.underlying42 info99 rfl (by decide) (by omega) E b0 (⟨l, s, u⟩ : S99) [.string l, .string s, .int .i64 u] (fun k_ => k_ ≠ B) (fun _ => False) rfl rfl ?aP (fun _ hk => hk.elim) ?aF ?aO ?aB ?aS ?aL ?_; (case aP => exact k99_mkM _ _ _ (⟨l, s, u⟩ : S99)); (case aB => exact qB_); (case aF => exact (fun k_ hk => Kd.freshB (qk_ o) k_ hk)); (case aO => exact (qR_ y)); (case aS => exact (below_size qB_)); (case aL => have := c4.out; omega); intro t0 m0 ho hb hg hat; rw [← c5.out] at ho; have i6 := am_ (ho); replace m := am_ (blk_grown (qk_ m) hg (Kd.R_ne y.out m.out (by decide))); replace o := am_ (blk_grown (qk_ o) hg (Kd.R_away y.out (fun _ hk => hk))); replace x := am_ (blk_grown (qk_ x) hg (Kd.R_ne y.out x.out (by decide))); replace q := am_ (blk_grown (qk_ q) hg (Kd.R_ne y.out q.out (by decide))); replace HB := am_ (hb); clear y ho hb hg hat; obtain ⟨i7, i8, m1⟩ := Kd.R_slice i6.out; subst m1; obtain ⟨m2, m3⟩ := bc1_ q))
   go_loopg [7] e4 (fun kq v7 w' => ∃ (c : Int) (b3 : List (S99)) (E : Value), v7 = .int .i64 c ∧ Aside0 (spec_l03Put.l1 kq c a l s u b3 = some r) ∧ Aside0 (kq ≤ e4) ∧ Aside0 (Kd.R k99 99 w' w.heap.size (fun k_ => k_ ≠ B) E b3) ∧ Aside0 (w'.heap[a8]? = some (.cells #[(.slice D a.length z)] 44 (0, 0))) ∧ Aside0 (w'.heap[B]? = some (.cells #[.string l, .string s, .int .i64 u] 99 (0, 0))) ∧ Aside0 (w'.heap[e3]? = some (.cells #[(.slice none 0 0)] 44 (0, 0))) ∧ Aside0 (w'.heap[a3]? = some (.cells #[E] 44 (0, 0))) ∧ Aside0 (Below w.heap.size w w'))
   case atStart => exact ⟨(0), (g6), (.slice i7 g6.length i8), qe_, H', ⟨Nat.le_refl _⟩, ⟨by (with_reducible repeat (first | apply Kd.R_alloc | apply Kd.R_drewN | apply Kd.R_drew)); exact Kd.R_mono (Kd.R_far (p := ⟨a3, 0, none⟩) (Kd.R_types i6.out q.out (by decide)) (fun _ hk => hk.2) (.slice i7 g6.length i8)) (fun _ hk => hk.1)⟩, ⟨qf_ m⟩, ⟨qf_ o⟩, ⟨qf_ x⟩, ⟨qp_ q⟩, ⟨qB_⟩⟩
   case round =>
    clear H' b4 k8 l2 l4 l5 l6 m2 k9 l3 l7 l8 l9 m3
    obtain ⟨c, b3, E, rfl, HA, HK2, y, m, o, x, q, HB⟩ := hrel
    cases gk with
    | zero => exact absurd HA.out (by simp [spec_l03Put.l1])
    | succ i9 =>
     have H := HA.out; clear HA
     simp only [spec_l03Put.l1] at H
     refine ib_ H ?_ ?_ <;> clear H <;> intro g7 H
     ·obtain rfl := oi_ H
      obtain ⟨t9, w2⟩ := nn_ d0; obtain ⟨w3, w4⟩ := nn_ d1; obtain ⟨w5, w6⟩ := nn_ a9
      obtain ⟨w7, w8⟩ := bc1_ m
      obtain ⟨w9, x0⟩ := nn_ d3; obtain ⟨x1, x2⟩ := nn_ d4
      obtain ⟨x3, x4⟩ := bc1_ q
      obtain ⟨j0, j1, o0⟩ := Kd.R_slice y.out
      subst o0; obtain ⟨x5, x6⟩ := nn_ j8
      obtain ⟨x7, x8⟩ := bc1_ x
      go_wp2
      refine bodyPost_ret (results_cell_row rfl _ _ e3 44 #[.slice j0 b3.length j1] (0, 0) _ rfl (qp_ x) Try.underlying44 rfl (by kernel_rfl)) rfl ?_
      exact ⟨_, qr_, by (with_reducible repeat (first | apply Kd.R_alloc | apply Kd.R_drewN | apply Kd.R_drew)); exact Kd.R_mono (Kd.R_far (p := ⟨e3, 0, none⟩) (Kd.R_types y.out x.out (by decide)) (fun _ hk => hk.2) (.slice j0 b3.length j1)) (fun _ hk => trivial), qB_⟩
     refine ig_ H ?_; clear H; intro g8 H
     refine jc_ H ?_ ?_ <;> clear H <;> intro a4 H
     ·have c6 : (Op.bytesLess (((rd_T99 a c).f0).toList) l.toList || ((((rd_T99 a c).f0).toList) == l.toList)) = true := a4
      clear a4; have H' := am_ H; clear H; obtain ⟨x9, y0⟩ := nn_ d0; obtain ⟨y1, y2⟩ := nn_ d1; obtain ⟨y3, y4⟩ := nn_ a9
      obtain ⟨y5, y6⟩ := bc1_ m
      try go_wp2
      replace y := rd_ y; replace m := bd_ m; replace o := bd_ o; replace x := bd_ x; replace q := bd_ q; replace HB := hd_ HB
      have V := dt_ c
      have X := du_ c a.length
      obtain ⟨j, Y, a5, a6, a7⟩ := at_T99 A.out c (ot_ V) (ot_ X)
      have g9 := a7; have h0 := a6; have h1 := a5; cases Y
      replace a5 := qx_ HB a5
      replace a6 := qx_ HB a6
      replace a7 := qx_ HB a7
      refine start_ (n := 9) (S := fun w' => w'.cell? ⟨a8, 0, none⟩ = some (.slice (some j) a.length z) ∧ w'.cell? ⟨B, 0, none⟩ = some (.string l) ∧ w'.cell? ⟨B, 1, none⟩ = some (.string s) ∧ w'.cell? ⟨B, 2, none⟩ = some (.int .i64 u) ∧ w'.cell? (j.add ((c).toNat * 3)) = some (.string ((rd_T99 a c).f0)) ∧ w'.cell? ⟨(j.add ((c).toNat * 3)).block, (j.add ((c).toNat * 3)).off + 1, none⟩ = some (.string ((rd_T99 a c).f1)) ∧ w'.cell? ⟨(j.add ((c).toNat * 3)).block, (j.add ((c).toNat * 3)).off + 2, none⟩ = some (.int .i64 ((rd_T99 a c).f2))) (ds := []) (bm 9 0) (by kernel_rfl) rfl (by kernel_rfl) ⟨bl_ m 0, bl_ o 0, bl_ o 1, bl_ o 2, ((qx_ HB h1).trans rfl), ((qx_ HB h0).trans rfl), ((qx_ HB g9).trans rfl)⟩ (fun hHeld => ?_); refine with_tabW spec_l03Put.tab11 spec_l03Put.bits11 (fun HT_ HW_ => ?_)
      generalize wr.drew = o1 at y m o x q HB a5 a6 a7 hHeld ⊢
      refine pz_ 0 48 9 1 ?_; refine pz_ 2 50 9 5 ?_; refine pz_ 6 54 9 69 ?_; refine tz7_ 1 49 9 71 ?_; refine pz_ 3 51 9 79 ?_; refine pz_ 4 52 9 95 ?_; refine tz7_ 5 53 9 127 ?_; refine tz7_ 7 55 9 255 ?_; refine pz_ 8 56 9 511 ?_
      refine done_ (done_of HT_.out (by kernel_rfl)) ?_
      try go_wp2
      go_roundg i9
      case measure => have := HK1.out; have := HK2.out; omega
      case rel => exact ⟨(wrap64 (c + 1)), (b3), (E), qe_, H', ⟨by have := HK1.out; have := HK2.out; omega⟩, ⟨ra_ y⟩, ⟨qk_ m⟩, ⟨qk_ o⟩, ⟨qk_ x⟩, ⟨qk_ q⟩, ⟨qB_⟩⟩
     have c6 : (Op.bytesLess (((rd_T99 a c).f0).toList) l.toList || ((((rd_T99 a c).f0).toList) == l.toList)) = false := by simpa using a4
     clear a4
     refine jg_ H ?_; clear H; intro d9 H
     have c7 := am_ d9
     clear d9
     generalize Z : (b3 ++ [(⟨(rd_T99 a c).f0, (rd_T99 a c).f1, (rd_T99 a c).f2⟩ : S99)]) = h2 at H; replace H := bh_ H; have c8 := am_ Z.symm; clear Z; have H' := am_ H; clear H; obtain ⟨y7, y8⟩ := nn_ d0; obtain ⟨y9, z0⟩ := nn_ d1; obtain ⟨z1, z2⟩ := nn_ a9
     obtain ⟨z3, z4⟩ := bc1_ m
     try go_wp2
     replace y := rd_ y; replace m := bd_ m; replace o := bd_ o; replace x := bd_ x; replace q := bd_ q; replace HB := hd_ HB
     have V := dt_ c
     have X := du_ c a.length
     obtain ⟨j, Y, a5, a6, a7⟩ := at_T99 A.out c (ot_ V) (ot_ X)
     have g9 := a7; have h0 := a6; have h1 := a5; cases Y
     replace a5 := qx_ HB a5
     replace a6 := qx_ HB a6
     replace a7 := qx_ HB a7
     refine start_ (n := 9) (S := fun w' => w'.cell? ⟨a8, 0, none⟩ = some (.slice (some j) a.length z) ∧ w'.cell? ⟨B, 0, none⟩ = some (.string l) ∧ w'.cell? ⟨B, 1, none⟩ = some (.string s) ∧ w'.cell? ⟨B, 2, none⟩ = some (.int .i64 u) ∧ w'.cell? (j.add ((c).toNat * 3)) = some (.string ((rd_T99 a c).f0)) ∧ w'.cell? ⟨(j.add ((c).toNat * 3)).block, (j.add ((c).toNat * 3)).off + 1, none⟩ = some (.string ((rd_T99 a c).f1)) ∧ w'.cell? ⟨(j.add ((c).toNat * 3)).block, (j.add ((c).toNat * 3)).off + 2, none⟩ = some (.int .i64 ((rd_T99 a c).f2))) (ds := []) (bm 9 0) (by kernel_rfl) rfl (by kernel_rfl) ⟨bl_ m 0, bl_ o 0, bl_ o 1, bl_ o 2, ((qx_ HB h1).trans rfl), ((qx_ HB h0).trans rfl), ((qx_ HB g9).trans rfl)⟩ (fun hHeld => ?_); refine with_tabW spec_l03Put.tab11 spec_l03Put.bits11 (fun HT_ HW_ => ?_)
     generalize wr.drew = h3 at y m o x q HB a5 a6 a7 hHeld ⊢
     refine pz_ 0 48 9 1 ?_; refine pz_ 2 50 9 5 ?_; refine pz_ 6 54 9 69 ?_; refine tz7_ 1 49 9 71 ?_; refine pz_ 3 51 9 79 ?_; refine pz_ 4 52 9 95 ?_; refine tz7_ 5 53 9 127 ?_; refine tz7_ 7 55 9 255 ?_; refine pz_ 8 56 9 511 ?_
     refine done_ (done_of HT_.out (by kernel_rfl)) ?_
     try go_wp2
     replace y := rd_ y; replace m := bd_ m; replace o := bd_ o; replace x := bd_ x; replace q := bd_ q; replace HB := hd_ HB
     have e0 := dt_ c
     have e1 := du_ c a.length
     obtain ⟨c9, e2, e8, e9, f3⟩ := at_T99 A.out c (ot_ e0) (ot_ e1)
     have f4 := f3; have f5 := e9; have f6 := e8
     obtain rfl : j = c9 := (by injection e2)
     replace e8 := qx_ HB e8
     replace e9 := qx_ HB e9
     replace f3 := qx_ HB f3
     refine start_ (n := 11) (S := fun w' => w'.cell? ⟨a3, 0, none⟩ = some (E) ∧ w'.cell? ⟨a8, 0, none⟩ = some (.slice (some j) a.length z) ∧ w'.cell? (j.add ((c).toNat * 3)) = some (.string ((rd_T99 a c).f0)) ∧ w'.cell? ⟨(j.add ((c).toNat * 3)).block, (j.add ((c).toNat * 3)).off + 1, none⟩ = some (.string ((rd_T99 a c).f1)) ∧ w'.cell? ⟨(j.add ((c).toNat * 3)).block, (j.add ((c).toNat * 3)).off + 2, none⟩ = some (.int .i64 ((rd_T99 a c).f2))) (ds := [10]) (bm 11 0) (by kernel_rfl) rfl (by kernel_rfl) ⟨bl_ q 0, bl_ m 0, ((qx_ HB f6).trans rfl), ((qx_ HB f5).trans rfl), ((qx_ HB f4).trans rfl)⟩ (fun hHeld => ?_); refine with_tabW spec_l03Put.tab12 spec_l03Put.bits12 (fun HT_ HW_ => ?_)
     generalize h3.drew = o2 at y m o x q HB e8 e9 f3 hHeld ⊢
     refine pz_ 0 57 11 1 ?_; refine pz_ 2 59 11 5 ?_; refine pz_ 4 61 11 21 ?_; refine tz5_ 1 58 11 23 ?_; refine tz5_ 3 60 11 31 ?_; refine pz_ 5 62 11 63 ?_; refine tz5_ 6 63 11 127 ?_
     refine o1_ 7 (some 64) 11 255 (fun K hK => ?_)
     refine value_ (w1 := ?_) (v := ?_) (by rfl) rfl ?_ ?_
     rotate_left 2
     ·go_simp
      constructor
      ·rfl
      rfl
     refine hK.out _ _ ⟨(blk_cell (blk_alloc q.out _) 0).trans rfl, (blk_cell (blk_alloc m.out _) 0).trans rfl, (World.cell?_alloc_lt _ _ _ (World.block_lt_of_cell? _ _ (((qx_ HB f6).trans rfl)))).trans (((qx_ HB f6).trans rfl)), (World.cell?_alloc_lt _ _ _ (World.block_lt_of_cell? _ _ (((qx_ HB f5).trans rfl)))).trans (((qx_ HB f5).trans rfl)), (World.cell?_alloc_lt _ _ _ (World.block_lt_of_cell? _ _ (((qx_ HB f4).trans rfl)))).trans (((qx_ HB f4).trans rfl))⟩ (fun hHeld => ?_)
     clear hK K
     refine nm_ 64 ?_
     refine o1_ 8 (some 65) 11 511 (fun K hK => ?_)
     refine Kd.R_append_step k99 (w0 := w) w.heap.size (by rfl) (.tmp 58) (.tmp 64) 42 99 (.agg #[(.string ⟨#[]⟩), (.string ⟨#[]⟩), (.int .i64 0)]) 40 rfl Try.underlying42 info99 rfl (by decide) (by omega) E b3 (⟨(rd_T99 a c).f0, (rd_T99 a c).f1, (rd_T99 a c).f2⟩ : S99) [.string ((rd_T99 a c).f0), .string ((rd_T99 a c).f1), .int .i64 ((rd_T99 a c).f2)] (fun k_ => k_ ≠ B) (fun _ => False) rfl rfl ?aP (fun _ hk => hk.elim) ?aF ?aO ?aB ?aS ?aL ?_
     (case aP => exact k99_mkM _ _ _ (⟨(rd_T99 a c).f0, (rd_T99 a c).f1, (rd_T99 a c).f2⟩ : S99))
     (case aB => exact qB_)
     (case aF => exact (fun k_ hk => Kd.freshB (qk_ o) k_ hk))
     (case aO => exact (qR_ y))
     (case aS => exact (below_size qB_))
     (case aL => have := c7.out; omega)
     intro z5 h4 ho hb hg hat
     rw [← c8.out] at ho
     have j3 := am_ (ho); replace m := am_ (blk_grown (qk_ m) hg (Kd.R_ne y.out m.out (by decide))); replace o := am_ (blk_grown (qk_ o) hg (Kd.R_away y.out (fun _ hk => hk))); replace x := am_ (blk_grown (qk_ x) hg (Kd.R_ne y.out x.out (by decide))); replace q := am_ (blk_grown (qk_ q) hg (Kd.R_ne y.out q.out (by decide))); replace HB := am_ (hb); clear y ho hb hg hat
     obtain ⟨j2, j4, j5⟩ := Kd.R_slice j3.out
     (first | subst j5 | (injection j5 with O c0 T; have c1 := O.symm; have c2 := T.symm; clear O c0 T; subst c1; subst c2))
     refine hK.out _ _ ⟨bl_ q 0, bl_ m 0, ((qx_ HB f6).trans rfl), ((qx_ HB f5).trans rfl), ((qx_ HB f4).trans rfl)⟩ (fun hHeld => ?_)
     clear hK K
     refine nm_ 65 ?_
     refine pz_ 9 66 11 1023 ?_
     refine last_ (i := 10) (N := none) (bm 11 2047) rfl rfl (one_of HT_.out (by kernel_rfl)) (by decide) (fun K hK => ?_)
     have j6 : h4.cell? ⟨a3, 0, none⟩ = some (E) := bl_ q 0
     have h5 := blk_frozen q.out 0
     have z6 := a9.out; have z7 := h6.out; have z8 := h7.out; have z9 := f8.out; have A0 := d3.out; have A1 := d4.out
     refine skip_ (w1 := ?_) (by rfl) rfl ?_ ?_
     rotate_left
     ·go_simp
      rfl
     refine hK.out _ _ ?_
     clear hK K
     refine done_ (done_of HT_.out (by kernel_rfl)) ?_
     try go_wp2
     go_roundg i9
     case measure => have := HK1.out; have := HK2.out; omega
     case rel => exact ⟨(wrap64 (c + 1)), (h2), (.slice j2 h2.length j4), qe_, H', ⟨by have := HK1.out; have := HK2.out; omega⟩, ⟨by (with_reducible repeat (first | apply Kd.R_alloc | apply Kd.R_drewN | apply Kd.R_drew)); exact Kd.R_mono (Kd.R_far (p := ⟨a3, 0, none⟩) (Kd.R_types j3.out q.out (by decide)) (fun _ hk => hk.2) (.slice j2 h2.length j4)) (fun _ hk => hk.1)⟩, ⟨qf_ m⟩, ⟨qf_ o⟩, ⟨qf_ x⟩, ⟨qp_ q⟩, ⟨qB_⟩⟩
end Go.Proofs.Ytacnlodcbbhahaa.QFnActs
