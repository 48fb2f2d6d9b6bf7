import Derived.Test.YtacnlodcbbhahaaQFnActsx7
namespace Go.Proofs.Ytacnlodcbbhahaa.QFnActs
open Go.RowKit Go.Proofs.YtacnlodcbbhahaaW.PrintWords Go.Proofs.YtacnlodcbbhahaaW.PrintLast Go.Proofs.YtacnlodcbbhahaaW.PrintMore
set_option maxHeartbeats 8000000
set_option maxRecDepth 100000
set_option linter.unusedVariables false
set_option linter.unusedSimpArgs false
def impl_DoActs.l0 : Nat → List (S60) → List (S60) → Int → Int → List (S99) → Option ((List (S99)) × Int)
  | 0, _, _, _, _, _ => none
  | k + 1, x1, x13, x14, x15, x229000 => if x15 < x14 then (if 0 ≤ x15 then (if x15 < (x13.length : Int) then ((impl_DoAct.f k x229000 ((rd_T60 x13 x15).f0) ((rd_T60 x13 x15).f1) ((rd_T60 x13 x15).f2) ((rd_T60 x13 x15).f3)).bind fun bt231 => (if bt231.2 = true then (impl_DoActs.l0 k x1 x13 x14 (wrap64 (x15 + 1)) bt231.1) else (some (x229000, x15)))) else (none)) else (none)) else (some (x229000, (x1.length : Int)))
def impl_DoActs.f (k : Nat) (l0_0 : List (S99)) (l1 : List (S60)) : Option ((List (S99)) × Int) := (impl_copyDisk.f l0_0).bind fun t225 => (impl_DoActs.l0 k l1 l1 (l1.length : Int) 0 t225)
theorem impl_DoActs.calls (k : Nat) (u : Option Addr) (v : Nat) (d : List (S99)) (c1 : Option Addr) (a3 : Nat) (l1 : List (S60)) (X : List (S99)) (Y : Int) (w : World) (hr0_0 : Kd.C k99 w u d.length d) (hc0_0 : d.length ≤ v) (hr1 : Kd.C k60 w c1 l1.length l1) (hc1 : l1.length ≤ a3) (h : impl_DoActs.f k d l1 = some (X, Y)) :
  Calls Try.prog 50 #[.agg #[.slice u d.length v], .slice c1 l1.length a3] w fun e w' => ∃ J : Value, e = .returned (.tuple #[.agg #[J], .int .i64 Y]) ∧ Kd.R k99 99 w' w.heap.size (fun _ => True) J X ∧ Below w.heap.size w w' := by
 have hu44 := Try.underlying44; have hu60 := Try.underlying60
 have D := am_ hr0_0
 have E := am_ hc0_0
 clear hr0_0 hc0_0
 have c2 := am_ hr1
 have g7 := am_ hc1
 clear hr1 hc1
 have HB := am_ (Below.refl w.heap.size w)
 have H : ((impl_copyDisk.f d).bind fun I => (impl_DoActs.l0 k l1 l1 (l1.length : Int) 0 I)) = some (X, Y) := h
 clear h
 obtain ⟨I, c9, H⟩ := bs_ H
 have H' := am_ H; clear H
 go_enter Try.func50, Try.ntmps50
 go_wp2_with (first | ((with_reducible refine gd_ 2 ?_); refine by_ 2 (cs := #[.slice u d.length v]) (t := 44) ?_; intro d0 hg g8 j hb; have g9 := gw_ hg; replace HB := hs_ hb; clear hb hg) | ((with_reducible refine gd_ 4 ?_); refine by_ 4 (cs := #[.slice none 0 0]) (t := 44) ?_; intro L hg h0 i hb; have h1 := gw_ hg; obtain ⟨d1, c3⟩ := qn_ j hg; replace j := qbl_ j hb; replace HB := hs_ hb; clear hb hg; obtain ⟨h2, h3⟩ := nn_ d1; obtain ⟨d2, d3⟩ := bc1_ j) | ((with_reducible refine gc_ 78 ?_); refine gl_ (some 12) Try.func78 #[.agg #[.slice u d.length v]] ?_; (with_reducible refine (impl_copyDisk.calls _ _ d I _ ?_ ?_ c9.out).mono ?_); exact qC_ D HB; exact E.out; rintro e h4 ⟨h5, rfl, ho0, hb⟩; refine ⟨_, rfl, ?_⟩; have Z := am_ (Kd.R_lower ho0 (below_size qB_)); replace j := qbl_ j hb; replace i := qbl_ i hb; replace HB := hs_ hb; clear hb ho0) | ((with_reducible refine gd_ 6 ?_); refine by_ 6 (cs := #[.slice none 0 0]) (t := 44) ?_; intro a4 hg h6 l hb; have h7 := gw_ hg; obtain ⟨h8, a0⟩ := qn_ j hg; obtain ⟨h9, a1⟩ := qn_ i hg; replace Z := kb_ Z hb; replace j := qbl_ j hb; replace i := qbl_ i hb; replace HB := hs_ hb; clear hb hg; obtain ⟨c4, c5, d4⟩ := Kd.R_slice Z.out; subst d4; obtain ⟨i0, i1⟩ := nn_ a0; obtain ⟨i2, i3⟩ := nn_ a1; obtain ⟨d5, d6⟩ := bc1_ l))
 go_loopg [15] k (fun kq v15 w' => ∃ (a : Int) (x : List (S99)) (a5 : Value), v15 = .int .i64 a ∧ Aside0 (impl_DoActs.l0 kq l1 l1 (l1.length : Int) a x = some (X, Y)) ∧ Aside0 (kq ≤ k) ∧ Aside0 (Kd.R k99 99 w' w.heap.size (fun _ => True) a5 x) ∧ Aside0 (w'.heap[d0]? = some (.cells #[(.slice u d.length v)] 44 (0, 0))) ∧ Aside0 (w'.heap[L]? = some (.cells #[(.slice none 0 0)] 44 (0, 0))) ∧ Aside0 (w'.heap[a4]? = some (.cells #[a5] 44 (0, 0))) ∧ Aside0 (Below w.heap.size w w'))
 case atStart => exact ⟨(0), (I), (.slice c4 I.length c5), qe_, H', ⟨Nat.le_refl _⟩, ⟨by (with_reducible repeat (first | apply Kd.R_alloc | apply Kd.R_drewN | apply Kd.R_drew)); exact Kd.R_mono (Kd.R_far (p := ⟨a4, 0, none⟩) (Kd.R_types Z.out l.out (by decide)) (fun _ hk => hk.2) (.slice c4 I.length c5)) (fun _ hk => trivial)⟩, ⟨qf_ j⟩, ⟨qf_ i⟩, ⟨qp_ l⟩, ⟨qB_⟩⟩
 case round =>
  clear H' d5 d2 d6 d3
  obtain ⟨a, x, a5, rfl, HA, HK1, q, j, i, l, HB⟩ := hrel
  cases gk with
  | zero => exact absurd HA.out (by simp [impl_DoActs.l0])
  | succ a6 =>
   have H := HA.out; clear HA
   simp only [impl_DoActs.l0] at H
   refine ib_ H ?_ ?_ <;> clear H <;> intro a7 H
   ·simp only [Option.some.injEq, Prod.mk.injEq] at H
    obtain ⟨rfl, rfl⟩ := H
    obtain ⟨i8, i9⟩ := nn_ a0; obtain ⟨j3, j4⟩ := nn_ a1
    obtain ⟨j5, j6⟩ := bc1_ l
    obtain ⟨c6, c7, d9⟩ := Kd.R_slice q.out
    subst d9; obtain ⟨j7, j8⟩ := nn_ c3
    obtain ⟨j9, k0⟩ := bc1_ i
    go_wp2
    refine bodyPost_ret (results_ct rfl _ _ L 44 #[.slice c6 x.length c7] (0, 0) _ rfl (qp_ i) Try.underlying44 rfl (by kernel_rfl)) rfl ?_
    exact ⟨_, qr_, by (with_reducible repeat (first | apply Kd.R_alloc | apply Kd.R_drewN | apply Kd.R_drew)); exact Kd.R_mono (Kd.R_far (p := ⟨L, 0, none⟩) (Kd.R_types q.out i.out (by decide)) (fun _ hk => hk.2) (.slice c6 x.length c7)) (fun _ hk => trivial), qB_⟩
   refine ig_ H ?_; clear H; intro a8 H
   refine ig_ H ?_; clear H; intro a9 H
   obtain ⟨⟨F, k1⟩, M, H⟩ := bs_ H; dsimp only at H
   refine ie_ H ?_ ?_ <;> clear H <;> rintro rfl H
   ·have H' := am_ H; clear H
    have y := dt_ a
    have z := du_ a l1.length
    obtain ⟨G, A, N, O, T, U⟩ := at_T60 c2.out a (ot_ y) (ot_ z)
    cases A
    replace N := qx_ HB N
    replace O := qx_ HB O
    replace T := qx_ HB T
    replace U := qx_ HB U
    go_wp2_with (first | ((with_reducible refine gd_ 8 ?_); refine by_ 8 (cs := #[.int .i64 0, .string (⟨#[]⟩ : ByteArray), .string (⟨#[]⟩ : ByteArray), .string (⟨#[]⟩ : ByteArray)]) (t := 60) ?_; intro m hg e0 s hb; have e1 := gw_ hg; obtain ⟨e2, b0⟩ := qn_ j hg; obtain ⟨e3, b1⟩ := qn_ i hg; obtain ⟨e4, b2⟩ := qn_ l hg; replace q := kb_ q hb; replace j := qbl_ j hb; replace i := qbl_ i hb; replace l := qbl_ l hb; replace HB := hs_ hb; clear hb hg; obtain ⟨k2, k3⟩ := nn_ b0; obtain ⟨k4, k5⟩ := nn_ b1; obtain ⟨k6, k7⟩ := nn_ b2; obtain ⟨k8, k9, l2, l3, l4, l5, l6, l7⟩ := bc4_ s; obtain ⟨l8, l9⟩ := nn_ a0; obtain ⟨m0, m1⟩ := nn_ a1; obtain ⟨m2, m3⟩ := bc1_ l; obtain ⟨e5, c8, e6⟩ := Kd.R_slice q.out; subst e6) | ((with_reducible refine gc_ 40 ?_); refine gl_ (some 23) Try.func40 #[.agg #[.slice e5 x.length c8], .agg #[.int .i64 ((rd_T60 l1 a).f0), .string ((rd_T60 l1 a).f1), .string ((rd_T60 l1 a).f2), .string ((rd_T60 l1 a).f3)]] ?_; (with_reducible refine (impl_DoAct.calls a6 _ _ x ((rd_T60 l1 a).f0) ((rd_T60 l1 a).f1) ((rd_T60 l1 a).f2) ((rd_T60 l1 a).f3) F true _ ?side1 ?side2 M.out).mono ?_); (case side1 => refine (Kd.R_reads' (e := 99) (base := w.heap.size) (ok := fun k_ => True) (n := x.length) (c := c8) ?_).2.2; exact (by (with_reducible repeat (first | apply Kd.R_alloc | apply Kd.R_drewN | apply Kd.R_drew)); exact (Kd.R_mono (Kd.R_far (p := ⟨m, 3, none⟩) (Kd.R_far (p := ⟨m, 2, none⟩) (Kd.R_far (p := ⟨m, 1, none⟩) (Kd.R_far (p := ⟨m, 0, none⟩) (Kd.R_types q.out s.out (by decide)) (fun _ hk => hk.2) (.int .i64 ((rd_T60 l1 a).f0))) (fun _ hk => hk.2) (.string ((rd_T60 l1 a).f1))) (fun _ hk => hk.2) (.string ((rd_T60 l1 a).f2))) (fun _ hk => hk.2) (.string ((rd_T60 l1 a).f3))) (fun _ h_ => h_.1)))); (case side2 => exact (Kd.R_reads' q.out).2.1); rintro e e7 ⟨e8, rfl, ho0, hb⟩; refine ⟨_, rfl, ?_⟩; have B := am_ (Kd.R_lower (Kd.R_new' ho0 (Kd.R_lt (by (with_reducible repeat (first | apply Kd.R_alloc | apply Kd.R_drewN | apply Kd.R_drew)); exact (Kd.R_mono (Kd.R_far (p := ⟨m, 3, none⟩) (Kd.R_far (p := ⟨m, 2, none⟩) (Kd.R_far (p := ⟨m, 1, none⟩) (Kd.R_far (p := ⟨m, 0, none⟩) (Kd.R_types q.out s.out (by decide)) (fun _ hk => hk.2) (.int .i64 ((rd_T60 l1 a).f0))) (fun _ hk => hk.2) (.string ((rd_T60 l1 a).f1))) (fun _ hk => hk.2) (.string ((rd_T60 l1 a).f2))) (fun _ hk => hk.2) (.string ((rd_T60 l1 a).f3))) (fun _ h_ => h_.1))))) (below_size qB_)); replace q := am_ (Kd.R_elder' (by (with_reducible repeat (first | apply Kd.R_alloc | apply Kd.R_drewN | apply Kd.R_drew)); exact (Kd.R_mono (Kd.R_far (p := ⟨m, 3, none⟩) (Kd.R_far (p := ⟨m, 2, none⟩) (Kd.R_far (p := ⟨m, 1, none⟩) (Kd.R_far (p := ⟨m, 0, none⟩) (Kd.R_types q.out s.out (by decide)) (fun _ hk => hk.2) (.int .i64 ((rd_T60 l1 a).f0))) (fun _ hk => hk.2) (.string ((rd_T60 l1 a).f1))) (fun _ hk => hk.2) (.string ((rd_T60 l1 a).f2))) (fun _ hk => hk.2) (.string ((rd_T60 l1 a).f3))) (fun _ h_ => h_.1))) (Kd.R_base ho0) hb); replace j := qbl_ j hb; replace i := qbl_ i hb; replace l := qbl_ l hb; replace s := am_ (blk_below (g := m) (o := .cells #[.int .i64 ((rd_T60 l1 a).f0), .string ((rd_T60 l1 a).f1), .string ((rd_T60 l1 a).f2), .string ((rd_T60 l1 a).f3)] 60 (0, 0)) (qp_ s) hb); replace HB := hs_ hb; clear hb ho0) | ((with_reducible refine gd_ 9 ?_); refine by_ 9 (cs := #[.slice none 0 0]) (t := 44) ?_; intro b3 hg e9 V hb; have f4 := gw_ hg; obtain ⟨f5, b4⟩ := qn_ j hg; obtain ⟨f6, b5⟩ := qn_ i hg; obtain ⟨f7, b6⟩ := qn_ l hg; obtain ⟨f8, b7⟩ := qn_ s hg; replace q := kb_ q hb; replace B := kb_ B hb; replace j := qbl_ j hb; replace i := qbl_ i hb; replace l := qbl_ l hb; replace s := qbl_ s hb; replace HB := hs_ hb; clear hb hg; obtain ⟨b8, b9, f9⟩ := Kd.R_slice B.out; subst f9; obtain ⟨m4, m5⟩ := nn_ b4; obtain ⟨m6, m7⟩ := nn_ b5; obtain ⟨m8, m9⟩ := nn_ b6; obtain ⟨n0, n1⟩ := nn_ b7; obtain ⟨n2, n3⟩ := bc1_ V; obtain ⟨n4, n5⟩ := bc1_ l))
    go_roundg a6
    case measure => have := HK1.out; omega
    case rel => exact ⟨(wrap64 (a + 1)), (F), (.slice b8 F.length b9), qe_, H', ⟨by have := HK1.out; omega⟩, ⟨by (with_reducible repeat (first | apply Kd.R_alloc | apply Kd.R_drewN | apply Kd.R_drew)); exact Kd.R_mono (Kd.R_far (p := ⟨a4, 0, none⟩) (Kd.R_far (p := ⟨b3, 0, none⟩) (Kd.R_types (Kd.R_types B.out V.out (by decide)) l.out (by decide)) (fun _ hk => hk.1.2) (.slice b8 F.length b9)) (fun _ hk => hk.2) (.slice b8 F.length b9)) (fun _ hk => trivial)⟩, ⟨qf_ j⟩, ⟨qf_ i⟩, ⟨qp_ l⟩, ⟨qB_⟩⟩
   simp only [Option.some.injEq, Prod.mk.injEq] at H
   obtain ⟨rfl, rfl⟩ := H
   have y := dt_ a
   have z := du_ a l1.length
   obtain ⟨G, A, N, O, T, U⟩ := at_T60 c2.out a (ot_ y) (ot_ z)
   cases A
   replace N := qx_ HB N
   replace O := qx_ HB O
   replace T := qx_ HB T
   replace U := qx_ HB U
   go_wp2_with (first | ((with_reducible refine gd_ 8 ?_); refine by_ 8 (cs := #[.int .i64 0, .string (⟨#[]⟩ : ByteArray), .string (⟨#[]⟩ : ByteArray), .string (⟨#[]⟩ : ByteArray)]) (t := 60) ?_; intro m hg g0 s hb; have e1 := gw_ hg; obtain ⟨e2, b0⟩ := qn_ j hg; obtain ⟨e3, b1⟩ := qn_ i hg; obtain ⟨e4, b2⟩ := qn_ l hg; replace q := kb_ q hb; replace j := qbl_ j hb; replace i := qbl_ i hb; replace l := qbl_ l hb; replace HB := hs_ hb; clear hb hg; obtain ⟨n6, n7⟩ := nn_ b0; obtain ⟨n8, n9⟩ := nn_ b1; obtain ⟨o0, o1⟩ := nn_ b2; obtain ⟨j0, j1, j2, o2, o3, o4, o5, o6⟩ := bc4_ s; obtain ⟨o7, o8⟩ := nn_ a0; obtain ⟨o9, p0⟩ := nn_ a1; obtain ⟨p1, p2⟩ := bc1_ l; obtain ⟨c0, a2, g1⟩ := Kd.R_slice q.out; subst g1) | ((with_reducible refine gc_ 40 ?_); refine gl_ (some 23) Try.func40 #[.agg #[.slice c0 x.length a2], .agg #[.int .i64 ((rd_T60 l1 a).f0), .string ((rd_T60 l1 a).f1), .string ((rd_T60 l1 a).f2), .string ((rd_T60 l1 a).f3)]] ?_; (with_reducible refine (impl_DoAct.calls a6 _ _ x ((rd_T60 l1 a).f0) ((rd_T60 l1 a).f1) ((rd_T60 l1 a).f2) ((rd_T60 l1 a).f3) F false _ ?side1 ?side2 M.out).mono ?_); (case side1 => refine (Kd.R_reads' (e := 99) (base := w.heap.size) (ok := fun k_ => True) (n := x.length) (c := a2) ?_).2.2; exact (by (with_reducible repeat (first | apply Kd.R_alloc | apply Kd.R_drewN | apply Kd.R_drew)); exact (Kd.R_mono (Kd.R_far (p := ⟨m, 3, none⟩) (Kd.R_far (p := ⟨m, 2, none⟩) (Kd.R_far (p := ⟨m, 1, none⟩) (Kd.R_far (p := ⟨m, 0, none⟩) (Kd.R_types q.out s.out (by decide)) (fun _ hk => hk.2) (.int .i64 ((rd_T60 l1 a).f0))) (fun _ hk => hk.2) (.string ((rd_T60 l1 a).f1))) (fun _ hk => hk.2) (.string ((rd_T60 l1 a).f2))) (fun _ hk => hk.2) (.string ((rd_T60 l1 a).f3))) (fun _ h_ => h_.1)))); (case side2 => exact (Kd.R_reads' q.out).2.1); rintro e g2 ⟨e8, rfl, ho0, hb⟩; refine ⟨_, rfl, ?_⟩; have B := am_ (Kd.R_lower (Kd.R_new' ho0 (Kd.R_lt (by (with_reducible repeat (first | apply Kd.R_alloc | apply Kd.R_drewN | apply Kd.R_drew)); exact (Kd.R_mono (Kd.R_far (p := ⟨m, 3, none⟩) (Kd.R_far (p := ⟨m, 2, none⟩) (Kd.R_far (p := ⟨m, 1, none⟩) (Kd.R_far (p := ⟨m, 0, none⟩) (Kd.R_types q.out s.out (by decide)) (fun _ hk => hk.2) (.int .i64 ((rd_T60 l1 a).f0))) (fun _ hk => hk.2) (.string ((rd_T60 l1 a).f1))) (fun _ hk => hk.2) (.string ((rd_T60 l1 a).f2))) (fun _ hk => hk.2) (.string ((rd_T60 l1 a).f3))) (fun _ h_ => h_.1))))) (below_size qB_)); replace q := am_ (Kd.R_elder' (by (with_reducible repeat (first | apply Kd.R_alloc | apply Kd.R_drewN | apply Kd.R_drew)); exact (Kd.R_mono (Kd.R_far (p := ⟨m, 3, none⟩) (Kd.R_far (p := ⟨m, 2, none⟩) (Kd.R_far (p := ⟨m, 1, none⟩) (Kd.R_far (p := ⟨m, 0, none⟩) (Kd.R_types q.out s.out (by decide)) (fun _ hk => hk.2) (.int .i64 ((rd_T60 l1 a).f0))) (fun _ hk => hk.2) (.string ((rd_T60 l1 a).f1))) (fun _ hk => hk.2) (.string ((rd_T60 l1 a).f2))) (fun _ hk => hk.2) (.string ((rd_T60 l1 a).f3))) (fun _ h_ => h_.1))) (Kd.R_base ho0) hb); replace j := qbl_ j hb; replace i := qbl_ i hb; replace l := qbl_ l hb; replace s := am_ (blk_below (g := m) (o := .cells #[.int .i64 ((rd_T60 l1 a).f0), .string ((rd_T60 l1 a).f1), .string ((rd_T60 l1 a).f2), .string ((rd_T60 l1 a).f3)] 60 (0, 0)) (qp_ s) hb); replace HB := hs_ hb; clear hb ho0) | ((with_reducible refine gd_ 9 ?_); refine by_ 9 (cs := #[.slice none 0 0]) (t := 44) ?_; intro b3 hg g3 V hb; have f4 := gw_ hg; obtain ⟨f5, b4⟩ := qn_ j hg; obtain ⟨f6, b5⟩ := qn_ i hg; obtain ⟨f7, b6⟩ := qn_ l hg; obtain ⟨f8, b7⟩ := qn_ s hg; replace q := kb_ q hb; replace B := kb_ B hb; replace j := qbl_ j hb; replace i := qbl_ i hb; replace l := qbl_ l hb; replace s := qbl_ s hb; replace HB := hs_ hb; clear hb hg; obtain ⟨g4, g5, g6⟩ := Kd.R_slice B.out; subst g6; obtain ⟨p3, p4⟩ := nn_ b4; obtain ⟨p5, p6⟩ := nn_ b5; obtain ⟨p7, p8⟩ := nn_ b6; obtain ⟨p9, q0⟩ := nn_ b7; obtain ⟨q1, q2⟩ := bc1_ V; obtain ⟨q3, q4⟩ := bc1_ l; obtain ⟨q5, q6⟩ := nn_ c3; obtain ⟨q7, q8⟩ := bc1_ i))
   refine bodyPost_ret (results_ct rfl _ _ L 44 #[.slice c0 x.length a2] (0, 0) _ rfl (qp_ i) Try.underlying44 rfl (by kernel_rfl)) rfl ?_
   exact ⟨_, qr_, by (with_reducible repeat (first | apply Kd.R_alloc | apply Kd.R_drewN | apply Kd.R_drew)); exact Kd.R_mono (Kd.R_far (p := ⟨L, 0, none⟩) (Kd.R_far (p := ⟨b3, 0, none⟩) (Kd.R_types (Kd.R_types q.out V.out (by decide)) i.out (by decide)) (fun _ hk => hk.1.2) (.slice g4 F.length g5)) (fun _ hk => hk.2) (.slice c0 x.length a2)) (fun _ hk => trivial), qB_⟩
def laws_big.f (l0 : List Int) : Option (Bool) := some (decide ((l0.length : Int) > 1048576))
theorem laws_big.calls (a : Option Addr) (c : Nat) (l0 : List Int) (r : Bool) (w : World) (hr0 : Kd.C (Kd.int .u8) w a l0.length l0) (hc0 : l0.length ≤ c) (h : laws_big.f l0 = some r) :
  Calls Try.prog 53 #[.slice a l0.length c] w fun e w' => e = .returned (.bool r) ∧ Drawn0 w w' := by
 have d := am_ hr0
 have i := am_ hc0
 clear hr0 hc0
 rw [laws_big.f] at h; have H := h; clear h
 obtain rfl := oi_ H
 go_enter Try.func53, Try.ntmps53
 go_wp2
 go_ret
 exact ⟨by first | rfl | (simp; done) | (simp [*]; done), by repeat (first | exact Drawn0.refl _ | apply Drawn0.step)⟩
/-- A state of type 132 at block g of W; what its slices lead to came in by j. -/
def IsS132 (w0 W : World) (g : Nat) (f0 : List Int) (f1 : Int) (f2 : Int) : Prop := ∃ A0 c0, W.heap[g]? = some (.cells #[.slice A0 f0.length c0, .int .i64 f1, .int .i64 f2] 132 (0, 0)) ∧ w0.heap.size ≤ g ∧ Kd.C (Kd.int .u8) w0 A0 f0.length f0
theorem IsS132.grown {w0 W : World} {g : Nat} {f0 : List Int} {f1 : Int} {f2 : Int} {W1 : World} {row : Option Nat} (h : IsS132 w0 W g f0 f1 f2) (hw : W.grownBy W1 row) (hne : some g ≠ row) : IsS132 w0 W1 g f0 f1 f2 := by
  obtain ⟨A0, c0, hb, hg, hr0⟩ := h
  exact ⟨A0, c0, blk_grown hb hw hne, hg, hr0⟩
theorem IsS132.own_neN {w0 W : World} {g : Nat} {f0 : List Int} {f1 : Int} {f2 : Int} {α : Type} {d : Kd α} {e : Nat} {base : Nat} {ok : Nat → Prop} {v : Value} {xs : List α} (h : IsS132 w0 W g f0 f1 f2) (ho : Kd.N d e W base ok v xs) (ht : e ≠ 132) : some g ≠ v.ownBlock := by
  obtain ⟨A0, c0, hb, hg, hr0⟩ := h
  exact Kd.N_ne ho hb ht
theorem IsS132.fresh {w0 W : World} {g : Nat} {f0 : List Int} {f1 : Int} {f2 : Int} (h : IsS132 w0 W g f0 f1 f2) : ∀ k, W.heap.size ≤ k → k ≠ g := by
  obtain ⟨A0, c0, hb, hg, hr0⟩ := h
  exact Kd.freshB hb
theorem IsS132.kept {w0 W : World} {g : Nat} {f0 : List Int} {f1 : Int} {f2 : Int} {W1 : World} {S : Nat → Prop} (h : IsS132 w0 W g f0 f1 f2) (hk : Kept W W1 S) (hne : ¬ S g) : IsS132 w0 W1 g f0 f1 f2 := by
  obtain ⟨A0, c0, hb, hg, hr0⟩ := h
  exact ⟨A0, c0, blk_kept hb hk hne, hg, hr0⟩
theorem IsS132.below {w0 W : World} {g : Nat} {f0 : List Int} {f1 : Int} {f2 : Int} {W1 : World} (h : IsS132 w0 W g f0 f1 f2) (hw : Below W.heap.size W W1) : IsS132 w0 W1 g f0 f1 f2 := h.grown (grown_of_below hw none) (by simp)
theorem IsS132.alloc {w0 W : World} {g : Nat} {f0 : List Int} {f1 : Int} {f2 : Int} (h : IsS132 w0 W g f0 f1 f2) (o : Obj) : IsS132 w0 (W.alloc o) g f0 f1 f2 := h.below (below_alloc (Below.refl _ _) o)
theorem IsS132.drewN {w0 W : World} {g : Nat} {f0 : List Int} {f1 : Int} {f2 : Int} (h : IsS132 w0 W g f0 f1 f2) (m : Nat) : IsS132 w0 (W.drewN m) g f0 f1 f2 := h
theorem IsS132.drew {w0 W : World} {g : Nat} {f0 : List Int} {f1 : Int} {f2 : Int} (h : IsS132 w0 W g f0 f1 f2) : IsS132 w0 W.drew g f0 f1 f2 := h
theorem IsS132.at_ {w0 W : World} {g : Nat} {f0 : List Int} {f1 : Int} {f2 : Int} {w' : World} {m : Nat} (hq : W.drewN m = w') (h : IsS132 w0 W g f0 f1 f2) : IsS132 w0 w' g f0 f1 f2 := by subst hq; exact IsS132.drewN h m
theorem IsS132.apart {w0 W : World} {g : Nat} {f0 : List Int} {f1 : Int} {f2 : Int} {α : Type} {d : Kd α} {e : Nat} {base : Nat} {ok : Nat → Prop} {v : Value} {xs : List α} (h : IsS132 w0 W g f0 f1 f2) (ho : d.R e W base ok v xs) (ht : ∀ q, q ∈ e :: d.E → q ≠ 132) : d.R e W base (fun k => ok k ∧ k ≠ g) v xs := by
  obtain ⟨A0, c0, hb, hg, hr0⟩ := h
  exact Kd.R_types ho hb ht
theorem IsS132.own_ne {w0 W : World} {g : Nat} {f0 : List Int} {f1 : Int} {f2 : Int} {α : Type} {d : Kd α} {e : Nat} {base : Nat} {ok : Nat → Prop} {v : Value} {xs : List α} (h : IsS132 w0 W g f0 f1 f2) (ho : d.R e W base ok v xs) (ht : e ≠ 132) : some g ≠ v.ownBlock := by
  obtain ⟨A0, c0, hb, hg, hr0⟩ := h
  exact Kd.R_ne ho hb ht
theorem IsS132.apartQ {w0 W : World} {g : Nat} {f0 : List Int} {f1 : Int} {f2 : Int} {α : Type} {d : Kd α} {e : Nat} {base : Nat} {ok : Nat → Prop} {v : Value} {xs : List α} (h : IsS132 w0 W g f0 f1 f2) (ho : d.Q e W base ok v xs) (ht : ∀ q, q ∈ e :: d.E → q ≠ 132) : d.Q e W base (fun k => ok k ∧ k ≠ g) v xs := by
  obtain ⟨A0, c0, hb, hg, hr0⟩ := h
  exact Kd.Q_types ho hb ht
theorem IsS132.own_neQ {w0 W : World} {g : Nat} {f0 : List Int} {f1 : Int} {f2 : Int} {α : Type} {d : Kd α} {e : Nat} {base : Nat} {ok : Nat → Prop} {v : Value} {xs : List α} (h : IsS132 w0 W g f0 f1 f2) (ho : d.Q e W base ok v xs) (ht : e ≠ 132) : some g ≠ v.ownBlock := by
  obtain ⟨A0, c0, hb, hg, hr0⟩ := h
  exact Kd.Q_ne ho hb ht
theorem IsS132.apartS {w0 W : World} {g : Nat} {f0 : List Int} {f1 : Int} {f2 : Int} {α : Type} {d : Kd α} {e : Nat} {base : Nat} {ok : Nat → Prop} {v : Value} {xs : List α} (h : IsS132 w0 W g f0 f1 f2) (ho : d.S e W base ok v xs) (ht : ∀ q, q ∈ e :: d.E → q ≠ 132) : d.S e W base (fun k => ok k ∧ k ≠ g) v xs := by
  obtain ⟨A0, c0, hb, hg, hr0⟩ := h
  exact Kd.S_types ho hb ht
theorem IsS132.own_neS {w0 W : World} {g : Nat} {f0 : List Int} {f1 : Int} {f2 : Int} {α : Type} {d : Kd α} {e : Nat} {base : Nat} {ok : Nat → Prop} {v : Value} {xs : List α} (h : IsS132 w0 W g f0 f1 f2) (ho : d.S e W base ok v xs) (ht : e ≠ 132) : some g ≠ v.ownBlock := by
  obtain ⟨A0, c0, hb, hg, hr0⟩ := h
  exact Kd.S_ne ho hb ht
theorem IsS132.lt {w0 W : World} {g : Nat} {f0 : List Int} {f1 : Int} {f2 : Int} (h : IsS132 w0 W g f0 f1 f2) : g < W.heap.size := by
  obtain ⟨A0, c0, hb, hg, hr0⟩ := h
  exact blk_lt hb
theorem IsS132.ge {w0 W : World} {g : Nat} {f0 : List Int} {f1 : Int} {f2 : Int} (h : IsS132 w0 W g f0 f1 f2) : w0.heap.size ≤ g := by
  obtain ⟨A0, c0, hb, hg, hr0⟩ := h
  exact hg
theorem IsS132.ne_blk {w0 W : World} {g : Nat} {f0 : List Int} {f1 : Int} {f2 : Int} {a : Nat} {cs : Array Value} {t : TypeId} {fr : Nat × Nat} (h : IsS132 w0 W g f0 f1 f2) (hb2 : W.heap[a]? = some (.cells cs t fr)) (ht : t ≠ 132) : g ≠ a := by
  obtain ⟨A0, c0, hb, hg, hr0⟩ := h
  rintro rfl
  rw [hb] at hb2
  injection hb2 with hb2
  injection hb2 with _ ht2
  exact ht ht2.symm
theorem IsS132.far {w0 W : World} {g : Nat} {f0 : List Int} {f1 : Int} {f2 : Int} {p : Addr} (h : IsS132 w0 W g f0 f1 f2) (hne : g ≠ p.block) (u : Value) : IsS132 w0 (W.setCell p u) g f0 f1 f2 := by
  obtain ⟨A0, c0, hb, hg, hr0⟩ := h
  exact ⟨A0, c0, blk_far hb hne u, hg, hr0⟩
theorem cellS132_0 {W : World} {g : Nat} {A0 : Option Addr} {c0 : Nat} {f0 : List Int} {f1 : Int} {f2 : Int} (h : W.heap[g]? = some (.cells #[.slice A0 f0.length c0, .int .i64 f1, .int .i64 f2] 132 (0, 0))) : W.cell? ⟨g, 0, none⟩ = some (.slice A0 f0.length c0) := (blk_cell h 0).trans rfl
theorem cellS132_1 {W : World} {g : Nat} {A0 : Option Addr} {c0 : Nat} {f0 : List Int} {f1 : Int} {f2 : Int} (h : W.heap[g]? = some (.cells #[.slice A0 f0.length c0, .int .i64 f1, .int .i64 f2] 132 (0, 0))) : W.cell? ⟨g, 1, none⟩ = some (.int .i64 f1) := (blk_cell h 1).trans rfl
theorem IsS132.set_1 {w0 W : World} {g : Nat} {f0 : List Int} {f1 : Int} {f2 : Int} (h : IsS132 w0 W g f0 f1 f2) (x : Int) : IsS132 w0 (W.setCell ⟨g, 1, none⟩ (.int .i64 x)) g f0 x f2 := by
  obtain ⟨A0, c0, hb, hg, hr0⟩ := h
  exact ⟨A0, c0, by simpa using blk_set hb 1 (.int .i64 x), hg, hr0⟩
theorem cellS132_2 {W : World} {g : Nat} {A0 : Option Addr} {c0 : Nat} {f0 : List Int} {f1 : Int} {f2 : Int} (h : W.heap[g]? = some (.cells #[.slice A0 f0.length c0, .int .i64 f1, .int .i64 f2] 132 (0, 0))) : W.cell? ⟨g, 2, none⟩ = some (.int .i64 f2) := (blk_cell h 2).trans rfl
theorem IsS132.set_2 {w0 W : World} {g : Nat} {f0 : List Int} {f1 : Int} {f2 : Int} (h : IsS132 w0 W g f0 f1 f2) (x : Int) : IsS132 w0 (W.setCell ⟨g, 2, none⟩ (.int .i64 x)) g f0 f1 x := by
  obtain ⟨A0, c0, hb, hg, hr0⟩ := h
  exact ⟨A0, c0, by simpa using blk_set hb 2 (.int .i64 x), hg, hr0⟩
theorem IsS132.new (w0 W : World) (A0 : Option Addr) (c0 : Nat) (f0 : List Int) (f1 : Int) (f2 : Int) (hB : Below w0.heap.size w0 W) (hr0 : Kd.C (Kd.int .u8) w0 A0 f0.length f0) : IsS132 w0 (W.alloc (.cells #[.slice A0 f0.length c0, .int .i64 f1, .int .i64 f2] 132)) W.heap.size f0 f1 f2 := ⟨A0, c0, by simpa using heap_alloc_new W _, hB.size, hr0⟩
def spec_l01New.l0 : Nat → List Int → Int → Int → Option (List Int × Int × Int)
  | 0, _, _, _ => none
  | k + 1, x0, x3, x4 => if x4 < (x0.length : Int) then (if x4 < 4000 then (if 0 ≤ x4 then (spec_l01New.l0 k x0 (Go.bits .and .i64 (wrap64 ((wrap64 ((wrap64 (x3 * 131)) + (wrap64 (rd x0 x4)))) + 7)) 1073741823) (wrap64 (x4 + 1))) else (none)) else (some (x0, 0, x3))) else (some (x0, 0, x3))
def spec_l01New.f (k : Nat) (l0 : List Int) : Option (List Int × Int × Int) := spec_l01New.l0 k l0 (wrap64 (13501 + (l0.length : Int))) 0
theorem spec_l01New.calls (k : Nat) (l : Option Addr) (m : Nat) (l0 : List Int) (n : List Int) (o : Int) (p : Int) (d w : World) (hB : Below d.heap.size d w) (hr0 : Kd.C (Kd.int .u8) d l l0.length l0) (hc0 : l0.length ≤ m) (h : spec_l01New.f k l0 = some (n, o, p)) :
  Calls Try.prog 95 #[.slice l l0.length m] w fun e w' => ∃ g_ : Nat, e = .returned (.pointer (some ⟨g_, 0, none⟩)) ∧ IsS132 d w' g_ n o p ∧ Below d.heap.size d w' ∧ Below w.heap.size w w' := by
 have hu132 := Try.underlying132
 have u := am_ hr0
 have L := am_ hc0
 clear hr0 hc0
 have HBW := am_ (Below.refl w.heap.size w)
 have HW0 := am_ hB.size
 have HB := am_ hB
 clear hB
 have H : (spec_l01New.l0 k l0 (wrap64 (13501 + (l0.length : Int))) 0) = some (n, o, p) := h
 clear h; have H' := am_ H; clear H
 go_enter Try.func95, Try.ntmps95
 go_wp2
 go_loopg [3, 4] k (fun kq v3 v4 w' => ∃ (a : Int) (c : Int), v3 = .int .i64 a ∧ v4 = .int .i64 c ∧ Aside0 (spec_l01New.l0 kq l0 a c = some (n, o, p)) ∧ Aside0 (kq ≤ k) ∧ Aside0 (Below d.heap.size d w') ∧ Aside0 (Below w.heap.size w w'))
 case atStart => exact ⟨(wrap64 (13501 + (l0.length : Int))), (0), qe_, qe_, H', ⟨Nat.le_refl _⟩, ⟨qB_⟩, ⟨by repeat (first | (with_reducible first | exact HBW.out | apply below_alloc | apply pw_below_drewN | apply below_drew1) | exact HBW.out)⟩⟩
 case round =>
  clear H'
  obtain ⟨a, c, rfl, rfl, HA, HK1, HB, HBW⟩ := hrel
  cases gk with
  | zero => exact absurd HA.out (by simp [spec_l01New.l0])
  | succ E =>
   have H := HA.out; clear HA
   simp only [spec_l01New.l0] at H
   refine ib_ H ?_ ?_ <;> clear H <;> intro x H
   ·simp only [Option.some.injEq, Prod.mk.injEq] at H
    obtain ⟨rfl, rfl, rfl⟩ := H
    go_wp2_with (first | ((with_reducible refine gd_ 31 ?_); refine by_ 31 (cs := #[.slice l l0.length m, .int .i64 0, .int .i64 a]) (t := 132) ?_; intro q hg M F hb; have G := am_ ((by rw [hg]; exact (below_size (by repeat (first | (with_reducible first | exact HBW.out | apply below_alloc | apply pw_below_drewN | apply below_drew1) | exact HBW.out))) : w.heap.size ≤ q)); have y := am_ ((Nat.le_trans HW0.out (by rw [hg]; exact (below_size (by repeat (first | (with_reducible first | exact HBW.out | apply below_alloc | apply pw_below_drewN | apply below_drew1) | exact HBW.out))) : w.heap.size ≤ q) : d.heap.size ≤ q)); replace HBW := am_ (below_step HBW.out hb); replace HB := hs_ hb; clear hb hg))
    go_ret
    exact ⟨_, rfl, (show IsS132 d _ q l0 0 a from ⟨_, _, qf_ F, y.out, u.out⟩), by repeat (first | (with_reducible first | exact HB.out | apply below_alloc | apply pw_below_drewN | apply below_drew1 | refine below_set ?_ y.out) | exact HB.out), by repeat (first | (with_reducible first | exact HBW.out | apply below_alloc | apply pw_below_drewN | apply below_drew1 | refine below_set ?_ G.out) | exact HBW.out)⟩
   refine ib_ H ?_ ?_ <;> clear H <;> intro z H
   ·simp only [Option.some.injEq, Prod.mk.injEq] at H
    obtain ⟨rfl, rfl, rfl⟩ := H
    go_wp2_with (first | ((with_reducible refine gd_ 31 ?_); refine by_ 31 (cs := #[.slice l l0.length m, .int .i64 0, .int .i64 a]) (t := 132) ?_; intro s hg N I hb; have J := am_ ((by rw [hg]; exact (below_size (by repeat (first | (with_reducible first | exact HBW.out | apply below_alloc | apply pw_below_drewN | apply below_drew1) | exact HBW.out))) : w.heap.size ≤ s)); have A := am_ ((Nat.le_trans HW0.out (by rw [hg]; exact (below_size (by repeat (first | (with_reducible first | exact HBW.out | apply below_alloc | apply pw_below_drewN | apply below_drew1) | exact HBW.out))) : w.heap.size ≤ s) : d.heap.size ≤ s)); replace HBW := am_ (below_step HBW.out hb); replace HB := hs_ hb; clear hb hg))
    go_ret
    exact ⟨_, rfl, (show IsS132 d _ s l0 0 a from ⟨_, _, qf_ I, A.out, u.out⟩), by repeat (first | (with_reducible first | exact HB.out | apply below_alloc | apply pw_below_drewN | apply below_drew1 | refine below_set ?_ A.out) | exact HB.out), by repeat (first | (with_reducible first | exact HBW.out | apply below_alloc | apply pw_below_drewN | apply below_drew1 | refine below_set ?_ J.out) | exact HBW.out)⟩
   refine ig_ H ?_; clear H; intro B H
   have H' := am_ H; clear H
   have g := dt_ c
   have i := du_ c l0.length
   obtain ⟨v, j, D⟩ := Kd.at_int u.out c (ot_ g) (ot_ i)
   cases j
   replace D := pw_cell_below HB.out D
   go_wp2
   go_roundg E
   case measure => have := HK1.out; omega
   case rel => exact ⟨(Go.bits .and .i64 (wrap64 ((wrap64 ((wrap64 (a * 131)) + (wrap64 (rd l0 c)))) + 7)) 1073741823), (wrap64 (c + 1)), qe_, qe_, H', ⟨by have := HK1.out; omega⟩, ⟨qB_⟩, ⟨by repeat (first | (with_reducible first | exact HBW.out | apply below_alloc | apply pw_below_drewN | apply below_drew1) | exact HBW.out)⟩⟩
def spec_l01Byte.f (s0_0 : List Int) (s0_1 : Int) (s0_2 : Int) : Option (Int × Int × Int) := if s0_1 < (s0_0.length : Int) then (if 0 ≤ s0_1 then (some (Go.bits .and .i64 (wrap64 ((Go.bits .and .i64 (Go.bits .xor .i64 ((wrap64 ((wrap64 (s0_2 * 6364136223846793005)) + 1442695040888963407)) / 8589934592) ((wrap64 ((wrap64 (s0_2 * 6364136223846793005)) + 1442695040888963407)) / 35184372088832)) 255) + (wrap64 (rd s0_0 s0_1)))) 255, wrap64 (s0_1 + 1), wrap64 ((wrap64 (s0_2 * 6364136223846793005)) + 1442695040888963407))) else (none)) else (some (Go.bits .and .i64 (Go.bits .xor .i64 ((wrap64 ((wrap64 (s0_2 * 6364136223846793005)) + 1442695040888963407)) / 8589934592) ((wrap64 ((wrap64 (s0_2 * 6364136223846793005)) + 1442695040888963407)) / 35184372088832)) 255, s0_1, wrap64 ((wrap64 (s0_2 * 6364136223846793005)) + 1442695040888963407)))
theorem spec_l01Byte.calls (g : Nat) (s0_0 : List Int) (s0_1 : Int) (s0_2 : Int) (m : Int) (n : Int) (o : Int) (c w : World) (hI : IsS132 c w g s0_0 s0_1 s0_2) (hB : Below c.heap.size c w) (h : spec_l01Byte.f s0_0 s0_1 s0_2 = some (m, n, o)) :
  Calls Try.prog 126 #[.pointer (some ⟨g, 0, none⟩)] w fun e w' => e = .returned (.int .i64 m) ∧ IsS132 c w' g s0_0 n o ∧ Below c.heap.size c w' ∧ KeepBut w w' g none := by
 have HI0 := am_ hI
 have HK := am_ (KeepBut.refl w g none)
 have HL := am_ hB.size
 clear hI
 have HW0 := am_ hB.size
 have HB := am_ hB
 clear hB
 have H : (if s0_1 < (s0_0.length : Int) then (if 0 ≤ s0_1 then (some (Go.bits .and .i64 (wrap64 ((Go.bits .and .i64 (Go.bits .xor .i64 ((wrap64 ((wrap64 (s0_2 * 6364136223846793005)) + 1442695040888963407)) / 8589934592) ((wrap64 ((wrap64 (s0_2 * 6364136223846793005)) + 1442695040888963407)) / 35184372088832)) 255) + (wrap64 (rd s0_0 s0_1)))) 255, wrap64 (s0_1 + 1), wrap64 ((wrap64 (s0_2 * 6364136223846793005)) + 1442695040888963407))) else (none)) else (some (Go.bits .and .i64 (Go.bits .xor .i64 ((wrap64 ((wrap64 (s0_2 * 6364136223846793005)) + 1442695040888963407)) / 8589934592) ((wrap64 ((wrap64 (s0_2 * 6364136223846793005)) + 1442695040888963407)) / 35184372088832)) 255, s0_1, wrap64 ((wrap64 (s0_2 * 6364136223846793005)) + 1442695040888963407)))) = some (m, n, o) := h
 clear h
 refine ib_ H ?_ ?_ <;> clear H <;> intro q H
 ·simp only [Option.some.injEq, Prod.mk.injEq] at H
  obtain ⟨rfl, rfl, rfl⟩ := H
  obtain ⟨ASz5_0, cSz5_0, HGz5, hgz5, HSz5_0⟩ := HI0.out
  have t := cellS132_0 HGz5
  have u := cellS132_1 HGz5
  have v := cellS132_2 HGz5
  have x := blk_frozen HGz5 1
  have y := blk_frozen HGz5 2
  clear HGz5 hgz5
  go_enter Try.func126, Try.ntmps126
  go_wp2
  repeat (go_quiet (fail); try go_wp2)
  go_ret
  exact ⟨qr_, by repeat (first | (with_reducible first | exact HI0.out | apply IsS132.alloc | apply IsS132.drewN | apply IsS132.drew | apply IsS132.set_1 | apply IsS132.set_2) | exact HI0.out), by repeat (first | (with_reducible first | exact HB.out | apply below_alloc | apply pw_below_drewN | apply below_drew1 | refine below_set ?_ (IsS132.ge HI0.out)) | exact HB.out), by repeat (first | (with_reducible first | exact HK.out | apply KeepBut.set_ | apply keep_drewN | apply keep_drew | apply keep_alloc) | exact HK.out)⟩
 refine ig_ H ?_; clear H; intro s H
 simp only [Option.some.injEq, Prod.mk.injEq] at H
 obtain ⟨rfl, rfl, rfl⟩ := H
 obtain ⟨ASz4_0, cSz4_0, HGz4, hgz4, HSz4_0⟩ := HI0.out
 have z := cellS132_0 HGz4
 have A := cellS132_1 HGz4
 have B := cellS132_2 HGz4
 have C := blk_frozen HGz4 1
 have D := blk_frozen HGz4 2
 clear HGz4 hgz4
 have i := dt_ s0_1
 have j := du_ s0_1 s0_0.length
 obtain ⟨a, l, d⟩ := Kd.at_int HSz4_0 s0_1 (ot_ i) (ot_ j)
 cases l
 have hn239_0 : a.block ≠ g := Nat.ne_of_lt (Nat.lt_of_lt_of_le (by have := World.block_lt_of_cell? _ _ d; first | rwa [add_block] at this | exact this) (IsS132.ge HI0.out))
 replace d := pw_cell_below HB.out d
 replace d := (cell_far (p := ⟨g, 2, none⟩) (by first | (rw [add_block]; exact hn239_0) | (show (Addr.add _ _).block ≠ _; rw [add_block]; exact hn239_0) | exact hn239_0) (.int .i64 (wrap64 ((wrap64 (s0_2 * 6364136223846793005)) + 1442695040888963407)))).trans d
 have hy239_0 := fun (n_ : Nat) => (show (((w.drewN n_).setCell ⟨g, 2, none⟩ (.int .i64 (wrap64 ((wrap64 (s0_2 * 6364136223846793005)) + 1442695040888963407))))).cell? _ = some _ from d)
 clear hn239_0
 go_enter Try.func126, Try.ntmps126
 go_wp2
 repeat (go_quiet (fail); try go_wp2)
 go_ret
 exact ⟨qr_, by repeat (first | (with_reducible first | exact HI0.out | apply IsS132.alloc | apply IsS132.drewN | apply IsS132.drew | apply IsS132.set_1 | apply IsS132.set_2) | exact HI0.out), by repeat (first | (with_reducible first | exact HB.out | apply below_alloc | apply pw_below_drewN | apply below_drew1 | refine below_set ?_ (IsS132.ge HI0.out)) | exact HB.out), by repeat (first | (with_reducible first | exact HK.out | apply KeepBut.set_ | apply keep_drewN | apply keep_drew | apply keep_alloc) | exact HK.out)⟩
def spec_l01Below.f (s0_0 : List Int) (s0_1 : Int) (s0_2 : Int) (a1 : Int) : Option (Int × Int × Int) := if a1 ≤ 0 then (some (0, s0_1, s0_2)) else (if a1 ≤ 256 then ((spec_l01Byte.f s0_0 s0_1 s0_2).bind fun bt240 => (if a1 = 0 then (none) else (some (Int.tmod bt240.1 a1, bt240.2.1, bt240.2.2)))) else ((spec_l01Byte.f s0_0 s0_1 s0_2).bind fun bt243 => ((spec_l01Byte.f s0_0 bt243.2.1 bt243.2.2).bind fun bt246 => ((spec_l01Byte.f s0_0 bt246.2.1 bt246.2.2).bind fun bt249 => ((spec_l01Byte.f s0_0 bt249.2.1 bt249.2.2).bind fun bt252 => (if a1 = 0 then (none) else (some (Int.tmod (wrap64 ((wrap64 ((wrap64 ((wrap64 (bt243.1 * 16777216)) + (wrap64 (bt246.1 * 65536)))) + (wrap64 (bt249.1 * 256)))) + bt252.1)) a1, bt252.2.1, bt252.2.2))))))))
theorem spec_l01Below.calls (g : Nat) (s0_0 : List Int) (s0_1 : Int) (s0_2 : Int) (a : Int) (i : Int) (j : Int) (l : Int) (c w : World) (hI : IsS132 c w g s0_0 s0_1 s0_2) (hB : Below c.heap.size c w) (h : spec_l01Below.f s0_0 s0_1 s0_2 a = some (i, j, l)) :
  Calls Try.prog 113 #[.pointer (some ⟨g, 0, none⟩), .int .i64 a] w fun e w' => e = .returned (.int .i64 i) ∧ IsS132 c w' g s0_0 j l ∧ Below c.heap.size c w' ∧ KeepBut w w' g none := by
 have HI0 := am_ hI
 have HK := am_ (KeepBut.refl w g none)
 have HL := am_ hB.size
 clear hI
 have HW0 := am_ hB.size
 have HB := am_ hB
 clear hB
 have H : (if a ≤ 0 then (some (0, s0_1, s0_2)) else (if a ≤ 256 then ((spec_l01Byte.f s0_0 s0_1 s0_2).bind fun m => (if a = 0 then (none) else (some (Int.tmod m.1 a, m.2.1, m.2.2)))) else ((spec_l01Byte.f s0_0 s0_1 s0_2).bind fun n => ((spec_l01Byte.f s0_0 n.2.1 n.2.2).bind fun o => ((spec_l01Byte.f s0_0 o.2.1 o.2.2).bind fun p => ((spec_l01Byte.f s0_0 p.2.1 p.2.2).bind fun q => (if a = 0 then (none) else (some (Int.tmod (wrap64 ((wrap64 ((wrap64 ((wrap64 (n.1 * 16777216)) + (wrap64 (o.1 * 65536)))) + (wrap64 (p.1 * 256)))) + q.1)) a, q.2.1, q.2.2))))))))) = some (i, j, l) := h
 clear h
 refine ic_ H ?_ ?_ <;> clear H <;> intro x H
 ·simp only [Option.some.injEq, Prod.mk.injEq] at H
  obtain ⟨rfl, rfl, rfl⟩ := H
  go_enter Try.func113, Try.ntmps113
  go_wp2
  go_ret
  exact ⟨qr_, by repeat (first | (with_reducible first | exact HI0.out | apply IsS132.alloc | apply IsS132.drewN | apply IsS132.drew | apply IsS132.set_1 | apply IsS132.set_2) | exact HI0.out), by repeat (first | (with_reducible first | exact HB.out | apply below_alloc | apply pw_below_drewN | apply below_drew1 | refine below_set ?_ (IsS132.ge HI0.out)) | exact HB.out), by repeat (first | (with_reducible first | exact HK.out | apply KeepBut.set_ | apply keep_drewN | apply keep_drew | apply keep_alloc) | exact HK.out)⟩
 refine ic_ H ?_ ?_ <;> clear H <;> intro y H
 ·obtain ⟨⟨J, L, M⟩, N, H⟩ := bs_ H; dsimp only at H
  refine jc_ H ?_ ?_ <;> clear H <;> intro z H
  ·exact absurd H (by simp)
  have A : (a == 0) = false := beq_eq_false_iff_ne.mpr z
  have B : (a != 0) = true := bne_iff_ne.mpr z
  simp only [Option.some.injEq, Prod.mk.injEq] at H
  obtain ⟨rfl, rfl, rfl⟩ := H
  go_enter Try.func113, Try.ntmps113
  go_wp2_with (first | ((with_reducible refine gc_ 126 ?_); refine gl_ (some 14) Try.func126 #[.pointer (some ⟨g, 0, none⟩)] ?_; (with_reducible refine (spec_l01Byte.calls g s0_0 s0_1 s0_2 J L M c _ ?side1 ?side2 N.out).mono ?_); (case side1 => repeat (first | (with_reducible first | exact HI0.out | apply IsS132.alloc | apply IsS132.drewN | apply IsS132.drew | apply IsS132.set_1 | apply IsS132.set_2) | exact HI0.out)); (case side2 => repeat (first | (with_reducible first | exact HB.out | apply below_alloc | apply pw_below_drewN | apply below_drew1 | refine below_set ?_ (IsS132.ge HI0.out)) | exact HB.out)); rintro e a4 ⟨rfl, hi, hb, hk⟩; refine ⟨_, rfl, ?_⟩; replace HI0 := am_ (hi); replace HK := am_ (KeepBut.trans (by repeat (first | (with_reducible first | exact HK.out | apply KeepBut.set_ | apply keep_drewN | apply keep_drew | apply keep_alloc) | exact HK.out)) hk (.inl rfl)); replace HB := am_ (hb); clear hb hk hi))
  go_ret
  exact ⟨qr_, by repeat (first | (with_reducible first | exact HI0.out | apply IsS132.alloc | apply IsS132.drewN | apply IsS132.drew | apply IsS132.set_1 | apply IsS132.set_2) | exact HI0.out), by repeat (first | (with_reducible first | exact HB.out | apply below_alloc | apply pw_below_drewN | apply below_drew1 | refine below_set ?_ (IsS132.ge HI0.out)) | exact HB.out), by repeat (first | (with_reducible first | exact HK.out | apply KeepBut.set_ | apply keep_drewN | apply keep_drew | apply keep_alloc) | exact HK.out)⟩
 obtain ⟨⟨O, C, D⟩, R, H⟩ := bs_ H; dsimp only at H
 obtain ⟨⟨T, E, F⟩, U, H⟩ := bs_ H; dsimp only at H
 obtain ⟨⟨V, G, I⟩, s, H⟩ := bs_ H; dsimp only at H
 obtain ⟨⟨X, Y, Z⟩, t, H⟩ := bs_ H; dsimp only at H
 refine jc_ H ?_ ?_ <;> clear H <;> intro d H
 ·exact absurd H (by simp)
 have u : (a == 0) = false := beq_eq_false_iff_ne.mpr d
 have v : (a != 0) = true := bne_iff_ne.mpr d
 simp only [Option.some.injEq, Prod.mk.injEq] at H
 obtain ⟨rfl, rfl, rfl⟩ := H
 go_enter Try.func113, Try.ntmps113
 go_wp2_with (first | ((with_reducible refine gc_ 126 ?_); refine gl_ (some 18) Try.func126 #[.pointer (some ⟨g, 0, none⟩)] ?_; (with_reducible refine (spec_l01Byte.calls g s0_0 s0_1 s0_2 O C D c _ ?side1 ?side2 R.out).mono ?_); (case side1 => repeat (first | (with_reducible first | exact HI0.out | apply IsS132.alloc | apply IsS132.drewN | apply IsS132.drew | apply IsS132.set_1 | apply IsS132.set_2) | exact HI0.out)); (case side2 => repeat (first | (with_reducible first | exact HB.out | apply below_alloc | apply pw_below_drewN | apply below_drew1 | refine below_set ?_ (IsS132.ge HI0.out)) | exact HB.out)); rintro e a0 ⟨rfl, hi, hb, hk⟩; refine ⟨_, rfl, ?_⟩; replace HI0 := am_ (hi); replace HK := am_ (KeepBut.trans (by repeat (first | (with_reducible first | exact HK.out | apply KeepBut.set_ | apply keep_drewN | apply keep_drew | apply keep_alloc) | exact HK.out)) hk (.inl rfl)); replace HB := am_ (hb); clear hb hk hi) | ((with_reducible refine gc_ 126 ?_); refine gl_ (some 20) Try.func126 #[.pointer (some ⟨g, 0, none⟩)] ?_; (with_reducible refine (spec_l01Byte.calls g s0_0 C D T E F c _ ?side1 ?side2 U.out).mono ?_); (case side1 => repeat (first | (with_reducible first | exact HI0.out | apply IsS132.alloc | apply IsS132.drewN | apply IsS132.drew | apply IsS132.set_1 | apply IsS132.set_2) | exact HI0.out)); (case side2 => repeat (first | (with_reducible first | exact HB.out | apply below_alloc | apply pw_below_drewN | apply below_drew1 | refine below_set ?_ (IsS132.ge HI0.out)) | exact HB.out)); rintro e a1 ⟨rfl, hi, hb, hk⟩; refine ⟨_, rfl, ?_⟩; replace HI0 := am_ (hi); replace HK := am_ (KeepBut.trans (by repeat (first | (with_reducible first | exact HK.out | apply KeepBut.set_ | apply keep_drewN | apply keep_drew | apply keep_alloc) | exact HK.out)) hk (.inl rfl)); replace HB := am_ (hb); clear hb hk hi) | ((with_reducible refine gc_ 126 ?_); refine gl_ (some 22) Try.func126 #[.pointer (some ⟨g, 0, none⟩)] ?_; (with_reducible refine (spec_l01Byte.calls g s0_0 E F V G I c _ ?side1 ?side2 s.out).mono ?_); (case side1 => repeat (first | (with_reducible first | exact HI0.out | apply IsS132.alloc | apply IsS132.drewN | apply IsS132.drew | apply IsS132.set_1 | apply IsS132.set_2) | exact HI0.out)); (case side2 => repeat (first | (with_reducible first | exact HB.out | apply below_alloc | apply pw_below_drewN | apply below_drew1 | refine below_set ?_ (IsS132.ge HI0.out)) | exact HB.out)); rintro e a2 ⟨rfl, hi, hb, hk⟩; refine ⟨_, rfl, ?_⟩; replace HI0 := am_ (hi); replace HK := am_ (KeepBut.trans (by repeat (first | (with_reducible first | exact HK.out | apply KeepBut.set_ | apply keep_drewN | apply keep_drew | apply keep_alloc) | exact HK.out)) hk (.inl rfl)); replace HB := am_ (hb); clear hb hk hi) | ((with_reducible refine gc_ 126 ?_); refine gl_ (some 24) Try.func126 #[.pointer (some ⟨g, 0, none⟩)] ?_; (with_reducible refine (spec_l01Byte.calls g s0_0 G I X Y Z c _ ?side1 ?side2 t.out).mono ?_); (case side1 => repeat (first | (with_reducible first | exact HI0.out | apply IsS132.alloc | apply IsS132.drewN | apply IsS132.drew | apply IsS132.set_1 | apply IsS132.set_2) | exact HI0.out)); (case side2 => repeat (first | (with_reducible first | exact HB.out | apply below_alloc | apply pw_below_drewN | apply below_drew1 | refine below_set ?_ (IsS132.ge HI0.out)) | exact HB.out)); rintro e a3 ⟨rfl, hi, hb, hk⟩; refine ⟨_, rfl, ?_⟩; replace HI0 := am_ (hi); replace HK := am_ (KeepBut.trans (by repeat (first | (with_reducible first | exact HK.out | apply KeepBut.set_ | apply keep_drewN | apply keep_drew | apply keep_alloc) | exact HK.out)) hk (.inl rfl)); replace HB := am_ (hb); clear hb hk hi))
 go_ret
 exact ⟨qr_, by repeat (first | (with_reducible first | exact HI0.out | apply IsS132.alloc | apply IsS132.drewN | apply IsS132.drew | apply IsS132.set_1 | apply IsS132.set_2) | exact HI0.out), by repeat (first | (with_reducible first | exact HB.out | apply below_alloc | apply pw_below_drewN | apply below_drew1 | refine below_set ?_ (IsS132.ge HI0.out)) | exact HB.out), by repeat (first | (with_reducible first | exact HK.out | apply KeepBut.set_ | apply keep_drewN | apply keep_drew | apply keep_alloc) | exact HK.out)⟩
mutual
def spec_l01Text.j0 : Nat → Int → List Int → Int → Int → Option (ByteArray × Int × Int)
  | 0, _, _, _, _ => none
  | k + 1, x1, x1000, x1001, x1002 => spec_l01Text.l0 k x1 (([] : List Int)) 0 x1000 x1001 x1002
def spec_l01Text.l0 : Nat → Int → List Int → Int → List Int → Int → Int → Option (ByteArray × Int × Int)
  | 0, _, _, _, _, _, _ => none
  | k + 1, x1, x5, x6, x1000, x1001, x1002 => if x6 < x1 then ((spec_l01Byte.f x1000 x1001 x1002).bind fun bt258 => (if x5.length < 140737488355328 then (spec_l01Text.l0 k x1 (x5 ++ [(bt258.1) % 256]) (wrap64 (x6 + 1)) x1000 bt258.2.1 bt258.2.2) else (none))) else (some (strOfNums x5, x1001, x1002))
end
def spec_l01Text.f (k : Nat) (s0_0 : List Int) (s0_1 : Int) (s0_2 : Int) (a1 : Int) : Option (ByteArray × Int × Int) := if a1 > 5000 then (spec_l01Text.j0 k 5000 s0_0 s0_1 s0_2) else (spec_l01Text.j0 k a1 s0_0 s0_1 s0_2)
theorem spec_l01Text.calls (k : Nat) (g : Nat) (s0_0 : List Int) (s0_1 : Int) (s0_2 : Int) (o : Int) (t : ByteArray) (u : Int) (v : Int) (d w : World) (hI : IsS132 d w g s0_0 s0_1 s0_2) (hB : Below d.heap.size d w) (h : spec_l01Text.f k s0_0 s0_1 s0_2 o = some (t, u, v)) :
  Calls Try.prog 114 #[.pointer (some ⟨g, 0, none⟩), .int .i64 o] w fun e w' => e = .returned (.string t) ∧ IsS132 d w' g s0_0 u v ∧ Below d.heap.size d w' ∧ KeepBut w w' g none := by
 have HI0 := am_ hI
 have HK := am_ (KeepBut.refl w g none)
 have HL := am_ hB.size
 clear hI
 have HW0 := am_ hB.size
 have HB := am_ hB
 clear hB
 have H : (if o > 5000 then (spec_l01Text.j0 k 5000 s0_0 s0_1 s0_2) else (spec_l01Text.j0 k o s0_0 s0_1 s0_2)) = some (t, u, v) := h
 clear h
 have B := am_ H
 clear H
 go_enter Try.func114, Try.ntmps114
 go_upto_if 8 with (fail)
 go_cut [1] (fun v1 wc => ∃ (kq : Nat) (i : Int), v1 = .int .i64 i ∧ Aside0 (spec_l01Text.j0 kq i s0_0 s0_1 s0_2 = some (t, u, v)) ∧ Aside0 (kq ≤ k) ∧ Aside0 (IsS132 d wc g s0_0 s0_1 s0_2) ∧ Aside0 (KeepBut w wc g none) ∧ Aside0 (Below d.heap.size d wc))
 case first =>
  have H := B.out; clear B
  refine jc_ H ?_ ?_ <;> clear H <;> intro s H
  ·have a : decide (5000 < o) = true := decide_eq_true s
   clear s
   (first | rw [a] | (simp only [i64_w, i32_w]; rw [a]) | skip)
   have H' := am_ H; clear H
   go_wp2
   go_meet
   case rel => exact ⟨_, (5000), qe_, H', ⟨qo_⟩, ⟨by repeat (first | (with_reducible first | exact HI0.out | apply IsS132.alloc | apply IsS132.drewN | apply IsS132.drew | apply IsS132.set_1 | apply IsS132.set_2) | exact HI0.out)⟩, ⟨by repeat (first | (with_reducible first | exact HK.out | apply KeepBut.set_ | apply keep_drewN | apply keep_drew | apply keep_alloc) | exact HK.out)⟩, ⟨by repeat (first | (with_reducible first | exact HB.out | apply below_alloc | apply pw_below_drewN | apply below_drew1 | refine below_set ?_ (IsS132.ge HI0.out)) | exact HB.out)⟩⟩
  have a : decide (5000 < o) = false := decide_eq_false s
  clear s
  (first | rw [a] | (simp only [i64_w, i32_w]; rw [a]) | skip)
  have H' := am_ H; clear H
  go_wp2
  go_meet
  case rel => exact ⟨_, (o), qe_, H', ⟨qo_⟩, ⟨by repeat (first | (with_reducible first | exact HI0.out | apply IsS132.alloc | apply IsS132.drewN | apply IsS132.drew | apply IsS132.set_1 | apply IsS132.set_2) | exact HI0.out)⟩, ⟨by repeat (first | (with_reducible first | exact HK.out | apply KeepBut.set_ | apply keep_drewN | apply keep_drew | apply keep_alloc) | exact HK.out)⟩, ⟨by repeat (first | (with_reducible first | exact HB.out | apply below_alloc | apply pw_below_drewN | apply below_drew1 | refine below_set ?_ (IsS132.ge HI0.out)) | exact HB.out)⟩⟩
 case rest =>
  clear B
  obtain ⟨kq, i, rfl, HA, D, HI0, HK, HB⟩ := hcut
  cases kq with
  | zero => exact absurd HA.out (by simp [spec_l01Text.j0])
  | succ kj2 =>
   have H := HA.out; clear HA
   simp only [spec_l01Text.j0] at H
   generalize l : (([] : List Int)) = L at H; replace H := bh_ H; have m := am_ l.symm; clear l; have H' := am_ H; clear H
   go_wp2_with (first | ((with_reducible refine gd_ 9 ?_); refine Kd.R_lit (Kd.int .u8) _ 5 ?hg (N := 9) ?hd (xs := ([] : List Int)) (inner := []) (ok := fun _ => True) (okp := fun _ => True) ?hr ?hp (fun _ hk => hk) trivial (Below.refl _ _) (Nat.le_refl _) (by simp) ?_; (case hd => rfl); (case hg => rfl); (case hr => first | (go_simp; done) | (go_simp; rfl)); (case hp => exact (Reps.none _ _)); intro Z a0 ho6 hb hg_ hnew_; clear hg_ hnew_; (first | rw [← m.out] at ho6 | (simp only [Int.reduceToNat] at ho6; rw [← m.out] at ho6)); refine dn4_ (am_ (Kd.R_lower ho6 (keep_size (w := w) (g := g) (row := none) (by repeat (first | (with_reducible first | exact HK.out | apply KeepBut.set_ | apply keep_drewN | apply keep_drew | apply keep_alloc) | exact HK.out))))) (am_ (IsS132.below (by repeat (first | (with_reducible first | exact HI0.out | apply IsS132.alloc | apply IsS132.drewN | apply IsS132.drew | apply IsS132.set_1 | apply IsS132.set_2) | exact HI0.out)) hb)) (am_ (KeepBut.trans (by repeat (first | (with_reducible first | exact HK.out | apply KeepBut.set_ | apply keep_drewN | apply keep_drew | apply keep_alloc) | exact HK.out)) (KeepBut.of_below hb g none) (.inl rfl))) (am_ (below_step (by repeat (first | (with_reducible first | exact HB.out | apply below_alloc | apply pw_below_drewN | apply below_drew1 | refine below_set ?_ (IsS132.ge HI0.out)) | exact HB.out)) hb)) ?_; clear HI0 HK HB; intro M HI0 HK HB; clear hb ho6))
   go_loopg [5, 6] kj2 (fun kq v5 v6 w' => ∃ (c : List Int) (j : Int) (x : Int) (y : Int), v6 = .int .i64 j ∧ Aside0 (spec_l01Text.l0 kq i c j s0_0 x y = some (t, u, v)) ∧ Aside0 (kq ≤ kj2) ∧ Aside0 (Kd.R (Kd.int .u8) 5 w' w.heap.size (fun _ => True) v5 c) ∧ Aside0 (IsS132 d w' g s0_0 x y) ∧ Aside0 (KeepBut w w' g none) ∧ Aside0 (Below d.heap.size d w'))
   case atStart => exact ⟨(L), (0), (s0_1), (s0_2), qe_, H', ⟨Nat.le_refl _⟩, ⟨ra_ M⟩, ⟨by repeat (first | (with_reducible first | exact HI0.out | apply IsS132.alloc | apply IsS132.drewN | apply IsS132.drew | apply IsS132.set_1 | apply IsS132.set_2) | exact HI0.out)⟩, ⟨by repeat (first | (with_reducible first | exact HK.out | apply KeepBut.set_ | apply keep_drewN | apply keep_drew | apply keep_alloc) | exact HK.out)⟩, ⟨by repeat (first | (with_reducible first | exact HB.out | apply below_alloc | apply pw_below_drewN | apply below_drew1 | refine below_set ?_ (IsS132.ge HI0.out)) | exact HB.out)⟩⟩
   case round =>
    clear H'
    obtain ⟨c, j, x, y, rfl, HA, HK2, p, HI0, HK, HB⟩ := hrel
    cases gk with
    | zero => exact absurd HA.out (by simp [spec_l01Text.l0])
    | succ O =>
     have H := HA.out; clear HA
     simp only [spec_l01Text.l0] at H
     refine ib_ H ?_ ?_ <;> clear H <;> intro E H
     ·simp only [Option.some.injEq, Prod.mk.injEq] at H
      obtain ⟨rfl, rfl, rfl⟩ := H
      have hcv12 := own_string (P := Try.prog) Try.underlying76 Try.underlying5 Try.underlying9 (Kd.own_of_R p.out)
      go_wp2
      go_ret
      exact ⟨qr_, by repeat (first | (with_reducible first | exact HI0.out | apply IsS132.alloc | apply IsS132.drewN | apply IsS132.drew | apply IsS132.set_1 | apply IsS132.set_2) | exact HI0.out), by repeat (first | (with_reducible first | exact HB.out | apply below_alloc | apply pw_below_drewN | apply below_drew1 | refine below_set ?_ (IsS132.ge HI0.out)) | exact HB.out), by repeat (first | (with_reducible first | exact HK.out | apply KeepBut.set_ | apply keep_drewN | apply keep_drew | apply keep_alloc) | exact HK.out)⟩
     obtain ⟨⟨A, F, G⟩, T, H⟩ := bs_ H; dsimp only at H
     refine jg_ H ?_; clear H; intro I H
     have z := am_ I
     clear I
     generalize n : (c ++ [(A) % 256]) = U at H; replace H := bh_ H; have q := am_ n.symm; clear n; have H' := am_ H; clear H
     go_wp2_with (first | ((with_reducible refine gc_ 126 ?_); refine gl_ (some 17) Try.func126 #[.pointer (some ⟨g, 0, none⟩)] ?_; (with_reducible refine (spec_l01Byte.calls g s0_0 x y A F G d _ ?side1 ?side2 T.out).mono ?_); (case side1 => repeat (first | (with_reducible first | exact HI0.out | apply IsS132.alloc | apply IsS132.drewN | apply IsS132.drew | apply IsS132.set_1 | apply IsS132.set_2) | exact HI0.out)); (case side2 => repeat (first | (with_reducible first | exact HB.out | apply below_alloc | apply pw_below_drewN | apply below_drew1 | refine below_set ?_ (IsS132.ge HI0.out)) | exact HB.out)); rintro e V ⟨rfl, hi, hb, hk⟩; refine ⟨_, rfl, ?_⟩; replace p := am_ (Kd.R_mono (Kd.R_keep (IsS132.apart (show IsS132 d _ g s0_0 x y from by repeat (first | (with_reducible first | exact HI0.out | apply IsS132.alloc | apply IsS132.drewN | apply IsS132.drew | apply IsS132.set_1 | apply IsS132.set_2) | exact HI0.out)) (qR_ p) (by decide)) hk (fun _ h => h.2)) (fun _ h => h.1)); replace HI0 := am_ (hi); replace HK := am_ (KeepBut.trans (by repeat (first | (with_reducible first | exact HK.out | apply KeepBut.set_ | apply keep_drewN | apply keep_drew | apply keep_alloc) | exact HK.out)) hk (.inl rfl)); replace HB := am_ (hb); clear hb hk hi) | ((with_reducible refine gate_builtin (b := .append) (xs := #[.tmp 15, .tmp 19]) rfl ?_); at_builtin; refine Kd.R_append (Kd.int .u8) w.heap.size rfl (.tmp 15) (.tmp 19) 76 5 (.int .u8 0) 1 rfl Try.underlying76 info5 rfl (by decide) (by omega) u5 c ((A) % 256) [.int .u8 ((A) % 256)] (fun _ => True) (fun _ => False) rfl rfl ?aP (fun _ hk => hk.elim) ?aF ?aO (Below.refl _ _) ?aS ?aL ?_; (case aP => exact rfl); (case aF => exact (fun _ _ => trivial)); (case aO => exact (qR_ p)); (case aS => exact (keep_size (w := w) (g := g) (row := none) (by repeat (first | (with_reducible first | exact HK.out | apply KeepBut.set_ | apply keep_drewN | apply keep_drew | apply keep_alloc) | exact HK.out)))); (case aL => have := z.out; omega); intro a1 X ho hb hg hat; rw [← q.out] at ho; refine dn4_ (am_ (IsS132.grown (by repeat (first | (with_reducible first | exact HI0.out | apply IsS132.alloc | apply IsS132.drewN | apply IsS132.drew | apply IsS132.set_1 | apply IsS132.set_2) | exact HI0.out)) hg (IsS132.own_ne HI0.out p.out (by decide)))) (am_ (below_weaken (by repeat (first | (with_reducible first | exact HB.out | apply below_alloc | apply pw_below_drewN | apply below_drew1 | refine below_set ?_ (IsS132.ge HI0.out)) | exact HB.out)) HL.out hb)) (am_ (KeepBut.trans (by repeat (first | (with_reducible first | exact HK.out | apply KeepBut.set_ | apply keep_drewN | apply keep_drew | apply keep_alloc) | exact HK.out)) (KeepBut.of_grown hg g) (Kd.R_base2 p.out))) (am_ (ho)) ?_; clear HI0 HB HK p; intro HI0 HB HK Y; clear ho hb hg hat))
     go_roundg O
     case measure => have := D.out; have := HK2.out; omega
     case rel => exact ⟨(U), (wrap64 (j + 1)), (F), (G), qe_, H', ⟨by have := D.out; have := HK2.out; omega⟩, ⟨ra_ Y⟩, ⟨by repeat (first | (with_reducible first | exact HI0.out | apply IsS132.alloc | apply IsS132.drewN | apply IsS132.drew | apply IsS132.set_1 | apply IsS132.set_2) | exact HI0.out)⟩, ⟨by repeat (first | (with_reducible first | exact HK.out | apply KeepBut.set_ | apply keep_drewN | apply keep_drew | apply keep_alloc) | exact HK.out)⟩, ⟨by repeat (first | (with_reducible first | exact HB.out | apply below_alloc | apply pw_below_drewN | apply below_drew1 | refine below_set ?_ (IsS132.ge HI0.out)) | exact HB.out)⟩⟩
def spec_l01Pick.f (s0_0 : List Int) (s0_1 : Int) (s0_2 : Int) (l1 : List ByteArray) : Option (ByteArray × Int × Int) := (spec_l01Below.f s0_0 s0_1 s0_2 (l1.length : Int)).bind fun bt264 => (if 0 ≤ bt264.1 then (if bt264.1 < (l1.length : Int) then (some (rdOf ByteArray.empty l1 bt264.1, bt264.2.1, bt264.2.2)) else (none)) else (none))
theorem spec_l01Pick.calls (g : Nat) (s0_0 : List Int) (s0_1 : Int) (s0_2 : Int) (o : Option Addr) (t : Nat) (l1 : List ByteArray) (p : ByteArray) (q : Int) (s : Int) (d w : World) (hI : IsS132 d w g s0_0 s0_1 s0_2) (hB : Below d.heap.size d w) (hr1 : Kd.C Kd.string w o l1.length l1) (hc1 : l1.length ≤ t) (i : ∀ ad, o = some ad → 0 < l1.length → ad.block ≠ g) (h : spec_l01Pick.f s0_0 s0_1 s0_2 l1 = some (p, q, s)) :
  Calls Try.prog 117 #[.pointer (some ⟨g, 0, none⟩), .slice o l1.length t] w fun e w' => e = .returned (.string p) ∧ IsS132 d w' g s0_0 q s ∧ Below d.heap.size d w' ∧ KeepBut w w' g none := by
 have y := am_ hr1
 have D := am_ hc1
 clear hr1 hc1
 have HI0 := am_ hI
 have HK := am_ (KeepBut.refl w g none)
 have HL := am_ hB.size
 clear hI
 have HW0 := am_ hB.size
 have HB := am_ hB
 clear hB
 have H : ((spec_l01Below.f s0_0 s0_1 s0_2 (l1.length : Int)).bind fun l => (if 0 ≤ l.1 then (if l.1 < (l1.length : Int) then (some (rdOf ByteArray.empty l1 l.1, l.2.1, l.2.2)) else (none)) else (none))) = some (p, q, s) := h
 clear h
 obtain ⟨⟨n, z, A⟩, B, H⟩ := bs_ H; dsimp only at H
 refine ig_ H ?_; clear H; intro u H
 refine ig_ H ?_; clear H; intro v H
 simp only [Option.some.injEq, Prod.mk.injEq] at H
 obtain ⟨rfl, rfl, rfl⟩ := H
 go_enter Try.func117, Try.ntmps117
 go_wp2_with (first | ((with_reducible refine gc_ 113 ?_); refine gl_ (some 9) Try.func113 #[.pointer (some ⟨g, 0, none⟩), .int .i64 (l1.length : Int)] ?_; (with_reducible refine (spec_l01Below.calls g s0_0 s0_1 s0_2 (l1.length : Int) n z A d _ ?side1 ?side2 B.out).mono ?_); (case side1 => repeat (first | (with_reducible first | exact HI0.out | apply IsS132.alloc | apply IsS132.drewN | apply IsS132.drew | apply IsS132.set_1 | apply IsS132.set_2) | exact HI0.out)); (case side2 => repeat (first | (with_reducible first | exact HB.out | apply below_alloc | apply pw_below_drewN | apply below_drew1 | refine below_set ?_ (IsS132.ge HI0.out)) | exact HB.out)); rintro e E ⟨rfl, hi, hb, hk⟩; refine ⟨_, rfl, ?_⟩; replace HI0 := am_ (hi); replace HK := am_ (KeepBut.trans (by repeat (first | (with_reducible first | exact HK.out | apply KeepBut.set_ | apply keep_drewN | apply keep_drew | apply keep_alloc) | exact HK.out)) hk (.inl rfl)); replace HB := am_ (hb); clear hb hk hi; have a := dp_ n; have c := dl_ n l1.length; obtain ⟨j, m, x⟩ := Kd.at_string y.out n a c; cases m; replace x := keep_cell HK.out x (by first | (rw [add_block]; exact i _ rfl (by omega)) | exact i _ rfl (by omega) | exact i j rfl (by omega)); replace a := eq_true a; replace c := eq_true c))
 go_ret
 exact ⟨qr_, by repeat (first | (with_reducible first | exact HI0.out | apply IsS132.alloc | apply IsS132.drewN | apply IsS132.drew | apply IsS132.set_1 | apply IsS132.set_2) | exact HI0.out), by repeat (first | (with_reducible first | exact HB.out | apply below_alloc | apply pw_below_drewN | apply below_drew1 | refine below_set ?_ (IsS132.ge HI0.out)) | exact HB.out), by repeat (first | (with_reducible first | exact HK.out | apply KeepBut.set_ | apply keep_drewN | apply keep_drew | apply keep_alloc) | exact HK.out)⟩
def spec_l03Named.f (s0_0 : List Int) (s0_1 : Int) (s0_2 : Int) : Option (ByteArray × Int × Int) := (spec_l01Pick.f s0_0 s0_1 s0_2 (([(⟨#[97]⟩ : ByteArray), (⟨#[98]⟩ : ByteArray), (⟨#[99]⟩ : ByteArray), (⟨#[108, 111, 103]⟩ : ByteArray), (⟨#[108, 111, 103, 43]⟩ : ByteArray), (⟨#[120]⟩ : ByteArray), (⟨#[121]⟩ : ByteArray), (⟨#[122]⟩ : ByteArray)] : List ByteArray))).bind fun bt271 => (some (bt271.1, bt271.2.1, bt271.2.2))
theorem spec_l03Named.calls (g : Nat) (s0_0 : List Int) (s0_1 : Int) (s0_2 : Int) (j : ByteArray) (l : Int) (m : Int) (d w : World) (hI : IsS132 d w g s0_0 s0_1 s0_2) (hB : Below d.heap.size d w) (h : spec_l03Named.f s0_0 s0_1 s0_2 = some (j, l, m)) :
  Calls Try.prog 115 #[.pointer (some ⟨g, 0, none⟩)] w fun e w' => e = .returned (.string j) ∧ IsS132 d w' g s0_0 l m ∧ Below d.heap.size d w' ∧ KeepBut w w' g none := by
 have HI0 := am_ hI
 have HK := am_ (KeepBut.refl w g none)
 have HL := am_ hB.size
 clear hI
 have HW0 := am_ hB.size
 have HB := am_ hB
 clear hB
 have H : ((spec_l01Pick.f s0_0 s0_1 s0_2 (([(⟨#[97]⟩ : ByteArray), (⟨#[98]⟩ : ByteArray), (⟨#[99]⟩ : ByteArray), (⟨#[108, 111, 103]⟩ : ByteArray), (⟨#[108, 111, 103, 43]⟩ : ByteArray), (⟨#[120]⟩ : ByteArray), (⟨#[121]⟩ : ByteArray), (⟨#[122]⟩ : ByteArray)] : List ByteArray))).bind fun n => (some (n.1, n.2.1, n.2.2))) = some (j, l, m) := h
 clear h
 generalize a : (([(⟨#[97]⟩ : ByteArray), (⟨#[98]⟩ : ByteArray), (⟨#[99]⟩ : ByteArray), (⟨#[108, 111, 103]⟩ : ByteArray), (⟨#[108, 111, 103, 43]⟩ : ByteArray), (⟨#[120]⟩ : ByteArray), (⟨#[121]⟩ : ByteArray), (⟨#[122]⟩ : ByteArray)] : List ByteArray)) = o at H; replace H := bh_ H; have c := am_ a.symm; clear a
 obtain ⟨⟨p, q, s⟩, t, H⟩ := bs_ H; dsimp only at H
 simp only [Option.some.injEq, Prod.mk.injEq] at H
 obtain ⟨rfl, rfl, rfl⟩ := H
 go_enter Try.func115, Try.ntmps115
 go_wp2_with (first | ((with_reducible refine gd_ 4 ?_); refine Kd.R_lit Kd.string _ 9 ?hg (N := 4) ?hd (xs := ([(⟨#[97]⟩ : ByteArray), (⟨#[98]⟩ : ByteArray), (⟨#[99]⟩ : ByteArray), (⟨#[108, 111, 103]⟩ : ByteArray), (⟨#[108, 111, 103, 43]⟩ : ByteArray), (⟨#[120]⟩ : ByteArray), (⟨#[121]⟩ : ByteArray), (⟨#[122]⟩ : ByteArray)] : List ByteArray)) (inner := [.string (⟨#[97]⟩ : ByteArray), .string (⟨#[98]⟩ : ByteArray), .string (⟨#[99]⟩ : ByteArray), .string (⟨#[108, 111, 103]⟩ : ByteArray), .string (⟨#[108, 111, 103, 43]⟩ : ByteArray), .string (⟨#[120]⟩ : ByteArray), .string (⟨#[121]⟩ : ByteArray), .string (⟨#[122]⟩ : ByteArray)]) (ok := fun _ => True) (okp := fun _ => True) ?hr ?hp (fun _ hk => hk) trivial (Below.refl _ _) (Nat.le_refl _) (by simp) ?_; (case hd => rfl); (case hg => rfl); (case hr => first | (go_simp; done) | (go_simp; rfl)); (case hp => exact (Reps.one (show Kd.M Kd.string _ _ _ (⟨#[97]⟩ : ByteArray) [.string (⟨#[97]⟩ : ByteArray)] from rfl) (Reps.one (show Kd.M Kd.string _ _ _ (⟨#[98]⟩ : ByteArray) [.string (⟨#[98]⟩ : ByteArray)] from rfl) (Reps.one (show Kd.M Kd.string _ _ _ (⟨#[99]⟩ : ByteArray) [.string (⟨#[99]⟩ : ByteArray)] from rfl) (Reps.one (show Kd.M Kd.string _ _ _ (⟨#[108, 111, 103]⟩ : ByteArray) [.string (⟨#[108, 111, 103]⟩ : ByteArray)] from rfl) (Reps.one (show Kd.M Kd.string _ _ _ (⟨#[108, 111, 103, 43]⟩ : ByteArray) [.string (⟨#[108, 111, 103, 43]⟩ : ByteArray)] from rfl) (Reps.one (show Kd.M Kd.string _ _ _ (⟨#[120]⟩ : ByteArray) [.string (⟨#[120]⟩ : ByteArray)] from rfl) (Reps.one (show Kd.M Kd.string _ _ _ (⟨#[121]⟩ : ByteArray) [.string (⟨#[121]⟩ : ByteArray)] from rfl) (Reps.one (show Kd.M Kd.string _ _ _ (⟨#[122]⟩ : ByteArray) [.string (⟨#[122]⟩ : ByteArray)] from rfl) (Reps.none _ _)))))))))); intro y z ho4 hb hg_ hnew_; clear hg_ hnew_; (first | rw [← c.out] at ho4 | (simp only [Int.reduceToNat] at ho4; rw [← c.out] at ho4)); refine dn4_ (am_ (Kd.R_lower ho4 (keep_size (w := w) (g := g) (row := none) (by repeat (first | (with_reducible first | exact HK.out | apply KeepBut.set_ | apply keep_drewN | apply keep_drew | apply keep_alloc) | exact HK.out))))) (am_ (IsS132.below (by repeat (first | (with_reducible first | exact HI0.out | apply IsS132.alloc | apply IsS132.drewN | apply IsS132.drew | apply IsS132.set_1 | apply IsS132.set_2) | exact HI0.out)) hb)) (am_ (KeepBut.trans (by repeat (first | (with_reducible first | exact HK.out | apply KeepBut.set_ | apply keep_drewN | apply keep_drew | apply keep_alloc) | exact HK.out)) (KeepBut.of_below hb g none) (.inl rfl))) (am_ (below_step (by repeat (first | (with_reducible first | exact HB.out | apply below_alloc | apply pw_below_drewN | apply below_drew1 | refine below_set ?_ (IsS132.ge HI0.out)) | exact HB.out)) hb)) ?_; clear HI0 HK HB; intro i HI0 HK HB; clear hb ho4; obtain ⟨u, v, x⟩ := Kd.R_slice i.out; subst x) | ((with_reducible refine gc_ 117 ?_); refine gl_ (some 5) Try.func117 #[.pointer (some ⟨g, 0, none⟩), .slice u o.length v] ?_; (with_reducible refine (spec_l01Pick.calls g s0_0 s0_1 s0_2 _ _ o p q s d _ ?side1 ?side2 ?side3 ?side4 ?side5 t.out).mono ?_); (case side1 => repeat (first | (with_reducible first | exact HI0.out | apply IsS132.alloc | apply IsS132.drewN | apply IsS132.drew | apply IsS132.set_1 | apply IsS132.set_2) | exact HI0.out)); (case side2 => repeat (first | (with_reducible first | exact HB.out | apply below_alloc | apply pw_below_drewN | apply below_drew1 | refine below_set ?_ (IsS132.ge HI0.out)) | exact HB.out)); (case side3 => exact qD_ (Kd.R_reads' i.out).2.2); (case side4 => exact (Kd.R_reads' i.out).2.1); (case side5 => exact far_slice (IsS132.own_ne HI0.out i.out (by decide))); rintro e A ⟨rfl, hi, hb, hk⟩; refine ⟨_, rfl, ?_⟩; replace i := am_ (Kd.R_mono (Kd.R_keep (IsS132.apart (show IsS132 d _ g s0_0 s0_1 s0_2 from by repeat (first | (with_reducible first | exact HI0.out | apply IsS132.alloc | apply IsS132.drewN | apply IsS132.drew | apply IsS132.set_1 | apply IsS132.set_2) | exact HI0.out)) (qR_ i) (by decide)) hk (fun _ h => h.2)) (fun _ h => h.1)); replace HI0 := am_ (hi); replace HK := am_ (KeepBut.trans (by repeat (first | (with_reducible first | exact HK.out | apply KeepBut.set_ | apply keep_drewN | apply keep_drew | apply keep_alloc) | exact HK.out)) hk (.inl rfl)); replace HB := am_ (hb); clear hb hk hi))
 go_ret
 exact ⟨qr_, by repeat (first | (with_reducible first | exact HI0.out | apply IsS132.alloc | apply IsS132.drewN | apply IsS132.drew | apply IsS132.set_1 | apply IsS132.set_2) | exact HI0.out), by repeat (first | (with_reducible first | exact HB.out | apply below_alloc | apply pw_below_drewN | apply below_drew1 | refine below_set ?_ (IsS132.ge HI0.out)) | exact HB.out), by repeat (first | (with_reducible first | exact HK.out | apply KeepBut.set_ | apply keep_drewN | apply keep_drew | apply keep_alloc) | exact HK.out)⟩
def spec_l01PickInt.f (s0_0 : List Int) (s0_1 : Int) (s0_2 : Int) (l1 : List Int) : Option (Int × Int × Int) := (spec_l01Below.f s0_0 s0_1 s0_2 (l1.length : Int)).bind fun bt274 => (if 0 ≤ bt274.1 then (if bt274.1 < (l1.length : Int) then (some (rd l1 bt274.1, bt274.2.1, bt274.2.2)) else (none)) else (none))
theorem spec_l01PickInt.calls (g : Nat) (s0_0 : List Int) (s0_1 : Int) (s0_2 : Int) (o : Option Addr) (t : Nat) (l1 : List Int) (p : Int) (q : Int) (s : Int) (d w : World) (hI : IsS132 d w g s0_0 s0_1 s0_2) (hB : Below d.heap.size d w) (hr1 : Kd.C (Kd.int .i64) w o l1.length l1) (hc1 : l1.length ≤ t) (i : ∀ ad, o = some ad → 0 < l1.length → ad.block ≠ g) (h : spec_l01PickInt.f s0_0 s0_1 s0_2 l1 = some (p, q, s)) :
  Calls Try.prog 116 #[.pointer (some ⟨g, 0, none⟩), .slice o l1.length t] w fun e w' => e = .returned (.int .i64 p) ∧ IsS132 d w' g s0_0 q s ∧ Below d.heap.size d w' ∧ KeepBut w w' g none := by
 have y := am_ hr1
 have D := am_ hc1
 clear hr1 hc1
 have HI0 := am_ hI
 have HK := am_ (KeepBut.refl w g none)
 have HL := am_ hB.size
 clear hI
 have HW0 := am_ hB.size
 have HB := am_ hB
 clear hB
 have H : ((spec_l01Below.f s0_0 s0_1 s0_2 (l1.length : Int)).bind fun l => (if 0 ≤ l.1 then (if l.1 < (l1.length : Int) then (some (rd l1 l.1, l.2.1, l.2.2)) else (none)) else (none))) = some (p, q, s) := h
 clear h
 obtain ⟨⟨n, z, A⟩, B, H⟩ := bs_ H; dsimp only at H
 refine ig_ H ?_; clear H; intro u H
 refine ig_ H ?_; clear H; intro v H
 simp only [Option.some.injEq, Prod.mk.injEq] at H
 obtain ⟨rfl, rfl, rfl⟩ := H
 go_enter Try.func116, Try.ntmps116
 go_wp2_with (first | ((with_reducible refine gc_ 113 ?_); refine gl_ (some 9) Try.func113 #[.pointer (some ⟨g, 0, none⟩), .int .i64 (l1.length : Int)] ?_; (with_reducible refine (spec_l01Below.calls g s0_0 s0_1 s0_2 (l1.length : Int) n z A d _ ?side1 ?side2 B.out).mono ?_); (case side1 => repeat (first | (with_reducible first | exact HI0.out | apply IsS132.alloc | apply IsS132.drewN | apply IsS132.drew | apply IsS132.set_1 | apply IsS132.set_2) | exact HI0.out)); (case side2 => repeat (first | (with_reducible first | exact HB.out | apply below_alloc | apply pw_below_drewN | apply below_drew1 | refine below_set ?_ (IsS132.ge HI0.out)) | exact HB.out)); rintro e E ⟨rfl, hi, hb, hk⟩; refine ⟨_, rfl, ?_⟩; replace HI0 := am_ (hi); replace HK := am_ (KeepBut.trans (by repeat (first | (with_reducible first | exact HK.out | apply KeepBut.set_ | apply keep_drewN | apply keep_drew | apply keep_alloc) | exact HK.out)) hk (.inl rfl)); replace HB := am_ (hb); clear hb hk hi; have a := dp_ n; have c := dl_ n l1.length; obtain ⟨j, m, x⟩ := Kd.at_int y.out n a c; cases m; replace x := keep_cell HK.out x (by first | (rw [add_block]; exact i _ rfl (by omega)) | exact i _ rfl (by omega) | exact i j rfl (by omega)); replace a := eq_true a; replace c := eq_true c))
 go_ret
 exact ⟨qr_, by repeat (first | (with_reducible first | exact HI0.out | apply IsS132.alloc | apply IsS132.drewN | apply IsS132.drew | apply IsS132.set_1 | apply IsS132.set_2) | exact HI0.out), by repeat (first | (with_reducible first | exact HB.out | apply below_alloc | apply pw_below_drewN | apply below_drew1 | refine below_set ?_ (IsS132.ge HI0.out)) | exact HB.out), by repeat (first | (with_reducible first | exact HK.out | apply KeepBut.set_ | apply keep_drewN | apply keep_drew | apply keep_alloc) | exact HK.out)⟩
def spec_l01Figure.f (a0 : Int) : Option (Int) := if a0 < 10 then (some ((wrap64 (48 + a0)) % 256)) else (some ((wrap64 ((wrap64 (97 + a0)) - 10)) % 256))
theorem spec_l01Figure.calls (a : Int) (r : Int) (w : World) (h : spec_l01Figure.f a = some r) :
  Calls Try.prog 127 #[.int .i64 a] w fun e w' => e = .returned (.int .u8 r) ∧ Drawn0 w w' := by
 rw [spec_l01Figure.f] at h; have H := h; clear h
 refine ic_ H ?_ ?_ <;> clear H <;> intro c H
 ·obtain rfl := oi_ H
  go_enter Try.func127, Try.ntmps127
  go_wp2
  go_ret
  exact ⟨by first | rfl | (simp; done) | (simp [*]; done), by repeat (first | exact Drawn0.refl _ | apply Drawn0.step)⟩
 obtain rfl := oi_ H
 go_enter Try.func127, Try.ntmps127
 go_wp2
 go_ret
 exact ⟨by first | rfl | (simp; done) | (simp [*]; done), by repeat (first | exact Drawn0.refl _ | apply Drawn0.step)⟩
end Go.Proofs.Ytacnlodcbbhahaa.QFnActs
