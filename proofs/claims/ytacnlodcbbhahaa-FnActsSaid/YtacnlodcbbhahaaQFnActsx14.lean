import Derived.Test.YtacnlodcbbhahaaQFnActsx13
namespace Go.Proofs.Ytacnlodcbbhahaa.QFnActs
open Go.RowKit Go.Proofs.YtacnlodcbbhahaaW.PrintWords Go.Proofs.YtacnlodcbbhahaaW.PrintLast Go.Proofs.YtacnlodcbbhahaaW.PrintMore
set_option maxHeartbeats 8000000
set_option maxRecDepth 100000
set_option linter.unusedVariables false
set_option linter.unusedSimpArgs false
def spec_DoActs.l0 : Nat → List (S60) → Int → List (S99) → Option ((List (S99)) × Int)
  | 0, _, _, _ => none
  | k + 1, x1, x7, x217000 => if x7 < (x1.length : Int) then (if 0 ≤ x7 then ((spec_DoAct.f k x217000 ((rd_T60 x1 x7).f0) ((rd_T60 x1 x7).f1) ((rd_T60 x1 x7).f2) ((rd_T60 x1 x7).f3)).bind fun bt218 => (if bt218.2 = true then (spec_DoActs.l0 k x1 (wrap64 (x7 + 1)) bt218.1) else (some (x217000, x7)))) else (none)) else (some (x217000, (x1.length : Int)))
def spec_DoActs.f (k : Nat) (l0_0 : List (S99)) (l1 : List (S60)) : Option ((List (S99)) × Int) := (some (([] : List (S99)) : List (S99))).bind fun y210 => (if y210.length + l0_0.length < 3518437208883 then (spec_DoActs.l0 k l1 0 (y210 ++ l0_0)) else (none))
def spec_DoActs.T5 : Bool × List (List Nat × List Nat) := (true, [([], []), ([], []), ([], []), ([1, 2], [1, 2]), ([3], [3]), ([0, 4], [0, 4]), ([5], [5]), ([6], [6]), ([6], [6]), ([], []), ([9, 7, 5, 0, 1, 2, 3, 4, 5, 6, 7, 9], [7, 9]), ([8, 10, 0, 1, 2, 3, 4, 5, 6, 7, 8, 9, 10], [8])])
def spec_DoActs.B5 : List Nat := [0, 0, 0, 6, 14, 31, 63, 127, 127, 0, 767, 2047]
theorem spec_DoActs.tab5 : rtab .any (opsOf Try.f48 5) = spec_DoActs.T5 := by kernel_rfl
theorem spec_DoActs.bits5 : waitsOk spec_DoActs.T5.2 spec_DoActs.B5 = true := by kernel_rfl
theorem spec_DoActs.calls (k : Nat) (y : Option Addr) (z : Nat) (m : List (S99)) (h2 : Option Addr) (f7 : Nat) (l1 : List (S60)) (e7 : List (S99)) (e8 : Int) (w : World) (hr0_0 : Kd.C k99 w y m.length m) (hc0_0 : m.length ≤ z) (hr1 : Kd.C k60 w h2 l1.length l1) (hc1 : l1.length ≤ f7) (h : spec_DoActs.f k m l1 = some (e7, e8)) :
  Calls Try.prog 48 #[.agg #[.slice y m.length z], .slice h2 l1.length f7] w fun e w' => ∃ e3 : Value, e = .returned (.tuple #[.agg #[e3], .int .i64 e8]) ∧ Kd.R k99 99 w' w.heap.size (fun _ => True) e3 e7 ∧ Below w.heap.size w w' := by
 have hu44 := Try.underlying44; have hu60 := Try.underlying60
 have d8 := am_ hr0_0
 have f8 := am_ hc0_0
 clear hr0_0 hc0_0
 have h3 := am_ hr1
 have k4 := am_ hc1
 clear hr1 hc1
 have HB := am_ (Below.refl w.heap.size w)
 have H : ((some (([] : List (S99)) : List (S99))).bind fun e4 => (if e4.length + m.length < 3518437208883 then (spec_DoActs.l0 k l1 0 (e4 ++ m)) else (none))) = some (e7, e8) := h
 clear h
 generalize a1 : (([] : List (S99))) = e4 at H; replace H := bh_ H; have a2 := am_ a1.symm; clear a1
 refine jg_ H ?_; clear H; intro f9 H
 have e5 := am_ f9
 clear f9
 generalize a3 : (e4 ++ m) = g0 at H; replace H := bh_ H; have d9 := am_ a3.symm; clear a3; have H' := am_ H; clear H
 go_enter Try.func48, Try.ntmps48
 go_wp2_with (first | ((with_reducible refine gd_ 2 ?_); refine by_ 2 (cs := #[.slice y m.length z]) (t := 44) ?_; intro M hg k5 l hb; have k6 := gw_ hg; replace HB := hs_ hb; clear hb hg) | ((with_reducible refine gd_ 4 ?_); refine by_ 4 (cs := #[.slice none 0 0]) (t := 44) ?_; intro I hg k7 g hb; have k8 := gw_ hg; obtain ⟨i3, h4⟩ := qn_ l hg; replace l := qbl_ l hb; replace HB := hs_ hb; clear hb hg) | ((with_reducible refine gd_ 10 ?_); refine Kd.R_lit k99 _ 99 ?hg (N := 10) ?hd (xs := ([] : List (S99))) (inner := []) (ok := fun _ => True) (okp := fun _ => True) ?hr ?hp (fun _ hk => hk) trivial (Below.refl _ _) (Nat.le_refl _) (by simp) ?_; (case hd => rfl); (case hg => rfl); (case hr => first | (go_simp; done) | (go_simp; rfl)); (case hp => exact (Reps.none _ _)); intro i4 k9 ho7 hb hg_ hnew_; clear hg_ hnew_; (first | rw [← a2.out] at ho7 | (simp only [Int.reduceToNat] at ho7; rw [← a2.out] at ho7)); have e9 := am_ (Kd.R_lower ho7 (below_size qB_)); replace l := qbl_ l hb; replace g := qbl_ g hb; replace HB := hs_ hb; clear hb ho7; obtain ⟨l2, l3⟩ := nn_ i3; obtain ⟨i5, i6⟩ := bc1_ l) | ((with_reducible refine gate_builtin (b := .append) (xs := #[.tmp 10, .tmp 12]) rfl ?_); at_builtin; refine Kd.R_append_rows k99 (w0 := w) w.heap.size rfl (.tmp 10) (.tmp 12) 42 99 (.agg #[(.string ⟨#[]⟩), (.string ⟨#[]⟩), (.int .i64 0)]) 40 rfl Try.underlying42 info99 rfl (by decide) (by omega) i4 e4 m _ _ _ (fun _ => True) (fun _ => False) rfl rfl ?aO ?aR (fun _ _ h => h) (fun _ h => h.elim) ?aF ?aB ?aS ?aL ?_; (case aR => repeat (first | exact (Kd.C_below d8.out HB.out) | (with_reducible refine Kd.C_alloc ?_ _) | (with_reducible refine Kd.C_drewN ?_ _) | (with_reducible refine Kd.C_drew ?_))); (case aB => exact qB_); (case aF => exact (fun _ _ => trivial)); (case aO => exact (qR_ e9)); (case aS => exact (below_size qB_)); (case aL => have := e5.out; omega); intro l4 i7 ho hb hg hat; rw [← d9.out] at ho; have f4 := am_ (ho); replace l := am_ (blk_grown (qk_ l) hg (Kd.R_ne e9.out l.out (by decide))); replace g := am_ (blk_grown (qk_ g) hg (Kd.R_ne e9.out g.out (by decide))); replace HB := am_ (hb); clear e9 ho hb hg hat; obtain ⟨h5, h6, i8⟩ := Kd.R_slice f4.out; subst i8) | ((with_reducible refine gd_ 6 ?_); refine by_ 6 (cs := #[.slice none 0 0]) (t := 44) ?_; intro A hg i9 d hb; have l5 := gw_ hg; obtain ⟨l6, f5⟩ := qn_ l hg; obtain ⟨l7, f6⟩ := qn_ g hg; replace f4 := kb_ f4 hb; replace l := qbl_ l hb; replace g := qbl_ g hb; replace HB := hs_ hb; clear hb hg; obtain ⟨l8, l9⟩ := nn_ f5; obtain ⟨m0, m1⟩ := nn_ f6; obtain ⟨j3, j4⟩ := bc1_ d))
 go_loopg [7] k (fun kq v7 w' => ∃ (a : Int) (u : List (S99)) (g1 : Value), v7 = .int .i64 a ∧ Aside0 (spec_DoActs.l0 kq l1 a u = some (e7, e8)) ∧ Aside0 (kq ≤ k) ∧ Aside0 (Kd.R k99 99 w' w.heap.size (fun _ => True) g1 u) ∧ Aside0 (w'.heap[M]? = some (.cells #[(.slice y m.length z)] 44 (0, 0))) ∧ Aside0 (w'.heap[I]? = some (.cells #[(.slice none 0 0)] 44 (0, 0))) ∧ Aside0 (w'.heap[A]? = some (.cells #[g1] 44 (0, 0))) ∧ Aside0 (Below w.heap.size w w'))
 case atStart => exact ⟨(0), (g0), (.slice h5 g0.length h6), qe_, H', ⟨Nat.le_refl _⟩, ⟨by (with_reducible repeat (first | apply Kd.R_alloc | apply Kd.R_drewN | apply Kd.R_drew)); exact Kd.R_mono (Kd.R_far (p := ⟨A, 0, none⟩) (Kd.R_types f4.out d.out (by decide)) (fun _ hk => hk.2) (.slice h5 g0.length h6)) (fun _ hk => trivial)⟩, ⟨qf_ l⟩, ⟨qf_ g⟩, ⟨qp_ d⟩, ⟨qB_⟩⟩
 case round =>
  clear H' j3 i5 j4 i6
  obtain ⟨a, u, g1, rfl, HA, HK1, o, l, g, d, HB⟩ := hrel
  cases gk with
  | zero => exact absurd HA.out (by simp [spec_DoActs.l0])
  | succ e6 =>
   have H := HA.out; clear HA
   simp only [spec_DoActs.l0] at H
   refine ib_ H ?_ ?_ <;> clear H <;> intro g2 H
   ·simp only [Option.some.injEq, Prod.mk.injEq] at H
    obtain ⟨rfl, rfl⟩ := H
    obtain ⟨m5, m6⟩ := nn_ f5; obtain ⟨m7, m8⟩ := nn_ f6
    obtain ⟨m9, n0⟩ := bc1_ d
    obtain ⟨h7, h8, j7⟩ := Kd.R_slice o.out
    subst j7; obtain ⟨n1, n2⟩ := nn_ h4
    obtain ⟨n3, n4⟩ := bc1_ g
    go_wp2
    refine bodyPost_ret (results_ct rfl _ _ I 44 #[.slice h7 u.length h8] (0, 0) _ rfl (qp_ g) Try.underlying44 rfl (by kernel_rfl)) rfl ?_
    exact ⟨_, qr_, by (with_reducible repeat (first | apply Kd.R_alloc | apply Kd.R_drewN | apply Kd.R_drew)); exact Kd.R_mono (Kd.R_far (p := ⟨I, 0, none⟩) (Kd.R_types o.out g.out (by decide)) (fun _ hk => hk.2) (.slice h7 u.length h8)) (fun _ hk => trivial), qB_⟩
   refine ig_ H ?_; clear H; intro g3 H
   obtain ⟨⟨O, n5⟩, d2, H⟩ := bs_ H; dsimp only at H
   refine ie_ H ?_ ?_ <;> clear H <;> rintro rfl H
   ·have H' := am_ H; clear H
    obtain ⟨a4, a5, j8⟩ := Kd.R_slice o.out
    subst j8
    try go_wp2
    replace o := rd_ o; replace l := bd_ l; replace g := bd_ g; replace d := bd_ d; replace HB := hd_ HB
    have a6 := dt_ a
    have a7 := du_ a l1.length
    obtain ⟨c, a8, d3, d4, d5, d6⟩ := at_T60 h3.out a (ot_ a6) (ot_ a7)
    have D := d6; have E := d5; have F := d4; have G := d3; cases a8
    replace d3 := qx_ HB d3
    replace d4 := qx_ HB d4
    replace d5 := qx_ HB d5
    replace d6 := qx_ HB d6
    refine start_ (n := 12) (S := fun w' => w'.cell? ⟨A, 0, none⟩ = some (.slice a4 u.length a5) ∧ w'.cell? (c.add ((a).toNat * 4)) = some (.int .i64 ((rd_T60 l1 a).f0)) ∧ w'.cell? ⟨(c.add ((a).toNat * 4)).block, (c.add ((a).toNat * 4)).off + 1, none⟩ = some (.string ((rd_T60 l1 a).f1)) ∧ w'.cell? ⟨(c.add ((a).toNat * 4)).block, (c.add ((a).toNat * 4)).off + 2, none⟩ = some (.string ((rd_T60 l1 a).f2)) ∧ w'.cell? ⟨(c.add ((a).toNat * 4)).block, (c.add ((a).toNat * 4)).off + 3, none⟩ = some (.string ((rd_T60 l1 a).f3))) (ds := []) (bm 12 0) (by kernel_rfl) rfl (by kernel_rfl) ⟨bl_ d 0, ((qx_ HB G).trans rfl), ((qx_ HB F).trans rfl), ((qx_ HB E).trans rfl), ((qx_ HB D).trans rfl)⟩ (fun hHeld => ?_); refine with_tabW spec_DoActs.tab5 spec_DoActs.bits5 (fun HT_ HW_ => ?_)
    generalize wr.drew = j9 at o l g d HB d3 d4 d5 d6 hHeld ⊢
    refine pz_ 1 23 12 2 ?_; refine pz_ 2 24 12 6 ?_; refine pz_ 3 25 12 14 ?_; refine tz5_ 0 22 12 15 ?_; refine tz5_ 4 26 12 31 ?_
    refine join_ (σ := Value × Nat) 2 #[true, true, true, true, true, true, true, true, true, true, false, false] (fun s_ => [(27, .tuple #[.agg #[s_.1], .bool true]), (8, .pointer (some ⟨s_.2, 0, none⟩)), (21, .tuple #[.agg #[s_.1], .bool true]), (28, .agg #[s_.1]), (29, .bool true)]) (fun s_ w' => (w'.cell? ⟨A, 0, none⟩ = some (.slice a4 u.length a5) ∧ w'.cell? (c.add ((a).toNat * 4)) = some (.int .i64 ((rd_T60 l1 a).f0)) ∧ w'.cell? ⟨(c.add ((a).toNat * 4)).block, (c.add ((a).toNat * 4)).off + 1, none⟩ = some (.string ((rd_T60 l1 a).f1)) ∧ w'.cell? ⟨(c.add ((a).toNat * 4)).block, (c.add ((a).toNat * 4)).off + 2, none⟩ = some (.string ((rd_T60 l1 a).f2)) ∧ w'.cell? ⟨(c.add ((a).toNat * 4)).block, (c.add ((a).toNat * 4)).off + 3, none⟩ = some (.string ((rd_T60 l1 a).f3))) ∧ (Kd.R k99 99 w' w.heap.size (fun k_ => some k_ ≠ (.slice a4 u.length a5 : Value).ownBlock) s_.1 O) ∧ (Kd.R k99 99 w' w.heap.size (fun k_ => some k_ ≠ (s_.1 : Value).ownBlock) (.slice a4 u.length a5) u) ∧ (w'.heap[M]? = some (.cells #[.slice y m.length z] 44 (0, 0))) ∧ (w'.heap[I]? = some (.cells #[.slice none 0 0] 44 (0, 0))) ∧ (w'.heap[A]? = some (.cells #[.slice a4 u.length a5] 44 (0, 0))) ∧ (w'.heap[s_.2]? = some (.cells #[.slice none 0 0] 44 (0, 0))) ∧ (w.heap.size ≤ s_.2) ∧ (w.heap.size ≤ s_.2) ∧ (M ≠ s_.2) ∧ (s_.2 ≠ M) ∧ (I ≠ s_.2) ∧ (s_.2 ≠ I) ∧ (A ≠ s_.2) ∧ (s_.2 ≠ A) ∧ (Below w.heap.size w w')) ?_ ?_
    rotate_left
    ·intro hCont
     refine two_ (i := 5) (j := 9) (Ni := some 27) (Nj := some 8) (bm 12 63) #[true, true, true, true, true, false, false, false, false, true, false, false] rfl rfl rfl rfl (two_of HT_.out (by kernel_rfl)) (by decide) (by decide) (fun K hK => ?_) (fun K hK => ?_)
     ·skip
      refine gs_ Try.func38 #[.agg #[.slice a4 u.length a5], .agg #[.int .i64 ((rd_T60 l1 a).f0), .string ((rd_T60 l1 a).f1), .string ((rd_T60 l1 a).f2), .string ((rd_T60 l1 a).f3)]] ?_
      with_reducible refine (spec_DoAct.calls e6 _ _ u ((rd_T60 l1 a).f0) ((rd_T60 l1 a).f1) ((rd_T60 l1 a).f2) ((rd_T60 l1 a).f3) O true _ ?side1 ?side2 d2.out).mono ?_
      (case side1 => exact qD_ (Kd.R_reads' o.out).2.2)
      (case side2 => exact (Kd.R_reads' o.out).2.1)
      rintro e g4 ⟨T, rfl, ho0, hb⟩
      refine ⟨_, rfl, ?_⟩
      have J := am_ (Kd.R_lower (Kd.R_new' ho0 (Kd.R_lt (qR_ o))) (below_size qB_)); replace o := ke_ o ho0 hb; replace l := qbl_ l hb; replace g := qbl_ g hb; replace d := qbl_ d hb; replace HB := hs_ hb; clear hb ho0
      refine hK.out _ _ ⟨bl_ d 0, ((qx_ HB G).trans rfl), ((qx_ HB F).trans rfl), ((qx_ HB E).trans rfl), ((qx_ HB D).trans rfl)⟩ (fun hHeld => ?_)
      clear hK K
      refine nm_ 27 ?_
      refine pz_ 6 21 12 127 ?_; refine pz_ 7 28 12 255 ?_; refine pz_ 8 29 12 511 ?_
      refine o1_ 9 (some 8) 12 1023 (fun K hK => ?_)
      refine box_step ?hg (N := 8) ?hd (cs := #[.slice none 0 0]) (t := 44) ?hr ?_; (case hd => rfl); (case hg => rfl); (case hr => first | (go_simp; done) | (go_simp; rfl))
      intro q hg g5 hbox hb
      have B := am_ (hbox); have s := gw_ hg; have d7 := gw_ hg; have a9 := (qn_ l hg).1; have X := (qn_ l hg).2; have Y := (qn_ g hg).1; have Z := (qn_ g hg).2; have L := (qn_ d hg).1; have a0 := (qn_ d hg).2; replace o := kb_ o hb; replace J := kb_ J hb; replace l := qbl_ l hb; replace g := qbl_ g hb; replace d := qbl_ d hb; replace HB := hs_ hb; clear hb hbox hg
      refine hK.out _ _ ⟨bl_ d 0, ((qx_ HB G).trans rfl), ((qx_ HB F).trans rfl), ((qx_ HB E).trans rfl), ((qx_ HB D).trans rfl)⟩ (fun hHeld => ?_)
      clear hK K
      refine nm_ 8 ?_
      exact norm_ (by simp only [putAll, Act.put, sA_, sB_, sC_]) (hCont (T, q) _ ⟨hHeld, (by (with_reducible repeat (first | apply Kd.R_alloc | apply Kd.R_drewN | apply Kd.R_drew)); exact Kd.R_mono J.out (fun _ hk => hk.2)), (by (with_reducible repeat (first | apply Kd.R_alloc | apply Kd.R_drewN | apply Kd.R_drew)); exact Kd.R_mono o.out (fun _ hk => hk.2)), (qk_ l), (qk_ g), (qk_ d), (qk_ B), s.out, d7.out, a9.out, X.out, Y.out, Z.out, L.out, a0.out, qB_⟩)
     skip
     refine box_step ?hg (N := 8) ?hd (cs := #[.slice none 0 0]) (t := 44) ?hr ?_; (case hd => rfl); (case hg => rfl); (case hr => first | (go_simp; done) | (go_simp; rfl))
     intro q hg g4 hbox hb
     have B := am_ (hbox); have s := gw_ hg; have d7 := gw_ hg; have a9 := (qn_ l hg).1; have X := (qn_ l hg).2; have Y := (qn_ g hg).1; have Z := (qn_ g hg).2; have L := (qn_ d hg).1; have a0 := (qn_ d hg).2; replace o := kb_ o hb; replace l := qbl_ l hb; replace g := qbl_ g hb; replace d := qbl_ d hb; replace HB := hs_ hb; clear hb hbox hg
     refine hK.out _ _ ⟨bl_ d 0, ((qx_ HB G).trans rfl), ((qx_ HB F).trans rfl), ((qx_ HB E).trans rfl), ((qx_ HB D).trans rfl)⟩ (fun hHeld => ?_)
     clear hK K
     refine nm_ 8 ?_
     refine o1_ 5 (some 27) 12 575 (fun K hK => ?_)
     refine gs_ Try.func38 #[.agg #[.slice a4 u.length a5], .agg #[.int .i64 ((rd_T60 l1 a).f0), .string ((rd_T60 l1 a).f1), .string ((rd_T60 l1 a).f2), .string ((rd_T60 l1 a).f3)]] ?_
     with_reducible refine (spec_DoAct.calls e6 _ _ u ((rd_T60 l1 a).f0) ((rd_T60 l1 a).f1) ((rd_T60 l1 a).f2) ((rd_T60 l1 a).f3) O true _ ?side1 ?side2 d2.out).mono ?_
     (case side1 => exact qD_ (Kd.R_reads' o.out).2.2)
     (case side2 => exact (Kd.R_reads' o.out).2.1)
     rintro e g5 ⟨T, rfl, ho0, hb⟩
     refine ⟨_, rfl, ?_⟩
     have J := am_ (Kd.R_lower (Kd.R_new' ho0 (Kd.R_lt (qR_ o))) (below_size qB_)); replace o := ke_ o ho0 hb; replace l := qbl_ l hb; replace g := qbl_ g hb; replace d := qbl_ d hb; replace B := qbl_ B hb; replace HB := hs_ hb; clear hb ho0
     refine hK.out _ _ ⟨bl_ d 0, ((qx_ HB G).trans rfl), ((qx_ HB F).trans rfl), ((qx_ HB E).trans rfl), ((qx_ HB D).trans rfl)⟩ (fun hHeld => ?_)
     clear hK K
     refine nm_ 27 ?_
     refine pz_ 6 21 12 639 ?_; refine pz_ 7 28 12 767 ?_; refine pz_ 8 29 12 1023 ?_
     exact norm_ (by simp only [putAll, Act.put, sA_, sB_, sC_]) (hCont (T, q) _ ⟨hHeld, (by (with_reducible repeat (first | apply Kd.R_alloc | apply Kd.R_drewN | apply Kd.R_drew)); exact Kd.R_mono J.out (fun _ hk => hk.2)), (by (with_reducible repeat (first | apply Kd.R_alloc | apply Kd.R_drewN | apply Kd.R_drew)); exact Kd.R_mono o.out (fun _ hk => hk.2)), (qk_ l), (qk_ g), (qk_ d), (qk_ B), s.out, d7.out, a9.out, X.out, Y.out, Z.out, L.out, a0.out, qB_⟩)
    rintro ⟨T, q⟩ v ⟨hS_, b0, b1, b2, b3, b4, b5, b6, b7, b8, b9, h10_, h11_, h12_, h13_, h14_⟩
    have c0 : Aside0 (Kd.R k99 99 v w.heap.size (fun k_ => some k_ ≠ (.slice a4 u.length a5 : Value).ownBlock) T O) := ⟨b0⟩
    have c1 : Aside0 (Kd.R k99 99 v w.heap.size (fun k_ => some k_ ≠ (T : Value).ownBlock) (.slice a4 u.length a5) u) := ⟨b1⟩
    have c2 : Aside0 (v.heap[M]? = some (.cells #[.slice y m.length z] 44 (0, 0))) := ⟨b2⟩
    have c3 : Aside0 (v.heap[I]? = some (.cells #[.slice none 0 0] 44 (0, 0))) := ⟨b3⟩
    have c4 : Aside0 (v.heap[A]? = some (.cells #[.slice a4 u.length a5] 44 (0, 0))) := ⟨b4⟩
    have c5 : Aside0 (v.heap[q]? = some (.cells #[.slice none 0 0] 44 (0, 0))) := ⟨b5⟩
    have c6 : Aside0 (w.heap.size ≤ q) := ⟨b6⟩
    have c7 : Aside0 (w.heap.size ≤ q) := ⟨b7⟩
    have c8 : Aside0 (M ≠ q) := ⟨b8⟩
    have c9 : Aside0 (q ≠ M) := ⟨b9⟩
    have n10_ : Aside0 (I ≠ q) := ⟨h10_⟩
    have n11_ : Aside0 (q ≠ I) := ⟨h11_⟩
    have n12_ : Aside0 (A ≠ q) := ⟨h12_⟩
    have n13_ : Aside0 (q ≠ A) := ⟨h13_⟩
    have n14_ : Aside0 (Below w.heap.size w v) := ⟨h14_⟩
    clear o l g d HB b0 b1 b2 b3 b4 b5 b6 b7 b8 b9 h10_ h11_ h12_ h13_ h14_; have J := c0; have o := c1; have l := c2; have g := c3; have d := c4; have B := c5; have s := c6; have d7 := c7; have a9 := c8; have X := c9; have Y := n10_; have Z := n11_; have L := n12_; have a0 := n13_; have HB := n14_; clear c0 c1 c2 c3 c4 c5 c6 c7 c8 c9 n10_ n11_ n12_ n13_ n14_
    have hHeld : v.cell? ⟨A, 0, none⟩ = some (.slice a4 u.length a5) ∧ v.cell? (c.add ((a).toNat * 4)) = some (.int .i64 ((rd_T60 l1 a).f0)) ∧ v.cell? ⟨(c.add ((a).toNat * 4)).block, (c.add ((a).toNat * 4)).off + 1, none⟩ = some (.string ((rd_T60 l1 a).f1)) ∧ v.cell? ⟨(c.add ((a).toNat * 4)).block, (c.add ((a).toNat * 4)).off + 2, none⟩ = some (.string ((rd_T60 l1 a).f2)) ∧ v.cell? ⟨(c.add ((a).toNat * 4)).block, (c.add ((a).toNat * 4)).off + 3, none⟩ = some (.string ((rd_T60 l1 a).f3)) := hS_
    obtain ⟨g6, g7, h9⟩ := Kd.R_slice J.out
    (first | subst h9 | (injection h9 with d0 e0 d1; have e1 := d0.symm; have e2 := d1.symm; clear d0 e0 d1; subst e1; subst e2))
    refine norm_ (a' := ?_) ?_ ?_
    rotate_left
    ·simp only [putAll, Act.put, sA_, sB_, sC_]
     rfl
    refine o1_ 10 none 12 2047 (fun K hK => ?_)
    have i0 : v.cell? ⟨q, 0, none⟩ = some (.slice none 0 0) := bl_ B 0
    have g8 := blk_frozen B.out 0
    have n6 := a9.out; have n7 := Y.out; have n8 := L.out; have n9 := X.out; have o0 := Z.out; have o1 := a0.out
    refine skip_ (w1 := ?_) (by rfl) rfl ?_ ?_
    rotate_left
    ·go_simp
     rfl
    refine hK.out _ _ ⟨((cell_far (p := ⟨q, _, none⟩) L.out _).trans (hHeld.1)), ((cell_far (p := ⟨q, _, none⟩) (by first | exact Nat.ne_of_lt (Nat.lt_of_lt_of_le (by have := World.block_lt_of_cell? _ _ G; first | rwa [add_block] at this | exact this) s.out) | (rw [add_block]; exact Nat.ne_of_lt (Nat.lt_of_lt_of_le (by have := World.block_lt_of_cell? _ _ G; first | rwa [add_block] at this | exact this) s.out)) | (show (Addr.add _ _).block ≠ _; rw [add_block]; exact Nat.ne_of_lt (Nat.lt_of_lt_of_le (by have := World.block_lt_of_cell? _ _ G; first | rwa [add_block] at this | exact this) s.out)) | (dsimp only; exact Nat.ne_of_lt (Nat.lt_of_lt_of_le (by have := World.block_lt_of_cell? _ _ G; first | rwa [add_block] at this | exact this) s.out))) _).trans (hHeld.2.1)), ((cell_far (p := ⟨q, _, none⟩) (by first | exact Nat.ne_of_lt (Nat.lt_of_lt_of_le (by have := World.block_lt_of_cell? _ _ F; first | rwa [add_block] at this | exact this) s.out) | (rw [add_block]; exact Nat.ne_of_lt (Nat.lt_of_lt_of_le (by have := World.block_lt_of_cell? _ _ F; first | rwa [add_block] at this | exact this) s.out)) | (show (Addr.add _ _).block ≠ _; rw [add_block]; exact Nat.ne_of_lt (Nat.lt_of_lt_of_le (by have := World.block_lt_of_cell? _ _ F; first | rwa [add_block] at this | exact this) s.out)) | (dsimp only; exact Nat.ne_of_lt (Nat.lt_of_lt_of_le (by have := World.block_lt_of_cell? _ _ F; first | rwa [add_block] at this | exact this) s.out))) _).trans (hHeld.2.2.1)), ((cell_far (p := ⟨q, _, none⟩) (by first | exact Nat.ne_of_lt (Nat.lt_of_lt_of_le (by have := World.block_lt_of_cell? _ _ E; first | rwa [add_block] at this | exact this) s.out) | (rw [add_block]; exact Nat.ne_of_lt (Nat.lt_of_lt_of_le (by have := World.block_lt_of_cell? _ _ E; first | rwa [add_block] at this | exact this) s.out)) | (show (Addr.add _ _).block ≠ _; rw [add_block]; exact Nat.ne_of_lt (Nat.lt_of_lt_of_le (by have := World.block_lt_of_cell? _ _ E; first | rwa [add_block] at this | exact this) s.out)) | (dsimp only; exact Nat.ne_of_lt (Nat.lt_of_lt_of_le (by have := World.block_lt_of_cell? _ _ E; first | rwa [add_block] at this | exact this) s.out))) _).trans (hHeld.2.2.2.1)), ((cell_far (p := ⟨q, _, none⟩) (by first | exact Nat.ne_of_lt (Nat.lt_of_lt_of_le (by have := World.block_lt_of_cell? _ _ D; first | rwa [add_block] at this | exact this) s.out) | (rw [add_block]; exact Nat.ne_of_lt (Nat.lt_of_lt_of_le (by have := World.block_lt_of_cell? _ _ D; first | rwa [add_block] at this | exact this) s.out)) | (show (Addr.add _ _).block ≠ _; rw [add_block]; exact Nat.ne_of_lt (Nat.lt_of_lt_of_le (by have := World.block_lt_of_cell? _ _ D; first | rwa [add_block] at this | exact this) s.out)) | (dsimp only; exact Nat.ne_of_lt (Nat.lt_of_lt_of_le (by have := World.block_lt_of_cell? _ _ D; first | rwa [add_block] at this | exact this) s.out))) _).trans (hHeld.2.2.2.2))⟩ (fun hHeld => ?_)
    clear hK K; refine pz_ 11 9 12 4095 ?_
    refine done_ (done_of HT_.out (by kernel_rfl)) ?_
    obtain ⟨o2, o3⟩ := nn_ X; obtain ⟨o4, o5⟩ := nn_ Z; obtain ⟨o6, o7⟩ := nn_ a0
    obtain ⟨o8, o9⟩ := bc1_ B
    obtain ⟨p0, p1⟩ := nn_ f5; obtain ⟨p2, p3⟩ := nn_ f6
    obtain ⟨p4, p5⟩ := bc1_ d
    try go_wp2
    go_roundg e6
    case measure => have := HK1.out; omega
    case rel => exact ⟨(wrap64 (a + 1)), (O), (.slice g6 O.length g7), qe_, H', ⟨by have := HK1.out; omega⟩, ⟨by (with_reducible repeat (first | apply Kd.R_alloc | apply Kd.R_drewN | apply Kd.R_drew)); exact Kd.R_mono (Kd.R_far (p := ⟨A, 0, none⟩) (Kd.R_far (p := ⟨q, 0, none⟩) (Kd.R_types (Kd.R_types J.out B.out (by decide)) d.out (by decide)) (fun _ hk => hk.1.2) (.slice g6 O.length g7)) (fun _ hk => hk.2) (.slice g6 O.length g7)) (fun _ hk => trivial)⟩, ⟨qf_ l⟩, ⟨qf_ g⟩, ⟨qp_ d⟩, ⟨qB_⟩⟩
   simp only [Option.some.injEq, Prod.mk.injEq] at H
   obtain ⟨rfl, rfl⟩ := H
   obtain ⟨U, V, k0⟩ := Kd.R_slice o.out
   subst k0
   try go_wp2
   replace o := rd_ o; replace l := bd_ l; replace g := bd_ g; replace d := bd_ d; replace HB := hd_ HB
   have a6 := dt_ a
   have a7 := du_ a l1.length
   obtain ⟨c, a8, d3, d4, d5, d6⟩ := at_T60 h3.out a (ot_ a6) (ot_ a7)
   have D := d6; have E := d5; have F := d4; have G := d3; cases a8
   replace d3 := qx_ HB d3
   replace d4 := qx_ HB d4
   replace d5 := qx_ HB d5
   replace d6 := qx_ HB d6
   refine start_ (n := 12) (S := fun w' => w'.cell? ⟨A, 0, none⟩ = some (.slice U u.length V) ∧ w'.cell? (c.add ((a).toNat * 4)) = some (.int .i64 ((rd_T60 l1 a).f0)) ∧ w'.cell? ⟨(c.add ((a).toNat * 4)).block, (c.add ((a).toNat * 4)).off + 1, none⟩ = some (.string ((rd_T60 l1 a).f1)) ∧ w'.cell? ⟨(c.add ((a).toNat * 4)).block, (c.add ((a).toNat * 4)).off + 2, none⟩ = some (.string ((rd_T60 l1 a).f2)) ∧ w'.cell? ⟨(c.add ((a).toNat * 4)).block, (c.add ((a).toNat * 4)).off + 3, none⟩ = some (.string ((rd_T60 l1 a).f3))) (ds := []) (bm 12 0) (by kernel_rfl) rfl (by kernel_rfl) ⟨bl_ d 0, ((qx_ HB G).trans rfl), ((qx_ HB F).trans rfl), ((qx_ HB E).trans rfl), ((qx_ HB D).trans rfl)⟩ (fun hHeld => ?_); refine with_tabW spec_DoActs.tab5 spec_DoActs.bits5 (fun HT_ HW_ => ?_)
   generalize wr.drew = k1 at o l g d HB d3 d4 d5 d6 hHeld ⊢
   refine pz_ 1 23 12 2 ?_; refine pz_ 2 24 12 6 ?_; refine pz_ 3 25 12 14 ?_; refine tz5_ 0 22 12 15 ?_; refine tz5_ 4 26 12 31 ?_
   refine join_ (σ := Value × Nat) 2 #[true, true, true, true, true, true, true, true, true, true, false, false] (fun s_ => [(27, .tuple #[.agg #[s_.1], .bool false]), (8, .pointer (some ⟨s_.2, 0, none⟩)), (21, .tuple #[.agg #[s_.1], .bool false]), (28, .agg #[s_.1]), (29, .bool false)]) (fun s_ w' => (w'.cell? ⟨A, 0, none⟩ = some (.slice U u.length V) ∧ w'.cell? (c.add ((a).toNat * 4)) = some (.int .i64 ((rd_T60 l1 a).f0)) ∧ w'.cell? ⟨(c.add ((a).toNat * 4)).block, (c.add ((a).toNat * 4)).off + 1, none⟩ = some (.string ((rd_T60 l1 a).f1)) ∧ w'.cell? ⟨(c.add ((a).toNat * 4)).block, (c.add ((a).toNat * 4)).off + 2, none⟩ = some (.string ((rd_T60 l1 a).f2)) ∧ w'.cell? ⟨(c.add ((a).toNat * 4)).block, (c.add ((a).toNat * 4)).off + 3, none⟩ = some (.string ((rd_T60 l1 a).f3))) ∧ (Kd.R k99 99 w' w.heap.size (fun k_ => some k_ ≠ (.slice U u.length V : Value).ownBlock) s_.1 O) ∧ (Kd.R k99 99 w' w.heap.size (fun k_ => some k_ ≠ (s_.1 : Value).ownBlock) (.slice U u.length V) u) ∧ (w'.heap[M]? = some (.cells #[.slice y m.length z] 44 (0, 0))) ∧ (w'.heap[I]? = some (.cells #[.slice none 0 0] 44 (0, 0))) ∧ (w'.heap[A]? = some (.cells #[.slice U u.length V] 44 (0, 0))) ∧ (w'.heap[s_.2]? = some (.cells #[.slice none 0 0] 44 (0, 0))) ∧ (w.heap.size ≤ s_.2) ∧ (w.heap.size ≤ s_.2) ∧ (M ≠ s_.2) ∧ (s_.2 ≠ M) ∧ (I ≠ s_.2) ∧ (s_.2 ≠ I) ∧ (A ≠ s_.2) ∧ (s_.2 ≠ A) ∧ (Below w.heap.size w w')) ?_ ?_
   rotate_left
   ·intro hCont
    refine two_ (i := 5) (j := 9) (Ni := some 27) (Nj := some 8) (bm 12 63) #[true, true, true, true, true, false, false, false, false, true, false, false] rfl rfl rfl rfl (two_of HT_.out (by kernel_rfl)) (by decide) (by decide) (fun K hK => ?_) (fun K hK => ?_)
    ·skip
     refine gs_ Try.func38 #[.agg #[.slice U u.length V], .agg #[.int .i64 ((rd_T60 l1 a).f0), .string ((rd_T60 l1 a).f1), .string ((rd_T60 l1 a).f2), .string ((rd_T60 l1 a).f3)]] ?_
     with_reducible refine (spec_DoAct.calls e6 _ _ u ((rd_T60 l1 a).f0) ((rd_T60 l1 a).f1) ((rd_T60 l1 a).f2) ((rd_T60 l1 a).f3) O false _ ?side1 ?side2 d2.out).mono ?_
     (case side1 => exact qD_ (Kd.R_reads' o.out).2.2)
     (case side2 => exact (Kd.R_reads' o.out).2.1)
     rintro e g9 ⟨T, rfl, ho0, hb⟩
     refine ⟨_, rfl, ?_⟩
     have J := am_ (Kd.R_lower (Kd.R_new' ho0 (Kd.R_lt (qR_ o))) (below_size qB_)); replace o := ke_ o ho0 hb; replace l := qbl_ l hb; replace g := qbl_ g hb; replace d := qbl_ d hb; replace HB := hs_ hb; clear hb ho0
     refine hK.out _ _ ⟨bl_ d 0, ((qx_ HB G).trans rfl), ((qx_ HB F).trans rfl), ((qx_ HB E).trans rfl), ((qx_ HB D).trans rfl)⟩ (fun hHeld => ?_)
     clear hK K
     refine nm_ 27 ?_
     refine pz_ 6 21 12 127 ?_; refine pz_ 7 28 12 255 ?_; refine pz_ 8 29 12 511 ?_
     refine o1_ 9 (some 8) 12 1023 (fun K hK => ?_)
     refine box_step ?hg (N := 8) ?hd (cs := #[.slice none 0 0]) (t := 44) ?hr ?_; (case hd => rfl); (case hg => rfl); (case hr => first | (go_simp; done) | (go_simp; rfl))
     intro q hg h0 hbox hb
     have B := am_ (hbox); have s := gw_ hg; have d7 := gw_ hg; have a9 := (qn_ l hg).1; have X := (qn_ l hg).2; have Y := (qn_ g hg).1; have Z := (qn_ g hg).2; have L := (qn_ d hg).1; have a0 := (qn_ d hg).2; replace o := kb_ o hb; replace J := kb_ J hb; replace l := qbl_ l hb; replace g := qbl_ g hb; replace d := qbl_ d hb; replace HB := hs_ hb; clear hb hbox hg
     refine hK.out _ _ ⟨bl_ d 0, ((qx_ HB G).trans rfl), ((qx_ HB F).trans rfl), ((qx_ HB E).trans rfl), ((qx_ HB D).trans rfl)⟩ (fun hHeld => ?_)
     clear hK K
     refine nm_ 8 ?_
     exact norm_ (by simp only [putAll, Act.put, sA_, sB_, sC_]) (hCont (T, q) _ ⟨hHeld, (by (with_reducible repeat (first | apply Kd.R_alloc | apply Kd.R_drewN | apply Kd.R_drew)); exact Kd.R_mono J.out (fun _ hk => hk.2)), (by (with_reducible repeat (first | apply Kd.R_alloc | apply Kd.R_drewN | apply Kd.R_drew)); exact Kd.R_mono o.out (fun _ hk => hk.2)), (qk_ l), (qk_ g), (qk_ d), (qk_ B), s.out, d7.out, a9.out, X.out, Y.out, Z.out, L.out, a0.out, qB_⟩)
    skip
    refine box_step ?hg (N := 8) ?hd (cs := #[.slice none 0 0]) (t := 44) ?hr ?_; (case hd => rfl); (case hg => rfl); (case hr => first | (go_simp; done) | (go_simp; rfl))
    intro q hg g9 hbox hb
    have B := am_ (hbox); have s := gw_ hg; have d7 := gw_ hg; have a9 := (qn_ l hg).1; have X := (qn_ l hg).2; have Y := (qn_ g hg).1; have Z := (qn_ g hg).2; have L := (qn_ d hg).1; have a0 := (qn_ d hg).2; replace o := kb_ o hb; replace l := qbl_ l hb; replace g := qbl_ g hb; replace d := qbl_ d hb; replace HB := hs_ hb; clear hb hbox hg
    refine hK.out _ _ ⟨bl_ d 0, ((qx_ HB G).trans rfl), ((qx_ HB F).trans rfl), ((qx_ HB E).trans rfl), ((qx_ HB D).trans rfl)⟩ (fun hHeld => ?_)
    clear hK K
    refine nm_ 8 ?_
    refine o1_ 5 (some 27) 12 575 (fun K hK => ?_)
    refine gs_ Try.func38 #[.agg #[.slice U u.length V], .agg #[.int .i64 ((rd_T60 l1 a).f0), .string ((rd_T60 l1 a).f1), .string ((rd_T60 l1 a).f2), .string ((rd_T60 l1 a).f3)]] ?_
    with_reducible refine (spec_DoAct.calls e6 _ _ u ((rd_T60 l1 a).f0) ((rd_T60 l1 a).f1) ((rd_T60 l1 a).f2) ((rd_T60 l1 a).f3) O false _ ?side1 ?side2 d2.out).mono ?_
    (case side1 => exact qD_ (Kd.R_reads' o.out).2.2)
    (case side2 => exact (Kd.R_reads' o.out).2.1)
    rintro e h0 ⟨T, rfl, ho0, hb⟩
    refine ⟨_, rfl, ?_⟩
    have J := am_ (Kd.R_lower (Kd.R_new' ho0 (Kd.R_lt (qR_ o))) (below_size qB_)); replace o := ke_ o ho0 hb; replace l := qbl_ l hb; replace g := qbl_ g hb; replace d := qbl_ d hb; replace B := qbl_ B hb; replace HB := hs_ hb; clear hb ho0
    refine hK.out _ _ ⟨bl_ d 0, ((qx_ HB G).trans rfl), ((qx_ HB F).trans rfl), ((qx_ HB E).trans rfl), ((qx_ HB D).trans rfl)⟩ (fun hHeld => ?_)
    clear hK K
    refine nm_ 27 ?_
    refine pz_ 6 21 12 639 ?_; refine pz_ 7 28 12 767 ?_; refine pz_ 8 29 12 1023 ?_
    exact norm_ (by simp only [putAll, Act.put, sA_, sB_, sC_]) (hCont (T, q) _ ⟨hHeld, (by (with_reducible repeat (first | apply Kd.R_alloc | apply Kd.R_drewN | apply Kd.R_drew)); exact Kd.R_mono J.out (fun _ hk => hk.2)), (by (with_reducible repeat (first | apply Kd.R_alloc | apply Kd.R_drewN | apply Kd.R_drew)); exact Kd.R_mono o.out (fun _ hk => hk.2)), (qk_ l), (qk_ g), (qk_ d), (qk_ B), s.out, d7.out, a9.out, X.out, Y.out, Z.out, L.out, a0.out, qB_⟩)
   rintro ⟨T, q⟩ x ⟨hS_, b0, b1, b2, b3, b4, b5, b6, b7, b8, b9, h10_, h11_, h12_, h13_, h14_⟩
   have c0 : Aside0 (Kd.R k99 99 x w.heap.size (fun k_ => some k_ ≠ (.slice U u.length V : Value).ownBlock) T O) := ⟨b0⟩
   have c1 : Aside0 (Kd.R k99 99 x w.heap.size (fun k_ => some k_ ≠ (T : Value).ownBlock) (.slice U u.length V) u) := ⟨b1⟩
   have c2 : Aside0 (x.heap[M]? = some (.cells #[.slice y m.length z] 44 (0, 0))) := ⟨b2⟩
   have c3 : Aside0 (x.heap[I]? = some (.cells #[.slice none 0 0] 44 (0, 0))) := ⟨b3⟩
   have c4 : Aside0 (x.heap[A]? = some (.cells #[.slice U u.length V] 44 (0, 0))) := ⟨b4⟩
   have c5 : Aside0 (x.heap[q]? = some (.cells #[.slice none 0 0] 44 (0, 0))) := ⟨b5⟩
   have c6 : Aside0 (w.heap.size ≤ q) := ⟨b6⟩
   have c7 : Aside0 (w.heap.size ≤ q) := ⟨b7⟩
   have c8 : Aside0 (M ≠ q) := ⟨b8⟩
   have c9 : Aside0 (q ≠ M) := ⟨b9⟩
   have n10_ : Aside0 (I ≠ q) := ⟨h10_⟩
   have n11_ : Aside0 (q ≠ I) := ⟨h11_⟩
   have n12_ : Aside0 (A ≠ q) := ⟨h12_⟩
   have n13_ : Aside0 (q ≠ A) := ⟨h13_⟩
   have n14_ : Aside0 (Below w.heap.size w x) := ⟨h14_⟩
   clear o l g d HB b0 b1 b2 b3 b4 b5 b6 b7 b8 b9 h10_ h11_ h12_ h13_ h14_; have J := c0; have o := c1; have l := c2; have g := c3; have d := c4; have B := c5; have s := c6; have d7 := c7; have a9 := c8; have X := c9; have Y := n10_; have Z := n11_; have L := n12_; have a0 := n13_; have HB := n14_; clear c0 c1 c2 c3 c4 c5 c6 c7 c8 c9 n10_ n11_ n12_ n13_ n14_
   have hHeld : x.cell? ⟨A, 0, none⟩ = some (.slice U u.length V) ∧ x.cell? (c.add ((a).toNat * 4)) = some (.int .i64 ((rd_T60 l1 a).f0)) ∧ x.cell? ⟨(c.add ((a).toNat * 4)).block, (c.add ((a).toNat * 4)).off + 1, none⟩ = some (.string ((rd_T60 l1 a).f1)) ∧ x.cell? ⟨(c.add ((a).toNat * 4)).block, (c.add ((a).toNat * 4)).off + 2, none⟩ = some (.string ((rd_T60 l1 a).f2)) ∧ x.cell? ⟨(c.add ((a).toNat * 4)).block, (c.add ((a).toNat * 4)).off + 3, none⟩ = some (.string ((rd_T60 l1 a).f3)) := hS_
   obtain ⟨k2, k3, i1⟩ := Kd.R_slice J.out
   (first | subst i1 | (injection i1 with d0 e0 d1; have e1 := d0.symm; have e2 := d1.symm; clear d0 e0 d1; subst e1; subst e2))
   refine norm_ (a' := ?_) ?_ ?_
   rotate_left
   ·simp only [putAll, Act.put, sA_, sB_, sC_]
    rfl
   refine o1_ 10 none 12 2047 (fun K hK => ?_)
   have i2 : x.cell? ⟨q, 0, none⟩ = some (.slice none 0 0) := bl_ B 0
   have h1 := blk_frozen B.out 0
   have p6 := a9.out; have p7 := Y.out; have p8 := L.out; have p9 := X.out; have q0 := Z.out; have q1 := a0.out
   refine skip_ (w1 := ?_) (by rfl) rfl ?_ ?_
   rotate_left
   ·go_simp
    rfl
   refine hK.out _ _ ⟨((cell_far (p := ⟨q, _, none⟩) L.out _).trans (hHeld.1)), ((cell_far (p := ⟨q, _, none⟩) (by first | exact Nat.ne_of_lt (Nat.lt_of_lt_of_le (by have := World.block_lt_of_cell? _ _ G; first | rwa [add_block] at this | exact this) s.out) | (rw [add_block]; exact Nat.ne_of_lt (Nat.lt_of_lt_of_le (by have := World.block_lt_of_cell? _ _ G; first | rwa [add_block] at this | exact this) s.out)) | (show (Addr.add _ _).block ≠ _; rw [add_block]; exact Nat.ne_of_lt (Nat.lt_of_lt_of_le (by have := World.block_lt_of_cell? _ _ G; first | rwa [add_block] at this | exact this) s.out)) | (dsimp only; exact Nat.ne_of_lt (Nat.lt_of_lt_of_le (by have := World.block_lt_of_cell? _ _ G; first | rwa [add_block] at this | exact this) s.out))) _).trans (hHeld.2.1)), ((cell_far (p := ⟨q, _, none⟩) (by first | exact Nat.ne_of_lt (Nat.lt_of_lt_of_le (by have := World.block_lt_of_cell? _ _ F; first | rwa [add_block] at this | exact this) s.out) | (rw [add_block]; exact Nat.ne_of_lt (Nat.lt_of_lt_of_le (by have := World.block_lt_of_cell? _ _ F; first | rwa [add_block] at this | exact this) s.out)) | (show (Addr.add _ _).block ≠ _; rw [add_block]; exact Nat.ne_of_lt (Nat.lt_of_lt_of_le (by have := World.block_lt_of_cell? _ _ F; first | rwa [add_block] at this | exact this) s.out)) | (dsimp only; exact Nat.ne_of_lt (Nat.lt_of_lt_of_le (by have := World.block_lt_of_cell? _ _ F; first | rwa [add_block] at this | exact this) s.out))) _).trans (hHeld.2.2.1)), ((cell_far (p := ⟨q, _, none⟩) (by first | exact Nat.ne_of_lt (Nat.lt_of_lt_of_le (by have := World.block_lt_of_cell? _ _ E; first | rwa [add_block] at this | exact this) s.out) | (rw [add_block]; exact Nat.ne_of_lt (Nat.lt_of_lt_of_le (by have := World.block_lt_of_cell? _ _ E; first | rwa [add_block] at this | exact this) s.out)) | (show (Addr.add _ _).block ≠ _; rw [add_block]; exact Nat.ne_of_lt (Nat.lt_of_lt_of_le (by have := World.block_lt_of_cell? _ _ E; first | rwa [add_block] at this | exact this) s.out)) | (dsimp only; exact Nat.ne_of_lt (Nat.lt_of_lt_of_le (by have := World.block_lt_of_cell? _ _ E; first | rwa [add_block] at this | exact this) s.out))) _).trans (hHeld.2.2.2.1)), ((cell_far (p := ⟨q, _, none⟩) (by first | exact Nat.ne_of_lt (Nat.lt_of_lt_of_le (by have := World.block_lt_of_cell? _ _ D; first | rwa [add_block] at this | exact this) s.out) | (rw [add_block]; exact Nat.ne_of_lt (Nat.lt_of_lt_of_le (by have := World.block_lt_of_cell? _ _ D; first | rwa [add_block] at this | exact this) s.out)) | (show (Addr.add _ _).block ≠ _; rw [add_block]; exact Nat.ne_of_lt (Nat.lt_of_lt_of_le (by have := World.block_lt_of_cell? _ _ D; first | rwa [add_block] at this | exact this) s.out)) | (dsimp only; exact Nat.ne_of_lt (Nat.lt_of_lt_of_le (by have := World.block_lt_of_cell? _ _ D; first | rwa [add_block] at this | exact this) s.out))) _).trans (hHeld.2.2.2.2))⟩ (fun hHeld => ?_)
   clear hK K; refine pz_ 11 9 12 4095 ?_
   refine done_ (done_of HT_.out (by kernel_rfl)) ?_
   obtain ⟨q2, q3⟩ := nn_ f5; obtain ⟨q4, q5⟩ := nn_ f6; obtain ⟨q6, q7⟩ := nn_ L
   obtain ⟨q8, j0⟩ := bc1_ d
   obtain ⟨q9, r0⟩ := nn_ h4; obtain ⟨r1, r2⟩ := nn_ Y
   obtain ⟨j1, j2⟩ := bc1_ g
   try go_wp2
   refine bodyPost_ret (results_ct rfl _ _ I 44 #[.slice U u.length V] (0, 0) _ rfl (qp_ g) Try.underlying44 rfl (by kernel_rfl)) rfl ?_
   exact ⟨_, qr_, by (with_reducible repeat (first | apply Kd.R_alloc | apply Kd.R_drewN | apply Kd.R_drew)); exact Kd.R_mono (Kd.R_far (p := ⟨I, 0, none⟩) (Kd.R_far (p := ⟨q, 0, none⟩) (Kd.R_types (Kd.R_types o.out B.out (by decide)) g.out (by decide)) (fun _ hk => hk.1.2) (.slice k2 O.length k3)) (fun _ hk => hk.2) (.slice U u.length V)) (fun _ hk => trivial), qB_⟩
end Go.Proofs.Ytacnlodcbbhahaa.QFnActs
