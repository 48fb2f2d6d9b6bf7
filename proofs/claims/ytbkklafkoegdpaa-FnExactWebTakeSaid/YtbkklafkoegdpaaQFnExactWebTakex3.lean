import Derived.Test.YtbkklafkoegdpaaQFnExactWebTakex0
namespace Go.Proofs.Ytbkklafkoegdpaa.QFnExactWebTake
open Go.RowKit Go.Proofs.YtbkklafkoegdpaaW.PrintWords Go.Proofs.YtbkklafkoegdpaaW.PrintLast Go.Proofs.YtbkklafkoegdpaaW.PrintMore
set_option linter.unusedVariables false
set_option linter.unusedSimpArgs false
set_option maxHeartbeats 8000000
set_option maxRecDepth 100000
def laws_markLedgeS.l0 : Nat → List (S72) → Int → Int → Option (Int × (List (S72)))
  | 0, _, _, _ => none
  | k + 1, x0, x1, x5 => if x5 < (x0.length : Int) then (if 0 ≤ x5 then ((some (x0.set (x5 : Int).toNat (⟨x1, (rd_T72 x0 x5).f1, (rd_T72 x0 x5).f2, (rd_T72 x0 x5).f3⟩ : S72) : List (S72))).bind fun y132 => ((some (y132.set (x5 : Int).toNat (⟨(rd_T72 y132 x5).f0, wrap64 (x1 + 1), (rd_T72 y132 x5).f2, (rd_T72 y132 x5).f3⟩ : S72) : List (S72))).bind fun y133 => ((some (y133.set (x5 : Int).toNat (⟨(rd_T72 y133 x5).f0, (rd_T72 y133 x5).f1, wrap64 ((wrap64 (x1 + 1)) + 1), (rd_T72 y133 x5).f3⟩ : S72) : List (S72))).bind fun y134 => (laws_markLedgeS.l0 k (y134.set (x5 : Int).toNat (⟨(rd_T72 y134 x5).f0, (rd_T72 y134 x5).f1, (rd_T72 y134 x5).f2, ((Int.tmod (wrap64 ((wrap64 ((wrap64 (x1 + 1)) + 1)) + 1)) 3) == 0)⟩ : S72)) (wrap64 ((wrap64 ((wrap64 ((wrap64 (x1 + 1)) + 1)) + 1)) + 1)) (wrap64 (x5 + 1)))))) else (none)) else (some (x1, x0))
def laws_markLedgeS.f (k : Nat) (l0 : List (S72)) (a1 : Int) : Option (Int × (List (S72))) := laws_markLedgeS.l0 k l0 a1 0
theorem laws_markLedgeS.mono_l : ∀ k, (∀ y0 y1 y2, LeO (laws_markLedgeS.l0 k y0 y1 y2) (laws_markLedgeS.l0 (k + 1) y0 y1 y2))
  | 0 => fun _ _ _ r h => by simp [laws_markLedgeS.l0] at h
  | k + 1 => by
    have ih0 := laws_markLedgeS.mono_l k
    · intro y0 y1 y2
      unfold laws_markLedgeS.l0
      exact lo_
theorem laws_markLedgeS.mono : ∀ a0 a1 k, LeO (laws_markLedgeS.f k a0 a1) (laws_markLedgeS.f (k + 1) a0 a1) := by
  intro a0 a1 k
  have ih0 := laws_markLedgeS.mono_l k
  unfold laws_markLedgeS.f
  exact lo_
theorem laws_markLedgeS.calls (k : Nat) (i : Nat → Prop) (u9000_ : Value) (l0 : List (S72)) (d5 : Int) (d6 : Int) (d7 : List (S72)) (q w : World) (hB : Below q.heap.size q w) (ho0 : Kd.R k72 72 w q.heap.size i u9000_ l0) (h : laws_markLedgeS.f k l0 d5 = some (d6, d7)) :
  Calls Try.prog 86 #[u9000_, .int .i64 d5] w fun e w' => e = .returned (.int .i64 d6) ∧ Kd.R k72 72 w' q.heap.size (fun k_ => (i k_ ∨ w.heap.size ≤ k_)) u9000_ d7 ∧ Below q.heap.size q w' ∧ Kept w w' (fun k_ => i k_) := by
 have h4 := am_ (show Kd.R k72 72 w q.heap.size (fun k_ => (i k_ ∨ w.heap.size ≤ k_)) u9000_ l0 from Kd.R_mono ho0 (fun k_ hk => (.inl hk)))
 have HK := am_ (Kept.refl w (fun k_ => i k_))
 have HW0 := am_ hB.size
 have HB := am_ hB
 clear hB
 have H : (laws_markLedgeS.l0 k l0 d5 0) = some (d6, d7) := h
 clear h; have H' := am_ H; clear H
 go_enter Try.func86, Try.ntmps86
 go_wp2
 go_loopg [1, 5] k (fun kq v1 v5 w' => ∃ (c : List (S72)) (g : Int) (a : Int), v1 = .int .i64 g ∧ v5 = .int .i64 a ∧ Aside0 (laws_markLedgeS.l0 kq c g a = some (d6, d7)) ∧ Aside0 (kq ≤ k) ∧ Aside0 (Kd.R k72 72 w' q.heap.size (fun k_ => (i k_ ∨ w.heap.size ≤ k_)) u9000_ c) ∧ Aside0 (Kept w w' (fun k_ => i k_)) ∧ Aside0 (Below q.heap.size q w'))
 case atStart => exact ⟨(l0), (d5), (0), qe_, qe_, H', ⟨Nat.le_refl _⟩, ⟨ra_ h4⟩, ⟨by repeat (first | (with_reducible first | exact HK.out | apply Kept.alloc | apply Kept.drewN | apply Kept.drew) | exact HK.out)⟩, ⟨qB_⟩⟩
 case round =>
  clear H'
  (try clear j6)
  obtain ⟨c, g, a, rfl, rfl, HA, HK1, l, HK, HB⟩ := hrel
  cases gk with
  | zero => exact absurd HA.out (by simp [laws_markLedgeS.l0])
  | succ h5 =>
   have H := HA.out; clear HA
   simp only [laws_markLedgeS.l0] at H
   refine ib_ H ?_ ?_ <;> clear H <;> intro g5 H
   ·simp only [Option.some.injEq, Prod.mk.injEq] at H
    obtain ⟨rfl, rfl⟩ := H
    obtain ⟨j7, j8, h6⟩ := Kd.R_slice l.out
    subst h6
    go_wp2
    go_ret
    exact ⟨qr_, qR_ l, by repeat (first | (with_reducible first | exact HB.out | apply below_alloc | apply pw_below_drewN | apply below_drew1) | exact HB.out), by repeat (first | (with_reducible first | exact HK.out | apply Kept.alloc | apply Kept.drewN | apply Kept.drew) | exact HK.out)⟩
   refine ig_ H ?_; clear H; intro g6 H
   generalize M : (c.set (a : Int).toNat (⟨g, (rd_T72 c a).f1, (rd_T72 c a).f2, (rd_T72 c a).f3⟩ : S72)) = D at H; replace H := bh_ H; have c1 := am_ M.symm; clear M
   generalize N : (D.set (a : Int).toNat (⟨(rd_T72 D a).f0, wrap64 (g + 1), (rd_T72 D a).f2, (rd_T72 D a).f3⟩ : S72)) = E at H; replace H := bh_ H; have c2 := am_ N.symm; clear N
   generalize O : (E.set (a : Int).toNat (⟨(rd_T72 E a).f0, (rd_T72 E a).f1, wrap64 ((wrap64 (g + 1)) + 1), (rd_T72 E a).f3⟩ : S72)) = F at H; replace H := bh_ H; have c3 := am_ O.symm; clear O
   generalize T : (F.set (a : Int).toNat (⟨(rd_T72 F a).f0, (rd_T72 F a).f1, (rd_T72 F a).f2, ((Int.tmod (wrap64 ((wrap64 ((wrap64 (g + 1)) + 1)) + 1)) 3) == 0)⟩ : S72)) = g7 at H; replace H := bh_ H; have c4 := am_ T.symm; clear T; have H' := am_ H; clear H
   obtain ⟨j9, b2, h7⟩ := Kd.R_slice l.out
   subst h7
   have d8 := dp_ a
   have d9 : (a : Int) < ((c.length : Int) : Int) := of_decide_eq_true qa_
   obtain ⟨d, k0, g8, g9, e0, h8, c6⟩ := Kd.R_form l.out (by omega)
   (first | cases g8 | (injection g8 with ea_ en_ ec_; (first | subst ea_ | (injection ea_ with ea_; subst ea_)); subst ec_; clear en_))
   have a7 := am_ g9
   have h9 := am_ c6
   clear g9 e0 c6
   have e1 := am_ (show (i d ∨ w.heap.size ≤ d) from (l.out.1 _ rfl))
   obtain ⟨i0, c7, c8, s, u⟩ := Kd.R_elem l.out z72 (a : Int) d8 d9
   obtain rfl := k72_openM c8
   have k1 : wr.cell? ⟨d, (a : Int).toNat * 4, none⟩ = some (.int .i64 ((rd_T72 c a).f0)) := s 0 _ rfl
   have k2 : wr.cell? ⟨d, (a : Int).toNat * 4 + 1, none⟩ = some (.int .i64 ((rd_T72 c a).f1)) := s 1 _ rfl
   have k3 : wr.cell? ⟨d, (a : Int).toNat * 4 + 2, none⟩ = some (.int .i64 ((rd_T72 c a).f2)) := s 2 _ rfl
   have k4 : wr.cell? ⟨d, (a : Int).toNat * 4 + 3, none⟩ = some (.bool ((rd_T72 c a).f3)) := s 3 _ rfl
   have e2 : wr.frozen? ⟨d, (a : Int).toNat * 4, none⟩ = false := u 0
   have e3 : wr.frozen? ⟨d, (a : Int).toNat * 4 + 1, none⟩ = false := u 1
   have e4 : wr.frozen? ⟨d, (a : Int).toNat * 4 + 2, none⟩ = false := u 2
   have e5 : wr.frozen? ⟨d, (a : Int).toNat * 4 + 3, none⟩ = false := u 3
   clear c7 s u c8; replace d8 := eq_true d8; replace d9 := eq_true d9
   have b3 := am_ (show Kd.R k72 72 wr q.heap.size (fun k_ => (i k_ ∨ w.heap.size ≤ k_)) (.slice (some ⟨d, 0, none⟩) c.length b2) c from (qR_ l))
   obtain ⟨h0, U, b4, G, V⟩ := Kd.R_elem b3.out z72 (a : Int) (of_decide_eq_true qa_) (by have h_ : (a : Int) < ((c.length : Int) : Int) := of_decide_eq_true qa_; first | exact h_ | (have e_ := (Kd.R_reads' l.out).1; omega) | simpa using h_)
   obtain rfl := k72_openM b4
   have X := Kd.R_seg b3.out (a : Int) (of_decide_eq_true qa_) (by have h_ : (a : Int) < ((c.length : Int) : Int) := of_decide_eq_true qa_; first | exact h_ | (have e_ := (Kd.R_reads' l.out).1; omega) | simpa using h_) (seg := [.int .i64 g]) (j := 0) U G (show 1 ≤ 4 from by decide) (x' := (⟨g, (rd_T72 c a).f1, (rd_T72 c a).f2, (rd_T72 c a).f3⟩ : S72)) (k72_mkM _ _ _ (⟨g, (rd_T72 c a).f1, (rd_T72 c a).f2, (rd_T72 c a).f3⟩ : S72) ) (fun _ hk => hk)
   have i1 := G 0 _ rfl
   simp only [show (k72).sz = 4 from rfl, Nat.mul_one, Nat.add_zero] at i1
   have a8 := V 0
   simp only [show (k72).sz = 4 from rfl, Nat.mul_one, Nat.add_zero] at a8
   clear U G V b4
   go_wp2_with (first | ((with_reducible refine gate_store (t := 3) (p := 16) rfl ?_); refine store_event (t := 3) (p := 16) (v := ?vo_w11) (w1 := (wr.setCell ⟨d, (a : Int).toNat * 4, none⟩ (.int .i64 g))) ?hg ?ho ?hn ?hr ?_; (case ho => rfl); (case hg => rfl); (case hn => rfl); (case hr => first | (go_simp; done) | (go_simp; rfl)); intro m hw; have hg : wr.grownBy m (some d) := (by rw [hw]; exact X.2); have hp_ : Kd.R k72 72 m q.heap.size (fun k_ => (i k_ ∨ w.heap.size ≤ k_)) (.slice (some ⟨d, 0, none⟩) c.length b2) D := (by rw [hw, c1.out]; exact X.1); clear X; refine dn3_ (am_ (hp_)) (am_ ((by rw [hw]; exact below_set (HB.out) a7.out : Below q.heap.size q m))) (am_ (Kept.of_grown (S := (fun k_ => i k_)) hg (by repeat (first | (with_reducible first | exact HK.out | apply Kept.alloc | apply Kept.drewN | apply Kept.drew) | exact HK.out)) (fun k_ e_ => (l.out.1 k_ e_)))) ?_; clear l HB HK; intro l HB HK; clear hg hw hp_; have i2 := dt_ a; have e6 : (a : Int) < ((c.length : Int) : Int) := of_decide_eq_true qa_; obtain ⟨i3, c9, d0, x, y⟩ := Kd.R_elem l.out z72 (a : Int) (ot_ i2) e6; obtain rfl := k72_openM d0; have k5 : m.cell? ⟨d, (a : Int).toNat * 4, none⟩ = some (.int .i64 ((rd_T72 D a).f0)) := x 0 _ rfl; have k6 : m.cell? ⟨d, (a : Int).toNat * 4 + 1, none⟩ = some (.int .i64 ((rd_T72 D a).f1)) := x 1 _ rfl; have k7 : m.cell? ⟨d, (a : Int).toNat * 4 + 2, none⟩ = some (.int .i64 ((rd_T72 D a).f2)) := x 2 _ rfl; have k8 : m.cell? ⟨d, (a : Int).toNat * 4 + 3, none⟩ = some (.bool ((rd_T72 D a).f3)) := x 3 _ rfl; have e7 : m.frozen? ⟨d, (a : Int).toNat * 4, none⟩ = false := y 0; have e8 : m.frozen? ⟨d, (a : Int).toNat * 4 + 1, none⟩ = false := y 1; have e9 : m.frozen? ⟨d, (a : Int).toNat * 4 + 2, none⟩ = false := y 2; have f4 : m.frozen? ⟨d, (a : Int).toNat * 4 + 3, none⟩ = false := y 3; clear c9 x y d0; replace e6 := eq_true e6; have b5 := am_ (show Kd.R k72 72 m q.heap.size (fun k_ => (i k_ ∨ w.heap.size ≤ k_)) (.slice (some ⟨d, 0, none⟩) c.length b2) D from (qR_ l)); obtain ⟨h1, Y, b6, I, Z⟩ := Kd.R_elem b5.out z72 (a : Int) (of_decide_eq_true qa_) (by have h_ : (a : Int) < ((c.length : Int) : Int) := of_decide_eq_true qa_; first | exact h_ | (have e_ := (Kd.R_reads' l.out).1; omega) | simpa using h_); obtain rfl := k72_openM b6; have a0 := Kd.R_seg b5.out (a : Int) (of_decide_eq_true qa_) (by have h_ : (a : Int) < ((c.length : Int) : Int) := of_decide_eq_true qa_; first | exact h_ | (have e_ := (Kd.R_reads' l.out).1; omega) | simpa using h_) (seg := [.int .i64 (wrap64 (g + 1))]) (j := 1) Y I (show 2 ≤ 4 from by decide) (x' := (⟨(rd_T72 D a).f0, wrap64 (g + 1), (rd_T72 D a).f2, (rd_T72 D a).f3⟩ : S72)) (k72_mkM _ _ _ (⟨(rd_T72 D a).f0, wrap64 (g + 1), (rd_T72 D a).f2, (rd_T72 D a).f3⟩ : S72) ) (fun _ hk => hk); have i4 := I 1 _ rfl; simp only [show (k72).sz = 4 from rfl, Nat.mul_one, Nat.add_zero] at i4; have a9 := Z 1; simp only [show (k72).sz = 4 from rfl, Nat.mul_one, Nat.add_zero] at a9; clear Y I Z b6) | ((with_reducible refine gate_store (t := 3) (p := 23) rfl ?_); refine store_event (t := 3) (p := 23) (v := ?vo_w13) (w1 := (m.setCell ⟨d, (a : Int).toNat * 4 + 1, none⟩ (.int .i64 (wrap64 (g + 1))))) ?hg ?ho ?hn ?hr ?_; (case ho => rfl); (case hg => rfl); (case hn => rfl); (case hr => first | (go_simp; done) | (go_simp; rfl)); intro n hw; have hg : m.grownBy n (some d) := (by rw [hw]; exact a0.2); have hp_ : Kd.R k72 72 n q.heap.size (fun k_ => (i k_ ∨ w.heap.size ≤ k_)) (.slice (some ⟨d, 0, none⟩) c.length b2) E := (by rw [hw, c2.out]; exact a0.1); clear a0; refine dn3_ (am_ (hp_)) (am_ ((by rw [hw]; exact below_set (HB.out) a7.out : Below q.heap.size q n))) (am_ (Kept.of_grown (S := (fun k_ => i k_)) hg (by repeat (first | (with_reducible first | exact HK.out | apply Kept.alloc | apply Kept.drewN | apply Kept.drew) | exact HK.out)) (fun k_ e_ => (l.out.1 k_ e_)))) ?_; clear l HB HK; intro l HB HK; clear hg hw hp_; have i5 := dt_ a; have f5 : (a : Int) < ((c.length : Int) : Int) := of_decide_eq_true qa_; obtain ⟨i6, d1, d2, z, A⟩ := Kd.R_elem l.out z72 (a : Int) (ot_ i5) f5; obtain rfl := k72_openM d2; have k9 : n.cell? ⟨d, (a : Int).toNat * 4, none⟩ = some (.int .i64 ((rd_T72 E a).f0)) := z 0 _ rfl; have l4 : n.cell? ⟨d, (a : Int).toNat * 4 + 1, none⟩ = some (.int .i64 ((rd_T72 E a).f1)) := z 1 _ rfl; have l5 : n.cell? ⟨d, (a : Int).toNat * 4 + 2, none⟩ = some (.int .i64 ((rd_T72 E a).f2)) := z 2 _ rfl; have l6 : n.cell? ⟨d, (a : Int).toNat * 4 + 3, none⟩ = some (.bool ((rd_T72 E a).f3)) := z 3 _ rfl; have f6 : n.frozen? ⟨d, (a : Int).toNat * 4, none⟩ = false := A 0; have f7 : n.frozen? ⟨d, (a : Int).toNat * 4 + 1, none⟩ = false := A 1; have f8 : n.frozen? ⟨d, (a : Int).toNat * 4 + 2, none⟩ = false := A 2; have f9 : n.frozen? ⟨d, (a : Int).toNat * 4 + 3, none⟩ = false := A 3; clear d1 z A d2; replace f5 := eq_true f5; have b7 := am_ (show Kd.R k72 72 n q.heap.size (fun k_ => (i k_ ∨ w.heap.size ≤ k_)) (.slice (some ⟨d, 0, none⟩) c.length b2) E from (qR_ l)); obtain ⟨h2, a1, b8, J, a2⟩ := Kd.R_elem b7.out z72 (a : Int) (of_decide_eq_true qa_) (by have h_ : (a : Int) < ((c.length : Int) : Int) := of_decide_eq_true qa_; first | exact h_ | (have e_ := (Kd.R_reads' l.out).1; omega) | simpa using h_); obtain rfl := k72_openM b8; have a3 := Kd.R_seg b7.out (a : Int) (of_decide_eq_true qa_) (by have h_ : (a : Int) < ((c.length : Int) : Int) := of_decide_eq_true qa_; first | exact h_ | (have e_ := (Kd.R_reads' l.out).1; omega) | simpa using h_) (seg := [.int .i64 (wrap64 ((wrap64 (g + 1)) + 1))]) (j := 2) a1 J (show 3 ≤ 4 from by decide) (x' := (⟨(rd_T72 E a).f0, (rd_T72 E a).f1, wrap64 ((wrap64 (g + 1)) + 1), (rd_T72 E a).f3⟩ : S72)) (k72_mkM _ _ _ (⟨(rd_T72 E a).f0, (rd_T72 E a).f1, wrap64 ((wrap64 (g + 1)) + 1), (rd_T72 E a).f3⟩ : S72) ) (fun _ hk => hk); have i7 := J 2 _ rfl; simp only [show (k72).sz = 4 from rfl, Nat.mul_one, Nat.add_zero] at i7; have b0 := a2 2; simp only [show (k72).sz = 4 from rfl, Nat.mul_one, Nat.add_zero] at b0; clear a1 J a2 b8) | ((with_reducible refine gate_store (t := 3) (p := 30) rfl ?_); refine store_event (t := 3) (p := 30) (v := ?vo_w15) (w1 := (n.setCell ⟨d, (a : Int).toNat * 4 + 2, none⟩ (.int .i64 (wrap64 ((wrap64 (g + 1)) + 1))))) ?hg ?ho ?hn ?hr ?_; (case ho => rfl); (case hg => rfl); (case hn => rfl); (case hr => first | (go_simp; done) | (go_simp; rfl)); intro o hw; have hg : n.grownBy o (some d) := (by rw [hw]; exact a3.2); have hp_ : Kd.R k72 72 o q.heap.size (fun k_ => (i k_ ∨ w.heap.size ≤ k_)) (.slice (some ⟨d, 0, none⟩) c.length b2) F := (by rw [hw, c3.out]; exact a3.1); clear a3; refine dn3_ (am_ (hp_)) (am_ ((by rw [hw]; exact below_set (HB.out) a7.out : Below q.heap.size q o))) (am_ (Kept.of_grown (S := (fun k_ => i k_)) hg (by repeat (first | (with_reducible first | exact HK.out | apply Kept.alloc | apply Kept.drewN | apply Kept.drew) | exact HK.out)) (fun k_ e_ => (l.out.1 k_ e_)))) ?_; clear l HB HK; intro l HB HK; clear hg hw hp_; have i8 := dt_ a; have g0 : (a : Int) < ((c.length : Int) : Int) := of_decide_eq_true qa_; obtain ⟨i9, d3, d4, B, C⟩ := Kd.R_elem l.out z72 (a : Int) (ot_ i8) g0; obtain rfl := k72_openM d4; have l7 : o.cell? ⟨d, (a : Int).toNat * 4, none⟩ = some (.int .i64 ((rd_T72 F a).f0)) := B 0 _ rfl; have l8 : o.cell? ⟨d, (a : Int).toNat * 4 + 1, none⟩ = some (.int .i64 ((rd_T72 F a).f1)) := B 1 _ rfl; have l9 : o.cell? ⟨d, (a : Int).toNat * 4 + 2, none⟩ = some (.int .i64 ((rd_T72 F a).f2)) := B 2 _ rfl; have m0 : o.cell? ⟨d, (a : Int).toNat * 4 + 3, none⟩ = some (.bool ((rd_T72 F a).f3)) := B 3 _ rfl; have g1 : o.frozen? ⟨d, (a : Int).toNat * 4, none⟩ = false := C 0; have g2 : o.frozen? ⟨d, (a : Int).toNat * 4 + 1, none⟩ = false := C 1; have g3 : o.frozen? ⟨d, (a : Int).toNat * 4 + 2, none⟩ = false := C 2; have g4 : o.frozen? ⟨d, (a : Int).toNat * 4 + 3, none⟩ = false := C 3; clear d3 B C d4; replace g0 := eq_true g0; have b9 := am_ (show Kd.R k72 72 o q.heap.size (fun k_ => (i k_ ∨ w.heap.size ≤ k_)) (.slice (some ⟨d, 0, none⟩) c.length b2) F from (qR_ l)); obtain ⟨h3, a4, c0, L, a5⟩ := Kd.R_elem b9.out z72 (a : Int) (of_decide_eq_true qa_) (by have h_ : (a : Int) < ((c.length : Int) : Int) := of_decide_eq_true qa_; first | exact h_ | (have e_ := (Kd.R_reads' l.out).1; omega) | simpa using h_); obtain rfl := k72_openM c0; have a6 := Kd.R_seg b9.out (a : Int) (of_decide_eq_true qa_) (by have h_ : (a : Int) < ((c.length : Int) : Int) := of_decide_eq_true qa_; first | exact h_ | (have e_ := (Kd.R_reads' l.out).1; omega) | simpa using h_) (seg := [.bool ((Int.tmod (wrap64 ((wrap64 ((wrap64 (g + 1)) + 1)) + 1)) 3) == 0)]) (j := 3) a4 L (show 4 ≤ 4 from by decide) (x' := (⟨(rd_T72 F a).f0, (rd_T72 F a).f1, (rd_T72 F a).f2, ((Int.tmod (wrap64 ((wrap64 ((wrap64 (g + 1)) + 1)) + 1)) 3) == 0)⟩ : S72)) (k72_mkM _ _ _ (⟨(rd_T72 F a).f0, (rd_T72 F a).f1, (rd_T72 F a).f2, ((Int.tmod (wrap64 ((wrap64 ((wrap64 (g + 1)) + 1)) + 1)) 3) == 0)⟩ : S72) ) (fun _ hk => hk); have j5 := L 3 _ rfl; simp only [show (k72).sz = 4 from rfl, Nat.mul_one, Nat.add_zero] at j5; have b1 := a5 3; simp only [show (k72).sz = 4 from rfl, Nat.mul_one, Nat.add_zero] at b1; clear a4 L a5 c0) | ((with_reducible refine gate_store (t := 4) (p := 39) rfl ?_); refine store_event (t := 4) (p := 39) (v := ?vo_w17) (w1 := (o.setCell ⟨d, (a : Int).toNat * 4 + 3, none⟩ (.bool ((Int.tmod (wrap64 ((wrap64 ((wrap64 (g + 1)) + 1)) + 1)) 3) == 0)))) ?hg ?ho ?hn ?hr ?_; (case ho => rfl); (case hg => rfl); (case hn => rfl); (case hr => first | (go_simp; done) | (go_simp; rfl)); intro c5 hw; have hg : o.grownBy c5 (some d) := (by rw [hw]; exact a6.2); have hp_ : Kd.R k72 72 c5 q.heap.size (fun k_ => (i k_ ∨ w.heap.size ≤ k_)) (.slice (some ⟨d, 0, none⟩) c.length b2) g7 := (by rw [hw, c4.out]; exact a6.1); clear a6; refine dn3_ (am_ (hp_)) (am_ ((by rw [hw]; exact below_set (HB.out) a7.out : Below q.heap.size q c5))) (am_ (Kept.of_grown (S := (fun k_ => i k_)) hg (by repeat (first | (with_reducible first | exact HK.out | apply Kept.alloc | apply Kept.drewN | apply Kept.drew) | exact HK.out)) (fun k_ e_ => (l.out.1 k_ e_)))) ?_; clear l HB HK; intro l HB HK; clear hg hw hp_))
   go_roundg h5
   case measure => have := HK1.out; omega
   case rel => exact ⟨(g7), (wrap64 ((wrap64 ((wrap64 ((wrap64 (g + 1)) + 1)) + 1)) + 1)), (wrap64 (a + 1)), qe_, qe_, H', ⟨by have := HK1.out; omega⟩, ⟨ra_ l⟩, ⟨by repeat (first | (with_reducible first | exact HK.out | apply Kept.alloc | apply Kept.drewN | apply Kept.drew) | exact HK.out)⟩, ⟨qB_⟩⟩
def laws_markWeb.f (k : Nat) (a0_0 : Int) (l0_1 : List (S72)) (a1 : Int) : Option (Int × (List (S72))) := (laws_markLedgeS.f k l0_1 a1).bind fun bt137 => (some (bt137.1, bt137.2))
theorem laws_markWeb.mono : ∀ a0 a1 a2 k, LeO (laws_markWeb.f k a0 a1 a2) (laws_markWeb.f (k + 1) a0 a1 a2) := by
  intro a0 a1 a2 k
  have m0 := @laws_markLedgeS.mono
  unfold laws_markWeb.f
  exact lo_
theorem laws_markWeb.calls (k : Nat) (d : Int) (a : Nat → Prop) (u9000_ : Value) (c : List (S72)) (j : Int) (p : Int) (q : List (S72)) (g w : World) (hB : Below g.heap.size g w) (i : Kd.R k72 72 w g.heap.size a u9000_ c) (h : laws_markWeb.f k d c j = some (p, q)) :
  Calls Try.prog 35 #[.agg #[.int .i64 d, u9000_], .int .i64 j] w fun e w' => e = .returned (.int .i64 p) ∧ Kd.R k72 72 w' g.heap.size (fun k_ => (a k_ ∨ w.heap.size ≤ k_)) u9000_ q ∧ Below g.heap.size g w' ∧ Kept w w' (fun k_ => a k_) := by
 have hu29 := Try.underlying29
 have HO0_1 := am_ (show Kd.R k72 72 w g.heap.size (fun k_ => (a k_ ∨ w.heap.size ≤ k_)) u9000_ c from Kd.R_mono i (fun k_ hk => (.inl hk)))
 have HK := am_ (Kept.refl w (fun k_ => a k_))
 have HW0 := am_ hB.size
 have HB := am_ hB
 clear hB
 have H : ((laws_markLedgeS.f k c j).bind fun s => (some (s.1, s.2))) = some (p, q) := h
 clear h
 obtain ⟨⟨y, z⟩, A, H⟩ := bs_ H; dsimp only at H
 simp only [Option.some.injEq, Prod.mk.injEq] at H
 obtain ⟨rfl, rfl⟩ := H
 obtain ⟨n, o, B⟩ := Kd.R_slice HO0_1.out
 subst B
 go_enter Try.func35, Try.ntmps35
 go_wp2_with (first | ((with_reducible refine gd_ 2 ?_); refine by_ 2 (cs := #[.int .i64 d, .slice n c.length o]) (t := 29) ?_; intro u hg C l hb; have v := am_ ((by rw [hg]; exact (by first | exact HK.out.1 | exact (show Kept w _ (fun k_ => a k_) from by repeat (first | (with_reducible first | exact HK.out | apply Kept.alloc | apply Kept.drewN | apply Kept.drew) | exact HK.out)).1) : w.heap.size ≤ u)); have x := am_ ((qs_ : g.heap.size ≤ u)); replace HO0_1 := kb_ HO0_1 hb; replace HK := am_ (Kept.below (S := (fun k_ => a k_)) (by repeat (first | (with_reducible first | exact HK.out | apply Kept.alloc | apply Kept.drewN | apply Kept.drew) | exact HK.out)) hb); replace HB := hs_ hb; clear hb hg; obtain ⟨D, E, F, G⟩ := bc2_ l) | ((with_reducible refine gc_ 86 ?_); refine gl_ (some 8) Try.func86 #[.slice n c.length o, .int .i64 j] ?_; (with_reducible refine (laws_markLedgeS.calls k (fun k_ => some k_ = (.slice n c.length o : Value).ownBlock) (.slice n c.length o) c j y z g _ ?side1 ?side2 A.out).mono ?_); (case side1 => repeat (first | (with_reducible first | exact HB.out | apply below_alloc | apply pw_below_drewN | apply below_drew1 | refine below_set ?_ x.out) | exact HB.out)); (case side2 => exact Kd.R_tight rfl HO0_1.out); rintro e I ⟨rfl, m, hb, hkp⟩; refine ⟨_, rfl, ?_⟩; refine dn4_ (am_ (Kd.R_reok rfl m (fun k_ e_ => HO0_1.out.1 k_ e_))) (qkp_ l hkp (fun hs_ => (fun e_ => (Kd.R_ne HO0_1.out l.out (by decide)) e_) hs_)) (am_ (Kept.then_ (S := (fun k_ => a k_)) (by repeat (first | (with_reducible first | exact HK.out | apply Kept.alloc | apply Kept.drewN | apply Kept.drew | refine Kept.setCell ?_ (.inr v.out) _) | exact HK.out)) hkp (fun k_ hs_ => (fun e_ => (HO0_1.out.1 k_ e_.symm)) hs_))) (am_ (hb)) ?_; clear HO0_1 l HK HB; intro HO0_1 l HK HB; clear hb hkp m))
 go_ret
 exact ⟨qr_, qR_ HO0_1, by repeat (first | (with_reducible first | exact HB.out | apply below_alloc | apply pw_below_drewN | apply below_drew1 | refine below_set ?_ x.out) | exact HB.out), by repeat (first | (with_reducible first | exact HK.out | apply Kept.alloc | apply Kept.drewN | apply Kept.drew | refine Kept.setCell ?_ (.inr v.out) _) | exact HK.out)⟩
def laws_heldLedgeS.l0 : Nat → List (S72) → Int → Int → Option (Int)
  | 0, _, _, _ => none
  | k + 1, x0, x1, x5 => if x5 < (x0.length : Int) then (if 0 ≤ x5 then (if ((rd_T72 x0 x5).f0) = x1 then (if ((rd_T72 x0 x5).f1) = (wrap64 (x1 + 1)) then (if ((rd_T72 x0 x5).f2) = (wrap64 ((wrap64 (x1 + 1)) + 1)) then (if (((rd_T72 x0 x5).f3) != ((Int.tmod (wrap64 ((wrap64 ((wrap64 (x1 + 1)) + 1)) + 1)) 3) == 0)) = true then (some (-1)) else (laws_heldLedgeS.l0 k x0 (wrap64 ((wrap64 ((wrap64 ((wrap64 (x1 + 1)) + 1)) + 1)) + 1)) (wrap64 (x5 + 1)))) else (some (-1))) else (some (-1))) else (some (-1))) else (none)) else (some x1)
def laws_heldLedgeS.f (k : Nat) (l0 : List (S72)) (a1 : Int) : Option (Int) := laws_heldLedgeS.l0 k l0 a1 0
theorem laws_heldLedgeS.mono_l : ∀ k, (∀ y0 y1 y2, LeO (laws_heldLedgeS.l0 k y0 y1 y2) (laws_heldLedgeS.l0 (k + 1) y0 y1 y2))
  | 0 => fun _ _ _ r h => by simp [laws_heldLedgeS.l0] at h
  | k + 1 => by
    have ih0 := laws_heldLedgeS.mono_l k
    · intro y0 y1 y2
      unfold laws_heldLedgeS.l0
      exact lo_
theorem laws_heldLedgeS.mono : ∀ a0 a1 k, LeO (laws_heldLedgeS.f k a0 a1) (laws_heldLedgeS.f (k + 1) a0 a1) := by
  intro a0 a1 k
  have ih0 := laws_heldLedgeS.mono_l k
  unfold laws_heldLedgeS.f
  exact lo_
theorem laws_heldLedgeS.calls (k : Nat) (a3 : Option Addr) (a4 : Nat) (l0 : List (S72)) (Y : Int) (r : Int) (w : World) (hr0 : Kd.C k72 w a3 l0.length l0) (hc0 : l0.length ≤ a4) (h : laws_heldLedgeS.f k l0 Y = some r) :
  Calls Try.prog 92 #[.slice a3 l0.length a4, .int .i64 Y] w fun e w' => e = .returned (.int .i64 r) ∧ Drawn0 w w' := by
 have v := am_ hr0
 have b7 := am_ hc0
 clear hr0 hc0
 rw [laws_heldLedgeS.f] at h; have H := h; clear h; have H' := am_ H; clear H
 go_enter Try.func92, Try.ntmps92
 go_wp2
 go_loopg [1, 5] k (fun kq v1 v5 w' => ∃ (c : Int) (a : Int), v1 = .int .i64 c ∧ v5 = .int .i64 a ∧ Aside0 (laws_heldLedgeS.l0 kq l0 c a = some r) ∧ Aside0 (kq ≤ k) ∧ Drawn0 w w')
 case atStart => exact ⟨(Y), (0), qe_, qe_, H', ⟨Nat.le_refl _⟩, by repeat (first | exact Drawn0.refl _ | apply Drawn0.step)⟩
 case round =>
  clear H'
  obtain ⟨c, a, rfl, rfl, HA, HK1, ⟨b9, rfl⟩⟩ := hrel
  cases gk with
  | zero => exact absurd HA.out (by simp [laws_heldLedgeS.l0])
  | succ b2 =>
   have H := HA.out; clear HA
   simp only [laws_heldLedgeS.l0] at H
   refine ib_ H ?_ ?_ <;> clear H <;> intro a5 H
   ·obtain rfl := oi_ H
    go_wp2
    go_ret
    exact ⟨by first | rfl | (simp; done) | (simp [*]; done), by repeat (first | exact Drawn0.refl _ | apply Drawn0.step)⟩
   refine ig_ H ?_; clear H; intro a6 H
   refine jb_ H ?_ ?_ <;> clear H <;> intro B H
   ·have D : (((rd_T72 l0 a).f0) == c) = false := beq_eq_false_iff_ne.mpr B
    have E : (((rd_T72 l0 a).f0) != c) = true := bne_iff_ne.mpr B
    obtain rfl := oi_ H
    have i := dt_ a
    have j := du_ a l0.length
    obtain ⟨d, l, T, U, V, X⟩ := at_T72 v.out a (ot_ i) (ot_ j)
    cases l
    go_wp2
    go_ret
    exact ⟨by first | rfl | (simp; done) | (simp [*]; done), by repeat (first | exact Drawn0.refl _ | apply Drawn0.step)⟩
   have D : (((rd_T72 l0 a).f0) == c) = true := beq_iff_eq.mpr B
   have E : (((rd_T72 l0 a).f0) != c) = false := bne_eq_false_iff_eq.mpr B
   clear B
   refine jb_ H ?_ ?_ <;> clear H <;> intro F H
   ·have G : (((rd_T72 l0 a).f1) == (wrap64 (c + 1))) = false := beq_eq_false_iff_ne.mpr F
    have I : (((rd_T72 l0 a).f1) != (wrap64 (c + 1))) = true := bne_iff_ne.mpr F
    obtain rfl := oi_ H
    have i := dt_ a
    have j := du_ a l0.length
    obtain ⟨d, l, T, U, V, X⟩ := at_T72 v.out a (ot_ i) (ot_ j)
    cases l
    have m := dt_ a
    have n := du_ a l0.length
    obtain ⟨g, o, Z, a0, a1, a2⟩ := at_T72 v.out a (ot_ m) (ot_ n)
    obtain rfl : d = g := (by injection o)
    go_wp2
    go_ret
    exact ⟨by first | rfl | (simp; done) | (simp [*]; done), by repeat (first | exact Drawn0.refl _ | apply Drawn0.step)⟩
   have G : (((rd_T72 l0 a).f1) == (wrap64 (c + 1))) = true := beq_iff_eq.mpr F
   have I : (((rd_T72 l0 a).f1) != (wrap64 (c + 1))) = false := bne_eq_false_iff_eq.mpr F
   clear F
   refine jb_ H ?_ ?_ <;> clear H <;> intro J H
   ·have L : (((rd_T72 l0 a).f2) == (wrap64 ((wrap64 (c + 1)) + 1))) = false := beq_eq_false_iff_ne.mpr J
    have M : (((rd_T72 l0 a).f2) != (wrap64 ((wrap64 (c + 1)) + 1))) = true := bne_iff_ne.mpr J
    obtain rfl := oi_ H
    have i := dt_ a
    have j := du_ a l0.length
    obtain ⟨d, l, T, U, V, X⟩ := at_T72 v.out a (ot_ i) (ot_ j)
    cases l
    have m := dt_ a
    have n := du_ a l0.length
    obtain ⟨g, o, Z, a0, a1, a2⟩ := at_T72 v.out a (ot_ m) (ot_ n)
    obtain rfl : d = g := (by injection o)
    have q := dt_ a
    have s := du_ a l0.length
    obtain ⟨p, t, a7, a8, a9, b0⟩ := at_T72 v.out a (ot_ q) (ot_ s)
    obtain rfl : d = p := (by injection t)
    go_wp2
    go_ret
    exact ⟨by first | rfl | (simp; done) | (simp [*]; done), by repeat (first | exact Drawn0.refl _ | apply Drawn0.step)⟩
   have L : (((rd_T72 l0 a).f2) == (wrap64 ((wrap64 (c + 1)) + 1))) = true := beq_iff_eq.mpr J
   have M : (((rd_T72 l0 a).f2) != (wrap64 ((wrap64 (c + 1)) + 1))) = false := bne_eq_false_iff_eq.mpr J
   clear J
   refine jc_ H ?_ ?_ <;> clear H <;> intro A H
   ·have N : (((rd_T72 l0 a).f3) != ((Int.tmod (wrap64 ((wrap64 ((wrap64 (c + 1)) + 1)) + 1)) 3) == 0)) = true := A
    (have O : decide (((rd_T72 l0 a).f3) = ((Int.tmod (wrap64 ((wrap64 ((wrap64 (c + 1)) + 1)) + 1)) 3) == 0)) = false := by simpa using A)
    (have R : (((rd_T72 l0 a).f3) == ((Int.tmod (wrap64 ((wrap64 ((wrap64 (c + 1)) + 1)) + 1)) 3) == 0)) = false := by simpa using A)
    (have b1 : ¬ (((rd_T72 l0 a).f3) = ((Int.tmod (wrap64 ((wrap64 ((wrap64 (c + 1)) + 1)) + 1)) 3) == 0)) := by simpa using A)
    clear A
    obtain rfl := oi_ H
    have i := dt_ a
    have j := du_ a l0.length
    obtain ⟨d, l, T, U, V, X⟩ := at_T72 v.out a (ot_ i) (ot_ j)
    cases l
    have m := dt_ a
    have n := du_ a l0.length
    obtain ⟨g, o, Z, a0, a1, a2⟩ := at_T72 v.out a (ot_ m) (ot_ n)
    obtain rfl : d = g := (by injection o)
    have q := dt_ a
    have s := du_ a l0.length
    obtain ⟨p, t, a7, a8, a9, b0⟩ := at_T72 v.out a (ot_ q) (ot_ s)
    obtain rfl : d = p := (by injection t)
    have x := dt_ a
    have y := du_ a l0.length
    obtain ⟨u, z, b3, b4, b5, b6⟩ := at_T72 v.out a (ot_ x) (ot_ y)
    obtain rfl : d = u := (by injection z)
    go_wp2
    go_ret
    exact ⟨by first | rfl | (simp; done) | (simp [*]; done), by repeat (first | exact Drawn0.refl _ | apply Drawn0.step)⟩
   have N : (((rd_T72 l0 a).f3) != ((Int.tmod (wrap64 ((wrap64 ((wrap64 (c + 1)) + 1)) + 1)) 3) == 0)) = false := by simpa using A
   (have O : decide (((rd_T72 l0 a).f3) = ((Int.tmod (wrap64 ((wrap64 ((wrap64 (c + 1)) + 1)) + 1)) 3) == 0)) = true := by simpa using A)
   (have R : (((rd_T72 l0 a).f3) == ((Int.tmod (wrap64 ((wrap64 ((wrap64 (c + 1)) + 1)) + 1)) 3) == 0)) = true := by simpa using A)
   clear A; have H' := am_ H; clear H
   have i := dt_ a
   have j := du_ a l0.length
   obtain ⟨d, l, T, U, V, X⟩ := at_T72 v.out a (ot_ i) (ot_ j)
   cases l
   have m := dt_ a
   have n := du_ a l0.length
   obtain ⟨g, o, Z, a0, a1, a2⟩ := at_T72 v.out a (ot_ m) (ot_ n)
   obtain rfl : d = g := (by injection o)
   have q := dt_ a
   have s := du_ a l0.length
   obtain ⟨p, t, a7, a8, a9, b0⟩ := at_T72 v.out a (ot_ q) (ot_ s)
   obtain rfl : d = p := (by injection t)
   have x := dt_ a
   have y := du_ a l0.length
   obtain ⟨u, z, b3, b4, b5, b6⟩ := at_T72 v.out a (ot_ x) (ot_ y)
   obtain rfl : d = u := (by injection z)
   go_wp2
   go_roundg b2
   case measure => have := HK1.out; omega
   case rel => exact ⟨(wrap64 ((wrap64 ((wrap64 ((wrap64 (c + 1)) + 1)) + 1)) + 1)), (wrap64 (a + 1)), qe_, qe_, H', ⟨by have := HK1.out; omega⟩, by repeat (first | exact Drawn0.refl _ | apply Drawn0.step)⟩
def laws_heldWeb.f (k : Nat) (a0_0 : Int) (l0_1 : List (S72)) (a1 : Int) : Option (Int) := (laws_heldLedgeS.f k l0_1 a1).bind fun t144 => (if t144 < 0 then (some (-1)) else (some t144))
theorem laws_heldWeb.mono : ∀ a0 a1 a2 k, LeO (laws_heldWeb.f k a0 a1 a2) (laws_heldWeb.f (k + 1) a0 a1 a2) := by
  intro a0 a1 a2 k
  have m0 := @laws_heldLedgeS.mono
  unfold laws_heldWeb.f
  exact lo_
theorem laws_heldWeb.calls (k : Nat) (g : Int) (c : Option Addr) (d : Nat) (a : List (S72)) (l : Int) (r : Int) (w : World) (hr0_1 : Kd.C k72 w c a.length a) (hc0_1 : a.length ≤ d) (h : laws_heldWeb.f k g a l = some r) :
  Calls Try.prog 40 #[.agg #[.int .i64 g, .slice c a.length d], .int .i64 l] w fun e w' => e = .returned (.int .i64 r) ∧ Below w.heap.size w w' := by
 have hu29 := Try.underlying29
 have i := am_ hr0_1
 have j := am_ hc0_1
 clear hr0_1 hc0_1
 have HB := am_ (Below.refl w.heap.size w)
 rw [laws_heldWeb.f] at h; have H := h; clear h
 obtain ⟨n, o, H⟩ := bs_ H
 refine ic_ H ?_ ?_ <;> clear H <;> intro p H
 ·obtain rfl := oi_ H
  go_enter Try.func40, Try.ntmps40
  go_wp2_with (first | ((with_reducible refine gd_ 2 ?_); refine by_ 2 (cs := #[.int .i64 g, .slice c a.length d]) (t := 29) ?_; intro q hg u m hb; have s := gw_ hg; replace HB := hs_ hb; clear hb hg; obtain ⟨v, x, y, z⟩ := bc2_ m) | ((with_reducible refine gc_ 92 ?_); refine gl_ (some 8) Try.func92 #[.slice c a.length d, .int .i64 l] ?_; (with_reducible refine (laws_heldLedgeS.calls k _ _ a l n _ ?_ ?_ o.out).mono ?_); exact qC_ i HB; exact j.out; rintro e w' ⟨rfl, ⟨nd, rfl⟩⟩; refine ⟨_, rfl, ?_⟩))
  go_ret
  exact ⟨qr_, qB_⟩
 obtain rfl := oi_ H
 go_enter Try.func40, Try.ntmps40
 go_wp2_with (first | ((with_reducible refine gd_ 2 ?_); refine by_ 2 (cs := #[.int .i64 g, .slice c a.length d]) (t := 29) ?_; intro q hg A m hb; have s := gw_ hg; replace HB := hs_ hb; clear hb hg; obtain ⟨B, D, E, F⟩ := bc2_ m) | ((with_reducible refine gc_ 92 ?_); refine gl_ (some 8) Try.func92 #[.slice c a.length d, .int .i64 l] ?_; (with_reducible refine (laws_heldLedgeS.calls k _ _ a l n _ ?_ ?_ o.out).mono ?_); exact qC_ i HB; exact j.out; rintro e w' ⟨rfl, ⟨nd, rfl⟩⟩; refine ⟨_, rfl, ?_⟩))
 go_ret
 exact ⟨qr_, qB_⟩
def spec_GraphOf.l0 : Nat → Int → Int → List (S72) → Int → List (S43) → Option (Int × (List (S43)))
  | 0, _, _, _, _, _ => none
  | k + 1, x4, x146000, x146001, x148000, x148001 => if x4 < (x146001.length : Int) then (if 0 ≤ x4 then (if x148001.length < 8796093022208 then (spec_GraphOf.l0 k (wrap64 (x4 + 1)) x146000 x146001 x148000 (x148001 ++ [(⟨(rd_T72 x146001 x4).f0, (rd_T72 x146001 x4).f1⟩ : S43)])) else (none)) else (none)) else (some (x148000, x148001))
def spec_GraphOf.f (k : Nat) (a0_0 : Int) (l0_1 : List (S72)) : Option (Int × (List (S43))) := spec_GraphOf.l0 k 0 a0_0 l0_1 a0_0 ([] : List (S43))
theorem spec_GraphOf.mono_l : ∀ k, (∀ y0 y1 y2 y3 y4, LeO (spec_GraphOf.l0 k y0 y1 y2 y3 y4) (spec_GraphOf.l0 (k + 1) y0 y1 y2 y3 y4))
  | 0 => fun _ _ _ _ _ r h => by simp [spec_GraphOf.l0] at h
  | k + 1 => by
    have ih0 := spec_GraphOf.mono_l k
    · intro y0 y1 y2 y3 y4
      unfold spec_GraphOf.l0
      exact lo_
theorem spec_GraphOf.mono : ∀ a0 a1 k, LeO (spec_GraphOf.f k a0 a1) (spec_GraphOf.f (k + 1) a0 a1) := by
  intro a0 a1 k
  have ih0 := spec_GraphOf.mono_l k
  unfold spec_GraphOf.f
  exact lo_
def spec_GraphOf.T5 : Bool × List (List Nat × List Nat) := (true, [([], []), ([0], [0]), ([], []), ([2], [2]), ([], []), ([3, 4], [3, 4]), ([5], [5]), ([6], [6]), ([], []), ([8], [8]), ([], []), ([9, 10], [9, 10]), ([11], [11]), ([12], [12]), ([7, 13], [7, 13]), ([14], [14]), ([1, 15], [1, 15]), ([0, 1, 2, 3, 4, 5, 6, 7, 8, 9, 10, 11, 12, 13, 14, 15, 16], []), ([17, 16, 16, 0, 1, 2, 3, 4, 5, 6, 7, 8, 9, 10, 11, 12, 13, 14, 15, 16], [16, 17])])
def spec_GraphOf.B5 : List Nat := [0, 1, 0, 4, 0, 28, 60, 124, 0, 256, 0, 1792, 3840, 7936, 16380, 32764, 65535, 131071, 262143]
theorem spec_GraphOf.tab5 : rtab .any (opsOf Try.f47 5) = spec_GraphOf.T5 := by kernel_rfl
theorem spec_GraphOf.bits5 : waitsOk spec_GraphOf.T5.2 spec_GraphOf.B5 = true := by kernel_rfl
theorem spec_GraphOf.calls (k : Nat) (g : Int) (q : Option Addr) (m : Nat) (c : List (S72)) (X : Int) (Y : List (S43)) (w : World) (hr0_1 : Kd.C k72 w q c.length c) (hc0_1 : c.length ≤ m) (h : spec_GraphOf.f k g c = some (X, Y)) :
  Calls Try.prog 47 #[.agg #[.int .i64 g, .slice q c.length m]] w fun e w' => ∃ E : Value, e = .returned (.agg #[.int .i64 X, E]) ∧ Kd.R k43 43 w' w.heap.size (fun _ => True) E Y ∧ Below w.heap.size w w' := by
 have hu29 := Try.underlying29; have hu69 := Try.underlying69; have hu43 := Try.underlying43
 have s := am_ hr0_1
 have b6 := am_ hc0_1
 clear hr0_1 hc0_1
 have HB := am_ (Below.refl w.heap.size w)
 have H : (spec_GraphOf.l0 k 0 g c g ([] : List (S43))) = some (X, Y) := h
 clear h; have H' := am_ H; clear H
 go_enter Try.func47, Try.ntmps47
 go_wp2_with (first | ((with_reducible refine gd_ 1 ?_); refine by_ 1 (cs := #[.int .i64 g, .slice q c.length m]) (t := 29) ?_; intro b7 hg e9 j hb; have f4 := gw_ hg; replace HB := hs_ hb; clear hb hg) | ((with_reducible refine gd_ 2 ?_); refine by_ 2 (cs := #[.int .i64 0, .slice none 0 0]) (t := 69) ?_; intro Z hg f5 o hb; have f6 := gw_ hg; obtain ⟨b8, f7⟩ := qn_ j hg; replace j := qbl_ j hb; replace HB := hs_ hb; clear hb hg; obtain ⟨j0, j1⟩ := nn_ b8; obtain ⟨d7, d8, d9, e0⟩ := bc2_ j) | ((with_reducible refine gd_ 3 ?_); refine by_ 3 (cs := #[.int .i64 0, .slice none 0 0]) (t := 69) ?_; intro F hg f8 l hb; have f9 := gw_ hg; obtain ⟨b9, c9⟩ := qn_ j hg; obtain ⟨e1, c0⟩ := qn_ o hg; replace j := qbl_ j hb; replace o := qbl_ o hb; replace HB := hs_ hb; clear hb hg; obtain ⟨j2, j3⟩ := nn_ c9; obtain ⟨j4, g0⟩ := nn_ c0; obtain ⟨e2, e3, e4, e5⟩ := bc2_ l))
 go_loopg [4] k (fun kq v4 w' => ∃ (a : Int) (y : List (S43)) (D : Value), v4 = .int .i64 a ∧ Aside0 (spec_GraphOf.l0 kq a g c g y = some (X, Y)) ∧ Aside0 (kq ≤ k) ∧ Aside0 (Kd.R k43 43 w' w.heap.size (fun _ => True) D y) ∧ Aside0 (w'.heap[b7]? = some (.cells #[.int .i64 g, (.slice q c.length m)] 29 (0, 0))) ∧ Aside0 (w'.heap[Z]? = some (.cells #[.int .i64 0, (.slice none 0 0)] 69 (0, 0))) ∧ Aside0 (w'.heap[F]? = some (.cells #[.int .i64 g, D] 69 (0, 0))) ∧ Aside0 (Below w.heap.size w w'))
 case atStart => exact ⟨(0), (([] : List (S43))), (.slice none 0 0), qe_, H', ⟨Nat.le_refl _⟩, ⟨by first | exact Kd.R_nil _ _ _ _ _ | exact Kd.N_nil _ _ _ _ _ | exact Kd.V_nil _ _ _ _ _ | exact Kd.Q_nil _ _ _ _ _ | exact Kd.S_nil _ _ _ _ _⟩, ⟨qf_ j⟩, ⟨qf_ o⟩, ⟨qp_ l⟩, ⟨qB_⟩⟩
 case round =>
  clear H' d7 d8 e2 e3 d9 e0 e4 e5
  obtain ⟨a, y, D, rfl, HA, HK1, x, j, o, l, HB⟩ := hrel
  cases gk with
  | zero => exact absurd HA.out (by simp [spec_GraphOf.l0])
  | succ e6 =>
   have H := HA.out; clear HA
   simp only [spec_GraphOf.l0] at H
   refine ib_ H ?_ ?_ <;> clear H <;> intro c1 H
   ·simp only [Option.some.injEq, Prod.mk.injEq] at H
    obtain ⟨rfl, rfl⟩ := H
    obtain ⟨g5, g6⟩ := nn_ b8; obtain ⟨g7, g8⟩ := nn_ b9
    obtain ⟨g9, h0, h1, h2⟩ := bc2_ j
    obtain ⟨h3, h4⟩ := nn_ c0
    obtain ⟨h5, h6, h7, h8⟩ := bc2_ l
    obtain ⟨h9, i0, i1, i2⟩ := bc2_ o
    obtain ⟨d0, d1, e7⟩ := Kd.R_slice x.out
    subst e7
    go_wp2
    refine bodyPost_ret (results_cell_row rfl _ _ Z 69 #[.int .i64 g, .slice d0 y.length d1] (0, 0) _ rfl (qp_ o) Try.underlying69 rfl (by kernel_rfl)) rfl ?_
    exact ⟨_, qr_, by (with_reducible repeat (first | apply Kd.R_alloc | apply Kd.R_drewN | apply Kd.R_drew)); exact Kd.R_mono (Kd.R_far (p := ⟨Z, 1, none⟩) (Kd.R_far (p := ⟨Z, 0, none⟩) (Kd.R_types x.out o.out (by decide)) (fun _ hk => hk.2) (.int .i64 g)) (fun _ hk => hk.2) (.slice d0 y.length d1)) (fun _ hk => trivial), qB_⟩
   refine ig_ H ?_; clear H; intro c2 H
   refine jg_ H ?_; clear H; intro G H
   have z := am_ G
   clear G
   generalize u : (y ++ [(⟨(rd_T72 c a).f0, (rd_T72 c a).f1⟩ : S43)]) = c3 at H; replace H := bh_ H; have A := am_ u.symm; clear u; have H' := am_ H; clear H; obtain ⟨i3, i4⟩ := nn_ b8; obtain ⟨i5, i6⟩ := nn_ b9
   obtain ⟨i7, i8, i9, j5⟩ := bc2_ j
   try go_wp2
   replace x := rd_ x; replace j := bd_ j; replace o := bd_ o; replace l := bd_ l; replace HB := hd_ HB
   have I := dt_ a
   have J := du_ a c.length
   obtain ⟨d, L, a0, a1, a2, a3⟩ := at_T72 s.out a (ot_ I) (ot_ J)
   have a4 := a3; have a5 := a2; have a6 := a1; have a7 := a0; cases L
   replace a0 := qx_ HB a0
   replace a1 := qx_ HB a1
   replace a2 := qx_ HB a2
   replace a3 := qx_ HB a3
   have M := dt_ a
   have O := du_ a c.length
   obtain ⟨B, T, a8, a9, b0, b1⟩ := at_T72 s.out a (ot_ M) (ot_ O)
   have b2 := b1; have b3 := b0; have b4 := a9; have b5 := a8
   obtain rfl : d = B := (by injection T)
   replace a8 := qx_ HB a8
   replace a9 := qx_ HB a9
   replace b0 := qx_ HB b0
   replace b1 := qx_ HB b1
   refine start_ (n := 19) (S := fun w' => w'.cell? ⟨F, 0, none⟩ = some (.int .i64 g) ∧ w'.cell? ⟨F, 1, none⟩ = some (D) ∧ w'.cell? ⟨b7, 0, none⟩ = some (.int .i64 g) ∧ w'.cell? ⟨b7, 1, none⟩ = some (.slice (some d) c.length m) ∧ w'.cell? (d.add ((a).toNat * 4)) = some (.int .i64 ((rd_T72 c a).f0)) ∧ w'.cell? ⟨(d.add ((a).toNat * 4)).block, (d.add ((a).toNat * 4)).off + 1, none⟩ = some (.int .i64 ((rd_T72 c a).f1)) ∧ w'.cell? ⟨(d.add ((a).toNat * 4)).block, (d.add ((a).toNat * 4)).off + 2, none⟩ = some (.int .i64 ((rd_T72 c a).f2)) ∧ w'.cell? ⟨(d.add ((a).toNat * 4)).block, (d.add ((a).toNat * 4)).off + 3, none⟩ = some (.bool ((rd_T72 c a).f3)) ∧ w'.cell? (d.add ((a).toNat * 4)) = some (.int .i64 ((rd_T72 c a).f0)) ∧ w'.cell? ⟨(d.add ((a).toNat * 4)).block, (d.add ((a).toNat * 4)).off + 1, none⟩ = some (.int .i64 ((rd_T72 c a).f1)) ∧ w'.cell? ⟨(d.add ((a).toNat * 4)).block, (d.add ((a).toNat * 4)).off + 2, none⟩ = some (.int .i64 ((rd_T72 c a).f2)) ∧ w'.cell? ⟨(d.add ((a).toNat * 4)).block, (d.add ((a).toNat * 4)).off + 3, none⟩ = some (.bool ((rd_T72 c a).f3))) (ds := [18]) (bm 19 0) (by kernel_rfl) rfl (by kernel_rfl) ⟨bl_ l 0, bl_ l 1, bl_ j 0, bl_ j 1, ((qx_ HB a7).trans rfl), ((qx_ HB a6).trans rfl), ((qx_ HB a5).trans rfl), ((qx_ HB a4).trans rfl), ((qx_ HB b5).trans rfl), ((qx_ HB b4).trans rfl), ((qx_ HB b3).trans rfl), ((qx_ HB b2).trans rfl)⟩ (fun hHeld => ?_); refine with_tabW spec_GraphOf.tab5 spec_GraphOf.bits5 (fun HT_ HW_ => ?_)
   generalize wr.drew = e8 at x j o l HB a0 a1 a2 a3 a8 a9 b0 b1 hHeld ⊢
   refine pz_ 0 15 19 1 ?_; refine pz_ 2 17 19 5 ?_; refine pz_ 4 19 19 21 ?_; refine pz_ 8 23 19 277 ?_; refine pz_ 10 25 19 1301 ?_; refine tz12_ 1 16 (bm 19 1303) ?_; refine tz12_ 3 18 (bm 19 1311) ?_; refine pz_ 5 20 19 1343 ?_; refine pz_ 6 21 19 1407 ?_; refine tz12_ 7 22 (bm 19 1535) ?_; refine tz12_ 9 24 (bm 19 2047) ?_; refine pz_ 11 26 19 4095 ?_; refine pz_ 12 27 19 8191 ?_; refine tz12_ 13 28 (bm 19 16383) ?_; refine pz_ 14 29 19 32767 ?_
   refine o1_ 15 (some 30) 19 65535 (fun K hK => ?_)
   refine value_ (w1 := ?_) (v := ?_) (by rfl) rfl ?_ ?_
   rotate_left 2
   ·go_simp
    constructor
    ·rfl
    rfl
   refine hK.out _ _ ⟨(blk_cell (blk_alloc l.out _) 0).trans rfl, (blk_cell (blk_alloc l.out _) 1).trans rfl, (blk_cell (blk_alloc j.out _) 0).trans rfl, (blk_cell (blk_alloc j.out _) 1).trans rfl, (World.cell?_alloc_lt _ _ _ (World.block_lt_of_cell? _ _ (((qx_ HB a7).trans rfl)))).trans (((qx_ HB a7).trans rfl)), (World.cell?_alloc_lt _ _ _ (World.block_lt_of_cell? _ _ (((qx_ HB a6).trans rfl)))).trans (((qx_ HB a6).trans rfl)), (World.cell?_alloc_lt _ _ _ (World.block_lt_of_cell? _ _ (((qx_ HB a5).trans rfl)))).trans (((qx_ HB a5).trans rfl)), (World.cell?_alloc_lt _ _ _ (World.block_lt_of_cell? _ _ (((qx_ HB a4).trans rfl)))).trans (((qx_ HB a4).trans rfl)), (World.cell?_alloc_lt _ _ _ (World.block_lt_of_cell? _ _ (((qx_ HB b5).trans rfl)))).trans (((qx_ HB b5).trans rfl)), (World.cell?_alloc_lt _ _ _ (World.block_lt_of_cell? _ _ (((qx_ HB b4).trans rfl)))).trans (((qx_ HB b4).trans rfl)), (World.cell?_alloc_lt _ _ _ (World.block_lt_of_cell? _ _ (((qx_ HB b3).trans rfl)))).trans (((qx_ HB b3).trans rfl)), (World.cell?_alloc_lt _ _ _ (World.block_lt_of_cell? _ _ (((qx_ HB b2).trans rfl)))).trans (((qx_ HB b2).trans rfl))⟩ (fun hHeld => ?_)
   clear hK K
   refine nm_ 30 ?_
   refine o1_ 16 (some 31) 19 131071 (fun K hK => ?_)
   refine Kd.R_append_step k43 (w0 := w) w.heap.size (by rfl) (.tmp 16) (.tmp 30) 67 43 (.agg #[(.int .i64 0), (.int .i64 0)]) 16 rfl Try.underlying67 info43 rfl (by decide) (by omega) D y (⟨(rd_T72 c a).f0, (rd_T72 c a).f1⟩ : S43) [.int .i64 ((rd_T72 c a).f0), .int .i64 ((rd_T72 c a).f1)] (fun _ => True) (fun _ => False) rfl rfl ?aP (fun _ hk => hk.elim) ?aF ?aO ?aB ?aS ?aL ?_
   (case aP => exact k43_mkM _ _ _ (⟨(rd_T72 c a).f0, (rd_T72 c a).f1⟩ : S43))
   (case aB => exact qB_)
   (case aF => exact (fun _ _ => trivial))
   (case aO => exact (qR_ x))
   (case aS => exact (below_size qB_))
   (case aL => have := z.out; omega)
   intro j6 c4 ho hb hg hat
   rw [← A.out] at ho
   have d2 := am_ (ho); replace j := am_ (blk_grown (qk_ j) hg (Kd.R_ne x.out j.out (by decide))); replace o := am_ (blk_grown (qk_ o) hg (Kd.R_ne x.out o.out (by decide))); replace l := am_ (blk_grown (qk_ l) hg (Kd.R_ne x.out l.out (by decide))); replace HB := am_ (hb); clear x ho hb hg hat
   obtain ⟨d3, d4, d5⟩ := Kd.R_slice d2.out
   (first | subst d5 | (injection d5 with U c5 V; have c6 := U.symm; have c7 := V.symm; clear U c5 V; subst c6; subst c7))
   refine hK.out _ _ ⟨bl_ l 0, bl_ l 1, bl_ j 0, bl_ j 1, ((qx_ HB a7).trans rfl), ((qx_ HB a6).trans rfl), ((qx_ HB a5).trans rfl), ((qx_ HB a4).trans rfl), ((qx_ HB b5).trans rfl), ((qx_ HB b4).trans rfl), ((qx_ HB b3).trans rfl), ((qx_ HB b2).trans rfl)⟩ (fun hHeld => ?_)
   clear hK K
   refine nm_ 31 ?_
   refine pz_ 17 32 19 262143 ?_
   refine last_ (i := 18) (N := none) (bm 19 524287) rfl rfl (one_of HT_.out (by kernel_rfl)) (by decide) (fun K hK => ?_)
   have d6 : c4.cell? ⟨F, 1, none⟩ = some (D) := bl_ l 1
   have c8 := blk_frozen l.out 1
   have j7 := b9.out; have j8 := e1.out; have j9 := c9.out; have k0 := c0.out
   refine skip_ (w1 := ?_) (by rfl) rfl ?_ ?_
   rotate_left
   ·go_simp
    rfl
   refine hK.out _ _ ?_
   clear hK K
   refine done_ (done_of HT_.out (by kernel_rfl)) ?_
   try go_wp2
   go_roundg e6
   case measure => have := HK1.out; omega
   case rel => exact ⟨(wrap64 (a + 1)), (c3), (.slice d3 c3.length d4), qe_, H', ⟨by have := HK1.out; omega⟩, ⟨by (with_reducible repeat (first | apply Kd.R_alloc | apply Kd.R_drewN | apply Kd.R_drew)); exact Kd.R_mono (Kd.R_far (p := ⟨F, 1, none⟩) (Kd.R_types d2.out l.out (by decide)) (fun _ hk => hk.2) (.slice d3 c3.length d4)) (fun _ hk => trivial)⟩, ⟨qf_ j⟩, ⟨qf_ o⟩, ⟨qp_ l⟩, ⟨qB_⟩⟩
def spec_l01In.f (a0 : Int) (a1 : Int) (a2 : Int) : Option (Bool) := if a0 ≥ a1 then (some (decide (a0 ≤ a2))) else (some false)
theorem spec_l01In.calls (c : Int) (d : Int) (i : Int) (r : Bool) (w : World) (h : spec_l01In.f c d i = some r) :
  Calls Try.prog 57 #[.int .i64 c, .int .i64 d, .int .i64 i] w fun e w' => e = .returned (.bool r) ∧ Drawn0 w w' := by
 rw [spec_l01In.f] at h; have H := h; clear h
 refine jc_ H ?_ ?_ <;> clear H <;> intro g H
 ·have a : decide (d ≤ c) = true := decide_eq_true g
  clear g
  obtain rfl := oi_ H
  go_enter Try.func57, Try.ntmps57
  go_wp2
  go_ret
  exact ⟨by first | rfl | (simp; done) | (simp [*]; done), by repeat (first | exact Drawn0.refl _ | apply Drawn0.step)⟩
 have a : decide (d ≤ c) = false := decide_eq_false g
 clear g
 obtain rfl := oi_ H
 go_enter Try.func57, Try.ntmps57
 go_wp2
 go_ret
 exact ⟨by first | rfl | (simp; done) | (simp [*]; done), by repeat (first | exact Drawn0.refl _ | apply Drawn0.step)⟩
end Go.Proofs.Ytbkklafkoegdpaa.QFnExactWebTake
