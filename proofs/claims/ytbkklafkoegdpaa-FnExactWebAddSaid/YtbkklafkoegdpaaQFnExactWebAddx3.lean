import Derived.Test.YtbkklafkoegdpaaQFnExactWebAddx0
namespace Go.Proofs.Ytbkklafkoegdpaa.QFnExactWebAdd
open Go.RowKit Go.Proofs.YtbkklafkoegdpaaW.PrintWords Go.Proofs.YtbkklafkoegdpaaW.PrintLast Go.Proofs.YtbkklafkoegdpaaW.PrintMore
set_option maxHeartbeats 8000000
set_option maxRecDepth 100000
set_option linter.unusedVariables false
set_option linter.unusedSimpArgs false
def laws_markLedgeS.l0 : Nat → List (S72) → Int → Int → Option (Int × (List (S72)))
  | 0, _, _, _ => none
  | k + 1, x0, x1, x5 => if x5 < (x0.length : Int) then (if 0 ≤ x5 then ((some (x0.set (x5 : Int).toNat (⟨x1, (rd_T72 x0 x5).f1, (rd_T72 x0 x5).f2, (rd_T72 x0 x5).f3⟩ : S72) : List (S72))).bind fun y132 => ((some (y132.set (x5 : Int).toNat (⟨(rd_T72 y132 x5).f0, wrap64 (x1 + 1), (rd_T72 y132 x5).f2, (rd_T72 y132 x5).f3⟩ : S72) : List (S72))).bind fun y133 => ((some (y133.set (x5 : Int).toNat (⟨(rd_T72 y133 x5).f0, (rd_T72 y133 x5).f1, wrap64 ((wrap64 (x1 + 1)) + 1), (rd_T72 y133 x5).f3⟩ : S72) : List (S72))).bind fun y134 => (laws_markLedgeS.l0 k (y134.set (x5 : Int).toNat (⟨(rd_T72 y134 x5).f0, (rd_T72 y134 x5).f1, (rd_T72 y134 x5).f2, ((Int.tmod (wrap64 ((wrap64 ((wrap64 (x1 + 1)) + 1)) + 1)) 3) == 0)⟩ : S72)) (wrap64 ((wrap64 ((wrap64 ((wrap64 (x1 + 1)) + 1)) + 1)) + 1)) (wrap64 (x5 + 1)))))) else (none)) else (some (x1, x0))
def laws_markLedgeS.f (k : Nat) (l0 : List (S72)) (a1 : Int) : Option (Int × (List (S72))) := laws_markLedgeS.l0 k l0 a1 0
theorem laws_markLedgeS.mono_l : ∀ k, (∀ y0 y1 y2, LeO (laws_markLedgeS.l0 k y0 y1 y2) (laws_markLedgeS.l0 (k + 1) y0 y1 y2))
  | 0 => fun _ _ _ r h => by simp [laws_markLedgeS.l0] at h
  | k + 1 => by
    have ih0 := laws_markLedgeS.mono_l k
    · intro y0 y1 y2
      unfold laws_markLedgeS.l0
      exact lo_
theorem laws_markLedgeS.mono : ∀ a0 a1 k, LeO (laws_markLedgeS.f k a0 a1) (laws_markLedgeS.f (k + 1) a0 a1) := by
  intro a0 a1 k
  have ih0 := laws_markLedgeS.mono_l k
  unfold laws_markLedgeS.f
  exact lo_
theorem laws_markLedgeS.calls (k : Nat) (P0_ : Nat → Prop) (u9000_ : Value) (l0 : List (S72)) (a1 : Int) (r1 : Int) (r2 : List (S72)) (w0 w : World) (hB : Below w0.heap.size w0 w) (ho0 : Kd.R k72 72 w w0.heap.size P0_ u9000_ l0) (h : laws_markLedgeS.f k l0 a1 = some (r1, r2)) :
  Calls Try.prog 86 #[u9000_, .int .i64 a1] w fun e w' => e = .returned (.int .i64 r1) ∧ Kd.R k72 72 w' w0.heap.size (fun k_ => (P0_ k_ ∨ w.heap.size ≤ k_)) u9000_ r2 ∧ Below w0.heap.size w0 w' ∧ Kept w w' (fun k_ => P0_ k_) := by
 have b2 := am_ (show Kd.R k72 72 w w0.heap.size (fun k_ => (P0_ k_ ∨ w.heap.size ≤ k_)) u9000_ l0 from Kd.R_mono ho0 (fun k_ hk => (.inl hk)))
 have HK := am_ (Kept.refl w (fun k_ => P0_ k_))
 have HW0 := am_ hB.size
 have HB := am_ hB
 clear hB
 have H : (laws_markLedgeS.l0 k l0 a1 0) = some (r1, r2) := h
 clear h; have H' := am_ H; clear H
 go_enter Try.func86, Try.ntmps86
 go_wp2
 go_loopg [1, 5] k (fun kq v1 v5 w' => ∃ (x0_1 : List (S72)) (x1_1 : Int) (x5_1 : Int), v1 = .int .i64 x1_1 ∧ v5 = .int .i64 x5_1 ∧ Aside0 (laws_markLedgeS.l0 kq x0_1 x1_1 x5_1 = some (r1, r2)) ∧ Aside0 (kq ≤ k) ∧ Aside0 (Kd.R k72 72 w' w0.heap.size (fun k_ => (P0_ k_ ∨ w.heap.size ≤ k_)) u9000_ x0_1) ∧ Aside0 (Kept w w' (fun k_ => P0_ k_)) ∧ Aside0 (Below w0.heap.size w0 w'))
 case atStart => exact ⟨(l0), (a1), (0), qe_, qe_, H', ⟨Nat.le_refl _⟩, ⟨ra_ b2⟩, ⟨by repeat (first | (with_reducible first | exact HK.out | apply Kept.alloc | apply Kept.drewN | apply Kept.drew) | exact HK.out)⟩, ⟨qB_⟩⟩
 case round =>
  clear H'
  (try clear p2)
  obtain ⟨x0_1, x1_1, x5_1, rfl, rfl, HA, HK1, a0, HK, HB⟩ := hrel
  cases gk with
  | zero => exact absurd HA.out (by simp [laws_markLedgeS.l0])
  | succ k1 =>
   have H := HA.out; clear HA
   simp only [laws_markLedgeS.l0] at H
   refine ib_ H ?_ ?_ <;> clear H <;> intro c3b0 H
   ·simp only [Option.some.injEq, Prod.mk.injEq] at H
    obtain ⟨rfl, rfl⟩ := H
    obtain ⟨d3, d4, b1⟩ := Kd.R_slice a0.out
    subst b1
    go_wp2
    go_ret
    exact ⟨qr_, qR_ a0, by repeat (first | (with_reducible first | exact HB.out | apply below_alloc | apply pw_below_drewN | apply below_drew1) | exact HB.out), by repeat (first | (with_reducible first | exact HK.out | apply Kept.alloc | apply Kept.drewN | apply Kept.drew) | exact HK.out)⟩
   refine ig_ H ?_; clear H; intro c4b0 H
   obtain ⟨a4, hy132⟩ : ∃ y_ : List (S72), y_ = (x0_1.set (x5_1 : Int).toNat (⟨x1_1, (rd_T72 x0_1 x5_1).f1, (rd_T72 x0_1 x5_1).f2, (rd_T72 x0_1 x5_1).f3⟩ : S72)) := ⟨_, rfl⟩
   replace H : ((some (a4.set (x5_1 : Int).toNat (⟨(rd_T72 a4 x5_1).f0, wrap64 (x1_1 + 1), (rd_T72 a4 x5_1).f2, (rd_T72 a4 x5_1).f3⟩ : S72) : List (S72))).bind fun a3 => ((some (a3.set (x5_1 : Int).toNat (⟨(rd_T72 a3 x5_1).f0, (rd_T72 a3 x5_1).f1, wrap64 ((wrap64 (x1_1 + 1)) + 1), (rd_T72 a3 x5_1).f3⟩ : S72) : List (S72))).bind fun a2 => (laws_markLedgeS.l0 k1 (a2.set (x5_1 : Int).toNat (⟨(rd_T72 a2 x5_1).f0, (rd_T72 a2 x5_1).f1, (rd_T72 a2 x5_1).f2, ((Int.tmod (wrap64 ((wrap64 ((wrap64 (x1_1 + 1)) + 1)) + 1)) 3) == 0)⟩ : S72)) (wrap64 ((wrap64 ((wrap64 ((wrap64 (x1_1 + 1)) + 1)) + 1)) + 1)) (wrap64 (x5_1 + 1))))) = some (r1, r2) := hq_ hy132 H
   have Ny132 := am_ hy132
   clear hy132
   obtain ⟨a3, hy133⟩ : ∃ y_ : List (S72), y_ = (a4.set (x5_1 : Int).toNat (⟨(rd_T72 a4 x5_1).f0, wrap64 (x1_1 + 1), (rd_T72 a4 x5_1).f2, (rd_T72 a4 x5_1).f3⟩ : S72)) := ⟨_, rfl⟩
   replace H : ((some (a3.set (x5_1 : Int).toNat (⟨(rd_T72 a3 x5_1).f0, (rd_T72 a3 x5_1).f1, wrap64 ((wrap64 (x1_1 + 1)) + 1), (rd_T72 a3 x5_1).f3⟩ : S72) : List (S72))).bind fun a2 => (laws_markLedgeS.l0 k1 (a2.set (x5_1 : Int).toNat (⟨(rd_T72 a2 x5_1).f0, (rd_T72 a2 x5_1).f1, (rd_T72 a2 x5_1).f2, ((Int.tmod (wrap64 ((wrap64 ((wrap64 (x1_1 + 1)) + 1)) + 1)) 3) == 0)⟩ : S72)) (wrap64 ((wrap64 ((wrap64 ((wrap64 (x1_1 + 1)) + 1)) + 1)) + 1)) (wrap64 (x5_1 + 1)))) = some (r1, r2) := hq_ hy133 H
   have Ny133 := am_ hy133
   clear hy133
   obtain ⟨a2, hy134⟩ : ∃ y_ : List (S72), y_ = (a3.set (x5_1 : Int).toNat (⟨(rd_T72 a3 x5_1).f0, (rd_T72 a3 x5_1).f1, wrap64 ((wrap64 (x1_1 + 1)) + 1), (rd_T72 a3 x5_1).f3⟩ : S72)) := ⟨_, rfl⟩
   replace H : (laws_markLedgeS.l0 k1 (a2.set (x5_1 : Int).toNat (⟨(rd_T72 a2 x5_1).f0, (rd_T72 a2 x5_1).f1, (rd_T72 a2 x5_1).f2, ((Int.tmod (wrap64 ((wrap64 ((wrap64 (x1_1 + 1)) + 1)) + 1)) 3) == 0)⟩ : S72)) (wrap64 ((wrap64 ((wrap64 ((wrap64 (x1_1 + 1)) + 1)) + 1)) + 1)) (wrap64 (x5_1 + 1))) = some (r1, r2) := hq_ hy134 H
   have Ny134 := am_ hy134
   clear hy134
   obtain ⟨a6, hy135⟩ : ∃ y_ : List (S72), y_ = (a2.set (x5_1 : Int).toNat (⟨(rd_T72 a2 x5_1).f0, (rd_T72 a2 x5_1).f1, (rd_T72 a2 x5_1).f2, ((Int.tmod (wrap64 ((wrap64 ((wrap64 (x1_1 + 1)) + 1)) + 1)) 3) == 0)⟩ : S72)) := ⟨_, rfl⟩
   replace H : (laws_markLedgeS.l0 k1 a6 (wrap64 ((wrap64 ((wrap64 ((wrap64 (x1_1 + 1)) + 1)) + 1)) + 1)) (wrap64 (x5_1 + 1))) = some (r1, r2) := hq_ hy135 H
   have Ny135 := am_ hy135
   clear hy135; have H' := am_ H; clear H
   obtain ⟨d6, a5, d5⟩ := Kd.R_slice a0.out
   subst d5
   have p5 := dp_ x5_1
   have q5 : (x5_1 : Int) < ((x0_1.length : Int) : Int) := of_decide_eq_true qa_
   obtain ⟨go5, d7, b3, b4, gl5, cl5, HG5⟩ := Kd.R_form a0.out (by omega)
   (first | cases b3 | (injection b3 with ea_ en_ ec_; (first | subst ea_ | (injection ea_ with ea_; subst ea_)); subst ec_; clear en_))
   have GB5 := am_ b4
   have GG5 := am_ HG5
   clear b4 gl5 HG5
   have HMgo5 := am_ (show (P0_ go5 ∨ w.heap.size ≤ go5) from (a0.out.1 _ rfl))
   obtain ⟨ce5, hcl5, hM5, hcc5, hfr5⟩ := Kd.R_elem a0.out z72 (x5_1 : Int) p5 q5
   obtain rfl := k72_openM hM5
   have b5 : wr.cell? ⟨go5, (x5_1 : Int).toNat * 4, none⟩ = some (.int .i64 ((rd_T72 x0_1 x5_1).f0)) := hcc5 0 _ rfl
   have b6 : wr.cell? ⟨go5, (x5_1 : Int).toNat * 4 + 1, none⟩ = some (.int .i64 ((rd_T72 x0_1 x5_1).f1)) := hcc5 1 _ rfl
   have b7 : wr.cell? ⟨go5, (x5_1 : Int).toNat * 4 + 2, none⟩ = some (.int .i64 ((rd_T72 x0_1 x5_1).f2)) := hcc5 2 _ rfl
   have b8 : wr.cell? ⟨go5, (x5_1 : Int).toNat * 4 + 3, none⟩ = some (.bool ((rd_T72 x0_1 x5_1).f3)) := hcc5 3 _ rfl
   have hf5_0 : wr.frozen? ⟨go5, (x5_1 : Int).toNat * 4, none⟩ = false := hfr5 0
   have hf5_1 : wr.frozen? ⟨go5, (x5_1 : Int).toNat * 4 + 1, none⟩ = false := hfr5 1
   have hf5_2 : wr.frozen? ⟨go5, (x5_1 : Int).toNat * 4 + 2, none⟩ = false := hfr5 2
   have hf5_3 : wr.frozen? ⟨go5, (x5_1 : Int).toNat * 4 + 3, none⟩ = false := hfr5 3
   (try clear hcl5); (try clear hcc5); (try clear hfr5); (try clear hM5); replace p5 := eq_true p5; replace q5 := eq_true q5
   have HX10 := am_ (show Kd.R k72 72 wr w0.heap.size (fun k_ => (P0_ k_ ∨ w.heap.size ≤ k_)) (.slice (some ⟨go5, 0, none⟩) x0_1.length a5) x0_1 from (qR_ a0))
   obtain ⟨ce10, hcl10, hM10, hcc10, hfr10⟩ := Kd.R_elem HX10.out z72 (x5_1 : Int) (of_decide_eq_true qa_) (by have h_ : (x5_1 : Int) < ((x0_1.length : Int) : Int) := of_decide_eq_true qa_; first | exact h_ | (have e_ := (Kd.R_reads' a0.out).1; omega) | simpa using h_)
   obtain rfl := k72_openM hM10
   have HP10 := Kd.R_seg HX10.out (x5_1 : Int) (of_decide_eq_true qa_) (by have h_ : (x5_1 : Int) < ((x0_1.length : Int) : Int) := of_decide_eq_true qa_; first | exact h_ | (have e_ := (Kd.R_reads' a0.out).1; omega) | simpa using h_) (seg := [.int .i64 x1_1]) (j := 0) hcl10 hcc10 (show 1 ≤ 4 from by decide) (x' := (⟨x1_1, (rd_T72 x0_1 x5_1).f1, (rd_T72 x0_1 x5_1).f2, (rd_T72 x0_1 x5_1).f3⟩ : S72)) (k72_mkM _ _ _ (⟨x1_1, (rd_T72 x0_1 x5_1).f1, (rd_T72 x0_1 x5_1).f2, (rd_T72 x0_1 x5_1).f3⟩ : S72) ) (fun _ hk => hk)
   have a7 := hcc10 0 _ rfl
   (try simp only [show (k72).sz = 4 from rfl, Nat.mul_one, Nat.add_zero] at a7)
   have hf10_0 := hfr10 0
   (try simp only [show (k72).sz = 4 from rfl, Nat.mul_one, Nat.add_zero] at hf10_0)
   (try clear hcl10); (try clear hcc10); (try clear hfr10); (try clear hM10)
   go_wp2_with (first | ((with_reducible refine gate_store (t := 3) (p := 16) rfl ?_); refine store_event (t := 3) (p := 16) (v := ?vo_w11) (w1 := (wr.setCell ⟨go5, (x5_1 : Int).toNat * 4, none⟩ (.int .i64 x1_1))) ?hg ?ho ?hn ?hr ?_; (case ho => rfl); (case hg => rfl); (case hn => rfl); (case hr => first | (go_simp; done) | (go_simp; rfl)); intro w11 hw; have hg : wr.grownBy w11 (some go5) := (by rw [hw]; exact HP10.2); have hp_ : Kd.R k72 72 w11 w0.heap.size (fun k_ => (P0_ k_ ∨ w.heap.size ≤ k_)) (.slice (some ⟨go5, 0, none⟩) x0_1.length a5) a4 := (by rw [hw, Ny132.out]; exact HP10.1); clear HP10; have n0_ := am_ (hp_); have n1_ := am_ ((by rw [hw]; exact below_set (HB.out) GB5.out : Below w0.heap.size w0 w11)); have n2_ := am_ (Kept.of_grown (S := (fun k_ => P0_ k_)) hg (by repeat (first | (with_reducible first | exact HK.out | apply Kept.alloc | apply Kept.drewN | apply Kept.drew) | exact HK.out)) (fun k_ e_ => (a0.out.1 k_ e_))); clear a0; clear HB; clear HK; have a0 := n0_; have HB := n1_; have HK := n2_; clear n0_ n1_ n2_; clear hg hw hp_; have p6 := dp_ x5_1; have q6 : (x5_1 : Int) < ((x0_1.length : Int) : Int) := of_decide_eq_true qa_; obtain ⟨ce6, hcl6, hM6, hcc6, hfr6⟩ := Kd.R_elem a0.out z72 (x5_1 : Int) p6 q6; obtain rfl := k72_openM hM6; have b9 : w11.cell? ⟨go5, (x5_1 : Int).toNat * 4, none⟩ = some (.int .i64 ((rd_T72 a4 x5_1).f0)) := hcc6 0 _ rfl; have c0 : w11.cell? ⟨go5, (x5_1 : Int).toNat * 4 + 1, none⟩ = some (.int .i64 ((rd_T72 a4 x5_1).f1)) := hcc6 1 _ rfl; have c1 : w11.cell? ⟨go5, (x5_1 : Int).toNat * 4 + 2, none⟩ = some (.int .i64 ((rd_T72 a4 x5_1).f2)) := hcc6 2 _ rfl; have c2 : w11.cell? ⟨go5, (x5_1 : Int).toNat * 4 + 3, none⟩ = some (.bool ((rd_T72 a4 x5_1).f3)) := hcc6 3 _ rfl; have hf6_0 : w11.frozen? ⟨go5, (x5_1 : Int).toNat * 4, none⟩ = false := hfr6 0; have hf6_1 : w11.frozen? ⟨go5, (x5_1 : Int).toNat * 4 + 1, none⟩ = false := hfr6 1; have hf6_2 : w11.frozen? ⟨go5, (x5_1 : Int).toNat * 4 + 2, none⟩ = false := hfr6 2; have hf6_3 : w11.frozen? ⟨go5, (x5_1 : Int).toNat * 4 + 3, none⟩ = false := hfr6 3; (try clear hcl6); (try clear hcc6); (try clear hfr6); (try clear hM6); replace p6 := eq_true p6; replace q6 := eq_true q6; have HX12 := am_ (show Kd.R k72 72 w11 w0.heap.size (fun k_ => (P0_ k_ ∨ w.heap.size ≤ k_)) (.slice (some ⟨go5, 0, none⟩) x0_1.length a5) a4 from (qR_ a0)); obtain ⟨ce12, hcl12, hM12, hcc12, hfr12⟩ := Kd.R_elem HX12.out z72 (x5_1 : Int) (of_decide_eq_true qa_) (by have h_ : (x5_1 : Int) < ((x0_1.length : Int) : Int) := of_decide_eq_true qa_; first | exact h_ | (have e_ := (Kd.R_reads' a0.out).1; omega) | simpa using h_); obtain rfl := k72_openM hM12; have HP12 := Kd.R_seg HX12.out (x5_1 : Int) (of_decide_eq_true qa_) (by have h_ : (x5_1 : Int) < ((x0_1.length : Int) : Int) := of_decide_eq_true qa_; first | exact h_ | (have e_ := (Kd.R_reads' a0.out).1; omega) | simpa using h_) (seg := [.int .i64 (wrap64 (x1_1 + 1))]) (j := 1) hcl12 hcc12 (show 2 ≤ 4 from by decide) (x' := (⟨(rd_T72 a4 x5_1).f0, wrap64 (x1_1 + 1), (rd_T72 a4 x5_1).f2, (rd_T72 a4 x5_1).f3⟩ : S72)) (k72_mkM _ _ _ (⟨(rd_T72 a4 x5_1).f0, wrap64 (x1_1 + 1), (rd_T72 a4 x5_1).f2, (rd_T72 a4 x5_1).f3⟩ : S72) ) (fun _ hk => hk); have a8 := hcc12 1 _ rfl; (try simp only [show (k72).sz = 4 from rfl, Nat.mul_one, Nat.add_zero] at a8); have hf12_1 := hfr12 1; (try simp only [show (k72).sz = 4 from rfl, Nat.mul_one, Nat.add_zero] at hf12_1); (try clear hcl12); (try clear hcc12); (try clear hfr12); (try clear hM12)) | ((with_reducible refine gate_store (t := 3) (p := 23) rfl ?_); refine store_event (t := 3) (p := 23) (v := ?vo_w13) (w1 := (w11.setCell ⟨go5, (x5_1 : Int).toNat * 4 + 1, none⟩ (.int .i64 (wrap64 (x1_1 + 1))))) ?hg ?ho ?hn ?hr ?_; (case ho => rfl); (case hg => rfl); (case hn => rfl); (case hr => first | (go_simp; done) | (go_simp; rfl)); intro w13 hw; have hg : w11.grownBy w13 (some go5) := (by rw [hw]; exact HP12.2); have hp_ : Kd.R k72 72 w13 w0.heap.size (fun k_ => (P0_ k_ ∨ w.heap.size ≤ k_)) (.slice (some ⟨go5, 0, none⟩) x0_1.length a5) a3 := (by rw [hw, Ny133.out]; exact HP12.1); clear HP12; have n0_ := am_ (hp_); have n1_ := am_ ((by rw [hw]; exact below_set (HB.out) GB5.out : Below w0.heap.size w0 w13)); have n2_ := am_ (Kept.of_grown (S := (fun k_ => P0_ k_)) hg (by repeat (first | (with_reducible first | exact HK.out | apply Kept.alloc | apply Kept.drewN | apply Kept.drew) | exact HK.out)) (fun k_ e_ => (a0.out.1 k_ e_))); clear a0; clear HB; clear HK; have a0 := n0_; have HB := n1_; have HK := n2_; clear n0_ n1_ n2_; clear hg hw hp_; have p7 := dp_ x5_1; have q7 : (x5_1 : Int) < ((x0_1.length : Int) : Int) := of_decide_eq_true qa_; obtain ⟨ce7, hcl7, hM7, hcc7, hfr7⟩ := Kd.R_elem a0.out z72 (x5_1 : Int) p7 q7; obtain rfl := k72_openM hM7; have c5 : w13.cell? ⟨go5, (x5_1 : Int).toNat * 4, none⟩ = some (.int .i64 ((rd_T72 a3 x5_1).f0)) := hcc7 0 _ rfl; have c6 : w13.cell? ⟨go5, (x5_1 : Int).toNat * 4 + 1, none⟩ = some (.int .i64 ((rd_T72 a3 x5_1).f1)) := hcc7 1 _ rfl; have c7 : w13.cell? ⟨go5, (x5_1 : Int).toNat * 4 + 2, none⟩ = some (.int .i64 ((rd_T72 a3 x5_1).f2)) := hcc7 2 _ rfl; have c8 : w13.cell? ⟨go5, (x5_1 : Int).toNat * 4 + 3, none⟩ = some (.bool ((rd_T72 a3 x5_1).f3)) := hcc7 3 _ rfl; have hf7_0 : w13.frozen? ⟨go5, (x5_1 : Int).toNat * 4, none⟩ = false := hfr7 0; have hf7_1 : w13.frozen? ⟨go5, (x5_1 : Int).toNat * 4 + 1, none⟩ = false := hfr7 1; have hf7_2 : w13.frozen? ⟨go5, (x5_1 : Int).toNat * 4 + 2, none⟩ = false := hfr7 2; have hf7_3 : w13.frozen? ⟨go5, (x5_1 : Int).toNat * 4 + 3, none⟩ = false := hfr7 3; (try clear hcl7); (try clear hcc7); (try clear hfr7); (try clear hM7); replace p7 := eq_true p7; replace q7 := eq_true q7; have HX14 := am_ (show Kd.R k72 72 w13 w0.heap.size (fun k_ => (P0_ k_ ∨ w.heap.size ≤ k_)) (.slice (some ⟨go5, 0, none⟩) x0_1.length a5) a3 from (qR_ a0)); obtain ⟨ce14, hcl14, hM14, hcc14, hfr14⟩ := Kd.R_elem HX14.out z72 (x5_1 : Int) (of_decide_eq_true qa_) (by have h_ : (x5_1 : Int) < ((x0_1.length : Int) : Int) := of_decide_eq_true qa_; first | exact h_ | (have e_ := (Kd.R_reads' a0.out).1; omega) | simpa using h_); obtain rfl := k72_openM hM14; have HP14 := Kd.R_seg HX14.out (x5_1 : Int) (of_decide_eq_true qa_) (by have h_ : (x5_1 : Int) < ((x0_1.length : Int) : Int) := of_decide_eq_true qa_; first | exact h_ | (have e_ := (Kd.R_reads' a0.out).1; omega) | simpa using h_) (seg := [.int .i64 (wrap64 ((wrap64 (x1_1 + 1)) + 1))]) (j := 2) hcl14 hcc14 (show 3 ≤ 4 from by decide) (x' := (⟨(rd_T72 a3 x5_1).f0, (rd_T72 a3 x5_1).f1, wrap64 ((wrap64 (x1_1 + 1)) + 1), (rd_T72 a3 x5_1).f3⟩ : S72)) (k72_mkM _ _ _ (⟨(rd_T72 a3 x5_1).f0, (rd_T72 a3 x5_1).f1, wrap64 ((wrap64 (x1_1 + 1)) + 1), (rd_T72 a3 x5_1).f3⟩ : S72) ) (fun _ hk => hk); have a9 := hcc14 2 _ rfl; (try simp only [show (k72).sz = 4 from rfl, Nat.mul_one, Nat.add_zero] at a9); have hf14_2 := hfr14 2; (try simp only [show (k72).sz = 4 from rfl, Nat.mul_one, Nat.add_zero] at hf14_2); (try clear hcl14); (try clear hcc14); (try clear hfr14); (try clear hM14)) | ((with_reducible refine gate_store (t := 3) (p := 30) rfl ?_); refine store_event (t := 3) (p := 30) (v := ?vo_w15) (w1 := (w13.setCell ⟨go5, (x5_1 : Int).toNat * 4 + 2, none⟩ (.int .i64 (wrap64 ((wrap64 (x1_1 + 1)) + 1))))) ?hg ?ho ?hn ?hr ?_; (case ho => rfl); (case hg => rfl); (case hn => rfl); (case hr => first | (go_simp; done) | (go_simp; rfl)); intro w15 hw; have hg : w13.grownBy w15 (some go5) := (by rw [hw]; exact HP14.2); have hp_ : Kd.R k72 72 w15 w0.heap.size (fun k_ => (P0_ k_ ∨ w.heap.size ≤ k_)) (.slice (some ⟨go5, 0, none⟩) x0_1.length a5) a2 := (by rw [hw, Ny134.out]; exact HP14.1); clear HP14; have n0_ := am_ (hp_); have n1_ := am_ ((by rw [hw]; exact below_set (HB.out) GB5.out : Below w0.heap.size w0 w15)); have n2_ := am_ (Kept.of_grown (S := (fun k_ => P0_ k_)) hg (by repeat (first | (with_reducible first | exact HK.out | apply Kept.alloc | apply Kept.drewN | apply Kept.drew) | exact HK.out)) (fun k_ e_ => (a0.out.1 k_ e_))); clear a0; clear HB; clear HK; have a0 := n0_; have HB := n1_; have HK := n2_; clear n0_ n1_ n2_; clear hg hw hp_; have p8 := dp_ x5_1; have q8 : (x5_1 : Int) < ((x0_1.length : Int) : Int) := of_decide_eq_true qa_; obtain ⟨ce8, hcl8, hM8, hcc8, hfr8⟩ := Kd.R_elem a0.out z72 (x5_1 : Int) p8 q8; obtain rfl := k72_openM hM8; have c9 : w15.cell? ⟨go5, (x5_1 : Int).toNat * 4, none⟩ = some (.int .i64 ((rd_T72 a2 x5_1).f0)) := hcc8 0 _ rfl; have d0 : w15.cell? ⟨go5, (x5_1 : Int).toNat * 4 + 1, none⟩ = some (.int .i64 ((rd_T72 a2 x5_1).f1)) := hcc8 1 _ rfl; have d1 : w15.cell? ⟨go5, (x5_1 : Int).toNat * 4 + 2, none⟩ = some (.int .i64 ((rd_T72 a2 x5_1).f2)) := hcc8 2 _ rfl; have d2 : w15.cell? ⟨go5, (x5_1 : Int).toNat * 4 + 3, none⟩ = some (.bool ((rd_T72 a2 x5_1).f3)) := hcc8 3 _ rfl; have hf8_0 : w15.frozen? ⟨go5, (x5_1 : Int).toNat * 4, none⟩ = false := hfr8 0; have hf8_1 : w15.frozen? ⟨go5, (x5_1 : Int).toNat * 4 + 1, none⟩ = false := hfr8 1; have hf8_2 : w15.frozen? ⟨go5, (x5_1 : Int).toNat * 4 + 2, none⟩ = false := hfr8 2; have hf8_3 : w15.frozen? ⟨go5, (x5_1 : Int).toNat * 4 + 3, none⟩ = false := hfr8 3; (try clear hcl8); (try clear hcc8); (try clear hfr8); (try clear hM8); replace p8 := eq_true p8; replace q8 := eq_true q8; have HX16 := am_ (show Kd.R k72 72 w15 w0.heap.size (fun k_ => (P0_ k_ ∨ w.heap.size ≤ k_)) (.slice (some ⟨go5, 0, none⟩) x0_1.length a5) a2 from (qR_ a0)); obtain ⟨ce16, hcl16, hM16, hcc16, hfr16⟩ := Kd.R_elem HX16.out z72 (x5_1 : Int) (of_decide_eq_true qa_) (by have h_ : (x5_1 : Int) < ((x0_1.length : Int) : Int) := of_decide_eq_true qa_; first | exact h_ | (have e_ := (Kd.R_reads' a0.out).1; omega) | simpa using h_); obtain rfl := k72_openM hM16; have HP16 := Kd.R_seg HX16.out (x5_1 : Int) (of_decide_eq_true qa_) (by have h_ : (x5_1 : Int) < ((x0_1.length : Int) : Int) := of_decide_eq_true qa_; first | exact h_ | (have e_ := (Kd.R_reads' a0.out).1; omega) | simpa using h_) (seg := [.bool ((Int.tmod (wrap64 ((wrap64 ((wrap64 (x1_1 + 1)) + 1)) + 1)) 3) == 0)]) (j := 3) hcl16 hcc16 (show 4 ≤ 4 from by decide) (x' := (⟨(rd_T72 a2 x5_1).f0, (rd_T72 a2 x5_1).f1, (rd_T72 a2 x5_1).f2, ((Int.tmod (wrap64 ((wrap64 ((wrap64 (x1_1 + 1)) + 1)) + 1)) 3) == 0)⟩ : S72)) (k72_mkM _ _ _ (⟨(rd_T72 a2 x5_1).f0, (rd_T72 a2 x5_1).f1, (rd_T72 a2 x5_1).f2, ((Int.tmod (wrap64 ((wrap64 ((wrap64 (x1_1 + 1)) + 1)) + 1)) 3) == 0)⟩ : S72) ) (fun _ hk => hk); have b0 := hcc16 3 _ rfl; (try simp only [show (k72).sz = 4 from rfl, Nat.mul_one, Nat.add_zero] at b0); have hf16_3 := hfr16 3; (try simp only [show (k72).sz = 4 from rfl, Nat.mul_one, Nat.add_zero] at hf16_3); (try clear hcl16); (try clear hcc16); (try clear hfr16); (try clear hM16)) | ((with_reducible refine gate_store (t := 4) (p := 39) rfl ?_); refine store_event (t := 4) (p := 39) (v := ?vo_w17) (w1 := (w15.setCell ⟨go5, (x5_1 : Int).toNat * 4 + 3, none⟩ (.bool ((Int.tmod (wrap64 ((wrap64 ((wrap64 (x1_1 + 1)) + 1)) + 1)) 3) == 0)))) ?hg ?ho ?hn ?hr ?_; (case ho => rfl); (case hg => rfl); (case hn => rfl); (case hr => first | (go_simp; done) | (go_simp; rfl)); intro w17 hw; have hg : w15.grownBy w17 (some go5) := (by rw [hw]; exact HP16.2); have hp_ : Kd.R k72 72 w17 w0.heap.size (fun k_ => (P0_ k_ ∨ w.heap.size ≤ k_)) (.slice (some ⟨go5, 0, none⟩) x0_1.length a5) a6 := (by rw [hw, Ny135.out]; exact HP16.1); clear HP16; have n0_ := am_ (hp_); have n1_ := am_ ((by rw [hw]; exact below_set (HB.out) GB5.out : Below w0.heap.size w0 w17)); have n2_ := am_ (Kept.of_grown (S := (fun k_ => P0_ k_)) hg (by repeat (first | (with_reducible first | exact HK.out | apply Kept.alloc | apply Kept.drewN | apply Kept.drew) | exact HK.out)) (fun k_ e_ => (a0.out.1 k_ e_))); clear a0; clear HB; clear HK; have a0 := n0_; have HB := n1_; have HK := n2_; clear n0_ n1_ n2_; clear hg hw hp_))
   go_roundg k1
   case measure => have := HK1.out; omega
   case rel => exact ⟨(a6), (wrap64 ((wrap64 ((wrap64 ((wrap64 (x1_1 + 1)) + 1)) + 1)) + 1)), (wrap64 (x5_1 + 1)), qe_, qe_, H', ⟨by have := HK1.out; omega⟩, ⟨ra_ a0⟩, ⟨by repeat (first | (with_reducible first | exact HK.out | apply Kept.alloc | apply Kept.drewN | apply Kept.drew) | exact HK.out)⟩, ⟨qB_⟩⟩
def laws_markWeb.f (k : Nat) (a0_0 : Int) (l0_1 : List (S72)) (a1 : Int) : Option (Int × (List (S72))) := (laws_markLedgeS.f k l0_1 a1).bind fun bt137 => (some (bt137.1, bt137.2))
theorem laws_markWeb.mono : ∀ a0 a1 a2 k, LeO (laws_markWeb.f k a0 a1 a2) (laws_markWeb.f (k + 1) a0 a1 a2) := by
  intro a0 a1 a2 k
  have m0 := @laws_markLedgeS.mono
  unfold laws_markWeb.f
  exact lo_
theorem laws_markWeb.calls (k : Nat) (a0_0 : Int) (P0_1_ : Nat → Prop) (u9000_ : Value) (l0_1 : List (S72)) (a1 : Int) (r1 : Int) (r2 : List (S72)) (w0 w : World) (hB : Below w0.heap.size w0 w) (ho0_1 : Kd.R k72 72 w w0.heap.size P0_1_ u9000_ l0_1) (h : laws_markWeb.f k a0_0 l0_1 a1 = some (r1, r2)) :
  Calls Try.prog 35 #[.agg #[.int .i64 a0_0, u9000_], .int .i64 a1] w fun e w' => e = .returned (.int .i64 r1) ∧ Kd.R k72 72 w' w0.heap.size (fun k_ => (P0_1_ k_ ∨ w.heap.size ≤ k_)) u9000_ r2 ∧ Below w0.heap.size w0 w' ∧ Kept w w' (fun k_ => P0_1_ k_) := by
 have hu29 := Try.underlying29
 have HO0_1 := am_ (show Kd.R k72 72 w w0.heap.size (fun k_ => (P0_1_ k_ ∨ w.heap.size ≤ k_)) u9000_ l0_1 from Kd.R_mono ho0_1 (fun k_ hk => (.inl hk)))
 have HK := am_ (Kept.refl w (fun k_ => P0_1_ k_))
 have HW0 := am_ hB.size
 have HB := am_ hB
 clear hB
 have H : ((laws_markLedgeS.f k l0_1 a1).bind fun a2 => (some (a2.1, a2.2))) = some (r1, r2) := h
 clear h
 replace H := Option.bind_eq_some_iff.mp H
 obtain ⟨⟨a6, a7⟩, A30, H⟩ := H
 replace H : (some (a6, a7)) = some (r1, r2) := H
 have A3 := am_ A30
 clear A30
 simp only [Option.some.injEq, Prod.mk.injEq] at H
 obtain ⟨rfl, rfl⟩ := H
 obtain ⟨a8, a9, b4⟩ := Kd.R_slice HO0_1.out
 subst b4
 go_enter Try.func35, Try.ntmps35
 go_wp2_with (first | ((with_reducible refine gd_ 2 ?_); refine by_ 2 (cs := #[.int .i64 a0_0, .slice a8 l0_1.length a9]) (t := 29) ?_; intro a3 hg w5 a0 hb; have a4 := am_ ((by rw [hg]; exact (by first | exact HK.out.1 | exact (show Kept w _ (fun k_ => P0_1_ k_) from by repeat (first | (with_reducible first | exact HK.out | apply Kept.alloc | apply Kept.drewN | apply Kept.drew) | exact HK.out)).1) : w.heap.size ≤ a3)); have a5 := am_ ((qs_ : w0.heap.size ≤ a3)); replace HO0_1 := kb_ HO0_1 hb; replace HK := am_ (Kept.below (S := (fun k_ => P0_1_ k_)) (by repeat (first | (with_reducible first | exact HK.out | apply Kept.alloc | apply Kept.drewN | apply Kept.drew) | exact HK.out)) hb); replace HB := hs_ hb; clear hb hg; obtain ⟨b0, b1, b2, b3⟩ := bc2_ a0) | ((with_reducible refine gc_ 86 ?_); refine gl_ (some 8) Try.func86 #[.slice a8 l0_1.length a9, .int .i64 a1] ?_; (with_reducible refine (laws_markLedgeS.calls k (fun k_ => some k_ = (.slice a8 l0_1.length a9 : Value).ownBlock) (.slice a8 l0_1.length a9) l0_1 a1 a6 a7 w0 _ ?side1 ?side2 A3.out).mono ?_); (case side1 => repeat (first | (with_reducible first | exact HB.out | apply below_alloc | apply pw_below_drewN | apply below_drew1 | refine below_set ?_ a5.out) | exact HB.out)); (case side2 => exact Kd.R_tight rfl HO0_1.out); rintro e w7 ⟨rfl, hy0, hb, hkp⟩; refine ⟨_, rfl, ?_⟩; have n0_ := am_ (Kd.R_reok rfl hy0 (fun k_ e_ => HO0_1.out.1 k_ e_)); have n1_ := (qkp_ a0 hkp (fun hs_ => (fun e_ => (Kd.R_ne HO0_1.out a0.out (by decide)) e_) hs_)); have n2_ := am_ (Kept.then_ (S := (fun k_ => P0_1_ k_)) (by repeat (first | (with_reducible first | exact HK.out | apply Kept.alloc | apply Kept.drewN | apply Kept.drew | refine Kept.setCell ?_ (.inr a4.out) _) | exact HK.out)) hkp (fun k_ hs_ => (fun e_ => (HO0_1.out.1 k_ e_.symm)) hs_)); have n3_ := am_ (hb); clear HO0_1; clear a0; clear HK; clear HB; have HO0_1 := n0_; have a0 := n1_; have HK := n2_; have HB := n3_; clear n0_ n1_ n2_ n3_; (try clear hb); (try clear hkp); (try clear hy0)))
 go_ret
 exact ⟨qr_, qR_ HO0_1, by repeat (first | (with_reducible first | exact HB.out | apply below_alloc | apply pw_below_drewN | apply below_drew1 | refine below_set ?_ a5.out) | exact HB.out), by repeat (first | (with_reducible first | exact HK.out | apply Kept.alloc | apply Kept.drewN | apply Kept.drew | refine Kept.setCell ?_ (.inr a4.out) _) | exact HK.out)⟩
def spec_GraphOf.l0 : Nat → Int → Int → List (S72) → Int → List (S43) → Option (Int × (List (S43)))
  | 0, _, _, _, _, _ => none
  | k + 1, x4, x140000, x140001, x142000, x142001 => if x4 < (x140001.length : Int) then (if 0 ≤ x4 then (if x142001.length < 8796093022208 then (spec_GraphOf.l0 k (wrap64 (x4 + 1)) x140000 x140001 x142000 (x142001 ++ [(⟨(rd_T72 x140001 x4).f0, (rd_T72 x140001 x4).f1⟩ : S43)])) else (none)) else (none)) else (some (x142000, x142001))
def spec_GraphOf.f (k : Nat) (a0_0 : Int) (l0_1 : List (S72)) : Option (Int × (List (S43))) := spec_GraphOf.l0 k 0 a0_0 l0_1 a0_0 ([] : List (S43))
theorem spec_GraphOf.mono_l : ∀ k, (∀ y0 y1 y2 y3 y4, LeO (spec_GraphOf.l0 k y0 y1 y2 y3 y4) (spec_GraphOf.l0 (k + 1) y0 y1 y2 y3 y4))
  | 0 => fun _ _ _ _ _ r h => by simp [spec_GraphOf.l0] at h
  | k + 1 => by
    have ih0 := spec_GraphOf.mono_l k
    · intro y0 y1 y2 y3 y4
      unfold spec_GraphOf.l0
      exact lo_
theorem spec_GraphOf.mono : ∀ a0 a1 k, LeO (spec_GraphOf.f k a0 a1) (spec_GraphOf.f (k + 1) a0 a1) := by
  intro a0 a1 k
  have ih0 := spec_GraphOf.mono_l k
  unfold spec_GraphOf.f
  exact lo_
def spec_GraphOf.T5 : Bool × List (List Nat × List Nat) := (true, [([], []), ([0], [0]), ([], []), ([2], [2]), ([], []), ([3, 4], [3, 4]), ([5], [5]), ([6], [6]), ([], []), ([8], [8]), ([], []), ([9, 10], [9, 10]), ([11], [11]), ([12], [12]), ([7, 13], [7, 13]), ([14], [14]), ([1, 15], [1, 15]), ([0, 1, 2, 3, 4, 5, 6, 7, 8, 9, 10, 11, 12, 13, 14, 15, 16], []), ([17, 16, 16, 0, 1, 2, 3, 4, 5, 6, 7, 8, 9, 10, 11, 12, 13, 14, 15, 16], [16, 17])])
def spec_GraphOf.B5 : List Nat := [0, 1, 0, 4, 0, 28, 60, 124, 0, 256, 0, 1792, 3840, 7936, 16380, 32764, 65535, 131071, 262143]
theorem spec_GraphOf.tab5 : rtab .any (opsOf Try.f47 5) = spec_GraphOf.T5 := by kernel_rfl
theorem spec_GraphOf.bits5 : waitsOk spec_GraphOf.T5.2 spec_GraphOf.B5 = true := by kernel_rfl
theorem spec_GraphOf.calls (k : Nat) (a0_0 : Int) (A0_1 : Option Addr) (c0_1 : Nat) (l0_1 : List (S72)) (r1 : Int) (r2 : List (S43)) (w : World) (hr0_1 : Kd.C k72 w A0_1 l0_1.length l0_1) (hc0_1 : l0_1.length ≤ c0_1) (h : spec_GraphOf.f k a0_0 l0_1 = some (r1, r2)) :
  Calls Try.prog 47 #[.agg #[.int .i64 a0_0, .slice A0_1 l0_1.length c0_1]] w fun e w' => ∃ v1_ : Value, e = .returned (.agg #[.int .i64 r1, v1_]) ∧ Kd.R k43 43 w' w.heap.size (fun _ => True) v1_ r2 ∧ Below w.heap.size w w' := by
 have hu29 := Try.underlying29; have hu69 := Try.underlying69; have hu43 := Try.underlying43
 have HR0_1 := am_ hr0_1
 have HC0_1 := am_ hc0_1
 clear hr0_1 hc0_1
 have HB := am_ (Below.refl w.heap.size w)
 have H : (spec_GraphOf.l0 k 0 a0_0 l0_1 a0_0 ([] : List (S43))) = some (r1, r2) := h
 clear h; have H' := am_ H; clear H
 go_enter Try.func47, Try.ntmps47
 go_wp2_with (first | ((with_reducible refine gd_ 1 ?_); refine by_ 1 (cs := #[.int .i64 a0_0, .slice A0_1 l0_1.length c0_1]) (t := 29) ?_; intro d2 hg w2 a1 hb; have e4 := gw_ hg; replace HB := hs_ hb; clear hb hg) | ((with_reducible refine gd_ 2 ?_); refine by_ 2 (cs := #[.int .i64 0, .slice none 0 0]) (t := 69) ?_; intro d0 hg w3 a4 hb; have e5 := gw_ hg; obtain ⟨a6, e3⟩ := qn_ a1 hg; replace a1 := qbl_ a1 hb; replace HB := hs_ hb; clear hb hg; obtain ⟨j0, j1⟩ := nn_ a6; obtain ⟨d5, d6, d7, d8⟩ := bc2_ a1) | ((with_reducible refine gd_ 3 ?_); refine by_ 3 (cs := #[.int .i64 0, .slice none 0 0]) (t := 69) ?_; intro c9 hg w6 a2 hb; have e6 := gw_ hg; obtain ⟨a7, c6⟩ := qn_ a1 hg; obtain ⟨d1, a8⟩ := qn_ a4 hg; replace a1 := qbl_ a1 hb; replace a4 := qbl_ a4 hb; replace HB := hs_ hb; clear hb hg; obtain ⟨j2, j3⟩ := nn_ c6; obtain ⟨j4, j5⟩ := nn_ a8; obtain ⟨d9, e0, e1, e2⟩ := bc2_ a2))
 go_loopg [4] k (fun kq v4 w' => ∃ (x4_1 : Int) (a3 : List (S43)) (a5 : Value), v4 = .int .i64 x4_1 ∧ Aside0 (spec_GraphOf.l0 kq x4_1 a0_0 l0_1 a0_0 a3 = some (r1, r2)) ∧ Aside0 (kq ≤ k) ∧ Aside0 (Kd.R k43 43 w' w.heap.size (fun _ => True) a5 a3) ∧ Aside0 (w'.heap[d2]? = some (.cells #[.int .i64 a0_0, (.slice A0_1 l0_1.length c0_1)] 29 (0, 0))) ∧ Aside0 (w'.heap[d0]? = some (.cells #[.int .i64 0, (.slice none 0 0)] 69 (0, 0))) ∧ Aside0 (w'.heap[c9]? = some (.cells #[.int .i64 a0_0, a5] 69 (0, 0))) ∧ Aside0 (Below w.heap.size w w'))
 case atStart => exact ⟨(0), (([] : List (S43))), (.slice none 0 0), qe_, H', ⟨Nat.le_refl _⟩, ⟨by first | exact Kd.R_nil _ _ _ _ _ | exact Kd.N_nil _ _ _ _ _ | exact Kd.V_nil _ _ _ _ _ | exact Kd.Q_nil _ _ _ _ _ | exact Kd.S_nil _ _ _ _ _⟩, ⟨qf_ a1⟩, ⟨qf_ a4⟩, ⟨by (with_reducible repeat (first | refine blk_drewN ?_ _ | refine blk_drew ?_ | refine blk_alloc ?_ _)); refine blk_put (cs := #[.int .i64 a0_0, .slice none 0 0]) ?_ 1 _ rfl; (with_reducible repeat (first | refine blk_drewN ?_ _ | refine blk_drew ?_ | refine blk_alloc ?_ _)); refine blk_put (cs := #[.int .i64 0, .slice none 0 0]) ?_ 0 _ rfl; exact qf_ a2⟩, ⟨qB_⟩⟩
 case round =>
  clear H'
  (try clear p2); (try clear c4); (try clear c7); (try clear c8); (try clear d5 d6); (try clear d9 e0); (try clear d7 d8); (try clear e1 e2)
  obtain ⟨x4_1, a3, a5, rfl, HA, HK1, a0, a1, a4, a2, HB⟩ := hrel
  cases gk with
  | zero => exact absurd HA.out (by simp [spec_GraphOf.l0])
  | succ k1 =>
   have H := HA.out; clear HA
   simp only [spec_GraphOf.l0] at H
   refine ib_ H ?_ ?_ <;> clear H <;> intro c10b0 H
   ·simp only [Option.some.injEq, Prod.mk.injEq] at H
    obtain ⟨rfl, rfl⟩ := H
    obtain ⟨i0, i1⟩ := nn_ a6; obtain ⟨i2, i3⟩ := nn_ a7
    obtain ⟨f6, f7, f8, f9⟩ := bc2_ a1
    obtain ⟨i4, i5⟩ := nn_ a8
    obtain ⟨g0, g1, g2, g3⟩ := bc2_ a2
    obtain ⟨g4, g5, g6, g7⟩ := bc2_ a4
    obtain ⟨e7, e8, h6⟩ := Kd.R_slice a0.out
    subst h6
    go_wp2
    refine bodyPost_ret (results_cell_row rfl _ _ d0 69 #[.int .i64 a0_0, .slice e7 a3.length e8] (0, 0) _ rfl (by (with_reducible repeat (first | refine blk_drewN ?_ _ | refine blk_drew ?_ | refine blk_alloc ?_ _)); refine blk_put (cs := #[.int .i64 a0_0, .slice none 0 0]) ?_ 1 _ rfl; (with_reducible repeat (first | refine blk_drewN ?_ _ | refine blk_drew ?_ | refine blk_alloc ?_ _)); refine blk_put (cs := #[.int .i64 0, .slice none 0 0]) ?_ 0 _ rfl; exact qf_ a4) Try.underlying69 rfl (by kernel_rfl)) rfl ?_
    exact ⟨_, qr_, by (with_reducible repeat (first | apply Kd.R_alloc | apply Kd.R_drewN | apply Kd.R_drew)); exact Kd.R_mono (Kd.R_far (p := ⟨d0, 1, none⟩) (Kd.R_far (p := ⟨d0, 0, none⟩) (Kd.R_types a0.out a4.out (by decide)) (fun _ hk => hk.2) (.int .i64 a0_0)) (fun _ hk => hk.2) (.slice e7 a3.length e8)) (fun _ hk => trivial), qB_⟩
   refine ig_ H ?_; clear H; intro c11b0 H
   refine jg_ H ?_; clear H; intro c12 H
   have LMc12 := am_ c12
   clear c12
   obtain ⟨d3, hy144⟩ : ∃ y_ : List (S43), y_ = (a3 ++ [(⟨(rd_T72 l0_1 x4_1).f0, (rd_T72 l0_1 x4_1).f1⟩ : S43)]) := ⟨_, rfl⟩
   replace H : (spec_GraphOf.l0 k1 (wrap64 (x4_1 + 1)) a0_0 l0_1 a0_0 d3) = some (r1, r2) := hq_ hy144 H
   have Ny144 := am_ hy144
   clear hy144; have H' := am_ H; clear H; obtain ⟨i6, i7⟩ := nn_ a6; obtain ⟨i8, i9⟩ := nn_ a7
   obtain ⟨g8, g9, h0, h1⟩ := bc2_ a1
   try go_wp2
   replace a0 := am_ (Kd.R_drew a0.out); replace a1 := am_ (blk_drew a1.out); replace a4 := am_ (blk_drew a4.out); replace a2 := am_ (blk_drew a2.out); replace HB := am_ (below_drew1 HB.out)
   have p142 := dp_ x4_1
   have q142 := dl_ x4_1 l0_1.length
   obtain ⟨ad142, e142, a9, b0, b1, b2⟩ := at_T72 HR0_1.out x4_1 p142 q142
   have b3 := b2; have b4 := b1; have b5 := b0; have b6 := a9; cases e142
   replace a9 := qx_ HB a9
   replace b0 := qx_ HB b0
   replace b1 := qx_ HB b1
   replace b2 := qx_ HB b2
   replace p142 := eq_true p142; replace q142 := eq_true q142
   have p143 := dp_ x4_1
   have q143 := dl_ x4_1 l0_1.length
   obtain ⟨ad143, e143, b7, b8, b9, c0⟩ := at_T72 HR0_1.out x4_1 p143 q143
   have c1 := c0; have c2 := b9; have c3 := b8; have c5 := b7
   obtain rfl : ad142 = ad143 := (by injection e143)
   replace b7 := qx_ HB b7
   replace b8 := qx_ HB b8
   replace b9 := qx_ HB b9
   replace c0 := qx_ HB c0
   replace p143 := eq_true p143; replace q143 := eq_true q143
   refine start_ (n := 19) (S := fun w' => w'.cell? ⟨c9, 0, none⟩ = some (.int .i64 a0_0) ∧ w'.cell? ⟨c9, 1, none⟩ = some (a5) ∧ w'.cell? ⟨d2, 0, none⟩ = some (.int .i64 a0_0) ∧ w'.cell? ⟨d2, 1, none⟩ = some (.slice (some ad142) l0_1.length c0_1) ∧ w'.cell? (ad142.add ((x4_1).toNat * 4)) = some (.int .i64 ((rd_T72 l0_1 x4_1).f0)) ∧ w'.cell? ⟨(ad142.add ((x4_1).toNat * 4)).block, (ad142.add ((x4_1).toNat * 4)).off + 1, none⟩ = some (.int .i64 ((rd_T72 l0_1 x4_1).f1)) ∧ w'.cell? ⟨(ad142.add ((x4_1).toNat * 4)).block, (ad142.add ((x4_1).toNat * 4)).off + 2, none⟩ = some (.int .i64 ((rd_T72 l0_1 x4_1).f2)) ∧ w'.cell? ⟨(ad142.add ((x4_1).toNat * 4)).block, (ad142.add ((x4_1).toNat * 4)).off + 3, none⟩ = some (.bool ((rd_T72 l0_1 x4_1).f3)) ∧ w'.cell? (ad142.add ((x4_1).toNat * 4)) = some (.int .i64 ((rd_T72 l0_1 x4_1).f0)) ∧ w'.cell? ⟨(ad142.add ((x4_1).toNat * 4)).block, (ad142.add ((x4_1).toNat * 4)).off + 1, none⟩ = some (.int .i64 ((rd_T72 l0_1 x4_1).f1)) ∧ w'.cell? ⟨(ad142.add ((x4_1).toNat * 4)).block, (ad142.add ((x4_1).toNat * 4)).off + 2, none⟩ = some (.int .i64 ((rd_T72 l0_1 x4_1).f2)) ∧ w'.cell? ⟨(ad142.add ((x4_1).toNat * 4)).block, (ad142.add ((x4_1).toNat * 4)).off + 3, none⟩ = some (.bool ((rd_T72 l0_1 x4_1).f3))) (ds := [18]) (bm 19 0) (by kernel_rfl) rfl (by kernel_rfl) ⟨bl_ a2 0, bl_ a2 1, bl_ a1 0, bl_ a1 1, ((qx_ HB b6).trans rfl), ((qx_ HB b5).trans rfl), ((qx_ HB b4).trans rfl), ((qx_ HB b3).trans rfl), ((qx_ HB c5).trans rfl), ((qx_ HB c3).trans rfl), ((qx_ HB c2).trans rfl), ((qx_ HB c1).trans rfl)⟩ (fun hHeld => ?_); refine with_tabW spec_GraphOf.tab5 spec_GraphOf.bits5 (fun HT_ HW_ => ?_)
   generalize wr.drew = w16 at a0 a1 a4 a2 HB a9 b0 b1 b2 b7 b8 b9 c0 hHeld ⊢
   refine pz_ 0 15 19 1 ?_; refine pz_ 2 17 19 5 ?_; refine pz_ 4 19 19 21 ?_; refine pz_ 8 23 19 277 ?_; refine pz_ 10 25 19 1301 ?_; refine tz12_ 1 16 (bm 19 1303) ?_; refine tz12_ 3 18 (bm 19 1311) ?_; refine pz_ 5 20 19 1343 ?_; refine pz_ 6 21 19 1407 ?_; refine tz12_ 7 22 (bm 19 1535) ?_; refine tz12_ 9 24 (bm 19 2047) ?_; refine pz_ 11 26 19 4095 ?_; refine pz_ 12 27 19 8191 ?_; refine tz12_ 13 28 (bm 19 16383) ?_; refine pz_ 14 29 19 32767 ?_
   refine o1_ 15 (some 30) 19 65535 (fun K hK => ?_)
   refine value_ (w1 := ?_) (v := ?_) (by rfl) rfl ?_ ?_
   rotate_left 2
   ·go_simp
    constructor
    ·rfl
    rfl
   refine hK.out _ _ ⟨(blk_cell (blk_alloc a2.out _) 0).trans rfl, (blk_cell (blk_alloc a2.out _) 1).trans rfl, (blk_cell (blk_alloc a1.out _) 0).trans rfl, (blk_cell (blk_alloc a1.out _) 1).trans rfl, (World.cell?_alloc_lt _ _ _ (World.block_lt_of_cell? _ _ (((qx_ HB b6).trans rfl)))).trans (((qx_ HB b6).trans rfl)), (World.cell?_alloc_lt _ _ _ (World.block_lt_of_cell? _ _ (((qx_ HB b5).trans rfl)))).trans (((qx_ HB b5).trans rfl)), (World.cell?_alloc_lt _ _ _ (World.block_lt_of_cell? _ _ (((qx_ HB b4).trans rfl)))).trans (((qx_ HB b4).trans rfl)), (World.cell?_alloc_lt _ _ _ (World.block_lt_of_cell? _ _ (((qx_ HB b3).trans rfl)))).trans (((qx_ HB b3).trans rfl)), (World.cell?_alloc_lt _ _ _ (World.block_lt_of_cell? _ _ (((qx_ HB c5).trans rfl)))).trans (((qx_ HB c5).trans rfl)), (World.cell?_alloc_lt _ _ _ (World.block_lt_of_cell? _ _ (((qx_ HB c3).trans rfl)))).trans (((qx_ HB c3).trans rfl)), (World.cell?_alloc_lt _ _ _ (World.block_lt_of_cell? _ _ (((qx_ HB c2).trans rfl)))).trans (((qx_ HB c2).trans rfl)), (World.cell?_alloc_lt _ _ _ (World.block_lt_of_cell? _ _ (((qx_ HB c1).trans rfl)))).trans (((qx_ HB c1).trans rfl))⟩ (fun hHeld => ?_)
   clear hK K
   refine nm_ 30 ?_
   refine o1_ 16 (some 31) 19 131071 (fun K hK => ?_)
   refine Kd.R_append_step k43 (w0 := w) w.heap.size (by rfl) (.tmp 16) (.tmp 30) 67 43 (.agg #[(.int .i64 0), (.int .i64 0)]) 16 rfl Try.underlying67 info43 rfl (by decide) (by omega) a5 a3 (⟨(rd_T72 l0_1 x4_1).f0, (rd_T72 l0_1 x4_1).f1⟩ : S43) [.int .i64 ((rd_T72 l0_1 x4_1).f0), .int .i64 ((rd_T72 l0_1 x4_1).f1)] (fun _ => True) (fun _ => False) rfl rfl ?aP (fun _ hk => hk.elim) ?aF ?aO ?aB ?aS ?aL ?_
   (case aP => exact k43_mkM _ _ _ (⟨(rd_T72 l0_1 x4_1).f0, (rd_T72 l0_1 x4_1).f1⟩ : S43))
   (case aB => exact qB_)
   (case aF => exact (fun _ _ => trivial))
   (case aO => exact (qR_ a0))
   (case aS => exact (below_size qB_))
   (case aL => have := LMc12.out; omega)
   intro j6 w17 ho hb hg hat
   rw [← Ny144.out] at ho
   have d4 := am_ (ho); replace a1 := am_ (blk_grown (qk_ a1) hg (Kd.R_ne a0.out a1.out (by decide))); replace a4 := am_ (blk_grown (qk_ a4) hg (Kd.R_ne a0.out a4.out (by decide))); replace a2 := am_ (blk_grown (qk_ a2) hg (Kd.R_ne a0.out a2.out (by decide))); replace HB := am_ (hb); clear a0; clear ho hb hg hat
   obtain ⟨e9, f4, f5⟩ := Kd.R_slice d4.out
   (first | subst f5 | (injection f5 with f1_ f2_ f3_; have f4_ := f1_.symm; have f5_ := f3_.symm; clear f1_ f2_ f3_; subst f4_; subst f5_))
   refine hK.out _ _ ⟨bl_ a2 0, bl_ a2 1, bl_ a1 0, bl_ a1 1, ((qx_ HB b6).trans rfl), ((qx_ HB b5).trans rfl), ((qx_ HB b4).trans rfl), ((qx_ HB b3).trans rfl), ((qx_ HB c5).trans rfl), ((qx_ HB c3).trans rfl), ((qx_ HB c2).trans rfl), ((qx_ HB c1).trans rfl)⟩ (fun hHeld => ?_)
   clear hK K
   refine nm_ 31 ?_
   refine pz_ 17 32 19 262143 ?_
   refine last_ (i := 18) (N := none) (bm 19 524287) rfl rfl (one_of HT_.out (by kernel_rfl)) (by decide) (fun K hK => ?_)
   have hs19 : w17.cell? ⟨c9, 1, none⟩ = some (a5) := bl_ a2 1
   have hfs19 := blk_frozen a2.out 1
   have h2 := a7.out; have h3 := d1.out; have h4 := c6.out; have h5 := a8.out
   refine skip_ (w1 := ?_) (by rfl) rfl ?_ ?_
   rotate_left
   ·go_simp
    rfl
   refine hK.out _ _ ?_
   clear hK K
   refine done_ (done_of HT_.out (by kernel_rfl)) ?_
   try go_wp2
   go_roundg k1
   case measure => have := HK1.out; omega
   case rel => exact ⟨(wrap64 (x4_1 + 1)), (d3), (.slice e9 d3.length f4), qe_, H', ⟨by have := HK1.out; omega⟩, ⟨by (with_reducible repeat (first | apply Kd.R_alloc | apply Kd.R_drewN | apply Kd.R_drew)); exact Kd.R_mono (Kd.R_far (p := ⟨c9, 1, none⟩) (Kd.R_types d4.out a2.out (by decide)) (fun _ hk => hk.2) (.slice e9 d3.length f4)) (fun _ hk => trivial)⟩, ⟨qf_ a1⟩, ⟨qf_ a4⟩, ⟨by (with_reducible repeat (first | refine blk_drewN ?_ _ | refine blk_drew ?_ | refine blk_alloc ?_ _)); refine blk_put (cs := #[.int .i64 a0_0, a5]) ?_ 1 _ rfl; exact qf_ a2⟩, ⟨qB_⟩⟩
def spec_l01In.f (a0 : Int) (a1 : Int) (a2 : Int) : Option (Bool) := if a0 ≥ a1 then (some (decide (a0 ≤ a2))) else (some false)
theorem spec_l01In.calls (a0 : Int) (a1 : Int) (a2 : Int) (r : Bool) (w : World) (h : spec_l01In.f a0 a1 a2 = some r) :
  Calls Try.prog 57 #[.int .i64 a0, .int .i64 a1, .int .i64 a2] w fun e w' => e = .returned (.bool r) ∧ Drawn0 w w' := by
 rw [spec_l01In.f] at h; have H := h; clear h
 refine jc_ H ?_ ?_ <;> clear H <;> intro c4 H
 ·have c4b0 : decide (a1 ≤ a0) = true := decide_eq_true c4
  clear c4
  obtain rfl := oi_ H
  go_enter Try.func57, Try.ntmps57
  go_wp2
  go_ret
  exact ⟨by first | rfl | (simp; done) | (simp [*]; done), by repeat (first | exact Drawn0.refl _ | apply Drawn0.step)⟩
 have c4b0 : decide (a1 ≤ a0) = false := decide_eq_false c4
 clear c4
 obtain rfl := oi_ H
 go_enter Try.func57, Try.ntmps57
 go_wp2
 go_ret
 exact ⟨by first | rfl | (simp; done) | (simp [*]; done), by repeat (first | exact Drawn0.refl _ | apply Drawn0.step)⟩
def spec_EdgeOk.f (a0 : Int) (a1_0 : Int) (a1_1 : Int) : Option (Bool) := (spec_l01In.f a0 1 12).bind fun t148 => (if t148 = true then ((spec_l01In.f a1_0 0 (wrap64 (a0 - 1))).bind fun t149 => (if t149 = true then ((spec_l01In.f a1_1 0 (wrap64 (a0 - 1))).bind fun t150 => (if t150 = true then (some (decide (a1_0 < a1_1))) else (some false))) else (some false))) else (some false))
theorem spec_EdgeOk.calls (a0 : Int) (a1_0 : Int) (a1_1 : Int) (r : Bool) (w : World) (h : spec_EdgeOk.f a0 a1_0 a1_1 = some r) :
  Calls Try.prog 71 #[.int .i64 a0, .agg #[.int .i64 a1_0, .int .i64 a1_1]] w fun e w' => e = .returned (.bool r) ∧ Below w.heap.size w w' := by
 have hu43 := Try.underlying43
 have HB := am_ (Below.refl w.heap.size w)
 rw [spec_EdgeOk.f] at h; have H := h; clear h
 obtain ⟨a5, A3, H⟩ := bs_ H
 refine id_ H ?_ ?_ <;> clear H <;> rintro rfl H
 ·obtain rfl := oi_ H
  go_enter Try.func71, Try.ntmps71
  go_wp2_with (first | ((with_reducible refine gd_ 3 ?_); refine by_ 3 (cs := #[.int .i64 a1_0, .int .i64 a1_1]) (t := 43) ?_; intro a3 hg w15 a2 hb; have a1 := gw_ hg; replace HB := hs_ hb; clear hb hg) | ((with_reducible refine gc_ 57 ?_); refine gl_ (some 6) Try.func57 #[.int .i64 a0, .int .i64 1, .int .i64 12] ?_; (with_reducible refine (spec_l01In.calls a0 1 12 false _ A3.out).mono ?_); rintro e w' ⟨rfl, ⟨nd, rfl⟩⟩; refine ⟨_, rfl, ?_⟩))
  go_ret
  exact ⟨qr_, qB_⟩
 obtain ⟨a6, A5, H⟩ := bs_ H
 refine id_ H ?_ ?_ <;> clear H <;> rintro rfl H
 ·obtain rfl := oi_ H
  go_enter Try.func71, Try.ntmps71
  go_wp2_with (first | ((with_reducible refine gd_ 3 ?_); refine by_ 3 (cs := #[.int .i64 a1_0, .int .i64 a1_1]) (t := 43) ?_; intro a3 hg w13 a2 hb; have a1 := gw_ hg; replace HB := hs_ hb; clear hb hg) | ((with_reducible refine gc_ 57 ?_); refine gl_ (some 6) Try.func57 #[.int .i64 a0, .int .i64 1, .int .i64 12] ?_; (with_reducible refine (spec_l01In.calls a0 1 12 true _ A3.out).mono ?_); rintro e w' ⟨rfl, ⟨nd, rfl⟩⟩; refine ⟨_, rfl, ?_⟩; obtain ⟨a8, a9, b0, b1⟩ := bc2_ a2) | (go_at_call 57; (with_reducible refine (spec_l01In.calls a1_0 0 (wrap64 (a0 - 1)) false _ A5.out).mono ?_); rintro e w' ⟨rfl, ⟨nd, rfl⟩⟩))
  go_ret
  exact ⟨qr_, qB_⟩
 obtain ⟨a7, A7, H⟩ := bs_ H
 refine ie_ H ?_ ?_ <;> clear H <;> rintro rfl H
 ·obtain rfl := oi_ H
  go_enter Try.func71, Try.ntmps71
  go_wp2_with (first | ((with_reducible refine gd_ 3 ?_); refine by_ 3 (cs := #[.int .i64 a1_0, .int .i64 a1_1]) (t := 43) ?_; intro a3 hg w9 a2 hb; have a1 := gw_ hg; replace HB := hs_ hb; clear hb hg) | ((with_reducible refine gc_ 57 ?_); refine gl_ (some 6) Try.func57 #[.int .i64 a0, .int .i64 1, .int .i64 12] ?_; (with_reducible refine (spec_l01In.calls a0 1 12 true _ A3.out).mono ?_); rintro e w' ⟨rfl, ⟨nd, rfl⟩⟩; refine ⟨_, rfl, ?_⟩; obtain ⟨b2, b3, b4, b5⟩ := bc2_ a2) | (go_at_call 57; (with_reducible refine (spec_l01In.calls a1_0 0 (wrap64 (a0 - 1)) true _ A5.out).mono ?_); rintro e w' ⟨rfl, ⟨nd, rfl⟩⟩) | (go_at_call 57; (with_reducible refine (spec_l01In.calls a1_1 0 (wrap64 (a0 - 1)) true _ A7.out).mono ?_); rintro e w' ⟨rfl, ⟨nd, rfl⟩⟩))
  go_ret
  exact ⟨qr_, qB_⟩
 obtain rfl := oi_ H
 go_enter Try.func71, Try.ntmps71
 go_wp2_with (first | ((with_reducible refine gd_ 3 ?_); refine by_ 3 (cs := #[.int .i64 a1_0, .int .i64 a1_1]) (t := 43) ?_; intro a3 hg w11 a2 hb; have a1 := gw_ hg; replace HB := hs_ hb; clear hb hg) | ((with_reducible refine gc_ 57 ?_); refine gl_ (some 6) Try.func57 #[.int .i64 a0, .int .i64 1, .int .i64 12] ?_; (with_reducible refine (spec_l01In.calls a0 1 12 true _ A3.out).mono ?_); rintro e w' ⟨rfl, ⟨nd, rfl⟩⟩; refine ⟨_, rfl, ?_⟩; obtain ⟨b6, b7, b8, b9⟩ := bc2_ a2) | (go_at_call 57; (with_reducible refine (spec_l01In.calls a1_0 0 (wrap64 (a0 - 1)) true _ A5.out).mono ?_); rintro e w' ⟨rfl, ⟨nd, rfl⟩⟩) | (go_at_call 57; (with_reducible refine (spec_l01In.calls a1_1 0 (wrap64 (a0 - 1)) false _ A7.out).mono ?_); rintro e w' ⟨rfl, ⟨nd, rfl⟩⟩))
 go_ret
 exact ⟨qr_, qB_⟩
def spec_l05Less.f (a0_0 : Int) (a0_1 : Int) (a1_0 : Int) (a1_1 : Int) : Option (Bool) := if a0_0 < a1_0 then (some true) else (if a0_0 = a1_0 then (some (decide (a0_1 < a1_1))) else (some false))
theorem spec_l05Less.calls (a0_0 : Int) (a0_1 : Int) (a1_0 : Int) (a1_1 : Int) (r : Bool) (w : World) (h : spec_l05Less.f a0_0 a0_1 a1_0 a1_1 = some r) :
  Calls Try.prog 135 #[.agg #[.int .i64 a0_0, .int .i64 a0_1], .agg #[.int .i64 a1_0, .int .i64 a1_1]] w fun e w' => e = .returned (.bool r) ∧ Below w.heap.size w w' := by
 have hu43 := Try.underlying43
 have HB := am_ (Below.refl w.heap.size w)
 rw [spec_l05Less.f] at h; have H := h; clear h
 refine ic_ H ?_ ?_ <;> clear H <;> intro c3b0 H
 ·obtain rfl := oi_ H
  go_enter Try.func135, Try.ntmps135
  go_wp2_with (first | ((with_reducible refine gd_ 2 ?_); refine by_ 2 (cs := #[.int .i64 a0_0, .int .i64 a0_1]) (t := 43) ?_; intro a6 hg w4 a0 hb; have a3 := gw_ hg; replace HB := hs_ hb; clear hb hg) | ((with_reducible refine gd_ 3 ?_); refine by_ 3 (cs := #[.int .i64 a1_0, .int .i64 a1_1]) (t := 43) ?_; intro a8 hg w5 a4 hb; have a5 := gw_ hg; obtain ⟨a1, a2⟩ := qn_ a0 hg; replace a0 := qbl_ a0 hb; replace HB := hs_ hb; clear hb hg; obtain ⟨e0, e1⟩ := nn_ a1; obtain ⟨c7, c8, d0, d1⟩ := bc2_ a0; obtain ⟨d2, d3, d4, d5⟩ := bc2_ a4))
  go_ret
  exact ⟨qr_, qB_⟩
 refine jc_ H ?_ ?_ <;> clear H <;> intro c9 H
 ·have c9b0 : (a0_0 == a1_0) = true := beq_iff_eq.mpr c9
  have c9b1 : (a0_0 != a1_0) = false := bne_eq_false_iff_eq.mpr c9
  clear c9
  obtain rfl := oi_ H
  go_enter Try.func135, Try.ntmps135
  go_wp2_with (first | ((with_reducible refine gd_ 2 ?_); refine by_ 2 (cs := #[.int .i64 a0_0, .int .i64 a0_1]) (t := 43) ?_; intro a6 hg w10 a0 hb; have a3 := gw_ hg; replace HB := hs_ hb; clear hb hg) | ((with_reducible refine gd_ 3 ?_); refine by_ 3 (cs := #[.int .i64 a1_0, .int .i64 a1_1]) (t := 43) ?_; intro a8 hg w11 a4 hb; have a5 := gw_ hg; obtain ⟨a1, a2⟩ := qn_ a0 hg; replace a0 := qbl_ a0 hb; replace HB := hs_ hb; clear hb hg; obtain ⟨d6, d7⟩ := nn_ a1; obtain ⟨b0, b1, b2, b3⟩ := bc2_ a0; obtain ⟨b4, b5, b6, b7⟩ := bc2_ a4))
  go_ret
  exact ⟨qr_, qB_⟩
 have c9b0 : (a0_0 == a1_0) = false := beq_eq_false_iff_ne.mpr c9
 have c9b1 : (a0_0 != a1_0) = true := bne_iff_ne.mpr c9
 obtain rfl := oi_ H
 go_enter Try.func135, Try.ntmps135
 go_wp2_with (first | ((with_reducible refine gd_ 2 ?_); refine by_ 2 (cs := #[.int .i64 a0_0, .int .i64 a0_1]) (t := 43) ?_; intro a6 hg w15 a0 hb; have a3 := gw_ hg; replace HB := hs_ hb; clear hb hg) | ((with_reducible refine gd_ 3 ?_); refine by_ 3 (cs := #[.int .i64 a1_0, .int .i64 a1_1]) (t := 43) ?_; intro a8 hg w16 a4 hb; have a5 := gw_ hg; obtain ⟨a1, a2⟩ := qn_ a0 hg; replace a0 := qbl_ a0 hb; replace HB := hs_ hb; clear hb hg; obtain ⟨d8, d9⟩ := nn_ a1; obtain ⟨b8, b9, c0, c1⟩ := bc2_ a0; obtain ⟨c2, c4, c5, c6⟩ := bc2_ a4))
 go_ret
 exact ⟨qr_, qB_⟩
end Go.Proofs.Ytbkklafkoegdpaa.QFnExactWebAdd
