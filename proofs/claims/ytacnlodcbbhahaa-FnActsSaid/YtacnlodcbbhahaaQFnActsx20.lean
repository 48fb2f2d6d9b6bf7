import Derived.Test.YtacnlodcbbhahaaQFnActsx3
import Derived.Test.YtacnlodcbbhahaaQFnActsx4
namespace Go.Proofs.Ytacnlodcbbhahaa.QFnActs
open Go.RowKit Go.Proofs.YtacnlodcbbhahaaW.PrintWords Go.Proofs.YtacnlodcbbhahaaW.PrintLast Go.Proofs.YtacnlodcbbhahaaW.PrintMore
set_option maxHeartbeats 8000000
set_option maxRecDepth 100000
set_option linter.unusedVariables false
set_option linter.unusedSimpArgs false
def impl_LoseDisk.l0 : Nat → List Int → Int → Int → List (S99) → Option ((List (S99)) × Bool)
  | 0, _, _, _, _ => none
  | k + 1, x1, x18, x19, x478000 => if x19 < x18 then (if 0 ≤ x19 then (if x19 < (x478000.length : Int) then (if x19 < (x1.length : Int) then (if 0 ≤ (mx (mn (mx (rd x1 x19) 0) (((rd_T99 x478000 x19).f1).size : Int)) ((rd_T99 x478000 x19).f2)) then (if (mx (mn (mx (rd x1 x19) 0) (((rd_T99 x478000 x19).f1).size : Int)) ((rd_T99 x478000 x19).f2)) ≤ (((rd_T99 x478000 x19).f1).size : Int) then ((some (x478000.set (x19 : Int).toNat (⟨(rd_T99 x478000 x19).f0, ((rd_T99 x478000 x19).f1).extract 0 ((mx (mn (mx (rd x1 x19) 0) (((rd_T99 x478000 x19).f1).size : Int)) ((rd_T99 x478000 x19).f2)) : Int).toNat, (rd_T99 x478000 x19).f2⟩ : S99) : List (S99))).bind fun y482 => (impl_LoseDisk.l0 k x1 x18 (wrap64 (x19 + 1)) (y482.set (x19 : Int).toNat (⟨(rd_T99 y482 x19).f0, (rd_T99 y482 x19).f1, (((rd_T99 y482 x19).f1).size : Int)⟩ : S99)))) else (none)) else (none)) else (if 0 ≤ (mx 0 ((rd_T99 x478000 x19).f2)) then (if (mx 0 ((rd_T99 x478000 x19).f2)) ≤ (((rd_T99 x478000 x19).f1).size : Int) then ((some (x478000.set (x19 : Int).toNat (⟨(rd_T99 x478000 x19).f0, ((rd_T99 x478000 x19).f1).extract 0 ((mx 0 ((rd_T99 x478000 x19).f2)) : Int).toNat, (rd_T99 x478000 x19).f2⟩ : S99) : List (S99))).bind fun y487 => (impl_LoseDisk.l0 k x1 x18 (wrap64 (x19 + 1)) (y487.set (x19 : Int).toNat (⟨(rd_T99 y487 x19).f0, (rd_T99 y487 x19).f1, (((rd_T99 y487 x19).f1).size : Int)⟩ : S99)))) else (none)) else (none))) else (none)) else (none)) else (some (x478000, true))
def impl_LoseDisk.f (k : Nat) (l0_0 : List (S99)) (l1 : List Int) : Option ((List (S99)) × Bool) := (impl_DiskOk.f k l0_0).bind fun t473 => (if t473 = true then ((impl_copyDisk.f l0_0).bind fun t474 => (impl_LoseDisk.l0 k l1 (t474.length : Int) 0 t474)) else (some (([] : List (S99)), false)))
def impl_LoseDisk.T10 : Bool × List (List Nat × List Nat) := (true, [([], []), ([], []), ([0, 1], [0, 1]), ([2], [2]), ([3], [3]), ([], []), ([5], [5]), ([6], [6]), ([7], [7]), ([8], [8]), ([4, 9], [4, 9]), ([10, 0, 1, 2, 3, 4, 5, 6, 7, 8, 9, 10], [10])])
def impl_LoseDisk.B10 : List Nat := [0, 0, 3, 7, 15, 0, 32, 96, 224, 480, 1023, 2047]
theorem impl_LoseDisk.tab10 : rtab .any (opsOf Try.f27 10) = impl_LoseDisk.T10 := by kernel_rfl
theorem impl_LoseDisk.bits10 : waitsOk impl_LoseDisk.T10.2 impl_LoseDisk.B10 = true := by kernel_rfl
def impl_LoseDisk.T11 : Bool × List (List Nat × List Nat) := (true, [([], []), ([], []), ([1], [1]), ([2], [2]), ([3], [3]), ([], []), ([], []), ([6], [6]), ([7], [7]), ([8], [8]), ([5, 9], [5, 9]), ([4, 10], [4, 10]), ([0, 0, 1, 2, 3, 4, 5, 6, 7, 8, 9, 10, 11], [0]), ([12, 0, 1, 2, 3, 4, 5, 6, 7, 8, 9, 10, 11], [12]), ([13, 11, 0, 1, 2, 3, 4, 5, 6, 7, 8, 9, 10, 11], [11, 13])])
def impl_LoseDisk.B11 : List Nat := [0, 0, 2, 6, 14, 0, 0, 64, 192, 448, 992, 2046, 4095, 8191, 16383]
theorem impl_LoseDisk.tab11 : rtab .any (opsOf Try.f27 11) = impl_LoseDisk.T11 := by kernel_rfl
theorem impl_LoseDisk.bits11 : waitsOk impl_LoseDisk.T11.2 impl_LoseDisk.B11 = true := by kernel_rfl
theorem impl_LoseDisk.calls (k : Nat) (z : Option Addr) (A : Nat) (l : List (S99)) (s3 : Option Addr) (p5 : Nat) (l1 : List Int) (o1 : List (S99)) (o2 : Bool) (w : World) (hr0_0 : Kd.C k99 w z l.length l) (hc0_0 : l.length ≤ A) (hr1 : Kd.C (Kd.int .i64) w s3 l1.length l1) (hc1 : l1.length ≤ p5) (h : impl_LoseDisk.f k l l1 = some (o1, o2)) :
  Calls Try.prog 27 #[.agg #[.slice z l.length A], .slice s3 l1.length p5] w fun e w' => ∃ j8 : Value, e = .returned (.tuple #[.agg #[j8], .bool o2]) ∧ Kd.R k99 99 w' w.heap.size (fun _ => True) j8 o1 ∧ Below w.heap.size w w' := by
 have hu44 := Try.underlying44
 have Y := am_ hr0_0
 have Z := am_ hc0_0
 clear hr0_0 hc0_0
 have w3 := am_ hr1
 have z5 := am_ hc1
 clear hr1 hc1
 have HB := am_ (Below.refl w.heap.size w)
 have H : ((impl_DiskOk.f k l).bind fun s4 => (if s4 = true then ((impl_copyDisk.f l).bind fun f7 => (impl_LoseDisk.l0 k l1 (f7.length : Int) 0 f7)) else (some (([] : List (S99)), false)))) = some (o1, o2) := h
 clear h
 obtain ⟨s4, s5, H⟩ := bs_ H
 refine id_ H ?_ ?_ <;> clear H <;> rintro rfl H
 ·simp only [Option.some.injEq, Prod.mk.injEq] at H
  obtain ⟨rfl, rfl⟩ := H
  go_enter Try.func27, Try.ntmps27
  go_wp2_with (first | ((with_reducible refine gd_ 2 ?_); refine by_ 2 (cs := #[.slice z l.length A]) (t := 44) ?_; intro o3 hg w4 m hb; have w5 := gw_ hg; replace HB := hs_ hb; clear hb hg) | ((with_reducible refine gd_ 4 ?_); refine by_ 4 (cs := #[.slice none 0 0]) (t := 44) ?_; intro g8 hg w6 o hb; have w7 := gw_ hg; obtain ⟨p6, s6⟩ := qn_ m hg; replace m := qbl_ m hb; replace HB := hs_ hb; clear hb hg; obtain ⟨z6, z7⟩ := nn_ p6; obtain ⟨z8, z9⟩ := bc1_ m) | ((with_reducible refine gc_ 77 ?_); refine gl_ (some 11) Try.func77 #[.agg #[.slice z l.length A]] ?_; (with_reducible refine (impl_DiskOk.calls k _ _ l false _ ?_ ?_ s5.out).mono ?_); exact qC_ Y HB; exact Z.out; rintro e w8 ⟨rfl, hb⟩; refine ⟨_, rfl, ?_⟩; replace m := qbl_ m hb; replace o := qbl_ o hb; replace HB := hs_ hb; clear hb; obtain ⟨A0, A1⟩ := bc1_ o))
  refine bodyPost_ret (results_ct rfl _ _ g8 44 #[.slice none 0 0] (0, 0) _ rfl (qp_ o) Try.underlying44 rfl (by kernel_rfl)) rfl ?_
  exact ⟨_, qr_, by first | exact Kd.R_nil _ _ _ _ _ | exact Kd.N_nil _ _ _ _ _ | exact Kd.V_nil _ _ _ _ _ | exact Kd.Q_nil _ _ _ _ _ | exact Kd.S_nil _ _ _ _ _, qB_⟩
 obtain ⟨f7, w9, H⟩ := bs_ H
 have H' := am_ H; clear H
 go_enter Try.func27, Try.ntmps27
 go_wp2_with (first | ((with_reducible refine gd_ 2 ?_); refine by_ 2 (cs := #[.slice z l.length A]) (t := 44) ?_; intro o3 hg A2 m hb; have w5 := gw_ hg; replace HB := hs_ hb; clear hb hg) | ((with_reducible refine gd_ 4 ?_); refine by_ 4 (cs := #[.slice none 0 0]) (t := 44) ?_; intro g8 hg A3 o hb; have w7 := gw_ hg; obtain ⟨p6, s6⟩ := qn_ m hg; replace m := qbl_ m hb; replace HB := hs_ hb; clear hb hg; obtain ⟨A4, A5⟩ := nn_ p6; obtain ⟨x0, x1⟩ := bc1_ m) | ((with_reducible refine gc_ 77 ?_); refine gl_ (some 11) Try.func77 #[.agg #[.slice z l.length A]] ?_; (with_reducible refine (impl_DiskOk.calls k _ _ l true _ ?_ ?_ s5.out).mono ?_); exact qC_ Y HB; exact Z.out; rintro e x2 ⟨rfl, hb⟩; refine ⟨_, rfl, ?_⟩; replace m := qbl_ m hb; replace o := qbl_ o hb; replace HB := hs_ hb; clear hb; obtain ⟨x3, x4⟩ := bc1_ m) | ((with_reducible refine gc_ 78 ?_); refine gl_ (some 15) Try.func78 #[.agg #[.slice z l.length A]] ?_; (with_reducible refine (impl_copyDisk.calls _ _ l f7 _ ?_ ?_ w9.out).mono ?_); exact qC_ Y HB; exact Z.out; rintro e x5 ⟨A6, rfl, ho0, hb⟩; refine ⟨_, rfl, ?_⟩; have o4 := am_ (Kd.R_lower ho0 (below_size qB_)); replace m := qbl_ m hb; replace o := qbl_ o hb; replace HB := hs_ hb; clear hb ho0) | ((with_reducible refine gd_ 6 ?_); refine by_ 6 (cs := #[.slice none 0 0]) (t := 44) ?_; intro o5 hg x6 y hb; have A7 := gw_ hg; obtain ⟨A8, o6⟩ := qn_ m hg; obtain ⟨A9, o7⟩ := qn_ o hg; replace o4 := kb_ o4 hb; replace m := qbl_ m hb; replace o := qbl_ o hb; replace HB := hs_ hb; clear hb hg; obtain ⟨s7, s8, x7⟩ := Kd.R_slice o4.out; subst x7; obtain ⟨B1, B8⟩ := nn_ o6; obtain ⟨B9, C0⟩ := nn_ o7; obtain ⟨x8, x9⟩ := bc1_ y))
 go_loopg [19] k (fun kq v19 w' => ∃ (a : Int) (d : List (S99)) (p7 : Value), v19 = .int .i64 a ∧ Aside0 (impl_LoseDisk.l0 kq l1 (f7.length : Int) a d = some (o1, o2)) ∧ Aside0 (kq ≤ k) ∧ Aside0 (Kd.R k99 99 w' w.heap.size (fun _ => True) p7 d) ∧ Aside0 (w'.heap[o3]? = some (.cells #[(.slice z l.length A)] 44 (0, 0))) ∧ Aside0 (w'.heap[g8]? = some (.cells #[(.slice none 0 0)] 44 (0, 0))) ∧ Aside0 (w'.heap[o5]? = some (.cells #[p7] 44 (0, 0))) ∧ Aside0 (Below w.heap.size w w'))
 case atStart => exact ⟨(0), (f7), (.slice s7 f7.length s8), qe_, H', ⟨Nat.le_refl _⟩, ⟨by (with_reducible repeat (first | apply Kd.R_alloc | apply Kd.R_drewN | apply Kd.R_drew)); exact Kd.R_mono (Kd.R_far (p := ⟨o5, 0, none⟩) (Kd.R_types o4.out y.out (by decide)) (fun _ hk => hk.2) (.slice s7 f7.length s8)) (fun _ hk => trivial)⟩, ⟨qf_ m⟩, ⟨qf_ o⟩, ⟨qp_ y⟩, ⟨qB_⟩⟩
 case round =>
  clear H' x3 x8 x0 x4 x9 x1
  obtain ⟨a, d, p7, rfl, HA, HK1, g, m, o, y, HB⟩ := hrel
  cases gk with
  | zero => exact absurd HA.out (by simp [impl_LoseDisk.l0])
  | succ s9 =>
   have H := HA.out; clear HA
   simp only [impl_LoseDisk.l0] at H
   refine ib_ H ?_ ?_ <;> clear H <;> intro p8 H
   ·simp only [Option.some.injEq, Prod.mk.injEq] at H
    obtain ⟨rfl, rfl⟩ := H
    obtain ⟨C6, C7⟩ := nn_ o6; obtain ⟨C8, C9⟩ := nn_ o7
    obtain ⟨D0, D1⟩ := bc1_ y
    obtain ⟨t0, t1, y2⟩ := Kd.R_slice g.out
    subst y2; obtain ⟨D2, D3⟩ := nn_ s6
    obtain ⟨D4, D5⟩ := bc1_ o
    go_wp2
    refine bodyPost_ret (results_ct rfl _ _ g8 44 #[.slice t0 d.length t1] (0, 0) _ rfl (qp_ o) Try.underlying44 rfl (by kernel_rfl)) rfl ?_
    exact ⟨_, qr_, by (with_reducible repeat (first | apply Kd.R_alloc | apply Kd.R_drewN | apply Kd.R_drew)); exact Kd.R_mono (Kd.R_far (p := ⟨g8, 0, none⟩) (Kd.R_types g.out o.out (by decide)) (fun _ hk => hk.2) (.slice t0 d.length t1)) (fun _ hk => trivial), qB_⟩
   refine ig_ H ?_; clear H; intro p9 H
   refine ig_ H ?_; clear H; intro q0 H
   refine ib_ H ?_ ?_ <;> clear H <;> intro q1 H
   ·obtain ⟨u, a0⟩ : ∃ j_ : Int, (mx 0 ((rd_T99 d a).f2)) = j_ := ⟨_, rfl⟩
    first | rw [a0] at H | simp only [a0] at H
    have hji39_ : (if 0 < ((rd_T99 d a).f2) then ((rd_T99 d a).f2) else 0) = u := a0
    refine jg_ H ?_; clear H; intro g9 H
    have q2 := eq_true g9
    have q3 := decide_eq_true g9
    clear g9
    refine jg_ H ?_; clear H; intro h0 H
    have q4 := eq_true h0
    have q5 := decide_eq_true h0
    clear h0
    generalize b8 : (d.set (a : Int).toNat (⟨(rd_T99 d a).f0, ((rd_T99 d a).f1).extract 0 ((u) : Int).toNat, (rd_T99 d a).f2⟩ : S99)) = T at H; replace H := bh_ H; have b9 := am_ b8.symm; clear b8
    generalize c0 : (T.set (a : Int).toNat (⟨(rd_T99 T a).f0, (rd_T99 T a).f1, (((rd_T99 T a).f1).size : Int)⟩ : S99)) = t2 at H; replace H := bh_ H; have h1 := am_ c0.symm; clear c0; have H' := am_ H; clear H; obtain ⟨D6, D7⟩ := nn_ o6; obtain ⟨D8, D9⟩ := nn_ o7
    obtain ⟨j0, j1⟩ := bc1_ y
    have a1 := dp_ a
    have a2 : (a : Int) < ((d.length : Int) : Int) := of_decide_eq_true qa_
    obtain ⟨c, c1, j9, k0, c2, k1, V⟩ := Kd.R_form g.out (by omega)
    (first | cases j9 | (injection j9 with ea_ en_ ec_; (first | subst ea_ | (injection ea_ with ea_; subst ea_)); subst ec_; clear en_))
    have c3 := am_ k0
    have k2 := am_ V
    clear k0 c2 V
    obtain ⟨k3, a3, X, q, s⟩ := Kd.R_elem g.out z99 (a : Int) a1 a2
    obtain rfl := k99_openM X
    have y3 : wr.cell? ⟨c, (a : Int).toNat * 3, none⟩ = some (.string ((rd_T99 d a).f0)) := q 0 _ rfl
    have y4 : wr.cell? ⟨c, (a : Int).toNat * 3 + 1, none⟩ = some (.string ((rd_T99 d a).f1)) := q 1 _ rfl
    have y5 : wr.cell? ⟨c, (a : Int).toNat * 3 + 2, none⟩ = some (.int .i64 ((rd_T99 d a).f2)) := q 2 _ rfl
    have e3 : wr.frozen? ⟨c, (a : Int).toNat * 3, none⟩ = false := s 0
    have e4 : wr.frozen? ⟨c, (a : Int).toNat * 3 + 1, none⟩ = false := s 1
    have e5 : wr.frozen? ⟨c, (a : Int).toNat * 3 + 2, none⟩ = false := s 2
    clear a3 q s X; replace a1 := eq_true a1; replace a2 := eq_true a2
    try go_wp2
    replace g := rd_ g; replace m := bd_ m; replace o := bd_ o; replace y := bd_ y; replace HB := hd_ HB
    have k4 := dt_ a
    have k5 := du_ a d.length
    obtain ⟨h2, k6, k7, k8, k9⟩ := at_T99 (Kd.R_reads' g.out).2.2 a (ot_ k4) (ot_ k5)
    obtain rfl : (⟨c, 0, none⟩ : Addr) = h2 := (by injection k6)
    simp only [add_plain] at k7 k8 k9
    simp only [add_plain] at *
    have l2 := dt_ a
    have l3 := du_ a d.length
    obtain ⟨h3, l4, l5, l6, l7⟩ := at_T99 (Kd.R_reads' g.out).2.2 a (ot_ l2) (ot_ l3)
    obtain rfl : (⟨c, 0, none⟩ : Addr) = h3 := (by injection l4)
    simp only [add_plain] at l5 l6 l7
    simp only [add_plain] at *
    have q6 := dt_ a
    have h4 : (a : Int) < ((d.length : Int) : Int) := of_decide_eq_true qa_
    obtain ⟨t3, h5, f8, B, D⟩ := Kd.R_elem g.out z99 (a : Int) (ot_ q6) h4
    obtain rfl := k99_openM f8
    have y6 : World.cell? _ ⟨c, (a : Int).toNat * 3, none⟩ = some (.string ((rd_T99 d a).f0)) := B 0 _ rfl
    have y7 : World.cell? _ ⟨c, (a : Int).toNat * 3 + 1, none⟩ = some (.string ((rd_T99 d a).f1)) := B 1 _ rfl
    have y8 : World.cell? _ ⟨c, (a : Int).toNat * 3 + 2, none⟩ = some (.int .i64 ((rd_T99 d a).f2)) := B 2 _ rfl
    have e6 : World.frozen? _ ⟨c, (a : Int).toNat * 3, none⟩ = false := D 0
    have e7 : World.frozen? _ ⟨c, (a : Int).toNat * 3 + 1, none⟩ = false := D 1
    have e8 : World.frozen? _ ⟨c, (a : Int).toNat * 3 + 2, none⟩ = false := D 2
    clear h5 B D f8; replace h4 := eq_true h4
    obtain ⟨t4, c4, f9, c5, h6⟩ := Kd.R_elem g.out z99 (a : Int) (of_decide_eq_true qa_) (by have h_ : (a : Int) < ((d.length : Int) : Int) := of_decide_eq_true qa_; first | exact h_ | (have e_ := (Kd.R_reads' g.out).1; omega) | simpa using h_)
    obtain rfl := k99_openM f9
    have c6 := (Kd.R_seg g.out (a : Int) (of_decide_eq_true qa_) (by have h_ : (a : Int) < ((d.length : Int) : Int) := of_decide_eq_true qa_; first | exact h_ | (have e_ := (Kd.R_reads' g.out).1; omega) | simpa using h_) (seg := [.string (((rd_T99 d a).f1).extract 0 ((u) : Int).toNat)]) (j := 1) c4 c5 (show 2 ≤ 3 from by decide) (x' := (⟨(rd_T99 d a).f0, ((rd_T99 d a).f1).extract 0 ((u) : Int).toNat, (rd_T99 d a).f2⟩ : S99)) (k99_mkM _ _ _ (⟨(rd_T99 d a).f0, ((rd_T99 d a).f1).extract 0 ((u) : Int).toNat, (rd_T99 d a).f2⟩ : S99) ) (fun _ hk => hk)).1
    rw [← b9.out] at c6
    have HQ48 := am_ c6
    clear c4 c5 h6 f9 c6
    refine start_ (n := 15) (S := fun w' => w'.cell? ⟨c, (a).toNat * 3, none⟩ = some (.string ((rd_T99 d a).f0)) ∧ w'.cell? ⟨c, (a).toNat * 3 + 1, none⟩ = some (.string ((rd_T99 d a).f1)) ∧ w'.cell? ⟨c, (a).toNat * 3 + 2, none⟩ = some (.int .i64 ((rd_T99 d a).f2)) ∧ w'.cell? ⟨c, (a).toNat * 3, none⟩ = some (.string ((rd_T99 d a).f0)) ∧ w'.cell? ⟨c, (a).toNat * 3 + 1, none⟩ = some (.string ((rd_T99 d a).f1)) ∧ w'.cell? ⟨c, (a).toNat * 3 + 2, none⟩ = some (.int .i64 ((rd_T99 d a).f2))) (ds := [14]) (bm 15 0) (by kernel_rfl) rfl (by kernel_rfl) ⟨k7, k8, k9, l5, l6, l7⟩ (fun hHeld => ?_); refine with_tabW impl_LoseDisk.tab11 impl_LoseDisk.bits11 (fun HT_ HW_ => ?_)
    generalize wr.drew = b6 at g m o y HB HQ48 e6 e7 e8 y6 y7 y8 k7 k8 k9 l5 l6 l7 hHeld ⊢
    refine pz_ 0 41 15 1 ?_; refine pz_ 1 42 15 3 ?_; refine pz_ 2 43 15 7 ?_; refine pz_ 3 44 15 15 ?_; refine pz_ 5 46 15 47 ?_; refine pz_ 6 47 15 111 ?_; refine pz_ 7 48 15 239 ?_; refine pz_ 8 49 15 495 ?_; refine tz6_ 4 45 15 511 ?_; refine tz6_ 9 50 15 1023 ?_; refine pz_ 10 51 15 2047 ?_; refine pz_ 11 52 15 4095 ?_; refine pz_ 12 53 15 8191 ?_; refine pz_ 13 54 15 16383 ?_
    refine last_ (i := 14) (N := none) (bm 15 32767) rfl rfl (one_of HT_.out (by kernel_rfl)) (by decide) (fun K hK => ?_)
    refine skip_ (w1 := ?_) (by rfl) rfl ?_ ?_
    rotate_left
    ·go_simp
     rfl
    refine hK.out _ _ ?_
    clear hK K
    refine done_ (done_of HT_.out (by kernel_rfl)) ?_
    have a4 : Aside0 (Kd.R k99 99 (b6.setCell ⟨c, (a : Int).toNat * 3 + 1, none⟩ (.string (((rd_T99 d a).f1).extract 0 ((u) : Int).toNat))) w.heap.size (fun _ => True) (.slice (some ⟨c, 0, none⟩) d.length c1) T) := ⟨qR_ HQ48⟩
    have a5 : Aside0 ((b6.setCell ⟨c, (a : Int).toNat * 3 + 1, none⟩ (.string (((rd_T99 d a).f1).extract 0 ((u) : Int).toNat))).heap[o3]? = some (.cells #[.slice z l.length A] 44 (0, 0))) := ⟨by (with_reducible repeat (first | refine blk_drewN ?_ _ | refine blk_drew ?_ | refine blk_alloc ?_ _)); refine blk_far ?_ (by have h_ := Kd.R_ne g.out m.out (by decide); intro e_; exact h_ (by rw [e_]; rfl)) _; exact qf_ m⟩
    have a6 : Aside0 ((b6.setCell ⟨c, (a : Int).toNat * 3 + 1, none⟩ (.string (((rd_T99 d a).f1).extract 0 ((u) : Int).toNat))).heap[g8]? = some (.cells #[.slice none 0 0] 44 (0, 0))) := ⟨by (with_reducible repeat (first | refine blk_drewN ?_ _ | refine blk_drew ?_ | refine blk_alloc ?_ _)); refine blk_far ?_ (by have h_ := Kd.R_ne g.out o.out (by decide); intro e_; exact h_ (by rw [e_]; rfl)) _; exact qf_ o⟩
    have a7 : Aside0 ((b6.setCell ⟨c, (a : Int).toNat * 3 + 1, none⟩ (.string (((rd_T99 d a).f1).extract 0 ((u) : Int).toNat))).heap[o5]? = some (.cells #[.slice (some ⟨c, 0, none⟩) d.length c1] 44 (0, 0))) := ⟨by (with_reducible repeat (first | refine blk_drewN ?_ _ | refine blk_drew ?_ | refine blk_alloc ?_ _)); refine blk_far ?_ (by have h_ := Kd.R_ne g.out y.out (by decide); intro e_; exact h_ (by rw [e_]; rfl)) _; exact qf_ y⟩
    have a8 : Aside0 (Below w.heap.size w (b6.setCell ⟨c, (a : Int).toNat * 3 + 1, none⟩ (.string (((rd_T99 d a).f1).extract 0 ((u) : Int).toNat)))) := ⟨qB_⟩
    clear g m o y HB
    generalize (b6.setCell ⟨c, (a : Int).toNat * 3 + 1, none⟩ (.string (((rd_T99 d a).f1).extract 0 ((u) : Int).toNat))) = E at a4 a5 a6 a7 a8 ⊢
    have g := a4; have m := a5; have o := a6; have y := a7; have HB := a8; clear a4 a5 a6 a7 a8
    have c7 := dp_ a
    have c8 : a < (T.length : Int) := (by have h_ : (a : Int) < ((d.length : Int) : Int) := of_decide_eq_true qa_; first | (have e_ := (Kd.R_reads' g.out).1; omega) | simpa only [b9.out, List.length_set] using h_)
    have q7 : ((a : Int) < ((d.length : Int) : Int)) = True := eq_true (of_decide_eq_true qa_)
    obtain ⟨h7, l8, q8, q9, r0⟩ := at_T99 (Kd.R_reads' g.out).2.2 a c7 c8
    obtain rfl : (⟨c, 0, none⟩ : Addr) = h7 := (by injection l8)
    simp only [add_plain] at q8 q9 r0
    simp only [add_plain] at *
    replace c7 := eq_true c7; replace c8 := eq_true c8
    have r1 := dt_ a
    have h8 : (a : Int) < ((d.length : Int) : Int) := of_decide_eq_true qa_
    obtain ⟨t5, h9, g0, F, G⟩ := Kd.R_elem g.out z99 (a : Int) (ot_ r1) h8
    obtain rfl := k99_openM g0
    have E0 : E.cell? ⟨c, (a : Int).toNat * 3, none⟩ = some (.string ((rd_T99 T a).f0)) := F 0 _ rfl
    have E1 : E.cell? ⟨c, (a : Int).toNat * 3 + 1, none⟩ = some (.string ((rd_T99 T a).f1)) := F 1 _ rfl
    have E2 : E.cell? ⟨c, (a : Int).toNat * 3 + 2, none⟩ = some (.int .i64 ((rd_T99 T a).f2)) := F 2 _ rfl
    have o8 : E.frozen? ⟨c, (a : Int).toNat * 3, none⟩ = false := G 0
    have o9 : E.frozen? ⟨c, (a : Int).toNat * 3 + 1, none⟩ = false := G 1
    have p0 : E.frozen? ⟨c, (a : Int).toNat * 3 + 2, none⟩ = false := G 2
    clear h9 F G g0; replace h8 := eq_true h8
    have g1 := am_ (show Kd.R k99 99 E w.heap.size (fun _ => True) (.slice (some ⟨c, 0, none⟩) d.length c1) T from (qR_ g))
    obtain ⟨t6, c9, g2, a9, d0⟩ := Kd.R_elem g1.out z99 (a : Int) (of_decide_eq_true qa_) (by have h_ : (a : Int) < ((d.length : Int) : Int) := of_decide_eq_true qa_; first | exact h_ | (have e_ := (Kd.R_reads' g.out).1; omega) | simpa using h_)
    obtain rfl := k99_openM g2
    have d1 := Kd.R_seg g1.out (a : Int) (of_decide_eq_true qa_) (by have h_ : (a : Int) < ((d.length : Int) : Int) := of_decide_eq_true qa_; first | exact h_ | (have e_ := (Kd.R_reads' g.out).1; omega) | simpa using h_) (seg := [.int .i64 (((rd_T99 T a).f1).size : Int)]) (j := 2) c9 a9 (show 3 ≤ 3 from by decide) (x' := (⟨(rd_T99 T a).f0, (rd_T99 T a).f1, (((rd_T99 T a).f1).size : Int)⟩ : S99)) (k99_mkM _ _ _ (⟨(rd_T99 T a).f0, (rd_T99 T a).f1, (((rd_T99 T a).f1).size : Int)⟩ : S99) ) (fun _ hk => hk)
    have y9 := a9 2 _ rfl
    simp only [show (k99).sz = 3 from rfl, Nat.mul_one, Nat.add_zero] at y9
    have e9 := d0 2
    simp only [show (k99).sz = 3 from rfl, Nat.mul_one, Nat.add_zero] at e9
    clear c9 a9 d0 g2
    try go_wp2_with (first | ((with_reducible refine gate_store (t := 3) (p := 62) rfl ?_); refine store_event (t := 3) (p := 62) (v := ?vo_w51) (w1 := (E.setCell ⟨c, (a : Int).toNat * 3 + 2, none⟩ (.int .i64 (((rd_T99 T a).f1).size : Int)))) ?hg ?ho ?hn ?hr ?_; (case ho => rfl); (case hg => rfl); (case hn => rfl); (case hr => first | (go_simp; done) | (go_simp; rfl)); intro i0 hw; have hg : E.grownBy i0 (some c) := (by rw [hw]; exact d1.2); have hp_ : Kd.R k99 99 i0 w.heap.size (fun _ => True) (.slice (some ⟨c, 0, none⟩) d.length c1) t2 := (by rw [hw, h1.out]; exact d1.1); clear d1; refine dn5_ (am_ (hp_)) (am_ (blk_grown (qk_ m) hg (Kd.R_ne g.out m.out (by decide)))) (am_ (blk_grown (qk_ o) hg (Kd.R_ne g.out o.out (by decide)))) (am_ (blk_grown (qk_ y) hg (Kd.R_ne g.out y.out (by decide)))) (am_ ((by rw [hw]; exact below_set (HB.out) c3.out : Below w.heap.size w i0))) ?_; clear g m o y HB; intro g m o y HB; clear hg hw hp_))
    go_roundg s9
    case measure => have := HK1.out; omega
    case rel => exact ⟨(wrap64 (a + 1)), (t2), (.slice (some ⟨c, 0, none⟩) d.length c1), qe_, H', ⟨by have := HK1.out; omega⟩, ⟨ra_ g⟩, ⟨qk_ m⟩, ⟨qk_ o⟩, ⟨qk_ y⟩, ⟨qB_⟩⟩
   obtain ⟨b4, b0⟩ : ∃ j_ : Int, (mx (rd l1 a) 0) = j_ := ⟨_, rfl⟩
   first | rw [b0] at H | simp only [b0] at H
   have hji23_ : (if (rd l1 a) < 0 then 0 else (rd l1 a)) = b4 := b0
   obtain ⟨b5, b1⟩ : ∃ j_ : Int, (mn (b4) (((rd_T99 d a).f1).size : Int)) = j_ := ⟨_, rfl⟩
   first | rw [b1] at H | simp only [b1] at H
   have hji24_ : (if (((rd_T99 d a).f1).size : Int) < (b4) then (((rd_T99 d a).f1).size : Int) else (b4)) = b5 := b1
   obtain ⟨x, b2⟩ : ∃ j_ : Int, (mx (b5) ((rd_T99 d a).f2)) = j_ := ⟨_, rfl⟩
   first | rw [b2] at H | simp only [b2] at H
   have hji25_ : (if (b5) < ((rd_T99 d a).f2) then ((rd_T99 d a).f2) else (b5)) = x := b2
   refine jg_ H ?_; clear H; intro i1 H
   have r2 := eq_true i1
   have r3 := decide_eq_true i1
   clear i1
   refine jg_ H ?_; clear H; intro i2 H
   have r4 := eq_true i2
   have r5 := decide_eq_true i2
   clear i2
   generalize d2 : (d.set (a : Int).toNat (⟨(rd_T99 d a).f0, ((rd_T99 d a).f1).extract 0 ((x) : Int).toNat, (rd_T99 d a).f2⟩ : S99)) = U at H; replace H := bh_ H; have d3 := am_ d2.symm; clear d2
   generalize d4 : (U.set (a : Int).toNat (⟨(rd_T99 U a).f0, (rd_T99 U a).f1, (((rd_T99 U a).f1).size : Int)⟩ : S99)) = t7 at H; replace H := bh_ H; have i3 := am_ d4.symm; clear d4; have H' := am_ H; clear H; obtain ⟨E3, E4⟩ := nn_ o6; obtain ⟨E5, E6⟩ := nn_ o7
   obtain ⟨j2, E7⟩ := bc1_ y
   have a1 := dp_ a
   have a2 : (a : Int) < ((d.length : Int) : Int) := of_decide_eq_true qa_
   obtain ⟨c, c1, j9, k0, c2, k1, V⟩ := Kd.R_form g.out (by omega)
   (first | cases j9 | (injection j9 with ea_ en_ ec_; (first | subst ea_ | (injection ea_ with ea_; subst ea_)); subst ec_; clear en_))
   have c3 := am_ k0
   have k2 := am_ V
   clear k0 c2 V
   obtain ⟨k3, a3, X, q, s⟩ := Kd.R_elem g.out z99 (a : Int) a1 a2
   obtain rfl := k99_openM X
   have y3 : wr.cell? ⟨c, (a : Int).toNat * 3, none⟩ = some (.string ((rd_T99 d a).f0)) := q 0 _ rfl
   have y4 : wr.cell? ⟨c, (a : Int).toNat * 3 + 1, none⟩ = some (.string ((rd_T99 d a).f1)) := q 1 _ rfl
   have y5 : wr.cell? ⟨c, (a : Int).toNat * 3 + 2, none⟩ = some (.int .i64 ((rd_T99 d a).f2)) := q 2 _ rfl
   have e3 : wr.frozen? ⟨c, (a : Int).toNat * 3, none⟩ = false := s 0
   have e4 : wr.frozen? ⟨c, (a : Int).toNat * 3 + 1, none⟩ = false := s 1
   have e5 : wr.frozen? ⟨c, (a : Int).toNat * 3 + 2, none⟩ = false := s 2
   clear a3 q s X; replace a1 := eq_true a1; replace a2 := eq_true a2
   try go_wp2
   replace g := rd_ g; replace m := bd_ m; replace o := bd_ o; replace y := bd_ y; replace HB := hd_ HB
   have l9 := dt_ a
   have m0 := du_ a l1.length
   obtain ⟨i4, m1, p1⟩ := Kd.at_int w3.out a (ot_ l9) (ot_ m0)
   have z0 := p1; cases m1
   replace p1 := qx_ HB p1
   have m2 := dt_ a
   have m3 := du_ a d.length
   obtain ⟨i5, m4, m5, m6, m7⟩ := at_T99 (Kd.R_reads' g.out).2.2 a (ot_ m2) (ot_ m3)
   obtain rfl : (⟨c, 0, none⟩ : Addr) = i5 := (by injection m4)
   simp only [add_plain] at m5 m6 m7
   simp only [add_plain] at *
   refine start_ (n := 12) (S := fun w' => w'.cell? (i4.add (a).toNat) = some (.int .i64 (rd l1 a)) ∧ w'.cell? ⟨c, (a).toNat * 3, none⟩ = some (.string ((rd_T99 d a).f0)) ∧ w'.cell? ⟨c, (a).toNat * 3 + 1, none⟩ = some (.string ((rd_T99 d a).f1)) ∧ w'.cell? ⟨c, (a).toNat * 3 + 2, none⟩ = some (.int .i64 ((rd_T99 d a).f2))) (ds := []) (bm 12 0) (by kernel_rfl) rfl (by kernel_rfl) ⟨((qx_ HB z0).trans rfl), m5, m6, m7⟩ (fun hHeld => ?_); refine with_tabW impl_LoseDisk.tab10 impl_LoseDisk.bits10 (fun HT_ HW_ => ?_)
   generalize wr.drew = r6 at g m o y HB p1 m5 m6 m7 hHeld ⊢
   refine pz_ 0 30 12 1 ?_; refine pz_ 1 31 12 3 ?_; refine pz_ 2 32 12 7 ?_; refine pz_ 5 35 12 39 ?_; refine pz_ 6 36 12 103 ?_; refine pz_ 7 37 12 231 ?_; refine tz4_ 3 33 12 239 ?_; refine pz_ 4 34 12 255 ?_; refine tz4_ 8 38 12 511 ?_; refine pz_ 9 39 12 1023 ?_; refine pz_ 10 40 12 2047 ?_; refine pz_ 11 9 12 4095 ?_
   refine done_ (done_of HT_.out (by kernel_rfl)) ?_
   try go_wp2
   replace g := rd_ g; replace m := bd_ m; replace o := bd_ o; replace y := bd_ y; replace HB := hd_ HB
   have m8 := dt_ a
   have m9 := du_ a d.length
   obtain ⟨i6, n0, n1, n2, n3⟩ := at_T99 (Kd.R_reads' g.out).2.2 a (ot_ m8) (ot_ m9)
   obtain rfl : (⟨c, 0, none⟩ : Addr) = i6 := (by injection n0)
   simp only [add_plain] at n1 n2 n3
   simp only [add_plain] at *
   have n4 := dt_ a
   have n5 := du_ a d.length
   obtain ⟨i7, n6, n7, n8, n9⟩ := at_T99 (Kd.R_reads' g.out).2.2 a (ot_ n4) (ot_ n5)
   obtain rfl : (⟨c, 0, none⟩ : Addr) = i7 := (by injection n6)
   simp only [add_plain] at n7 n8 n9
   simp only [add_plain] at *
   have r7 := dt_ a
   have i8 : (a : Int) < ((d.length : Int) : Int) := of_decide_eq_true qa_
   obtain ⟨t8, i9, g3, I, J⟩ := Kd.R_elem g.out z99 (a : Int) (ot_ r7) i8
   obtain rfl := k99_openM g3
   have z1 : World.cell? _ ⟨c, (a : Int).toNat * 3, none⟩ = some (.string ((rd_T99 d a).f0)) := I 0 _ rfl
   have z2 : World.cell? _ ⟨c, (a : Int).toNat * 3 + 1, none⟩ = some (.string ((rd_T99 d a).f1)) := I 1 _ rfl
   have z3 : World.cell? _ ⟨c, (a : Int).toNat * 3 + 2, none⟩ = some (.int .i64 ((rd_T99 d a).f2)) := I 2 _ rfl
   have f3 : World.frozen? _ ⟨c, (a : Int).toNat * 3, none⟩ = false := J 0
   have f4 : World.frozen? _ ⟨c, (a : Int).toNat * 3 + 1, none⟩ = false := J 1
   have f5 : World.frozen? _ ⟨c, (a : Int).toNat * 3 + 2, none⟩ = false := J 2
   clear i9 I J g3; replace i8 := eq_true i8
   obtain ⟨t9, d5, g4, d6, j3⟩ := Kd.R_elem g.out z99 (a : Int) (of_decide_eq_true qa_) (by have h_ : (a : Int) < ((d.length : Int) : Int) := of_decide_eq_true qa_; first | exact h_ | (have e_ := (Kd.R_reads' g.out).1; omega) | simpa using h_)
   obtain rfl := k99_openM g4
   have d7 := (Kd.R_seg g.out (a : Int) (of_decide_eq_true qa_) (by have h_ : (a : Int) < ((d.length : Int) : Int) := of_decide_eq_true qa_; first | exact h_ | (have e_ := (Kd.R_reads' g.out).1; omega) | simpa using h_) (seg := [.string (((rd_T99 d a).f1).extract 0 ((x) : Int).toNat)]) (j := 1) d5 d6 (show 2 ≤ 3 from by decide) (x' := (⟨(rd_T99 d a).f0, ((rd_T99 d a).f1).extract 0 ((x) : Int).toNat, (rd_T99 d a).f2⟩ : S99)) (k99_mkM _ _ _ (⟨(rd_T99 d a).f0, ((rd_T99 d a).f1).extract 0 ((x) : Int).toNat, (rd_T99 d a).f2⟩ : S99) ) (fun _ hk => hk)).1
   rw [← d3.out] at d7
   have HQ35 := am_ d7
   clear d5 d6 j3 g4 d7
   refine start_ (n := 15) (S := fun w' => w'.cell? ⟨c, (a).toNat * 3, none⟩ = some (.string ((rd_T99 d a).f0)) ∧ w'.cell? ⟨c, (a).toNat * 3 + 1, none⟩ = some (.string ((rd_T99 d a).f1)) ∧ w'.cell? ⟨c, (a).toNat * 3 + 2, none⟩ = some (.int .i64 ((rd_T99 d a).f2)) ∧ w'.cell? ⟨c, (a).toNat * 3, none⟩ = some (.string ((rd_T99 d a).f0)) ∧ w'.cell? ⟨c, (a).toNat * 3 + 1, none⟩ = some (.string ((rd_T99 d a).f1)) ∧ w'.cell? ⟨c, (a).toNat * 3 + 2, none⟩ = some (.int .i64 ((rd_T99 d a).f2))) (ds := [14]) (bm 15 0) (by kernel_rfl) rfl (by kernel_rfl) ⟨n1, n2, n3, n7, n8, n9⟩ (fun hHeld => ?_); refine with_tabW impl_LoseDisk.tab11 impl_LoseDisk.bits11 (fun HT_ HW_ => ?_)
   generalize r6.drew = b7 at g m o y HB HQ35 f3 f4 f5 z1 z2 z3 n1 n2 n3 n7 n8 n9 hHeld ⊢
   refine pz_ 0 41 15 1 ?_; refine pz_ 1 42 15 3 ?_; refine pz_ 2 43 15 7 ?_; refine pz_ 3 44 15 15 ?_; refine pz_ 5 46 15 47 ?_; refine pz_ 6 47 15 111 ?_; refine pz_ 7 48 15 239 ?_; refine pz_ 8 49 15 495 ?_; refine tz6_ 4 45 15 511 ?_; refine tz6_ 9 50 15 1023 ?_; refine pz_ 10 51 15 2047 ?_; refine pz_ 11 52 15 4095 ?_; refine pz_ 12 53 15 8191 ?_; refine pz_ 13 54 15 16383 ?_
   refine last_ (i := 14) (N := none) (bm 15 32767) rfl rfl (one_of HT_.out (by kernel_rfl)) (by decide) (fun K hK => ?_)
   refine skip_ (w1 := ?_) (by rfl) rfl ?_ ?_
   rotate_left
   ·go_simp
    rfl
   refine hK.out _ _ ?_
   clear hK K
   refine done_ (done_of HT_.out (by kernel_rfl)) ?_
   have a4 : Aside0 (Kd.R k99 99 (b7.setCell ⟨c, (a : Int).toNat * 3 + 1, none⟩ (.string (((rd_T99 d a).f1).extract 0 ((x) : Int).toNat))) w.heap.size (fun _ => True) (.slice (some ⟨c, 0, none⟩) d.length c1) U) := ⟨qR_ HQ35⟩
   have a5 : Aside0 ((b7.setCell ⟨c, (a : Int).toNat * 3 + 1, none⟩ (.string (((rd_T99 d a).f1).extract 0 ((x) : Int).toNat))).heap[o3]? = some (.cells #[.slice z l.length A] 44 (0, 0))) := ⟨by (with_reducible repeat (first | refine blk_drewN ?_ _ | refine blk_drew ?_ | refine blk_alloc ?_ _)); refine blk_far ?_ (by have h_ := Kd.R_ne g.out m.out (by decide); intro e_; exact h_ (by rw [e_]; rfl)) _; exact qf_ m⟩
   have a6 : Aside0 ((b7.setCell ⟨c, (a : Int).toNat * 3 + 1, none⟩ (.string (((rd_T99 d a).f1).extract 0 ((x) : Int).toNat))).heap[g8]? = some (.cells #[.slice none 0 0] 44 (0, 0))) := ⟨by (with_reducible repeat (first | refine blk_drewN ?_ _ | refine blk_drew ?_ | refine blk_alloc ?_ _)); refine blk_far ?_ (by have h_ := Kd.R_ne g.out o.out (by decide); intro e_; exact h_ (by rw [e_]; rfl)) _; exact qf_ o⟩
   have a7 : Aside0 ((b7.setCell ⟨c, (a : Int).toNat * 3 + 1, none⟩ (.string (((rd_T99 d a).f1).extract 0 ((x) : Int).toNat))).heap[o5]? = some (.cells #[.slice (some ⟨c, 0, none⟩) d.length c1] 44 (0, 0))) := ⟨by (with_reducible repeat (first | refine blk_drewN ?_ _ | refine blk_drew ?_ | refine blk_alloc ?_ _)); refine blk_far ?_ (by have h_ := Kd.R_ne g.out y.out (by decide); intro e_; exact h_ (by rw [e_]; rfl)) _; exact qf_ y⟩
   have a8 : Aside0 (Below w.heap.size w (b7.setCell ⟨c, (a : Int).toNat * 3 + 1, none⟩ (.string (((rd_T99 d a).f1).extract 0 ((x) : Int).toNat)))) := ⟨qB_⟩
   clear g m o y HB
   generalize (b7.setCell ⟨c, (a : Int).toNat * 3 + 1, none⟩ (.string (((rd_T99 d a).f1).extract 0 ((x) : Int).toNat))) = L at a4 a5 a6 a7 a8 ⊢
   have g := a4; have m := a5; have o := a6; have y := a7; have HB := a8; clear a4 a5 a6 a7 a8
   have d8 := dp_ a
   have d9 : a < (U.length : Int) := (by have h_ : (a : Int) < ((d.length : Int) : Int) := of_decide_eq_true qa_; first | (have e_ := (Kd.R_reads' g.out).1; omega) | simpa only [d3.out, List.length_set] using h_)
   have r8 : ((a : Int) < ((d.length : Int) : Int)) = True := eq_true (of_decide_eq_true qa_)
   obtain ⟨j4, o0, r9, s0, s1⟩ := at_T99 (Kd.R_reads' g.out).2.2 a d8 d9
   obtain rfl : (⟨c, 0, none⟩ : Addr) = j4 := (by injection o0)
   simp only [add_plain] at r9 s0 s1
   simp only [add_plain] at *
   replace d8 := eq_true d8; replace d9 := eq_true d9
   have s2 := dt_ a
   have j5 : (a : Int) < ((d.length : Int) : Int) := of_decide_eq_true qa_
   obtain ⟨w0, j6, g5, M, O⟩ := Kd.R_elem g.out z99 (a : Int) (ot_ s2) j5
   obtain rfl := k99_openM g5
   have E8 : L.cell? ⟨c, (a : Int).toNat * 3, none⟩ = some (.string ((rd_T99 U a).f0)) := M 0 _ rfl
   have E9 : L.cell? ⟨c, (a : Int).toNat * 3 + 1, none⟩ = some (.string ((rd_T99 U a).f1)) := M 1 _ rfl
   have F0 : L.cell? ⟨c, (a : Int).toNat * 3 + 2, none⟩ = some (.int .i64 ((rd_T99 U a).f2)) := M 2 _ rfl
   have p2 : L.frozen? ⟨c, (a : Int).toNat * 3, none⟩ = false := O 0
   have p3 : L.frozen? ⟨c, (a : Int).toNat * 3 + 1, none⟩ = false := O 1
   have p4 : L.frozen? ⟨c, (a : Int).toNat * 3 + 2, none⟩ = false := O 2
   clear j6 M O g5; replace j5 := eq_true j5
   have g6 := am_ (show Kd.R k99 99 L w.heap.size (fun _ => True) (.slice (some ⟨c, 0, none⟩) d.length c1) U from (qR_ g))
   obtain ⟨w2, e0, g7, b3, e1⟩ := Kd.R_elem g6.out z99 (a : Int) (of_decide_eq_true qa_) (by have h_ : (a : Int) < ((d.length : Int) : Int) := of_decide_eq_true qa_; first | exact h_ | (have e_ := (Kd.R_reads' g.out).1; omega) | simpa using h_)
   obtain rfl := k99_openM g7
   have e2 := Kd.R_seg g6.out (a : Int) (of_decide_eq_true qa_) (by have h_ : (a : Int) < ((d.length : Int) : Int) := of_decide_eq_true qa_; first | exact h_ | (have e_ := (Kd.R_reads' g.out).1; omega) | simpa using h_) (seg := [.int .i64 (((rd_T99 U a).f1).size : Int)]) (j := 2) e0 b3 (show 3 ≤ 3 from by decide) (x' := (⟨(rd_T99 U a).f0, (rd_T99 U a).f1, (((rd_T99 U a).f1).size : Int)⟩ : S99)) (k99_mkM _ _ _ (⟨(rd_T99 U a).f0, (rd_T99 U a).f1, (((rd_T99 U a).f1).size : Int)⟩ : S99) ) (fun _ hk => hk)
   have z4 := b3 2 _ rfl
   simp only [show (k99).sz = 3 from rfl, Nat.mul_one, Nat.add_zero] at z4
   have f6 := e1 2
   simp only [show (k99).sz = 3 from rfl, Nat.mul_one, Nat.add_zero] at f6
   clear e0 b3 e1 g7
   try go_wp2_with (first | ((with_reducible refine gate_store (t := 3) (p := 62) rfl ?_); refine store_event (t := 3) (p := 62) (v := ?vo_w38) (w1 := (L.setCell ⟨c, (a : Int).toNat * 3 + 2, none⟩ (.int .i64 (((rd_T99 U a).f1).size : Int)))) ?hg ?ho ?hn ?hr ?_; (case ho => rfl); (case hg => rfl); (case hn => rfl); (case hr => first | (go_simp; done) | (go_simp; rfl)); intro j7 hw; have hg : L.grownBy j7 (some c) := (by rw [hw]; exact e2.2); have hp_ : Kd.R k99 99 j7 w.heap.size (fun _ => True) (.slice (some ⟨c, 0, none⟩) d.length c1) t7 := (by rw [hw, i3.out]; exact e2.1); clear e2; refine dn5_ (am_ (hp_)) (am_ (blk_grown (qk_ m) hg (Kd.R_ne g.out m.out (by decide)))) (am_ (blk_grown (qk_ o) hg (Kd.R_ne g.out o.out (by decide)))) (am_ (blk_grown (qk_ y) hg (Kd.R_ne g.out y.out (by decide)))) (am_ ((by rw [hw]; exact below_set (HB.out) c3.out : Below w.heap.size w j7))) ?_; clear g m o y HB; intro g m o y HB; clear hg hw hp_))
   go_roundg s9
   case measure => have := HK1.out; omega
   case rel => exact ⟨(wrap64 (a + 1)), (t7), (.slice (some ⟨c, 0, none⟩) d.length c1), qe_, H', ⟨by have := HK1.out; omega⟩, ⟨ra_ g⟩, ⟨qk_ m⟩, ⟨qk_ o⟩, ⟨qk_ y⟩, ⟨qB_⟩⟩
end Go.Proofs.Ytacnlodcbbhahaa.QFnActs
