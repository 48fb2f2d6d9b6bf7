import Derived.Test.YtacnlodcbbhahaaQFnActsx9
namespace Go.Proofs.Ytacnlodcbbhahaa.QFnActs
open Go.RowKit Go.Proofs.YtacnlodcbbhahaaW.PrintWords Go.Proofs.YtacnlodcbbhahaaW.PrintLast Go.Proofs.YtacnlodcbbhahaaW.PrintMore
set_option maxHeartbeats 8000000
set_option maxRecDepth 100000
set_option linter.unusedVariables false
set_option linter.unusedSimpArgs false
mutual
def spec_LoseDisk.l0 : Nat → List Int → Int → List (S99) → List (S99) → Option ((List (S99)) × Bool)
  | 0, _, _, _, _ => none
  | k + 1, x1, x7, x508000, x511000 => if x7 < (x508000.length : Int) then (if 0 ≤ x7 then (if x7 < (x1.length : Int) then (spec_LoseDisk.j1 k x1 x7 (rd x1 x7) x508000 x511000 ((rd_T99 x508000 x7).f0) ((rd_T99 x508000 x7).f1) ((rd_T99 x508000 x7).f2)) else (spec_LoseDisk.j1 k x1 x7 0 x508000 x511000 ((rd_T99 x508000 x7).f0) ((rd_T99 x508000 x7).f1) ((rd_T99 x508000 x7).f2))) else (none)) else (some (x511000, true))
def spec_LoseDisk.j1 : Nat → List Int → Int → Int → List (S99) → List (S99) → ByteArray → ByteArray → Int → Option ((List (S99)) × Bool)
  | 0, _, _, _, _, _, _, _, _ => none
  | k + 1, x1, x7, x9, x508000, x511000, x513000, x513001, x513002 => if x9 > (x513001.size : Int) then (if (x513001.size : Int) < x513002 then (if 0 ≤ x513002 then (if x513002 ≤ (x513001.size : Int) then (if x511000.length < 3518437208883 then (spec_LoseDisk.l0 k x1 (wrap64 (x7 + 1)) x508000 (x511000 ++ [(⟨x513000, x513001.extract 0 (x513002 : Int).toNat, x513002⟩ : S99)])) else (none)) else (none)) else (none)) else (if 0 ≤ (x513001.size : Int) then (if (x513001.size : Int) ≤ (x513001.size : Int) then (if x511000.length < 3518437208883 then (spec_LoseDisk.l0 k x1 (wrap64 (x7 + 1)) x508000 (x511000 ++ [(⟨x513000, x513001, (x513001.size : Int)⟩ : S99)])) else (none)) else (none)) else (none))) else (if x9 < x513002 then (if 0 ≤ x513002 then (if x513002 ≤ (x513001.size : Int) then (if x511000.length < 3518437208883 then (spec_LoseDisk.l0 k x1 (wrap64 (x7 + 1)) x508000 (x511000 ++ [(⟨x513000, x513001.extract 0 (x513002 : Int).toNat, x513002⟩ : S99)])) else (none)) else (none)) else (none)) else (if 0 ≤ x9 then (if x9 ≤ (x513001.size : Int) then (if x511000.length < 3518437208883 then (spec_LoseDisk.l0 k x1 (wrap64 (x7 + 1)) x508000 (x511000 ++ [(⟨x513000, x513001.extract 0 (x9 : Int).toNat, x9⟩ : S99)])) else (none)) else (none)) else (none)))
end
def spec_LoseDisk.f (k : Nat) (l0_0 : List (S99)) (l1 : List Int) : Option ((List (S99)) × Bool) := (spec_DiskOk.f k l0_0).bind fun t509 => (if t509 = true then (spec_LoseDisk.l0 k l1 0 l0_0 ([] : List (S99))) else (some (([] : List (S99)), false)))
def spec_LoseDisk.T15 : Bool × List (List Nat × List Nat) := (true, [([], []), ([0], [0]), ([], []), ([2], [2]), ([], []), ([4], [4]), ([], []), ([5, 6], [5, 6]), ([], []), ([3, 7, 8], [3, 7, 8]), ([9], [9]), ([1, 10], [1, 10]), ([0, 1, 2, 3, 4, 5, 6, 7, 8, 9, 10, 11], []), ([12, 11, 11, 0, 1, 2, 3, 4, 5, 6, 7, 8, 9, 10, 11], [11, 12])])
def spec_LoseDisk.B15 : List Nat := [0, 1, 0, 4, 0, 16, 0, 112, 0, 508, 1020, 2047, 4095, 8191]
theorem spec_LoseDisk.tab15 : rtab .any (opsOf Try.f24 15) = spec_LoseDisk.T15 := by kernel_rfl
theorem spec_LoseDisk.bits15 : waitsOk spec_LoseDisk.T15.2 spec_LoseDisk.B15 = true := by kernel_rfl
theorem spec_LoseDisk.calls (k : Nat) (u : Option Addr) (s : Nat) (a : List (S99)) (i4 : Option Addr) (e0 : Nat) (l1 : List Int) (c7 : List (S99)) (c8 : Bool) (w : World) (hr0_0 : Kd.C k99 w u a.length a) (hc0_0 : a.length ≤ s) (hr1 : Kd.C (Kd.int .i64) w i4 l1.length l1) (hc1 : l1.length ≤ e0) (h : spec_LoseDisk.f k a l1 = some (c7, c8)) :
  Calls Try.prog 24 #[.agg #[.slice u a.length s], .slice i4 l1.length e0] w fun e w' => ∃ c9 : Value, e = .returned (.tuple #[.agg #[c9], .bool c8]) ∧ Kd.R k99 99 w' w.heap.size (fun _ => True) c9 c7 ∧ Below w.heap.size w w' := by
 have hu44 := Try.underlying44; have hu99 := Try.underlying99
 have B := am_ hr0_0
 have M := am_ hc0_0
 clear hr0_0 hc0_0
 have l9 := am_ hr1
 have u0 := am_ hc1
 clear hr1 hc1
 have HB := am_ (Below.refl w.heap.size w)
 have H : ((spec_DiskOk.f k a).bind fun i5 => (if i5 = true then (spec_LoseDisk.l0 k l1 0 a ([] : List (S99))) else (some (([] : List (S99)), false)))) = some (c7, c8) := h
 clear h
 obtain ⟨i5, i6, H⟩ := bs_ H
 refine id_ H ?_ ?_ <;> clear H <;> rintro rfl H
 ·simp only [Option.some.injEq, Prod.mk.injEq] at H
  obtain ⟨rfl, rfl⟩ := H
  go_enter Try.func24, Try.ntmps24
  go_wp2_with (first | ((with_reducible refine gd_ 2 ?_); refine by_ 2 (cs := #[.slice u a.length s]) (t := 44) ?_; intro e3 hg m0 l hb; have m1 := gw_ hg; replace HB := hs_ hb; clear hb hg) | ((with_reducible refine gd_ 4 ?_); refine by_ 4 (cs := #[.slice none 0 0]) (t := 44) ?_; intro c4 hg m2 m hb; have m3 := gw_ hg; obtain ⟨d0, m4⟩ := qn_ l hg; replace l := qbl_ l hb; replace HB := hs_ hb; clear hb hg; obtain ⟨p4, p5⟩ := nn_ d0; obtain ⟨p6, p7⟩ := bc1_ l) | ((with_reducible refine gc_ 75 ?_); refine gl_ (some 11) Try.func75 #[.agg #[.slice u a.length s]] ?_; (with_reducible refine (spec_DiskOk.calls k _ _ a false _ ?_ ?_ i6.out).mono ?_); exact qC_ B HB; exact M.out; rintro e m5 ⟨rfl, hb⟩; refine ⟨_, rfl, ?_⟩; replace l := qbl_ l hb; replace m := qbl_ m hb; replace HB := hs_ hb; clear hb; obtain ⟨p8, p9⟩ := bc1_ m))
  refine bodyPost_ret (results_ct rfl _ _ c4 44 #[.slice none 0 0] (0, 0) _ rfl (qp_ m) Try.underlying44 rfl (by kernel_rfl)) rfl ?_
  exact ⟨_, qr_, by first | exact Kd.R_nil _ _ _ _ _ | exact Kd.N_nil _ _ _ _ _ | exact Kd.V_nil _ _ _ _ _ | exact Kd.Q_nil _ _ _ _ _ | exact Kd.S_nil _ _ _ _ _, qB_⟩
 have H' := am_ H; clear H
 go_enter Try.func24, Try.ntmps24
 go_wp2_with (first | ((with_reducible refine gd_ 2 ?_); refine by_ 2 (cs := #[.slice u a.length s]) (t := 44) ?_; intro e3 hg q0 l hb; have m1 := gw_ hg; replace HB := hs_ hb; clear hb hg) | ((with_reducible refine gd_ 4 ?_); refine by_ 4 (cs := #[.slice none 0 0]) (t := 44) ?_; intro c4 hg q1 m hb; have m3 := gw_ hg; obtain ⟨d0, m4⟩ := qn_ l hg; replace l := qbl_ l hb; replace HB := hs_ hb; clear hb hg; obtain ⟨q2, q3⟩ := nn_ d0; obtain ⟨i7, i8⟩ := bc1_ l) | ((with_reducible refine gc_ 75 ?_); refine gl_ (some 11) Try.func75 #[.agg #[.slice u a.length s]] ?_; (with_reducible refine (spec_DiskOk.calls k _ _ a true _ ?_ ?_ i6.out).mono ?_); exact qC_ B HB; exact M.out; rintro e q4 ⟨rfl, hb⟩; refine ⟨_, rfl, ?_⟩; replace l := qbl_ l hb; replace m := qbl_ m hb; replace HB := hs_ hb; clear hb) | ((with_reducible refine gd_ 6 ?_); refine by_ 6 (cs := #[.slice none 0 0]) (t := 44) ?_; intro J hg m6 g hb; have q5 := gw_ hg; obtain ⟨c5, d1⟩ := qn_ l hg; obtain ⟨e1, c6⟩ := qn_ m hg; replace l := qbl_ l hb; replace m := qbl_ m hb; replace HB := hs_ hb; clear hb hg; obtain ⟨q6, q7⟩ := nn_ d1; obtain ⟨q8, q9⟩ := nn_ c6; obtain ⟨i9, j3⟩ := bc1_ g))
 go_loopg [7] k (fun kq v7 w' => ∃ (c : Int) (D : List (S99)) (A : Value), v7 = .int .i64 c ∧ Aside0 (spec_LoseDisk.l0 kq l1 c a D = some (c7, c8)) ∧ Aside0 (kq ≤ k) ∧ Aside0 (Kd.R k99 99 w' w.heap.size (fun _ => True) A D) ∧ Aside0 (w'.heap[e3]? = some (.cells #[(.slice u a.length s)] 44 (0, 0))) ∧ Aside0 (w'.heap[c4]? = some (.cells #[(.slice none 0 0)] 44 (0, 0))) ∧ Aside0 (w'.heap[J]? = some (.cells #[A] 44 (0, 0))) ∧ Aside0 (Below w.heap.size w w'))
 case atStart => exact ⟨(0), (([] : List (S99))), (.slice none 0 0), qe_, H', ⟨Nat.le_refl _⟩, ⟨by first | exact Kd.R_nil _ _ _ _ _ | exact Kd.N_nil _ _ _ _ _ | exact Kd.V_nil _ _ _ _ _ | exact Kd.Q_nil _ _ _ _ _ | exact Kd.S_nil _ _ _ _ _⟩, ⟨qf_ l⟩, ⟨qf_ m⟩, ⟨qp_ g⟩, ⟨qB_⟩⟩
 case round =>
  clear H' i9 i7 j3 i8
  obtain ⟨c, D, A, rfl, HA, HK1, o, l, m, g, HB⟩ := hrel
  cases gk with
  | zero => exact absurd HA.out (by simp [spec_LoseDisk.l0])
  | succ n0 =>
   have H := HA.out; clear HA
   simp only [spec_LoseDisk.l0] at H
   refine ib_ H ?_ ?_ <;> clear H <;> intro a4 H
   ·simp only [Option.some.injEq, Prod.mk.injEq] at H
    obtain ⟨rfl, rfl⟩ := H
    obtain ⟨r0, r1⟩ := nn_ d0; obtain ⟨r2, r3⟩ := nn_ c5
    obtain ⟨r4, r5⟩ := bc1_ l
    obtain ⟨r6, r7⟩ := nn_ c6
    obtain ⟨r8, r9⟩ := bc1_ g
    obtain ⟨j5, j6, n1⟩ := Kd.R_slice o.out
    subst n1
    obtain ⟨s0, s1⟩ := bc1_ m
    go_wp2
    refine bodyPost_ret (results_ct rfl _ _ c4 44 #[.slice j5 D.length j6] (0, 0) _ rfl (qp_ m) Try.underlying44 rfl (by kernel_rfl)) rfl ?_
    exact ⟨_, qr_, by (with_reducible repeat (first | apply Kd.R_alloc | apply Kd.R_drewN | apply Kd.R_drew)); exact Kd.R_mono (Kd.R_far (p := ⟨c4, 0, none⟩) (Kd.R_types o.out m.out (by decide)) (fun _ hk => hk.2) (.slice j5 D.length j6)) (fun _ hk => trivial), qB_⟩
   refine ig_ H ?_; clear H; intro a5 H
   have e6 := am_ H
   clear H; obtain ⟨s2, s3⟩ := nn_ d0; obtain ⟨s4, s5⟩ := nn_ c5
   obtain ⟨n2, n3⟩ := bc1_ l
   have Z := dt_ c
   have a0 := du_ c a.length
   obtain ⟨a6, d2, e7, e8, e9⟩ := at_T99 B.out c (ot_ Z) (ot_ a0)
   cases d2
   replace e7 := qx_ HB e7
   replace e8 := qx_ HB e8
   replace e9 := qx_ HB e9
   go_upto_if 30 with (first | ((with_reducible refine gd_ 8 ?_); refine by_ 8 (cs := #[.string (⟨#[]⟩ : ByteArray), .string (⟨#[]⟩ : ByteArray), .int .i64 0]) (t := 99) ?_; intro q hg n4 d hb; have f3 := gw_ hg; obtain ⟨s6, d3⟩ := qn_ l hg; obtain ⟨s7, d4⟩ := qn_ m hg; obtain ⟨e2, X⟩ := qn_ g hg; replace o := am_ (Kd.R_below (Kd.R_elderB (qR_ o) q (Nat.le_of_eq hg.symm)) hb); replace l := qbl_ l hb; replace m := qbl_ m hb; replace g := qbl_ g hb; replace HB := hs_ hb; clear hb hg; obtain ⟨s8, s9⟩ := nn_ d3; obtain ⟨t0, t1⟩ := nn_ d4; obtain ⟨t2, t3⟩ := nn_ X; obtain ⟨n5, n6, n7, n8, n9, o0⟩ := bc3_ d))
   go_cut [9] (fun v9 wc => ∃ (kq : Nat) (j : Int), v9 = .int .i64 j ∧ Aside0 (spec_LoseDisk.j1 kq l1 c j a D ((rd_T99 a c).f0) ((rd_T99 a c).f1) ((rd_T99 a c).f2) = some (c7, c8)) ∧ Aside0 (kq ≤ n0) ∧ Aside0 (Kd.R k99 99 wc w.heap.size (fun k_ => k_ ≠ q) A D) ∧ Aside0 (wc.heap[e3]? = some (.cells #[(.slice (some a6) a.length s)] 44 (0, 0))) ∧ Aside0 (wc.heap[c4]? = some (.cells #[(.slice none 0 0)] 44 (0, 0))) ∧ Aside0 (wc.heap[J]? = some (.cells #[A] 44 (0, 0))) ∧ Aside0 (wc.heap[q]? = some (.cells #[.string ((rd_T99 a c).f0), .string ((rd_T99 a c).f1), .int .i64 ((rd_T99 a c).f2)] 99 (0, 0))) ∧ Aside0 (Below w.heap.size w wc))
   case first =>
    have H := e6.out; clear e6
    refine ib_ H ?_ ?_ <;> clear H <;> intro x H
    ·(first | rw [x] | (simp only [i64_w, i32_w]; rw [x]) | skip)
     have H' := am_ H; clear H
     go_wp2
     go_meet
     case rel => exact ⟨_, (0), qe_, H', ⟨by have := HK1.out; first | omega | exact Nat.le_refl _⟩, ⟨by (with_reducible repeat (first | apply Kd.R_alloc | apply Kd.R_drewN | apply Kd.R_drew)); exact Kd.R_mono (Kd.R_far (p := ⟨q, 2, none⟩) (Kd.R_far (p := ⟨q, 1, none⟩) (Kd.R_far (p := ⟨q, 0, none⟩) (Kd.R_mono o.out (fun k_ hk => (⟨hk, hk.2⟩ : _ ∧ k_ ≠ q))) (fun _ hk => hk.2) (.string ((rd_T99 a c).f0))) (fun _ hk => hk.2) (.string ((rd_T99 a c).f1))) (fun _ hk => hk.2) (.int .i64 ((rd_T99 a c).f2))) (fun _ hk => hk.1.2)⟩, ⟨qf_ l⟩, ⟨qf_ m⟩, ⟨qf_ g⟩, ⟨qp_ d⟩, ⟨qB_⟩⟩
    (first | rw [x] | (simp only [i64_w, i32_w]; rw [x]) | skip)
    have H' := am_ H; clear H
    have a1 := dt_ c
    have a2 := du_ c l1.length
    obtain ⟨E, d5, L⟩ := Kd.at_int l9.out c (ot_ a1) (ot_ a2)
    cases d5
    have hn513_0 : E.block ≠ q := Nat.ne_of_lt (Nat.lt_of_lt_of_le (by have := World.block_lt_of_cell? _ _ L; first | rwa [add_block] at this | exact this) f3.out)
    have hn513_1 : E.block ≠ q := Nat.ne_of_lt (Nat.lt_of_lt_of_le (by have := World.block_lt_of_cell? _ _ L; first | rwa [add_block] at this | exact this) f3.out)
    have hn513_2 : E.block ≠ q := Nat.ne_of_lt (Nat.lt_of_lt_of_le (by have := World.block_lt_of_cell? _ _ L; first | rwa [add_block] at this | exact this) f3.out)
    replace L := qx_ HB L
    replace L := (cell_far (p := ⟨q, 0, none⟩) (by first | (rw [add_block]; exact hn513_0) | (show (Addr.add _ _).block ≠ _; rw [add_block]; exact hn513_0) | exact hn513_0) (.string ((rd_T99 a c).f0))).trans L
    replace L := (cell_far (p := ⟨q, 1, none⟩) (by first | (rw [add_block]; exact hn513_1) | (show (Addr.add _ _).block ≠ _; rw [add_block]; exact hn513_1) | exact hn513_1) (.string ((rd_T99 a c).f1))).trans L
    replace L := (cell_far (p := ⟨q, 2, none⟩) (by first | (rw [add_block]; exact hn513_2) | (show (Addr.add _ _).block ≠ _; rw [add_block]; exact hn513_2) | exact hn513_2) (.int .i64 ((rd_T99 a c).f2))).trans L
    clear hn513_0 hn513_1 hn513_2
    go_wp2
    go_meet
    case rel => exact ⟨_, (rd l1 c), qe_, H', ⟨by have := HK1.out; first | omega | exact Nat.le_refl _⟩, ⟨by (with_reducible repeat (first | apply Kd.R_alloc | apply Kd.R_drewN | apply Kd.R_drew)); exact Kd.R_mono (Kd.R_far (p := ⟨q, 2, none⟩) (Kd.R_far (p := ⟨q, 1, none⟩) (Kd.R_far (p := ⟨q, 0, none⟩) (Kd.R_mono o.out (fun k_ hk => (⟨hk, hk.2⟩ : _ ∧ k_ ≠ q))) (fun _ hk => hk.2) (.string ((rd_T99 a c).f0))) (fun _ hk => hk.2) (.string ((rd_T99 a c).f1))) (fun _ hk => hk.2) (.int .i64 ((rd_T99 a c).f2))) (fun _ hk => hk.1.2)⟩, ⟨qf_ l⟩, ⟨qf_ m⟩, ⟨qf_ g⟩, ⟨qp_ d⟩, ⟨qB_⟩⟩
   case rest =>
    clear e6 a4 a5 n2 n5 n6 n7 n3 n8 n9 o0 e7 e8 e9 Z a0
    obtain ⟨kq, j, rfl, HA, a3, o, l, m, g, d, HB⟩ := hcut
    cases kq with
    | zero => exact absurd HA.out (by simp [spec_LoseDisk.j1])
    | succ kj15 =>
     have H := HA.out; clear HA
     simp only [spec_LoseDisk.j1] at H
     refine jc_ H ?_ ?_ <;> clear H <;> intro Y H
     ·have a7 : decide ((((rd_T99 a c).f1).size : Int) < j) = true := decide_eq_true Y
      clear Y
      refine ic_ H ?_ ?_ <;> clear H <;> intro f4 H
      ·refine jg_ H ?_; clear H; intro a8 H
       have f5 := eq_true a8
       have f6 := decide_eq_true a8
       clear a8
       refine jg_ H ?_; clear H; intro a9 H
       have f7 := eq_true a9
       have f8 := decide_eq_true a9
       clear a9
       refine jg_ H ?_; clear H; intro d6 H
       have b0 := am_ d6
       clear d6
       generalize O : (D ++ [(⟨((rd_T99 a c).f0), ((rd_T99 a c).f1).extract 0 (((rd_T99 a c).f2) : Int).toNat, ((rd_T99 a c).f2)⟩ : S99)]) = f9 at H; replace H := bh_ H; have b1 := am_ O.symm; clear O; have H' := am_ H; clear H; obtain ⟨t6, t7⟩ := nn_ d3; obtain ⟨t8, t9⟩ := nn_ d4; obtain ⟨w2, w3⟩ := nn_ X
       obtain ⟨w4, w5, w6, j0, j2, w7⟩ := bc3_ d
       try go_wp2
       replace o := rd_ o; replace l := bd_ l; replace m := bd_ m; replace g := bd_ g; replace d := bd_ d; replace HB := hd_ HB
       refine start_ (n := 14) (S := fun w' => w'.cell? ⟨J, 0, none⟩ = some (A) ∧ w'.cell? ⟨q, 0, none⟩ = some (.string ((rd_T99 a c).f0)) ∧ w'.cell? ⟨q, 1, none⟩ = some (.string ((rd_T99 a c).f1)) ∧ w'.cell? ⟨q, 2, none⟩ = some (.int .i64 ((rd_T99 a c).f2))) (ds := [13]) (bm 14 0) (by kernel_rfl) rfl (by kernel_rfl) ⟨bl_ g 0, bl_ d 0, bl_ d 1, bl_ d 2⟩ (fun hHeld => ?_); refine with_tabW spec_LoseDisk.tab15 spec_LoseDisk.bits15 (fun HT_ HW_ => ?_)
       generalize wc.drew = p0 at o l m g d HB hHeld ⊢
       refine pz_ 0 49 14 1 ?_; refine pz_ 2 51 14 5 ?_; refine pz_ 4 53 14 21 ?_; refine pz_ 6 55 14 85 ?_; refine pz_ 8 57 14 341 ?_; refine tz4_ 1 50 14 343 ?_; refine tz4_ 3 52 14 351 ?_; refine tz4_ 5 54 14 383 ?_; refine pz_ 7 56 14 511 ?_; refine pz_ 9 58 14 1023 ?_
       refine o1_ 10 (some 59) 14 2047 (fun K hK => ?_)
       refine value_ (w1 := ?_) (v := ?_) (by rfl) rfl ?_ ?_
       rotate_left 2
       ·go_simp
        constructor
        ·rfl
        rfl
       refine hK.out _ _ ⟨(blk_cell (blk_alloc g.out _) 0).trans rfl, (blk_cell (blk_alloc d.out _) 0).trans rfl, (blk_cell (blk_alloc d.out _) 1).trans rfl, (blk_cell (blk_alloc d.out _) 2).trans rfl⟩ (fun hHeld => ?_)
       clear hK K
       refine nm_ 59 ?_
       refine o1_ 11 (some 60) 14 4095 (fun K hK => ?_)
       refine Kd.R_append_step k99 (w0 := w) w.heap.size (by rfl) (.tmp 50) (.tmp 59) 42 99 (.agg #[(.string ⟨#[]⟩), (.string ⟨#[]⟩), (.int .i64 0)]) 40 rfl Try.underlying42 info99 rfl (by decide) (by omega) A D (⟨((rd_T99 a c).f0), ((rd_T99 a c).f1).extract 0 (((rd_T99 a c).f2) : Int).toNat, ((rd_T99 a c).f2)⟩ : S99) [.string ((rd_T99 a c).f0), .string (((rd_T99 a c).f1).extract 0 (((rd_T99 a c).f2) : Int).toNat), .int .i64 ((rd_T99 a c).f2)] (fun k_ => k_ ≠ q) (fun _ => False) rfl rfl ?aP (fun _ hk => hk.elim) ?aF ?aO ?aB ?aS ?aL ?_
       (case aP => exact k99_mkM _ _ _ (⟨((rd_T99 a c).f0), ((rd_T99 a c).f1).extract 0 (((rd_T99 a c).f2) : Int).toNat, ((rd_T99 a c).f2)⟩ : S99))
       (case aB => exact qB_)
       (case aF => exact (fun k_ hk => Kd.freshB (qk_ d) k_ hk))
       (case aO => exact (qR_ o))
       (case aS => exact (below_size qB_))
       (case aL => have := b0.out; omega)
       intro w8 g0 ho hb hg hat
       rw [← b1.out] at ho
       have j7 := am_ (ho); replace l := am_ (blk_grown (qk_ l) hg (Kd.R_ne o.out l.out (by decide))); replace m := am_ (blk_grown (qk_ m) hg (Kd.R_ne o.out m.out (by decide))); replace g := am_ (blk_grown (qk_ g) hg (Kd.R_ne o.out g.out (by decide))); replace d := am_ (blk_grown (qk_ d) hg (Kd.R_away o.out (fun _ hk => hk))); replace HB := am_ (hb); clear o ho hb hg hat
       obtain ⟨j8, j9, k0⟩ := Kd.R_slice j7.out
       (first | subst k0 | (injection k0 with y F z; have G := y.symm; have I := z.symm; clear y F z; subst G; subst I))
       refine hK.out _ _ ⟨bl_ g 0, bl_ d 0, bl_ d 1, bl_ d 2⟩ (fun hHeld => ?_)
       clear hK K
       refine nm_ 60 ?_
       refine pz_ 12 61 14 8191 ?_
       refine last_ (i := 13) (N := none) (bm 14 16383) rfl rfl (one_of HT_.out (by kernel_rfl)) (by decide) (fun K hK => ?_)
       have k1 : g0.cell? ⟨J, 0, none⟩ = some (A) := bl_ g 0
       have g1 := blk_frozen g.out 0
       have w9 := c5.out; have x0 := e1.out; have x1 := X.out; have x2 := d1.out; have x3 := c6.out; have x4 := e2.out
       refine skip_ (w1 := ?_) (by rfl) rfl ?_ ?_
       rotate_left
       ·go_simp
        rfl
       refine hK.out _ _ ?_
       clear hK K
       refine done_ (done_of HT_.out (by kernel_rfl)) ?_
       try go_wp2
       go_roundg kj15
       case measure => have := HK1.out; have := a3.out; omega
       case rel => exact ⟨(wrap64 (c + 1)), (f9), (.slice j8 f9.length j9), qe_, H', ⟨by have := HK1.out; have := a3.out; omega⟩, ⟨by (with_reducible repeat (first | apply Kd.R_alloc | apply Kd.R_drewN | apply Kd.R_drew)); exact Kd.R_mono (Kd.R_far (p := ⟨J, 0, none⟩) (Kd.R_types j7.out g.out (by decide)) (fun _ hk => hk.2) (.slice j8 f9.length j9)) (fun _ hk => trivial)⟩, ⟨qf_ l⟩, ⟨qf_ m⟩, ⟨qp_ g⟩, ⟨qB_⟩⟩
      refine jg_ H ?_; clear H; intro b2 H
      have g2 := eq_true b2
      have g3 := decide_eq_true b2
      clear b2
      refine jg_ H ?_; clear H; intro b3 H
      have g4 := eq_true b3
      have g5 := decide_eq_true b3
      clear b3
      refine jg_ H ?_; clear H; intro d7 H
      have b4 := am_ d7
      clear d7
      generalize T : (D ++ [(⟨((rd_T99 a c).f0), ((rd_T99 a c).f1), (((rd_T99 a c).f1).size : Int)⟩ : S99)]) = g6 at H; replace H := bh_ H; have b5 := am_ T.symm; clear T; have H' := am_ H; clear H; obtain ⟨x5, x6⟩ := nn_ d3; obtain ⟨x7, x8⟩ := nn_ d4; obtain ⟨x9, y0⟩ := nn_ X
      obtain ⟨y1, y2, y3, y4, y5, y6⟩ := bc3_ d
      try go_wp2
      replace o := rd_ o; replace l := bd_ l; replace m := bd_ m; replace g := bd_ g; replace d := bd_ d; replace HB := hd_ HB
      refine start_ (n := 14) (S := fun w' => w'.cell? ⟨J, 0, none⟩ = some (A) ∧ w'.cell? ⟨q, 0, none⟩ = some (.string ((rd_T99 a c).f0)) ∧ w'.cell? ⟨q, 1, none⟩ = some (.string ((rd_T99 a c).f1)) ∧ w'.cell? ⟨q, 2, none⟩ = some (.int .i64 ((rd_T99 a c).f2))) (ds := [13]) (bm 14 0) (by kernel_rfl) rfl (by kernel_rfl) ⟨bl_ g 0, bl_ d 0, bl_ d 1, bl_ d 2⟩ (fun hHeld => ?_); refine with_tabW spec_LoseDisk.tab15 spec_LoseDisk.bits15 (fun HT_ HW_ => ?_)
      generalize wc.drew = p1 at o l m g d HB hHeld ⊢
      refine pz_ 0 49 14 1 ?_; refine pz_ 2 51 14 5 ?_; refine pz_ 4 53 14 21 ?_; refine pz_ 6 55 14 85 ?_; refine pz_ 8 57 14 341 ?_; refine tz4_ 1 50 14 343 ?_; refine tz4_ 3 52 14 351 ?_; refine tz4_ 5 54 14 383 ?_; refine pz_ 7 56 14 511 ?_; refine pz_ 9 58 14 1023 ?_
      refine o1_ 10 (some 59) 14 2047 (fun K hK => ?_)
      refine value_ (w1 := ?_) (v := ?_) (by rfl) rfl ?_ ?_
      rotate_left 2
      ·go_simp
       constructor
       ·rfl
       rfl
      refine hK.out _ _ ⟨(blk_cell (blk_alloc g.out _) 0).trans rfl, (blk_cell (blk_alloc d.out _) 0).trans rfl, (blk_cell (blk_alloc d.out _) 1).trans rfl, (blk_cell (blk_alloc d.out _) 2).trans rfl⟩ (fun hHeld => ?_)
      clear hK K
      refine nm_ 59 ?_
      refine o1_ 11 (some 60) 14 4095 (fun K hK => ?_)
      refine Kd.R_append_step k99 (w0 := w) w.heap.size (by rfl) (.tmp 50) (.tmp 59) 42 99 (.agg #[(.string ⟨#[]⟩), (.string ⟨#[]⟩), (.int .i64 0)]) 40 rfl Try.underlying42 info99 rfl (by decide) (by omega) A D (⟨((rd_T99 a c).f0), ((rd_T99 a c).f1), (((rd_T99 a c).f1).size : Int)⟩ : S99) [.string ((rd_T99 a c).f0), .string ((rd_T99 a c).f1), .int .i64 (((rd_T99 a c).f1).size : Int)] (fun k_ => k_ ≠ q) (fun _ => False) rfl rfl ?aP (fun _ hk => hk.elim) ?aF ?aO ?aB ?aS ?aL ?_
      (case aP => exact k99_mkM _ _ _ (⟨((rd_T99 a c).f0), ((rd_T99 a c).f1), (((rd_T99 a c).f1).size : Int)⟩ : S99))
      (case aB => exact qB_)
      (case aF => exact (fun k_ hk => Kd.freshB (qk_ d) k_ hk))
      (case aO => exact (qR_ o))
      (case aS => exact (below_size qB_))
      (case aL => have := b4.out; omega)
      intro y7 g7 ho hb hg hat
      rw [← b5.out] at ho
      have k2 := am_ (ho); replace l := am_ (blk_grown (qk_ l) hg (Kd.R_ne o.out l.out (by decide))); replace m := am_ (blk_grown (qk_ m) hg (Kd.R_ne o.out m.out (by decide))); replace g := am_ (blk_grown (qk_ g) hg (Kd.R_ne o.out g.out (by decide))); replace d := am_ (blk_grown (qk_ d) hg (Kd.R_away o.out (fun _ hk => hk))); replace HB := am_ (hb); clear o ho hb hg hat
      obtain ⟨k3, k4, k5⟩ := Kd.R_slice k2.out
      (first | subst k5 | (injection k5 with y F z; have G := y.symm; have I := z.symm; clear y F z; subst G; subst I))
      refine hK.out _ _ ⟨bl_ g 0, bl_ d 0, bl_ d 1, bl_ d 2⟩ (fun hHeld => ?_)
      clear hK K
      refine nm_ 60 ?_
      refine pz_ 12 61 14 8191 ?_
      refine last_ (i := 13) (N := none) (bm 14 16383) rfl rfl (one_of HT_.out (by kernel_rfl)) (by decide) (fun K hK => ?_)
      have k6 : g7.cell? ⟨J, 0, none⟩ = some (A) := bl_ g 0
      have g8 := blk_frozen g.out 0
      have y8 := c5.out; have y9 := e1.out; have z0 := X.out; have z1 := d1.out; have z2 := c6.out; have z3 := e2.out
      refine skip_ (w1 := ?_) (by rfl) rfl ?_ ?_
      rotate_left
      ·go_simp
       rfl
      refine hK.out _ _ ?_
      clear hK K
      refine done_ (done_of HT_.out (by kernel_rfl)) ?_
      try go_wp2
      go_roundg kj15
      case measure => have := HK1.out; have := a3.out; omega
      case rel => exact ⟨(wrap64 (c + 1)), (g6), (.slice k3 g6.length k4), qe_, H', ⟨by have := HK1.out; have := a3.out; omega⟩, ⟨by (with_reducible repeat (first | apply Kd.R_alloc | apply Kd.R_drewN | apply Kd.R_drew)); exact Kd.R_mono (Kd.R_far (p := ⟨J, 0, none⟩) (Kd.R_types k2.out g.out (by decide)) (fun _ hk => hk.2) (.slice k3 g6.length k4)) (fun _ hk => trivial)⟩, ⟨qf_ l⟩, ⟨qf_ m⟩, ⟨qp_ g⟩, ⟨qB_⟩⟩
     have a7 : decide ((((rd_T99 a c).f1).size : Int) < j) = false := decide_eq_false Y
     clear Y
     refine ic_ H ?_ ?_ <;> clear H <;> intro g9 H
     ·refine jg_ H ?_; clear H; intro b6 H
      have h0 := eq_true b6
      have h1 := decide_eq_true b6
      clear b6
      refine jg_ H ?_; clear H; intro b7 H
      have h2 := eq_true b7
      have h3 := decide_eq_true b7
      clear b7
      refine jg_ H ?_; clear H; intro d8 H
      have b8 := am_ d8
      clear d8
      generalize U : (D ++ [(⟨((rd_T99 a c).f0), ((rd_T99 a c).f1).extract 0 (((rd_T99 a c).f2) : Int).toNat, ((rd_T99 a c).f2)⟩ : S99)]) = h4 at H; replace H := bh_ H; have b9 := am_ U.symm; clear U; have H' := am_ H; clear H; obtain ⟨z4, z5⟩ := nn_ d3; obtain ⟨z6, z7⟩ := nn_ d4; obtain ⟨z8, z9⟩ := nn_ X
      obtain ⟨A0, A1, A2, A3, A4, A5⟩ := bc3_ d
      try go_wp2
      replace o := rd_ o; replace l := bd_ l; replace m := bd_ m; replace g := bd_ g; replace d := bd_ d; replace HB := hd_ HB
      refine start_ (n := 14) (S := fun w' => w'.cell? ⟨J, 0, none⟩ = some (A) ∧ w'.cell? ⟨q, 0, none⟩ = some (.string ((rd_T99 a c).f0)) ∧ w'.cell? ⟨q, 1, none⟩ = some (.string ((rd_T99 a c).f1)) ∧ w'.cell? ⟨q, 2, none⟩ = some (.int .i64 ((rd_T99 a c).f2))) (ds := [13]) (bm 14 0) (by kernel_rfl) rfl (by kernel_rfl) ⟨bl_ g 0, bl_ d 0, bl_ d 1, bl_ d 2⟩ (fun hHeld => ?_); refine with_tabW spec_LoseDisk.tab15 spec_LoseDisk.bits15 (fun HT_ HW_ => ?_)
      generalize wc.drew = p2 at o l m g d HB hHeld ⊢
      refine pz_ 0 49 14 1 ?_; refine pz_ 2 51 14 5 ?_; refine pz_ 4 53 14 21 ?_; refine pz_ 6 55 14 85 ?_; refine pz_ 8 57 14 341 ?_; refine tz4_ 1 50 14 343 ?_; refine tz4_ 3 52 14 351 ?_; refine tz4_ 5 54 14 383 ?_; refine pz_ 7 56 14 511 ?_; refine pz_ 9 58 14 1023 ?_
      refine o1_ 10 (some 59) 14 2047 (fun K hK => ?_)
      refine value_ (w1 := ?_) (v := ?_) (by rfl) rfl ?_ ?_
      rotate_left 2
      ·go_simp
       constructor
       ·rfl
       rfl
      refine hK.out _ _ ⟨(blk_cell (blk_alloc g.out _) 0).trans rfl, (blk_cell (blk_alloc d.out _) 0).trans rfl, (blk_cell (blk_alloc d.out _) 1).trans rfl, (blk_cell (blk_alloc d.out _) 2).trans rfl⟩ (fun hHeld => ?_)
      clear hK K
      refine nm_ 59 ?_
      refine o1_ 11 (some 60) 14 4095 (fun K hK => ?_)
      refine Kd.R_append_step k99 (w0 := w) w.heap.size (by rfl) (.tmp 50) (.tmp 59) 42 99 (.agg #[(.string ⟨#[]⟩), (.string ⟨#[]⟩), (.int .i64 0)]) 40 rfl Try.underlying42 info99 rfl (by decide) (by omega) A D (⟨((rd_T99 a c).f0), ((rd_T99 a c).f1).extract 0 (((rd_T99 a c).f2) : Int).toNat, ((rd_T99 a c).f2)⟩ : S99) [.string ((rd_T99 a c).f0), .string (((rd_T99 a c).f1).extract 0 (((rd_T99 a c).f2) : Int).toNat), .int .i64 ((rd_T99 a c).f2)] (fun k_ => k_ ≠ q) (fun _ => False) rfl rfl ?aP (fun _ hk => hk.elim) ?aF ?aO ?aB ?aS ?aL ?_
      (case aP => exact k99_mkM _ _ _ (⟨((rd_T99 a c).f0), ((rd_T99 a c).f1).extract 0 (((rd_T99 a c).f2) : Int).toNat, ((rd_T99 a c).f2)⟩ : S99))
      (case aB => exact qB_)
      (case aF => exact (fun k_ hk => Kd.freshB (qk_ d) k_ hk))
      (case aO => exact (qR_ o))
      (case aS => exact (below_size qB_))
      (case aL => have := b8.out; omega)
      intro A6 h5 ho hb hg hat
      rw [← b9.out] at ho
      have k7 := am_ (ho); replace l := am_ (blk_grown (qk_ l) hg (Kd.R_ne o.out l.out (by decide))); replace m := am_ (blk_grown (qk_ m) hg (Kd.R_ne o.out m.out (by decide))); replace g := am_ (blk_grown (qk_ g) hg (Kd.R_ne o.out g.out (by decide))); replace d := am_ (blk_grown (qk_ d) hg (Kd.R_away o.out (fun _ hk => hk))); replace HB := am_ (hb); clear o ho hb hg hat
      obtain ⟨k8, k9, l2⟩ := Kd.R_slice k7.out
      (first | subst l2 | (injection l2 with y F z; have G := y.symm; have I := z.symm; clear y F z; subst G; subst I))
      refine hK.out _ _ ⟨bl_ g 0, bl_ d 0, bl_ d 1, bl_ d 2⟩ (fun hHeld => ?_)
      clear hK K
      refine nm_ 60 ?_
      refine pz_ 12 61 14 8191 ?_
      refine last_ (i := 13) (N := none) (bm 14 16383) rfl rfl (one_of HT_.out (by kernel_rfl)) (by decide) (fun K hK => ?_)
      have l3 : h5.cell? ⟨J, 0, none⟩ = some (A) := bl_ g 0
      have h6 := blk_frozen g.out 0
      have A7 := c5.out; have A8 := e1.out; have A9 := X.out; have B1 := d1.out; have B8 := c6.out; have B9 := e2.out
      refine skip_ (w1 := ?_) (by rfl) rfl ?_ ?_
      rotate_left
      ·go_simp
       rfl
      refine hK.out _ _ ?_
      clear hK K
      refine done_ (done_of HT_.out (by kernel_rfl)) ?_
      try go_wp2
      go_roundg kj15
      case measure => have := HK1.out; have := a3.out; omega
      case rel => exact ⟨(wrap64 (c + 1)), (h4), (.slice k8 h4.length k9), qe_, H', ⟨by have := HK1.out; have := a3.out; omega⟩, ⟨by (with_reducible repeat (first | apply Kd.R_alloc | apply Kd.R_drewN | apply Kd.R_drew)); exact Kd.R_mono (Kd.R_far (p := ⟨J, 0, none⟩) (Kd.R_types k7.out g.out (by decide)) (fun _ hk => hk.2) (.slice k8 h4.length k9)) (fun _ hk => trivial)⟩, ⟨qf_ l⟩, ⟨qf_ m⟩, ⟨qp_ g⟩, ⟨qB_⟩⟩
     refine jg_ H ?_; clear H; intro c0 H
     have h7 := eq_true c0
     have h8 := decide_eq_true c0
     clear c0
     refine jg_ H ?_; clear H; intro c1 H
     have h9 := eq_true c1
     have i0 := decide_eq_true c1
     clear c1
     refine jg_ H ?_; clear H; intro d9 H
     have c2 := am_ d9
     clear d9
     generalize V : (D ++ [(⟨((rd_T99 a c).f0), ((rd_T99 a c).f1).extract 0 (j : Int).toNat, j⟩ : S99)]) = i1 at H; replace H := bh_ H; have c3 := am_ V.symm; clear V; have H' := am_ H; clear H; obtain ⟨C0, C1⟩ := nn_ d3; obtain ⟨C2, C3⟩ := nn_ d4; obtain ⟨C4, C5⟩ := nn_ X
     obtain ⟨C6, C7, C8, C9, D0, D1⟩ := bc3_ d
     try go_wp2
     replace o := rd_ o; replace l := bd_ l; replace m := bd_ m; replace g := bd_ g; replace d := bd_ d; replace HB := hd_ HB
     refine start_ (n := 14) (S := fun w' => w'.cell? ⟨J, 0, none⟩ = some (A) ∧ w'.cell? ⟨q, 0, none⟩ = some (.string ((rd_T99 a c).f0)) ∧ w'.cell? ⟨q, 1, none⟩ = some (.string ((rd_T99 a c).f1)) ∧ w'.cell? ⟨q, 2, none⟩ = some (.int .i64 ((rd_T99 a c).f2))) (ds := [13]) (bm 14 0) (by kernel_rfl) rfl (by kernel_rfl) ⟨bl_ g 0, bl_ d 0, bl_ d 1, bl_ d 2⟩ (fun hHeld => ?_); refine with_tabW spec_LoseDisk.tab15 spec_LoseDisk.bits15 (fun HT_ HW_ => ?_)
     generalize wc.drew = p3 at o l m g d HB hHeld ⊢
     refine pz_ 0 49 14 1 ?_; refine pz_ 2 51 14 5 ?_; refine pz_ 4 53 14 21 ?_; refine pz_ 6 55 14 85 ?_; refine pz_ 8 57 14 341 ?_; refine tz4_ 1 50 14 343 ?_; refine tz4_ 3 52 14 351 ?_; refine tz4_ 5 54 14 383 ?_; refine pz_ 7 56 14 511 ?_; refine pz_ 9 58 14 1023 ?_
     refine o1_ 10 (some 59) 14 2047 (fun K hK => ?_)
     refine value_ (w1 := ?_) (v := ?_) (by rfl) rfl ?_ ?_
     rotate_left 2
     ·go_simp
      constructor
      ·rfl
      rfl
     refine hK.out _ _ ⟨(blk_cell (blk_alloc g.out _) 0).trans rfl, (blk_cell (blk_alloc d.out _) 0).trans rfl, (blk_cell (blk_alloc d.out _) 1).trans rfl, (blk_cell (blk_alloc d.out _) 2).trans rfl⟩ (fun hHeld => ?_)
     clear hK K
     refine nm_ 59 ?_
     refine o1_ 11 (some 60) 14 4095 (fun K hK => ?_)
     refine Kd.R_append_step k99 (w0 := w) w.heap.size (by rfl) (.tmp 50) (.tmp 59) 42 99 (.agg #[(.string ⟨#[]⟩), (.string ⟨#[]⟩), (.int .i64 0)]) 40 rfl Try.underlying42 info99 rfl (by decide) (by omega) A D (⟨((rd_T99 a c).f0), ((rd_T99 a c).f1).extract 0 (j : Int).toNat, j⟩ : S99) [.string ((rd_T99 a c).f0), .string (((rd_T99 a c).f1).extract 0 (j : Int).toNat), .int .i64 j] (fun k_ => k_ ≠ q) (fun _ => False) rfl rfl ?aP (fun _ hk => hk.elim) ?aF ?aO ?aB ?aS ?aL ?_
     (case aP => exact k99_mkM _ _ _ (⟨((rd_T99 a c).f0), ((rd_T99 a c).f1).extract 0 (j : Int).toNat, j⟩ : S99))
     (case aB => exact qB_)
     (case aF => exact (fun k_ hk => Kd.freshB (qk_ d) k_ hk))
     (case aO => exact (qR_ o))
     (case aS => exact (below_size qB_))
     (case aL => have := c2.out; omega)
     intro D2 i2 ho hb hg hat
     rw [← c3.out] at ho
     have l4 := am_ (ho); replace l := am_ (blk_grown (qk_ l) hg (Kd.R_ne o.out l.out (by decide))); replace m := am_ (blk_grown (qk_ m) hg (Kd.R_ne o.out m.out (by decide))); replace g := am_ (blk_grown (qk_ g) hg (Kd.R_ne o.out g.out (by decide))); replace d := am_ (blk_grown (qk_ d) hg (Kd.R_away o.out (fun _ hk => hk))); replace HB := am_ (hb); clear o ho hb hg hat
     obtain ⟨l5, l6, l7⟩ := Kd.R_slice l4.out
     (first | subst l7 | (injection l7 with y F z; have G := y.symm; have I := z.symm; clear y F z; subst G; subst I))
     refine hK.out _ _ ⟨bl_ g 0, bl_ d 0, bl_ d 1, bl_ d 2⟩ (fun hHeld => ?_)
     clear hK K
     refine nm_ 60 ?_
     refine pz_ 12 61 14 8191 ?_
     refine last_ (i := 13) (N := none) (bm 14 16383) rfl rfl (one_of HT_.out (by kernel_rfl)) (by decide) (fun K hK => ?_)
     have l8 : i2.cell? ⟨J, 0, none⟩ = some (A) := bl_ g 0
     have i3 := blk_frozen g.out 0
     have D3 := c5.out; have D4 := e1.out; have D5 := X.out; have D6 := d1.out; have D7 := c6.out; have D8 := e2.out
     refine skip_ (w1 := ?_) (by rfl) rfl ?_ ?_
     rotate_left
     ·go_simp
      rfl
     refine hK.out _ _ ?_
     clear hK K
     refine done_ (done_of HT_.out (by kernel_rfl)) ?_
     try go_wp2
     go_roundg kj15
     case measure => have := HK1.out; have := a3.out; omega
     case rel => exact ⟨(wrap64 (c + 1)), (i1), (.slice l5 i1.length l6), qe_, H', ⟨by have := HK1.out; have := a3.out; omega⟩, ⟨by (with_reducible repeat (first | apply Kd.R_alloc | apply Kd.R_drewN | apply Kd.R_drew)); exact Kd.R_mono (Kd.R_far (p := ⟨J, 0, none⟩) (Kd.R_types l4.out g.out (by decide)) (fun _ hk => hk.2) (.slice l5 i1.length l6)) (fun _ hk => trivial)⟩, ⟨qf_ l⟩, ⟨qf_ m⟩, ⟨qp_ g⟩, ⟨qB_⟩⟩
end Go.Proofs.Ytacnlodcbbhahaa.QFnActs
