import Derived.Test.YtacnlodcbbhahaaQFnActsx8
namespace Go.Proofs.Ytacnlodcbbhahaa.QFnActs
open Go.RowKit Go.Proofs.YtacnlodcbbhahaaW.PrintWords Go.Proofs.YtacnlodcbbhahaaW.PrintLast Go.Proofs.YtacnlodcbbhahaaW.PrintMore
set_option maxHeartbeats 8000000
set_option maxRecDepth 100000
set_option linter.unusedVariables false
set_option linter.unusedSimpArgs false
def spec_DiskOk.l0 : Nat → Int → List (S99) → Option (Bool)
  | 0, _, _ => none
  | k + 1, x3, x147000 => if x3 < (x147000.length : Int) then (if 0 ≤ x3 then ((spec_l03Name.f ((rd_T99 x147000 x3).f0)).bind fun t149 => (if t149 = true then (if (((rd_T99 x147000 x3).f1).size : Int) > 20000 then (some false) else ((spec_l01In.f ((rd_T99 x147000 x3).f2) 0 (((rd_T99 x147000 x3).f1).size : Int)).bind fun t150 => (if t150 = true then (if x3 > 0 then (if 0 ≤ (wrap64 (x3 - 1)) then (if (wrap64 (x3 - 1)) < (x147000.length : Int) then (if ((Op.bytesLess (((rd_T99 x147000 (wrap64 (x3 - 1))).f0).toList) (((rd_T99 x147000 x3).f0).toList)) = true) then (spec_DiskOk.l0 k (wrap64 (x3 + 1)) x147000) else (some false)) else (none)) else (none)) else (spec_DiskOk.l0 k (wrap64 (x3 + 1)) x147000)) else (some false)))) else (some false))) else (none)) else (some true)
def spec_DiskOk.f (k : Nat) (l0_0 : List (S99)) : Option (Bool) := if (l0_0.length : Int) > 30 then (some false) else (spec_DiskOk.l0 k 0 l0_0)
def spec_DiskOk.T7 : Bool × List (List Nat × List Nat) := (true, [([], []), ([0], [0]), ([1], [1]), ([2], [2]), ([3, 2], [3]), ([4], [4]), ([5, 4], [4, 5]), ([6, 4], [4, 6]), ([7, 4], [4, 7]), ([4, 8], [4, 8]), ([9, 4], [9]), ([10], [10]), ([11, 10], [10, 11]), ([10], [10]), ([13, 10], [10, 13]), ([14, 10], [10, 14]), ([12, 15, 10, 10], [10, 12, 15]), ([16, 10], [10, 16]), ([10, 17], [10, 17]), ([18, 16], [18]), ([19], [19]), ([20, 19], [19, 20]), ([21, 19, 19], [19, 21]), ([22], [22]), ([23, 22], [22, 23]), ([22], [22]), ([25, 22], [22, 25]), ([24, 26, 22], [22, 24, 26]), ([27, 22], [22, 27]), ([28, 22], [22, 28]), ([22], [22]), ([30, 22], [22, 30]), ([29, 31, 22], [22, 29, 31]), ([22, 32, 19], [19, 22, 32]), ([19, 33], [19, 33])])
def spec_DiskOk.B7 : List Nat := [0, 1, 3, 7, 15, 31, 63, 127, 255, 511, 1023, 2047, 4095, 2047, 10239, 26623, 65535, 131071, 262143, 524287, 1048575, 2097151, 4194303, 8388607, 16777215, 8388607, 41943039, 134217727, 268435455, 536870911, 8388607, 1082130431, 4294967295, 8589934591, 17179869183]
theorem spec_DiskOk.tab7 : rtab .any (opsOf Try.f75 7) = spec_DiskOk.T7 := by kernel_rfl
theorem spec_DiskOk.bits7 : waitsOk spec_DiskOk.T7.2 spec_DiskOk.B7 = true := by kernel_rfl
theorem spec_DiskOk.calls (k : Nat) (z : Option Addr) (q : Nat) (a : List (S99)) (r : Bool) (w : World) (hr0_0 : Kd.C k99 w z a.length a) (hc0_0 : a.length ≤ q) (h : spec_DiskOk.f k a = some r) :
  Calls Try.prog 75 #[.agg #[.slice z a.length q]] w fun e w' => e = .returned (.bool r) ∧ Below w.heap.size w w' := by
 have hu44 := Try.underlying44; have hu99 := Try.underlying99
 have s := am_ hr0_0
 have b6 := am_ hc0_0
 clear hr0_0 hc0_0
 have HB := am_ (Below.refl w.heap.size w)
 rw [spec_DiskOk.f] at h; have H := h; clear h
 refine jc_ H ?_ ?_ <;> clear H <;> intro b3 H
 ·have a3 : decide (30 < (a.length : Int)) = true := decide_eq_true b3
  have a4 : decide (30 < a.length) = true := decide_eq_true (by omega)
  clear b3
  obtain rfl := oi_ H
  go_enter Try.func75, Try.ntmps75
  go_wp2_with (first | ((with_reducible refine gd_ 1 ?_); ((refine gate_guard (by rfl) ?_; dsimp only)); refine by_ 1 (cs := #[.slice z a.length q]) (t := 44) ?_; intro M hg d9 l hb; have c8 := gw_ hg; replace HB := hs_ hb; clear hb hg; obtain ⟨c9, d0⟩ := bc1_ l))
  go_ret
  exact ⟨qr_, qB_⟩
 have a3 : decide (30 < (a.length : Int)) = false := decide_eq_false b3
 have a4 : decide (30 < a.length) = false := decide_eq_false (by omega)
 clear b3; have H' := am_ H; clear H
 go_enter Try.func75, Try.ntmps75
 go_wp2_with (first | ((with_reducible refine gd_ 1 ?_); ((refine gate_guard (by rfl) ?_; dsimp only)); refine by_ 1 (cs := #[.slice z a.length q]) (t := 44) ?_; intro M hg e0 l hb; have c8 := gw_ hg; replace HB := hs_ hb; clear hb hg; obtain ⟨d1, d2⟩ := bc1_ l))
 go_loopg [3] k (fun kq v3 w' => ∃ (c : Int), v3 = .int .i64 c ∧ Aside0 (spec_DiskOk.l0 kq c a = some r) ∧ Aside0 (kq ≤ k) ∧ Aside0 (w'.heap[M]? = some (.cells #[(.slice z a.length q)] 44 (0, 0))) ∧ Aside0 (Below w.heap.size w w'))
 case atStart => exact ⟨(0), qe_, H', ⟨Nat.le_refl _⟩, ⟨qk_ l⟩, ⟨qB_⟩⟩
 case round =>
  clear H' a3 a4 d1 d2
  obtain ⟨c, rfl, HA, HK1, l, HB⟩ := hrel
  cases gk with
  | zero => exact absurd HA.out (by simp [spec_DiskOk.l0])
  | succ c5 =>
   have H := HA.out; clear HA
   simp only [spec_DiskOk.l0] at H
   refine ib_ H ?_ ?_ <;> clear H <;> intro c6 H
   ·obtain rfl := oi_ H
    obtain ⟨e2, e3⟩ := bc1_ l
    go_wp2
    go_ret
    exact ⟨qr_, qB_⟩
   refine ig_ H ?_; clear H; intro c7 H
   obtain ⟨e4, a5, H⟩ := bs_ H
   refine id_ H ?_ ?_ <;> clear H <;> rintro rfl H
   ·obtain rfl := oi_ H
    obtain ⟨e5, e6⟩ := bc1_ l
    have u := dt_ c
    have v := du_ c a.length
    obtain ⟨d, x, A, B, D⟩ := at_T99 s.out c (ot_ u) (ot_ v)
    cases x
    replace A := qx_ HB A
    replace B := qx_ HB B
    replace D := qx_ HB D
    try go_wp2_with (first | ((with_reducible refine gd_ 4 ?_); ((refine gate_guard (by rfl) ?_; dsimp only)); refine by_ 4 (cs := #[.string (⟨#[]⟩ : ByteArray), .string (⟨#[]⟩ : ByteArray), .int .i64 0]) (t := 99) ?_; intro g hg N i hb; have b4 := gw_ hg; obtain ⟨b5, F⟩ := qn_ l hg; replace l := qbl_ l hb; replace HB := hs_ hb; clear hb hg; obtain ⟨e7, e8⟩ := nn_ F; obtain ⟨e9, f3, f4, f5, f6, f7⟩ := bc3_ i))
    have m : Aside0 ((((N.setCell ⟨g, 0, none⟩ (.string ((rd_T99 a c).f0))).setCell ⟨g, 1, none⟩ (.string ((rd_T99 a c).f1))).setCell ⟨g, 2, none⟩ (.int .i64 ((rd_T99 a c).f2))).heap[M]? = some (.cells #[.slice (some d) a.length q] 44 (0, 0))) := ⟨qf_ l⟩
    have o : Aside0 ((((N.setCell ⟨g, 0, none⟩ (.string ((rd_T99 a c).f0))).setCell ⟨g, 1, none⟩ (.string ((rd_T99 a c).f1))).setCell ⟨g, 2, none⟩ (.int .i64 ((rd_T99 a c).f2))).heap[g]? = some (.cells #[.string ((rd_T99 a c).f0), .string ((rd_T99 a c).f1), .int .i64 ((rd_T99 a c).f2)] 99 (0, 0))) := ⟨qp_ i⟩
    have p : Aside0 (Below w.heap.size w (((N.setCell ⟨g, 0, none⟩ (.string ((rd_T99 a c).f0))).setCell ⟨g, 1, none⟩ (.string ((rd_T99 a c).f1))).setCell ⟨g, 2, none⟩ (.int .i64 ((rd_T99 a c).f2)))) := ⟨qB_⟩
    clear l i HB
    generalize (((N.setCell ⟨g, 0, none⟩ (.string ((rd_T99 a c).f0))).setCell ⟨g, 1, none⟩ (.string ((rd_T99 a c).f1))).setCell ⟨g, 2, none⟩ (.int .i64 ((rd_T99 a c).f2))) = b7 at m o p ⊢
    have l := m; have i := o; have HB := p; clear m o p
    replace l := bd_ l; replace i := bd_ i; replace HB := hd_ HB
    refine start_ (n := 35) (S := fun w' => w'.cell? ⟨g, 0, none⟩ = some (.string ((rd_T99 a c).f0)) ∧ w'.cell? ⟨g, 1, none⟩ = some (.string ((rd_T99 a c).f1)) ∧ w'.cell? ⟨g, 2, none⟩ = some (.int .i64 ((rd_T99 a c).f2))) (ds := []) (bm 35 0) (by kernel_rfl) rfl (by kernel_rfl) ⟨bl_ i 0, bl_ i 1, bl_ i 2⟩ (fun hHeld => ?_); refine with_tabW spec_DiskOk.tab7 spec_DiskOk.bits7 (fun HT_ HW_ => ?_)
    generalize b7.drew = d3 at l i HB hHeld ⊢
    refine pz_ 0 21 35 1 ?_; refine tz3_ 1 22 35 3 ?_
    refine o1_ 2 (some 23) 35 7 (fun K hK => ?_)
    refine gs_ Try.func82 #[.string ((rd_T99 a c).f0)] ?_
    with_reducible refine (spec_l03Name.calls ((rd_T99 a c).f0) false _ a5.out).mono ?_
    rintro e w' ⟨rfl, ⟨nd, rfl⟩⟩
    refine ⟨_, rfl, ?_⟩
    refine hK.out _ _ ⟨bl_ i 0, bl_ i 1, bl_ i 2⟩ (fun hHeld => ?_)
    clear hK K
    refine nm_ 23 ?_
    refine pz_ 3 24 35 15 ?_; refine pz_ 4 25 35 31 ?_
    refine pu_ 5 26 35 63 ?_
    refine pu_ 6 27 35 127 ?_
    refine pu_ 7 28 35 255 ?_
    refine pu_ 8 29 35 511 ?_
    refine pz_ 9 30 35 1023 ?_; refine pz_ 10 31 35 2047 ?_
    refine pu_ 11 32 35 4095 ?_
    refine pu_ 12 33 35 8191 ?_
    refine pu_ 13 34 35 16383 ?_
    refine pu_ 14 35 35 32767 ?_
    refine pu_ 15 36 35 65535 ?_
    refine pu_ 16 37 35 131071 ?_
    refine pu_ 17 38 35 262143 ?_
    refine pz_ 18 39 35 524287 ?_; refine pz_ 19 40 35 1048575 ?_
    refine pu_ 20 41 35 2097151 ?_
    refine pu_ 21 42 35 4194303 ?_
    refine pu_ 22 43 35 8388607 ?_
    refine pu_ 23 44 35 16777215 ?_
    refine pu_ 24 45 35 33554431 ?_
    refine pu_ 25 46 35 67108863 ?_
    refine pu_ 26 47 35 134217727 ?_
    refine pu_ 27 48 35 268435455 ?_
    refine pu_ 28 49 35 536870911 ?_
    refine pu_ 29 50 35 1073741823 ?_
    refine pu_ 30 51 35 2147483647 ?_
    refine pu_ 31 52 35 4294967295 ?_
    refine pu_ 32 53 35 8589934591 ?_
    refine pu_ 33 54 35 17179869183 ?_
    refine pz_ 34 55 35 34359738367 ?_
    refine done_ (done_of HT_.out (by kernel_rfl)) ?_
    try go_wp2
    go_ret
    exact ⟨qr_, qB_⟩
   refine jc_ H ?_ ?_ <;> clear H <;> intro O H
   ·have a6 : decide (20000 < (((rd_T99 a c).f1).size : Int)) = true := decide_eq_true O
    have a7 : decide (20000 < ((rd_T99 a c).f1).size) = true := decide_eq_true (by omega)
    clear O
    obtain rfl := oi_ H
    obtain ⟨f8, f9⟩ := bc1_ l
    have u := dt_ c
    have v := du_ c a.length
    obtain ⟨d, x, A, B, D⟩ := at_T99 s.out c (ot_ u) (ot_ v)
    cases x
    replace A := qx_ HB A
    replace B := qx_ HB B
    replace D := qx_ HB D
    try go_wp2_with (first | ((with_reducible refine gd_ 4 ?_); ((refine gate_guard (by rfl) ?_; dsimp only)); refine by_ 4 (cs := #[.string (⟨#[]⟩ : ByteArray), .string (⟨#[]⟩ : ByteArray), .int .i64 0]) (t := 99) ?_; intro g hg R i hb; have b4 := gw_ hg; obtain ⟨b5, F⟩ := qn_ l hg; replace l := qbl_ l hb; replace HB := hs_ hb; clear hb hg; obtain ⟨g0, g1⟩ := nn_ F; obtain ⟨g2, g3, g4, g5, g6, g7⟩ := bc3_ i))
    have m : Aside0 ((((R.setCell ⟨g, 0, none⟩ (.string ((rd_T99 a c).f0))).setCell ⟨g, 1, none⟩ (.string ((rd_T99 a c).f1))).setCell ⟨g, 2, none⟩ (.int .i64 ((rd_T99 a c).f2))).heap[M]? = some (.cells #[.slice (some d) a.length q] 44 (0, 0))) := ⟨qf_ l⟩
    have o : Aside0 ((((R.setCell ⟨g, 0, none⟩ (.string ((rd_T99 a c).f0))).setCell ⟨g, 1, none⟩ (.string ((rd_T99 a c).f1))).setCell ⟨g, 2, none⟩ (.int .i64 ((rd_T99 a c).f2))).heap[g]? = some (.cells #[.string ((rd_T99 a c).f0), .string ((rd_T99 a c).f1), .int .i64 ((rd_T99 a c).f2)] 99 (0, 0))) := ⟨qp_ i⟩
    have p : Aside0 (Below w.heap.size w (((R.setCell ⟨g, 0, none⟩ (.string ((rd_T99 a c).f0))).setCell ⟨g, 1, none⟩ (.string ((rd_T99 a c).f1))).setCell ⟨g, 2, none⟩ (.int .i64 ((rd_T99 a c).f2)))) := ⟨qB_⟩
    clear l i HB
    generalize (((R.setCell ⟨g, 0, none⟩ (.string ((rd_T99 a c).f0))).setCell ⟨g, 1, none⟩ (.string ((rd_T99 a c).f1))).setCell ⟨g, 2, none⟩ (.int .i64 ((rd_T99 a c).f2))) = b8 at m o p ⊢
    have l := m; have i := o; have HB := p; clear m o p
    replace l := bd_ l; replace i := bd_ i; replace HB := hd_ HB
    refine start_ (n := 35) (S := fun w' => w'.cell? ⟨g, 0, none⟩ = some (.string ((rd_T99 a c).f0)) ∧ w'.cell? ⟨g, 1, none⟩ = some (.string ((rd_T99 a c).f1)) ∧ w'.cell? ⟨g, 2, none⟩ = some (.int .i64 ((rd_T99 a c).f2))) (ds := []) (bm 35 0) (by kernel_rfl) rfl (by kernel_rfl) ⟨bl_ i 0, bl_ i 1, bl_ i 2⟩ (fun hHeld => ?_); refine with_tabW spec_DiskOk.tab7 spec_DiskOk.bits7 (fun HT_ HW_ => ?_)
    generalize b8.drew = d4 at l i HB hHeld ⊢
    refine pz_ 0 21 35 1 ?_; refine tz3_ 1 22 35 3 ?_
    refine o1_ 2 (some 23) 35 7 (fun K hK => ?_)
    refine gs_ Try.func82 #[.string ((rd_T99 a c).f0)] ?_
    with_reducible refine (spec_l03Name.calls ((rd_T99 a c).f0) true _ a5.out).mono ?_
    rintro e w' ⟨rfl, ⟨nd, rfl⟩⟩
    refine ⟨_, rfl, ?_⟩
    refine hK.out _ _ ⟨bl_ i 0, bl_ i 1, bl_ i 2⟩ (fun hHeld => ?_)
    clear hK K
    refine nm_ 23 ?_
    refine pz_ 3 24 35 15 ?_; refine pz_ 4 25 35 31 ?_; refine pz_ 5 26 35 63 ?_; refine tz3_ 6 27 35 127 ?_; refine pz_ 7 28 35 255 ?_; refine pz_ 8 29 35 511 ?_; refine pz_ 9 30 35 1023 ?_; refine pz_ 10 31 35 2047 ?_
    refine pu_ 11 32 35 4095 ?_
    refine pu_ 12 33 35 8191 ?_
    refine pu_ 13 34 35 16383 ?_
    refine pu_ 14 35 35 32767 ?_
    refine pu_ 15 36 35 65535 ?_
    refine pu_ 16 37 35 131071 ?_
    refine pu_ 17 38 35 262143 ?_
    refine pz_ 18 39 35 524287 ?_; refine pz_ 19 40 35 1048575 ?_
    refine pu_ 20 41 35 2097151 ?_
    refine pu_ 21 42 35 4194303 ?_
    refine pu_ 22 43 35 8388607 ?_
    refine pu_ 23 44 35 16777215 ?_
    refine pu_ 24 45 35 33554431 ?_
    refine pu_ 25 46 35 67108863 ?_
    refine pu_ 26 47 35 134217727 ?_
    refine pu_ 27 48 35 268435455 ?_
    refine pu_ 28 49 35 536870911 ?_
    refine pu_ 29 50 35 1073741823 ?_
    refine pu_ 30 51 35 2147483647 ?_
    refine pu_ 31 52 35 4294967295 ?_
    refine pu_ 32 53 35 8589934591 ?_
    refine pu_ 33 54 35 17179869183 ?_
    refine pz_ 34 55 35 34359738367 ?_
    refine done_ (done_of HT_.out (by kernel_rfl)) ?_
    try go_wp2
    go_ret
    exact ⟨qr_, qB_⟩
   have a6 : decide (20000 < (((rd_T99 a c).f1).size : Int)) = false := decide_eq_false O
   have a7 : decide (20000 < ((rd_T99 a c).f1).size) = false := decide_eq_false (by omega)
   clear O
   obtain ⟨g8, G, H⟩ := bs_ H
   refine id_ H ?_ ?_ <;> clear H <;> rintro rfl H
   ·obtain rfl := oi_ H
    obtain ⟨g9, h0⟩ := bc1_ l
    have u := dt_ c
    have v := du_ c a.length
    obtain ⟨d, x, A, B, D⟩ := at_T99 s.out c (ot_ u) (ot_ v)
    cases x
    replace A := qx_ HB A
    replace B := qx_ HB B
    replace D := qx_ HB D
    try go_wp2_with (first | ((with_reducible refine gd_ 4 ?_); ((refine gate_guard (by rfl) ?_; dsimp only)); refine by_ 4 (cs := #[.string (⟨#[]⟩ : ByteArray), .string (⟨#[]⟩ : ByteArray), .int .i64 0]) (t := 99) ?_; intro g hg T i hb; have b4 := gw_ hg; obtain ⟨b5, F⟩ := qn_ l hg; replace l := qbl_ l hb; replace HB := hs_ hb; clear hb hg; obtain ⟨h1, h2⟩ := nn_ F; obtain ⟨h3, h4, h5, h6, h7, h8⟩ := bc3_ i))
    have m : Aside0 ((((T.setCell ⟨g, 0, none⟩ (.string ((rd_T99 a c).f0))).setCell ⟨g, 1, none⟩ (.string ((rd_T99 a c).f1))).setCell ⟨g, 2, none⟩ (.int .i64 ((rd_T99 a c).f2))).heap[M]? = some (.cells #[.slice (some d) a.length q] 44 (0, 0))) := ⟨qf_ l⟩
    have o : Aside0 ((((T.setCell ⟨g, 0, none⟩ (.string ((rd_T99 a c).f0))).setCell ⟨g, 1, none⟩ (.string ((rd_T99 a c).f1))).setCell ⟨g, 2, none⟩ (.int .i64 ((rd_T99 a c).f2))).heap[g]? = some (.cells #[.string ((rd_T99 a c).f0), .string ((rd_T99 a c).f1), .int .i64 ((rd_T99 a c).f2)] 99 (0, 0))) := ⟨qp_ i⟩
    have p : Aside0 (Below w.heap.size w (((T.setCell ⟨g, 0, none⟩ (.string ((rd_T99 a c).f0))).setCell ⟨g, 1, none⟩ (.string ((rd_T99 a c).f1))).setCell ⟨g, 2, none⟩ (.int .i64 ((rd_T99 a c).f2)))) := ⟨qB_⟩
    clear l i HB
    generalize (((T.setCell ⟨g, 0, none⟩ (.string ((rd_T99 a c).f0))).setCell ⟨g, 1, none⟩ (.string ((rd_T99 a c).f1))).setCell ⟨g, 2, none⟩ (.int .i64 ((rd_T99 a c).f2))) = b9 at m o p ⊢
    have l := m; have i := o; have HB := p; clear m o p
    replace l := bd_ l; replace i := bd_ i; replace HB := hd_ HB
    refine start_ (n := 35) (S := fun w' => w'.cell? ⟨g, 0, none⟩ = some (.string ((rd_T99 a c).f0)) ∧ w'.cell? ⟨g, 1, none⟩ = some (.string ((rd_T99 a c).f1)) ∧ w'.cell? ⟨g, 2, none⟩ = some (.int .i64 ((rd_T99 a c).f2))) (ds := []) (bm 35 0) (by kernel_rfl) rfl (by kernel_rfl) ⟨bl_ i 0, bl_ i 1, bl_ i 2⟩ (fun hHeld => ?_); refine with_tabW spec_DiskOk.tab7 spec_DiskOk.bits7 (fun HT_ HW_ => ?_)
    generalize b9.drew = d5 at l i HB hHeld ⊢
    refine pz_ 0 21 35 1 ?_; refine tz3_ 1 22 35 3 ?_
    refine o1_ 2 (some 23) 35 7 (fun K hK => ?_)
    refine gs_ Try.func82 #[.string ((rd_T99 a c).f0)] ?_
    with_reducible refine (spec_l03Name.calls ((rd_T99 a c).f0) true _ a5.out).mono ?_
    rintro e w' ⟨rfl, ⟨nd, rfl⟩⟩
    refine ⟨_, rfl, ?_⟩
    refine hK.out _ _ ⟨bl_ i 0, bl_ i 1, bl_ i 2⟩ (fun hHeld => ?_)
    clear hK K
    refine nm_ 23 ?_
    refine pz_ 3 24 35 15 ?_; refine pz_ 4 25 35 31 ?_; refine pz_ 5 26 35 63 ?_; refine tz3_ 6 27 35 127 ?_; refine pz_ 7 28 35 255 ?_; refine pz_ 8 29 35 511 ?_; refine pz_ 9 30 35 1023 ?_; refine pz_ 10 31 35 2047 ?_; refine pz_ 11 32 35 4095 ?_; refine pz_ 13 34 35 12287 ?_; refine tz3_ 12 33 35 16383 ?_; refine tz3_ 14 35 35 32767 ?_; refine pz_ 15 36 35 65535 ?_
    refine o1_ 16 (some 37) 35 131071 (fun K hK => ?_)
    refine gs_ Try.func64 #[.int .i64 ((rd_T99 a c).f2), .int .i64 0, .int .i64 (((rd_T99 a c).f1).size : Int)] ?_
    with_reducible refine (spec_l01In.calls ((rd_T99 a c).f2) 0 (((rd_T99 a c).f1).size : Int) false _ G.out).mono ?_
    rintro e w' ⟨rfl, ⟨nd, rfl⟩⟩
    refine ⟨_, rfl, ?_⟩
    refine hK.out _ _ ⟨bl_ i 0, bl_ i 1, bl_ i 2⟩ (fun hHeld => ?_)
    clear hK K
    refine nm_ 37 ?_
    refine pz_ 17 38 35 262143 ?_; refine pz_ 18 39 35 524287 ?_; refine pz_ 19 40 35 1048575 ?_
    refine pu_ 20 41 35 2097151 ?_
    refine pu_ 21 42 35 4194303 ?_
    refine pu_ 22 43 35 8388607 ?_
    refine pu_ 23 44 35 16777215 ?_
    refine pu_ 24 45 35 33554431 ?_
    refine pu_ 25 46 35 67108863 ?_
    refine pu_ 26 47 35 134217727 ?_
    refine pu_ 27 48 35 268435455 ?_
    refine pu_ 28 49 35 536870911 ?_
    refine pu_ 29 50 35 1073741823 ?_
    refine pu_ 30 51 35 2147483647 ?_
    refine pu_ 31 52 35 4294967295 ?_
    refine pu_ 32 53 35 8589934591 ?_
    refine pu_ 33 54 35 17179869183 ?_
    refine pz_ 34 55 35 34359738367 ?_
    refine done_ (done_of HT_.out (by kernel_rfl)) ?_
    try go_wp2
    go_ret
    exact ⟨qr_, qB_⟩
   refine jb_ H ?_ ?_ <;> clear H <;> intro U H
   ·have a8 : decide (0 < c) = false := decide_eq_false U
    clear U; have H' := am_ H; clear H
    obtain ⟨h9, i0⟩ := bc1_ l
    have u := dt_ c
    have v := du_ c a.length
    obtain ⟨d, x, A, B, D⟩ := at_T99 s.out c (ot_ u) (ot_ v)
    cases x
    replace A := qx_ HB A
    replace B := qx_ HB B
    replace D := qx_ HB D
    try go_wp2_with (first | ((with_reducible refine gd_ 4 ?_); ((refine gate_guard (by rfl) ?_; dsimp only)); refine by_ 4 (cs := #[.string (⟨#[]⟩ : ByteArray), .string (⟨#[]⟩ : ByteArray), .int .i64 0]) (t := 99) ?_; intro g hg V i hb; have b4 := gw_ hg; obtain ⟨b5, F⟩ := qn_ l hg; replace l := qbl_ l hb; replace HB := hs_ hb; clear hb hg; obtain ⟨i1, i2⟩ := nn_ F; obtain ⟨i3, i4, i5, i6, i7, i8⟩ := bc3_ i))
    have m : Aside0 ((((V.setCell ⟨g, 0, none⟩ (.string ((rd_T99 a c).f0))).setCell ⟨g, 1, none⟩ (.string ((rd_T99 a c).f1))).setCell ⟨g, 2, none⟩ (.int .i64 ((rd_T99 a c).f2))).heap[M]? = some (.cells #[.slice (some d) a.length q] 44 (0, 0))) := ⟨qf_ l⟩
    have o : Aside0 ((((V.setCell ⟨g, 0, none⟩ (.string ((rd_T99 a c).f0))).setCell ⟨g, 1, none⟩ (.string ((rd_T99 a c).f1))).setCell ⟨g, 2, none⟩ (.int .i64 ((rd_T99 a c).f2))).heap[g]? = some (.cells #[.string ((rd_T99 a c).f0), .string ((rd_T99 a c).f1), .int .i64 ((rd_T99 a c).f2)] 99 (0, 0))) := ⟨qp_ i⟩
    have p : Aside0 (Below w.heap.size w (((V.setCell ⟨g, 0, none⟩ (.string ((rd_T99 a c).f0))).setCell ⟨g, 1, none⟩ (.string ((rd_T99 a c).f1))).setCell ⟨g, 2, none⟩ (.int .i64 ((rd_T99 a c).f2)))) := ⟨qB_⟩
    clear l i HB
    generalize (((V.setCell ⟨g, 0, none⟩ (.string ((rd_T99 a c).f0))).setCell ⟨g, 1, none⟩ (.string ((rd_T99 a c).f1))).setCell ⟨g, 2, none⟩ (.int .i64 ((rd_T99 a c).f2))) = c0 at m o p ⊢
    have l := m; have i := o; have HB := p; clear m o p
    replace l := bd_ l; replace i := bd_ i; replace HB := hd_ HB
    refine start_ (n := 35) (S := fun w' => w'.cell? ⟨g, 0, none⟩ = some (.string ((rd_T99 a c).f0)) ∧ w'.cell? ⟨g, 1, none⟩ = some (.string ((rd_T99 a c).f1)) ∧ w'.cell? ⟨g, 2, none⟩ = some (.int .i64 ((rd_T99 a c).f2))) (ds := []) (bm 35 0) (by kernel_rfl) rfl (by kernel_rfl) ⟨bl_ i 0, bl_ i 1, bl_ i 2⟩ (fun hHeld => ?_); refine with_tabW spec_DiskOk.tab7 spec_DiskOk.bits7 (fun HT_ HW_ => ?_)
    generalize c0.drew = d6 at l i HB hHeld ⊢
    refine pz_ 0 21 35 1 ?_; refine tz3_ 1 22 35 3 ?_
    refine o1_ 2 (some 23) 35 7 (fun K hK => ?_)
    refine gs_ Try.func82 #[.string ((rd_T99 a c).f0)] ?_
    with_reducible refine (spec_l03Name.calls ((rd_T99 a c).f0) true _ a5.out).mono ?_
    rintro e w' ⟨rfl, ⟨nd, rfl⟩⟩
    refine ⟨_, rfl, ?_⟩
    refine hK.out _ _ ⟨bl_ i 0, bl_ i 1, bl_ i 2⟩ (fun hHeld => ?_)
    clear hK K
    refine nm_ 23 ?_
    refine pz_ 3 24 35 15 ?_; refine pz_ 4 25 35 31 ?_; refine pz_ 5 26 35 63 ?_; refine tz3_ 6 27 35 127 ?_; refine pz_ 7 28 35 255 ?_; refine pz_ 8 29 35 511 ?_; refine pz_ 9 30 35 1023 ?_; refine pz_ 10 31 35 2047 ?_; refine pz_ 11 32 35 4095 ?_; refine pz_ 13 34 35 12287 ?_; refine tz3_ 12 33 35 16383 ?_; refine tz3_ 14 35 35 32767 ?_; refine pz_ 15 36 35 65535 ?_
    refine o1_ 16 (some 37) 35 131071 (fun K hK => ?_)
    refine gs_ Try.func64 #[.int .i64 ((rd_T99 a c).f2), .int .i64 0, .int .i64 (((rd_T99 a c).f1).size : Int)] ?_
    with_reducible refine (spec_l01In.calls ((rd_T99 a c).f2) 0 (((rd_T99 a c).f1).size : Int) true _ G.out).mono ?_
    rintro e w' ⟨rfl, ⟨nd, rfl⟩⟩
    refine ⟨_, rfl, ?_⟩
    refine hK.out _ _ ⟨bl_ i 0, bl_ i 1, bl_ i 2⟩ (fun hHeld => ?_)
    clear hK K
    refine nm_ 37 ?_
    refine pz_ 17 38 35 262143 ?_; refine pz_ 18 39 35 524287 ?_; refine pz_ 19 40 35 1048575 ?_; refine pz_ 20 41 35 2097151 ?_; refine pz_ 21 42 35 4194303 ?_; refine pz_ 22 43 35 8388607 ?_
    refine pu_ 23 44 35 16777215 ?_
    refine pu_ 24 45 35 33554431 ?_
    refine pu_ 25 46 35 67108863 ?_
    refine pu_ 26 47 35 134217727 ?_
    refine pu_ 27 48 35 268435455 ?_
    refine pu_ 28 49 35 536870911 ?_
    refine pu_ 29 50 35 1073741823 ?_
    refine pu_ 30 51 35 2147483647 ?_
    refine pu_ 31 52 35 4294967295 ?_
    refine pu_ 32 53 35 8589934591 ?_
    refine pz_ 33 54 35 17179869183 ?_; refine pz_ 34 55 35 34359738367 ?_
    refine done_ (done_of HT_.out (by kernel_rfl)) ?_
    try go_wp2
    go_roundg c5
    case measure => have := HK1.out; omega
    case rel => exact ⟨(wrap64 (c + 1)), qe_, H', ⟨by have := HK1.out; omega⟩, ⟨qk_ l⟩, ⟨qB_⟩⟩
   have a8 : decide (0 < c) = true := decide_eq_true U
   clear U
   obtain ⟨j, y⟩ : ∃ j_ : Int, (wrap64 (c - 1)) = j_ := ⟨_, rfl⟩
   first | rw [y] at H | simp only [y] at H
   have hji21w : (IntKind.i64.wrap (c - 1)) = j := (i64_w _).trans y
   refine ig_ H ?_; clear H; intro c1 H
   refine ig_ H ?_; clear H; intro c2 H
   refine jc_ H ?_ ?_ <;> clear H <;> intro X H
   ·have a9 : (Op.bytesLess (((rd_T99 a (j)).f0).toList) (((rd_T99 a c).f0).toList)) = true := X
    clear X; have H' := am_ H; clear H
    obtain ⟨i9, j3⟩ := bc1_ l
    have u := dt_ c
    have v := du_ c a.length
    obtain ⟨d, x, A, B, D⟩ := at_T99 s.out c (ot_ u) (ot_ v)
    cases x
    replace A := qx_ HB A
    replace B := qx_ HB B
    replace D := qx_ HB D
    try go_wp2_with (first | ((with_reducible refine gd_ 4 ?_); ((refine gate_guard (by rfl) ?_; dsimp only)); refine by_ 4 (cs := #[.string (⟨#[]⟩ : ByteArray), .string (⟨#[]⟩ : ByteArray), .int .i64 0]) (t := 99) ?_; intro g hg Y i hb; have b4 := gw_ hg; obtain ⟨b5, F⟩ := qn_ l hg; replace l := qbl_ l hb; replace HB := hs_ hb; clear hb hg; obtain ⟨j0, j1⟩ := nn_ F; obtain ⟨j4, j5, j6, j7, j8, j9⟩ := bc3_ i))
    have m : Aside0 ((((Y.setCell ⟨g, 0, none⟩ (.string ((rd_T99 a c).f0))).setCell ⟨g, 1, none⟩ (.string ((rd_T99 a c).f1))).setCell ⟨g, 2, none⟩ (.int .i64 ((rd_T99 a c).f2))).heap[M]? = some (.cells #[.slice (some d) a.length q] 44 (0, 0))) := ⟨qf_ l⟩
    have o : Aside0 ((((Y.setCell ⟨g, 0, none⟩ (.string ((rd_T99 a c).f0))).setCell ⟨g, 1, none⟩ (.string ((rd_T99 a c).f1))).setCell ⟨g, 2, none⟩ (.int .i64 ((rd_T99 a c).f2))).heap[g]? = some (.cells #[.string ((rd_T99 a c).f0), .string ((rd_T99 a c).f1), .int .i64 ((rd_T99 a c).f2)] 99 (0, 0))) := ⟨qp_ i⟩
    have p : Aside0 (Below w.heap.size w (((Y.setCell ⟨g, 0, none⟩ (.string ((rd_T99 a c).f0))).setCell ⟨g, 1, none⟩ (.string ((rd_T99 a c).f1))).setCell ⟨g, 2, none⟩ (.int .i64 ((rd_T99 a c).f2)))) := ⟨qB_⟩
    clear l i HB
    generalize (((Y.setCell ⟨g, 0, none⟩ (.string ((rd_T99 a c).f0))).setCell ⟨g, 1, none⟩ (.string ((rd_T99 a c).f1))).setCell ⟨g, 2, none⟩ (.int .i64 ((rd_T99 a c).f2))) = c3 at m o p ⊢
    have l := m; have i := o; have HB := p; clear m o p
    replace l := bd_ l; replace i := bd_ i; replace HB := hd_ HB
    have I := dt_ ((j))
    have J := du_ (j) a.length
    obtain ⟨E, L, Z, a0, a1⟩ := at_T99 s.out (j) (ot_ I) (ot_ J)
    have b0 := a1; have b1 := a0; have b2 := Z
    obtain rfl : d = E := (by injection L)
    replace Z := qx_ HB Z
    replace a0 := qx_ HB a0
    replace a1 := qx_ HB a1
    refine start_ (n := 35) (S := fun w' => w'.cell? ⟨g, 0, none⟩ = some (.string ((rd_T99 a c).f0)) ∧ w'.cell? ⟨g, 1, none⟩ = some (.string ((rd_T99 a c).f1)) ∧ w'.cell? ⟨g, 2, none⟩ = some (.int .i64 ((rd_T99 a c).f2)) ∧ w'.cell? ⟨M, 0, none⟩ = some (.slice (some d) a.length q) ∧ w'.cell? (d.add (((j)).toNat * 3)) = some (.string ((rd_T99 a (j)).f0)) ∧ w'.cell? ⟨(d.add (((j)).toNat * 3)).block, (d.add (((j)).toNat * 3)).off + 1, none⟩ = some (.string ((rd_T99 a (j)).f1)) ∧ w'.cell? ⟨(d.add (((j)).toNat * 3)).block, (d.add (((j)).toNat * 3)).off + 2, none⟩ = some (.int .i64 ((rd_T99 a (j)).f2))) (ds := []) (bm 35 0) (by kernel_rfl) rfl (by kernel_rfl) ⟨bl_ i 0, bl_ i 1, bl_ i 2, bl_ l 0, ((qx_ HB b2).trans rfl), ((qx_ HB b1).trans rfl), ((qx_ HB b0).trans rfl)⟩ (fun hHeld => ?_); refine with_tabW spec_DiskOk.tab7 spec_DiskOk.bits7 (fun HT_ HW_ => ?_)
    generalize c3.drew = d7 at l i HB Z a0 a1 hHeld ⊢
    refine pz_ 0 21 35 1 ?_; refine tz7_ 1 22 35 3 ?_
    refine o1_ 2 (some 23) 35 7 (fun K hK => ?_)
    refine gs_ Try.func82 #[.string ((rd_T99 a c).f0)] ?_
    with_reducible refine (spec_l03Name.calls ((rd_T99 a c).f0) true _ a5.out).mono ?_
    rintro e w' ⟨rfl, ⟨nd, rfl⟩⟩
    refine ⟨_, rfl, ?_⟩
    refine hK.out _ _ ⟨bl_ i 0, bl_ i 1, bl_ i 2, bl_ l 0, ((qx_ HB b2).trans rfl), ((qx_ HB b1).trans rfl), ((qx_ HB b0).trans rfl)⟩ (fun hHeld => ?_)
    clear hK K
    refine nm_ 23 ?_
    refine pz_ 3 24 35 15 ?_; refine pz_ 4 25 35 31 ?_; refine pz_ 5 26 35 63 ?_; refine tz7_ 6 27 35 127 ?_; refine pz_ 7 28 35 255 ?_; refine pz_ 8 29 35 511 ?_; refine pz_ 9 30 35 1023 ?_; refine pz_ 10 31 35 2047 ?_; refine pz_ 11 32 35 4095 ?_; refine pz_ 13 34 35 12287 ?_; refine tz7_ 12 33 35 16383 ?_; refine tz7_ 14 35 35 32767 ?_; refine pz_ 15 36 35 65535 ?_
    refine o1_ 16 (some 37) 35 131071 (fun K hK => ?_)
    refine gs_ Try.func64 #[.int .i64 ((rd_T99 a c).f2), .int .i64 0, .int .i64 (((rd_T99 a c).f1).size : Int)] ?_
    with_reducible refine (spec_l01In.calls ((rd_T99 a c).f2) 0 (((rd_T99 a c).f1).size : Int) true _ G.out).mono ?_
    rintro e w' ⟨rfl, ⟨nd, rfl⟩⟩
    refine ⟨_, rfl, ?_⟩
    refine hK.out _ _ ⟨bl_ i 0, bl_ i 1, bl_ i 2, bl_ l 0, ((qx_ HB b2).trans rfl), ((qx_ HB b1).trans rfl), ((qx_ HB b0).trans rfl)⟩ (fun hHeld => ?_)
    clear hK K
    refine nm_ 37 ?_
    refine pz_ 17 38 35 262143 ?_; refine pz_ 18 39 35 524287 ?_; refine pz_ 19 40 35 1048575 ?_; refine pz_ 20 41 35 2097151 ?_; refine pz_ 21 42 35 4194303 ?_; refine pz_ 22 43 35 8388607 ?_; refine pz_ 23 44 35 16777215 ?_; refine pz_ 25 46 35 50331647 ?_; refine pz_ 26 47 35 117440511 ?_; refine pz_ 30 51 35 1191182335 ?_; refine tz7_ 24 45 35 1207959551 ?_; refine pz_ 27 48 35 1342177279 ?_; refine pz_ 28 49 35 1610612735 ?_; refine tz7_ 29 50 35 2147483647 ?_; refine tz7_ 31 52 35 4294967295 ?_; refine pz_ 32 53 35 8589934591 ?_; refine pz_ 33 54 35 17179869183 ?_; refine pz_ 34 55 35 34359738367 ?_
    refine done_ (done_of HT_.out (by kernel_rfl)) ?_
    try go_wp2
    go_roundg c5
    case measure => have := HK1.out; omega
    case rel => exact ⟨(wrap64 (c + 1)), qe_, H', ⟨by have := HK1.out; omega⟩, ⟨qk_ l⟩, ⟨qB_⟩⟩
   have a9 : (Op.bytesLess (((rd_T99 a (j)).f0).toList) (((rd_T99 a c).f0).toList)) = false := by simpa using X
   clear X
   obtain rfl := oi_ H
   obtain ⟨k0, k1⟩ := bc1_ l
   have u := dt_ c
   have v := du_ c a.length
   obtain ⟨d, x, A, B, D⟩ := at_T99 s.out c (ot_ u) (ot_ v)
   cases x
   replace A := qx_ HB A
   replace B := qx_ HB B
   replace D := qx_ HB D
   try go_wp2_with (first | ((with_reducible refine gd_ 4 ?_); ((refine gate_guard (by rfl) ?_; dsimp only)); refine by_ 4 (cs := #[.string (⟨#[]⟩ : ByteArray), .string (⟨#[]⟩ : ByteArray), .int .i64 0]) (t := 99) ?_; intro g hg a2 i hb; have b4 := gw_ hg; obtain ⟨b5, F⟩ := qn_ l hg; replace l := qbl_ l hb; replace HB := hs_ hb; clear hb hg; obtain ⟨j2, k2⟩ := nn_ F; obtain ⟨k3, k4, k5, k6, k7, k8⟩ := bc3_ i))
   have m : Aside0 ((((a2.setCell ⟨g, 0, none⟩ (.string ((rd_T99 a c).f0))).setCell ⟨g, 1, none⟩ (.string ((rd_T99 a c).f1))).setCell ⟨g, 2, none⟩ (.int .i64 ((rd_T99 a c).f2))).heap[M]? = some (.cells #[.slice (some d) a.length q] 44 (0, 0))) := ⟨qf_ l⟩
   have o : Aside0 ((((a2.setCell ⟨g, 0, none⟩ (.string ((rd_T99 a c).f0))).setCell ⟨g, 1, none⟩ (.string ((rd_T99 a c).f1))).setCell ⟨g, 2, none⟩ (.int .i64 ((rd_T99 a c).f2))).heap[g]? = some (.cells #[.string ((rd_T99 a c).f0), .string ((rd_T99 a c).f1), .int .i64 ((rd_T99 a c).f2)] 99 (0, 0))) := ⟨qp_ i⟩
   have p : Aside0 (Below w.heap.size w (((a2.setCell ⟨g, 0, none⟩ (.string ((rd_T99 a c).f0))).setCell ⟨g, 1, none⟩ (.string ((rd_T99 a c).f1))).setCell ⟨g, 2, none⟩ (.int .i64 ((rd_T99 a c).f2)))) := ⟨qB_⟩
   clear l i HB
   generalize (((a2.setCell ⟨g, 0, none⟩ (.string ((rd_T99 a c).f0))).setCell ⟨g, 1, none⟩ (.string ((rd_T99 a c).f1))).setCell ⟨g, 2, none⟩ (.int .i64 ((rd_T99 a c).f2))) = c4 at m o p ⊢
   have l := m; have i := o; have HB := p; clear m o p
   replace l := bd_ l; replace i := bd_ i; replace HB := hd_ HB
   have I := dt_ ((j))
   have J := du_ (j) a.length
   obtain ⟨E, L, Z, a0, a1⟩ := at_T99 s.out (j) (ot_ I) (ot_ J)
   have b0 := a1; have b1 := a0; have b2 := Z
   obtain rfl : d = E := (by injection L)
   replace Z := qx_ HB Z
   replace a0 := qx_ HB a0
   replace a1 := qx_ HB a1
   refine start_ (n := 35) (S := fun w' => w'.cell? ⟨g, 0, none⟩ = some (.string ((rd_T99 a c).f0)) ∧ w'.cell? ⟨g, 1, none⟩ = some (.string ((rd_T99 a c).f1)) ∧ w'.cell? ⟨g, 2, none⟩ = some (.int .i64 ((rd_T99 a c).f2)) ∧ w'.cell? ⟨M, 0, none⟩ = some (.slice (some d) a.length q) ∧ w'.cell? (d.add (((j)).toNat * 3)) = some (.string ((rd_T99 a (j)).f0)) ∧ w'.cell? ⟨(d.add (((j)).toNat * 3)).block, (d.add (((j)).toNat * 3)).off + 1, none⟩ = some (.string ((rd_T99 a (j)).f1)) ∧ w'.cell? ⟨(d.add (((j)).toNat * 3)).block, (d.add (((j)).toNat * 3)).off + 2, none⟩ = some (.int .i64 ((rd_T99 a (j)).f2))) (ds := []) (bm 35 0) (by kernel_rfl) rfl (by kernel_rfl) ⟨bl_ i 0, bl_ i 1, bl_ i 2, bl_ l 0, ((qx_ HB b2).trans rfl), ((qx_ HB b1).trans rfl), ((qx_ HB b0).trans rfl)⟩ (fun hHeld => ?_); refine with_tabW spec_DiskOk.tab7 spec_DiskOk.bits7 (fun HT_ HW_ => ?_)
   generalize c4.drew = d8 at l i HB Z a0 a1 hHeld ⊢
   refine pz_ 0 21 35 1 ?_; refine tz7_ 1 22 35 3 ?_
   refine o1_ 2 (some 23) 35 7 (fun K hK => ?_)
   refine gs_ Try.func82 #[.string ((rd_T99 a c).f0)] ?_
   with_reducible refine (spec_l03Name.calls ((rd_T99 a c).f0) true _ a5.out).mono ?_
   rintro e w' ⟨rfl, ⟨nd, rfl⟩⟩
   refine ⟨_, rfl, ?_⟩
   refine hK.out _ _ ⟨bl_ i 0, bl_ i 1, bl_ i 2, bl_ l 0, ((qx_ HB b2).trans rfl), ((qx_ HB b1).trans rfl), ((qx_ HB b0).trans rfl)⟩ (fun hHeld => ?_)
   clear hK K
   refine nm_ 23 ?_
   refine pz_ 3 24 35 15 ?_; refine pz_ 4 25 35 31 ?_; refine pz_ 5 26 35 63 ?_; refine tz7_ 6 27 35 127 ?_; refine pz_ 7 28 35 255 ?_; refine pz_ 8 29 35 511 ?_; refine pz_ 9 30 35 1023 ?_; refine pz_ 10 31 35 2047 ?_; refine pz_ 11 32 35 4095 ?_; refine pz_ 13 34 35 12287 ?_; refine tz7_ 12 33 35 16383 ?_; refine tz7_ 14 35 35 32767 ?_; refine pz_ 15 36 35 65535 ?_
   refine o1_ 16 (some 37) 35 131071 (fun K hK => ?_)
   refine gs_ Try.func64 #[.int .i64 ((rd_T99 a c).f2), .int .i64 0, .int .i64 (((rd_T99 a c).f1).size : Int)] ?_
   with_reducible refine (spec_l01In.calls ((rd_T99 a c).f2) 0 (((rd_T99 a c).f1).size : Int) true _ G.out).mono ?_
   rintro e w' ⟨rfl, ⟨nd, rfl⟩⟩
   refine ⟨_, rfl, ?_⟩
   refine hK.out _ _ ⟨bl_ i 0, bl_ i 1, bl_ i 2, bl_ l 0, ((qx_ HB b2).trans rfl), ((qx_ HB b1).trans rfl), ((qx_ HB b0).trans rfl)⟩ (fun hHeld => ?_)
   clear hK K
   refine nm_ 37 ?_
   refine pz_ 17 38 35 262143 ?_; refine pz_ 18 39 35 524287 ?_; refine pz_ 19 40 35 1048575 ?_; refine pz_ 20 41 35 2097151 ?_; refine pz_ 21 42 35 4194303 ?_; refine pz_ 22 43 35 8388607 ?_; refine pz_ 23 44 35 16777215 ?_; refine pz_ 25 46 35 50331647 ?_; refine pz_ 26 47 35 117440511 ?_; refine pz_ 30 51 35 1191182335 ?_; refine tz7_ 24 45 35 1207959551 ?_; refine pz_ 27 48 35 1342177279 ?_; refine pz_ 28 49 35 1610612735 ?_; refine tz7_ 29 50 35 2147483647 ?_; refine tz7_ 31 52 35 4294967295 ?_; refine pz_ 32 53 35 8589934591 ?_; refine pz_ 33 54 35 17179869183 ?_; refine pz_ 34 55 35 34359738367 ?_
   refine done_ (done_of HT_.out (by kernel_rfl)) ?_
   try go_wp2
   go_ret
   exact ⟨by first | rfl | (simp [errW_none, errW_some] <;> rfl) | (simp only [← y]; first | rfl | (simp [errW_none, errW_some] <;> rfl)) | (simp [*, errW_none, errW_some] <;> rfl), qB_⟩
end Go.Proofs.Ytacnlodcbbhahaa.QFnActs
