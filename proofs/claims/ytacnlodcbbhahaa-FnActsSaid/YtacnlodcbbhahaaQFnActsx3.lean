import Derived.Test.YtacnlodcbbhahaaQFnActsx2
namespace Go.Proofs.Ytacnlodcbbhahaa.QFnActs
open Go.RowKit Go.Proofs.YtacnlodcbbhahaaW.PrintWords Go.Proofs.YtacnlodcbbhahaaW.PrintLast Go.Proofs.YtacnlodcbbhahaaW.PrintMore
set_option maxHeartbeats 8000000
set_option maxRecDepth 100000
set_option linter.unusedVariables false
set_option linter.unusedSimpArgs false
def impl_DiskOk.l0 : Nat → List (S99) → Int → Int → List (S99) → Option (Bool)
  | 0, _, _, _, _ => none
  | k + 1, x6, x7, x8, x102000 => if x8 < x7 then (if 0 ≤ x8 then (if x8 < (x6.length : Int) then ((impl_in.f (((rd_T99 x6 x8).f0).size : Int) 1 8).bind fun t104 => (if t104 = true then (if (((rd_T99 x6 x8).f1).size : Int) > 20000 then (some false) else ((impl_in.f ((rd_T99 x6 x8).f2) 0 (((rd_T99 x6 x8).f1).size : Int)).bind fun t105 => (if t105 = true then (if x8 > 0 then (if 0 ≤ (wrap64 (x8 - 1)) then (if (wrap64 (x8 - 1)) < (x102000.length : Int) then (if ((Op.bytesLess (((rd_T99 x102000 (wrap64 (x8 - 1))).f0).toList) (((rd_T99 x6 x8).f0).toList)) = true) then (impl_DiskOk.l0 k x6 x7 (wrap64 (x8 + 1)) x102000) else (some false)) else (none)) else (none)) else (impl_DiskOk.l0 k x6 x7 (wrap64 (x8 + 1)) x102000)) else (some false)))) else (some false))) else (none)) else (none)) else (some (decide ((x102000.length : Int) ≤ 30)))
def impl_DiskOk.f (k : Nat) (l0_0 : List (S99)) : Option (Bool) := impl_DiskOk.l0 k l0_0 (l0_0.length : Int) 0 l0_0
def impl_DiskOk.T4 : Bool × List (List Nat × List Nat) := (true, [([], []), ([0], [0]), ([1], [1]), ([2], [2]), ([3], [3]), ([4, 3], [4]), ([5], [5]), ([6, 5], [5, 6]), ([7, 5], [5, 7]), ([8, 5], [5, 8]), ([5, 9], [5, 9]), ([10, 5], [10]), ([11], [11]), ([12, 11], [11, 12]), ([11], [11]), ([14, 11], [11, 14]), ([15, 11], [11, 15]), ([13, 16, 11, 11], [11, 13, 16]), ([17, 11], [11, 17]), ([11, 18], [11, 18]), ([19, 17], [19]), ([20], [20]), ([21, 20], [20, 21]), ([22, 20, 20], [20, 22]), ([23], [23]), ([24, 23], [23, 24]), ([23], [23]), ([26, 23], [23, 26]), ([25, 27, 23], [23, 25, 27]), ([28, 23], [23, 28]), ([29, 23], [23, 29]), ([23], [23]), ([31, 23], [23, 31]), ([30, 32, 23], [23, 30, 32]), ([23, 33, 20], [20, 23, 33]), ([20, 34], [20, 34])])
def impl_DiskOk.B4 : List Nat := [0, 1, 3, 7, 15, 31, 63, 127, 255, 511, 1023, 2047, 4095, 8191, 4095, 20479, 53247, 131071, 262143, 524287, 1048575, 2097151, 4194303, 8388607, 16777215, 33554431, 16777215, 83886079, 268435455, 536870911, 1073741823, 16777215, 2164260863, 8589934591, 17179869183, 34359738367]
theorem impl_DiskOk.tab4 : rtab .any (opsOf Try.f77 4) = impl_DiskOk.T4 := by kernel_rfl
theorem impl_DiskOk.bits4 : waitsOk impl_DiskOk.T4.2 impl_DiskOk.B4 = true := by kernel_rfl
theorem impl_DiskOk.calls (k : Nat) (E : Option Addr) (q : Nat) (a : List (S99)) (r : Bool) (w : World) (hr0_0 : Kd.C k99 w E a.length a) (hc0_0 : a.length ≤ q) (h : impl_DiskOk.f k a = some r) :
  Calls Try.prog 77 #[.agg #[.slice E a.length q]] w fun e w' => e = .returned (.bool r) ∧ Below w.heap.size w w' := by
 have hu44 := Try.underlying44; have hu99 := Try.underlying99
 have s := am_ hr0_0
 have b3 := am_ hc0_0
 clear hr0_0 hc0_0
 have HB := am_ (Below.refl w.heap.size w)
 rw [impl_DiskOk.f] at h; have H := h; clear h; have H' := am_ H; clear H
 go_enter Try.func77, Try.ntmps77
 go_wp2_with (first | ((with_reducible refine gd_ 1 ?_); ((refine gate_guard (by rfl) ?_; dsimp only)); refine by_ 1 (cs := #[.slice E a.length q]) (t := 44) ?_; intro M hg d4 l hb; have d5 := gw_ hg; replace HB := hs_ hb; clear hb hg; obtain ⟨c6, c7⟩ := bc1_ l))
 go_loopg [8] k (fun kq v8 w' => ∃ (c : Int), v8 = .int .i64 c ∧ Aside0 (impl_DiskOk.l0 kq a (a.length : Int) c a = some r) ∧ Aside0 (kq ≤ k) ∧ Aside0 (w'.heap[M]? = some (.cells #[(.slice E a.length q)] 44 (0, 0))) ∧ Aside0 (Below w.heap.size w w'))
 case atStart => exact ⟨(0), qe_, H', ⟨Nat.le_refl _⟩, ⟨qk_ l⟩, ⟨qB_⟩⟩
 case round =>
  clear H'
  (try clear d6); clear c6 c7
  obtain ⟨c, rfl, HA, HK1, l, HB⟩ := hrel
  cases gk with
  | zero => exact absurd HA.out (by simp [impl_DiskOk.l0])
  | succ c2 =>
   have H := HA.out; clear HA
   simp only [impl_DiskOk.l0] at H
   refine ib_ H ?_ ?_ <;> clear H <;> intro c3 H
   ·obtain rfl := oi_ H
    obtain ⟨d7, d8⟩ := bc1_ l
    go_wp2
    go_ret
    exact ⟨qr_, qB_⟩
   refine ig_ H ?_; clear H; intro c4 H
   refine ig_ H ?_; clear H; intro c5 H
   obtain ⟨d9, a2, H⟩ := bs_ H
   refine id_ H ?_ ?_ <;> clear H <;> rintro rfl H
   ·obtain rfl := oi_ H
    have u := dt_ c
    have v := du_ c a.length
    obtain ⟨d, x, z, A, B⟩ := at_T99 s.out c (ot_ u) (ot_ v)
    cases x
    replace z := qx_ HB z
    replace A := qx_ HB A
    replace B := qx_ HB B
    try go_wp2_with (first | ((with_reducible refine gd_ 4 ?_); ((refine gate_guard (by rfl) ?_; dsimp only)); refine by_ 4 (cs := #[.string (⟨#[]⟩ : ByteArray), .string (⟨#[]⟩ : ByteArray), .int .i64 0]) (t := 99) ?_; intro g hg N i hb; have a8 := gw_ hg; obtain ⟨a9, F⟩ := qn_ l hg; replace l := qbl_ l hb; replace HB := hs_ hb; clear hb hg; obtain ⟨e0, e1⟩ := nn_ F; obtain ⟨e2, e3, e4, e5, e6, e7⟩ := bc3_ i))
    have m : Aside0 ((((N.setCell ⟨g, 0, none⟩ (.string ((rd_T99 a c).f0))).setCell ⟨g, 1, none⟩ (.string ((rd_T99 a c).f1))).setCell ⟨g, 2, none⟩ (.int .i64 ((rd_T99 a c).f2))).heap[M]? = some (.cells #[.slice (some d) a.length q] 44 (0, 0))) := ⟨qf_ l⟩
    have o : Aside0 ((((N.setCell ⟨g, 0, none⟩ (.string ((rd_T99 a c).f0))).setCell ⟨g, 1, none⟩ (.string ((rd_T99 a c).f1))).setCell ⟨g, 2, none⟩ (.int .i64 ((rd_T99 a c).f2))).heap[g]? = some (.cells #[.string ((rd_T99 a c).f0), .string ((rd_T99 a c).f1), .int .i64 ((rd_T99 a c).f2)] 99 (0, 0))) := ⟨qp_ i⟩
    have p : Aside0 (Below w.heap.size w (((N.setCell ⟨g, 0, none⟩ (.string ((rd_T99 a c).f0))).setCell ⟨g, 1, none⟩ (.string ((rd_T99 a c).f1))).setCell ⟨g, 2, none⟩ (.int .i64 ((rd_T99 a c).f2)))) := ⟨qB_⟩
    clear l i HB
    generalize (((N.setCell ⟨g, 0, none⟩ (.string ((rd_T99 a c).f0))).setCell ⟨g, 1, none⟩ (.string ((rd_T99 a c).f1))).setCell ⟨g, 2, none⟩ (.int .i64 ((rd_T99 a c).f2))) = b4 at m o p ⊢
    have l := m; have i := o; have HB := p; clear m o p
    replace l := bd_ l; replace i := bd_ i; replace HB := hd_ HB
    refine start_ (n := 36) (S := fun w' => w'.cell? ⟨g, 0, none⟩ = some (.string ((rd_T99 a c).f0)) ∧ w'.cell? ⟨g, 1, none⟩ = some (.string ((rd_T99 a c).f1)) ∧ w'.cell? ⟨g, 2, none⟩ = some (.int .i64 ((rd_T99 a c).f2))) (ds := []) (bm 36 0) (by kernel_rfl) rfl (by kernel_rfl) ⟨bl_ i 0, bl_ i 1, bl_ i 2⟩ (fun hHeld => ?_); refine with_tabW impl_DiskOk.tab4 impl_DiskOk.bits4 (fun HT_ HW_ => ?_)
    generalize b4.drew = c8 at l i HB hHeld ⊢
    refine pz_ 0 13 36 1 ?_; refine tz3_ 1 14 36 3 ?_; refine pz_ 2 15 36 7 ?_
    refine o1_ 3 (some 16) 36 15 (fun K hK => ?_)
    refine gs_ Try.func69 #[.int .i64 (((rd_T99 a c).f0).size : Int), .int .i64 1, .int .i64 8] ?_
    with_reducible refine (impl_in.calls (((rd_T99 a c).f0).size : Int) 1 8 false _ a2.out).mono ?_
    rintro e w' ⟨rfl, ⟨nd, rfl⟩⟩
    refine ⟨_, rfl, ?_⟩
    refine hK.out _ _ ⟨bl_ i 0, bl_ i 1, bl_ i 2⟩ (fun hHeld => ?_)
    clear hK K
    refine nm_ 16 ?_
    refine pz_ 4 17 36 31 ?_; refine pz_ 5 18 36 63 ?_
    refine pu_ 6 19 36 127 ?_
    refine pu_ 7 20 36 255 ?_
    refine pu_ 8 21 36 511 ?_
    refine pu_ 9 22 36 1023 ?_
    refine pz_ 10 23 36 2047 ?_; refine pz_ 11 24 36 4095 ?_
    refine pu_ 12 25 36 8191 ?_
    refine pu_ 13 26 36 16383 ?_
    refine pu_ 14 27 36 32767 ?_
    refine pu_ 15 28 36 65535 ?_
    refine pu_ 16 29 36 131071 ?_
    refine pu_ 17 30 36 262143 ?_
    refine pu_ 18 31 36 524287 ?_
    refine pz_ 19 32 36 1048575 ?_; refine pz_ 20 33 36 2097151 ?_
    refine pu_ 21 34 36 4194303 ?_
    refine pu_ 22 35 36 8388607 ?_
    refine pu_ 23 36 36 16777215 ?_
    refine pu_ 24 37 36 33554431 ?_
    refine pu_ 25 38 36 67108863 ?_
    refine pu_ 26 39 36 134217727 ?_
    refine pu_ 27 40 36 268435455 ?_
    refine pu_ 28 41 36 536870911 ?_
    refine pu_ 29 42 36 1073741823 ?_
    refine pu_ 30 43 36 2147483647 ?_
    refine pu_ 31 44 36 4294967295 ?_
    refine pu_ 32 45 36 8589934591 ?_
    refine pu_ 33 46 36 17179869183 ?_
    refine pu_ 34 47 36 34359738367 ?_
    refine pz_ 35 48 36 68719476735 ?_
    refine done_ (done_of HT_.out (by kernel_rfl)) ?_
    try go_wp2
    go_ret
    exact ⟨qr_, qB_⟩
   refine jc_ H ?_ ?_ <;> clear H <;> intro b2 H
   ·have b0 : decide (20000 < (((rd_T99 a c).f1).size : Int)) = true := decide_eq_true b2
    have b1 : decide (20000 < ((rd_T99 a c).f1).size) = true := decide_eq_true (by omega)
    clear b2
    obtain rfl := oi_ H
    have u := dt_ c
    have v := du_ c a.length
    obtain ⟨d, x, z, A, B⟩ := at_T99 s.out c (ot_ u) (ot_ v)
    cases x
    replace z := qx_ HB z
    replace A := qx_ HB A
    replace B := qx_ HB B
    try go_wp2_with (first | ((with_reducible refine gd_ 4 ?_); ((refine gate_guard (by rfl) ?_; dsimp only)); refine by_ 4 (cs := #[.string (⟨#[]⟩ : ByteArray), .string (⟨#[]⟩ : ByteArray), .int .i64 0]) (t := 99) ?_; intro g hg O i hb; have a8 := gw_ hg; obtain ⟨a9, F⟩ := qn_ l hg; replace l := qbl_ l hb; replace HB := hs_ hb; clear hb hg; obtain ⟨e8, e9⟩ := nn_ F; obtain ⟨f3, f4, f5, f6, f7, f8⟩ := bc3_ i))
    have m : Aside0 ((((O.setCell ⟨g, 0, none⟩ (.string ((rd_T99 a c).f0))).setCell ⟨g, 1, none⟩ (.string ((rd_T99 a c).f1))).setCell ⟨g, 2, none⟩ (.int .i64 ((rd_T99 a c).f2))).heap[M]? = some (.cells #[.slice (some d) a.length q] 44 (0, 0))) := ⟨qf_ l⟩
    have o : Aside0 ((((O.setCell ⟨g, 0, none⟩ (.string ((rd_T99 a c).f0))).setCell ⟨g, 1, none⟩ (.string ((rd_T99 a c).f1))).setCell ⟨g, 2, none⟩ (.int .i64 ((rd_T99 a c).f2))).heap[g]? = some (.cells #[.string ((rd_T99 a c).f0), .string ((rd_T99 a c).f1), .int .i64 ((rd_T99 a c).f2)] 99 (0, 0))) := ⟨qp_ i⟩
    have p : Aside0 (Below w.heap.size w (((O.setCell ⟨g, 0, none⟩ (.string ((rd_T99 a c).f0))).setCell ⟨g, 1, none⟩ (.string ((rd_T99 a c).f1))).setCell ⟨g, 2, none⟩ (.int .i64 ((rd_T99 a c).f2)))) := ⟨qB_⟩
    clear l i HB
    generalize (((O.setCell ⟨g, 0, none⟩ (.string ((rd_T99 a c).f0))).setCell ⟨g, 1, none⟩ (.string ((rd_T99 a c).f1))).setCell ⟨g, 2, none⟩ (.int .i64 ((rd_T99 a c).f2))) = b5 at m o p ⊢
    have l := m; have i := o; have HB := p; clear m o p
    replace l := bd_ l; replace i := bd_ i; replace HB := hd_ HB
    refine start_ (n := 36) (S := fun w' => w'.cell? ⟨g, 0, none⟩ = some (.string ((rd_T99 a c).f0)) ∧ w'.cell? ⟨g, 1, none⟩ = some (.string ((rd_T99 a c).f1)) ∧ w'.cell? ⟨g, 2, none⟩ = some (.int .i64 ((rd_T99 a c).f2))) (ds := []) (bm 36 0) (by kernel_rfl) rfl (by kernel_rfl) ⟨bl_ i 0, bl_ i 1, bl_ i 2⟩ (fun hHeld => ?_); refine with_tabW impl_DiskOk.tab4 impl_DiskOk.bits4 (fun HT_ HW_ => ?_)
    generalize b5.drew = c9 at l i HB hHeld ⊢
    refine pz_ 0 13 36 1 ?_; refine tz3_ 1 14 36 3 ?_; refine pz_ 2 15 36 7 ?_
    refine o1_ 3 (some 16) 36 15 (fun K hK => ?_)
    refine gs_ Try.func69 #[.int .i64 (((rd_T99 a c).f0).size : Int), .int .i64 1, .int .i64 8] ?_
    with_reducible refine (impl_in.calls (((rd_T99 a c).f0).size : Int) 1 8 true _ a2.out).mono ?_
    rintro e w' ⟨rfl, ⟨nd, rfl⟩⟩
    refine ⟨_, rfl, ?_⟩
    refine hK.out _ _ ⟨bl_ i 0, bl_ i 1, bl_ i 2⟩ (fun hHeld => ?_)
    clear hK K
    refine nm_ 16 ?_
    refine pz_ 4 17 36 31 ?_; refine pz_ 5 18 36 63 ?_; refine pz_ 6 19 36 127 ?_; refine tz3_ 7 20 36 255 ?_; refine pz_ 8 21 36 511 ?_; refine pz_ 9 22 36 1023 ?_; refine pz_ 10 23 36 2047 ?_; refine pz_ 11 24 36 4095 ?_
    refine pu_ 12 25 36 8191 ?_
    refine pu_ 13 26 36 16383 ?_
    refine pu_ 14 27 36 32767 ?_
    refine pu_ 15 28 36 65535 ?_
    refine pu_ 16 29 36 131071 ?_
    refine pu_ 17 30 36 262143 ?_
    refine pu_ 18 31 36 524287 ?_
    refine pz_ 19 32 36 1048575 ?_; refine pz_ 20 33 36 2097151 ?_
    refine pu_ 21 34 36 4194303 ?_
    refine pu_ 22 35 36 8388607 ?_
    refine pu_ 23 36 36 16777215 ?_
    refine pu_ 24 37 36 33554431 ?_
    refine pu_ 25 38 36 67108863 ?_
    refine pu_ 26 39 36 134217727 ?_
    refine pu_ 27 40 36 268435455 ?_
    refine pu_ 28 41 36 536870911 ?_
    refine pu_ 29 42 36 1073741823 ?_
    refine pu_ 30 43 36 2147483647 ?_
    refine pu_ 31 44 36 4294967295 ?_
    refine pu_ 32 45 36 8589934591 ?_
    refine pu_ 33 46 36 17179869183 ?_
    refine pu_ 34 47 36 34359738367 ?_
    refine pz_ 35 48 36 68719476735 ?_
    refine done_ (done_of HT_.out (by kernel_rfl)) ?_
    try go_wp2
    go_ret
    exact ⟨qr_, qB_⟩
   have b0 : decide (20000 < (((rd_T99 a c).f1).size : Int)) = false := decide_eq_false b2
   have b1 : decide (20000 < ((rd_T99 a c).f1).size) = false := decide_eq_false (by omega)
   clear b2
   obtain ⟨f9, G, H⟩ := bs_ H
   refine id_ H ?_ ?_ <;> clear H <;> rintro rfl H
   ·obtain rfl := oi_ H
    have u := dt_ c
    have v := du_ c a.length
    obtain ⟨d, x, z, A, B⟩ := at_T99 s.out c (ot_ u) (ot_ v)
    cases x
    replace z := qx_ HB z
    replace A := qx_ HB A
    replace B := qx_ HB B
    try go_wp2_with (first | ((with_reducible refine gd_ 4 ?_); ((refine gate_guard (by rfl) ?_; dsimp only)); refine by_ 4 (cs := #[.string (⟨#[]⟩ : ByteArray), .string (⟨#[]⟩ : ByteArray), .int .i64 0]) (t := 99) ?_; intro g hg R i hb; have a8 := gw_ hg; obtain ⟨a9, F⟩ := qn_ l hg; replace l := qbl_ l hb; replace HB := hs_ hb; clear hb hg; obtain ⟨g0, g1⟩ := nn_ F; obtain ⟨g2, g3, g4, g5, g6, g7⟩ := bc3_ i))
    have m : Aside0 ((((R.setCell ⟨g, 0, none⟩ (.string ((rd_T99 a c).f0))).setCell ⟨g, 1, none⟩ (.string ((rd_T99 a c).f1))).setCell ⟨g, 2, none⟩ (.int .i64 ((rd_T99 a c).f2))).heap[M]? = some (.cells #[.slice (some d) a.length q] 44 (0, 0))) := ⟨qf_ l⟩
    have o : Aside0 ((((R.setCell ⟨g, 0, none⟩ (.string ((rd_T99 a c).f0))).setCell ⟨g, 1, none⟩ (.string ((rd_T99 a c).f1))).setCell ⟨g, 2, none⟩ (.int .i64 ((rd_T99 a c).f2))).heap[g]? = some (.cells #[.string ((rd_T99 a c).f0), .string ((rd_T99 a c).f1), .int .i64 ((rd_T99 a c).f2)] 99 (0, 0))) := ⟨qp_ i⟩
    have p : Aside0 (Below w.heap.size w (((R.setCell ⟨g, 0, none⟩ (.string ((rd_T99 a c).f0))).setCell ⟨g, 1, none⟩ (.string ((rd_T99 a c).f1))).setCell ⟨g, 2, none⟩ (.int .i64 ((rd_T99 a c).f2)))) := ⟨qB_⟩
    clear l i HB
    generalize (((R.setCell ⟨g, 0, none⟩ (.string ((rd_T99 a c).f0))).setCell ⟨g, 1, none⟩ (.string ((rd_T99 a c).f1))).setCell ⟨g, 2, none⟩ (.int .i64 ((rd_T99 a c).f2))) = b6 at m o p ⊢
    have l := m; have i := o; have HB := p; clear m o p
    replace l := bd_ l; replace i := bd_ i; replace HB := hd_ HB
    refine start_ (n := 36) (S := fun w' => w'.cell? ⟨g, 0, none⟩ = some (.string ((rd_T99 a c).f0)) ∧ w'.cell? ⟨g, 1, none⟩ = some (.string ((rd_T99 a c).f1)) ∧ w'.cell? ⟨g, 2, none⟩ = some (.int .i64 ((rd_T99 a c).f2))) (ds := []) (bm 36 0) (by kernel_rfl) rfl (by kernel_rfl) ⟨bl_ i 0, bl_ i 1, bl_ i 2⟩ (fun hHeld => ?_); refine with_tabW impl_DiskOk.tab4 impl_DiskOk.bits4 (fun HT_ HW_ => ?_)
    generalize b6.drew = d0 at l i HB hHeld ⊢
    refine pz_ 0 13 36 1 ?_; refine tz3_ 1 14 36 3 ?_; refine pz_ 2 15 36 7 ?_
    refine o1_ 3 (some 16) 36 15 (fun K hK => ?_)
    refine gs_ Try.func69 #[.int .i64 (((rd_T99 a c).f0).size : Int), .int .i64 1, .int .i64 8] ?_
    with_reducible refine (impl_in.calls (((rd_T99 a c).f0).size : Int) 1 8 true _ a2.out).mono ?_
    rintro e w' ⟨rfl, ⟨nd, rfl⟩⟩
    refine ⟨_, rfl, ?_⟩
    refine hK.out _ _ ⟨bl_ i 0, bl_ i 1, bl_ i 2⟩ (fun hHeld => ?_)
    clear hK K
    refine nm_ 16 ?_
    refine pz_ 4 17 36 31 ?_; refine pz_ 5 18 36 63 ?_; refine pz_ 6 19 36 127 ?_; refine tz3_ 7 20 36 255 ?_; refine pz_ 8 21 36 511 ?_; refine pz_ 9 22 36 1023 ?_; refine pz_ 10 23 36 2047 ?_; refine pz_ 11 24 36 4095 ?_; refine pz_ 12 25 36 8191 ?_; refine pz_ 14 27 36 24575 ?_; refine tz3_ 13 26 36 32767 ?_; refine tz3_ 15 28 36 65535 ?_; refine pz_ 16 29 36 131071 ?_
    refine o1_ 17 (some 30) 36 262143 (fun K hK => ?_)
    refine gs_ Try.func69 #[.int .i64 ((rd_T99 a c).f2), .int .i64 0, .int .i64 (((rd_T99 a c).f1).size : Int)] ?_
    with_reducible refine (impl_in.calls ((rd_T99 a c).f2) 0 (((rd_T99 a c).f1).size : Int) false _ G.out).mono ?_
    rintro e w' ⟨rfl, ⟨nd, rfl⟩⟩
    refine ⟨_, rfl, ?_⟩
    refine hK.out _ _ ⟨bl_ i 0, bl_ i 1, bl_ i 2⟩ (fun hHeld => ?_)
    clear hK K
    refine nm_ 30 ?_
    refine pz_ 18 31 36 524287 ?_; refine pz_ 19 32 36 1048575 ?_; refine pz_ 20 33 36 2097151 ?_
    refine pu_ 21 34 36 4194303 ?_
    refine pu_ 22 35 36 8388607 ?_
    refine pu_ 23 36 36 16777215 ?_
    refine pu_ 24 37 36 33554431 ?_
    refine pu_ 25 38 36 67108863 ?_
    refine pu_ 26 39 36 134217727 ?_
    refine pu_ 27 40 36 268435455 ?_
    refine pu_ 28 41 36 536870911 ?_
    refine pu_ 29 42 36 1073741823 ?_
    refine pu_ 30 43 36 2147483647 ?_
    refine pu_ 31 44 36 4294967295 ?_
    refine pu_ 32 45 36 8589934591 ?_
    refine pu_ 33 46 36 17179869183 ?_
    refine pu_ 34 47 36 34359738367 ?_
    refine pz_ 35 48 36 68719476735 ?_
    refine done_ (done_of HT_.out (by kernel_rfl)) ?_
    try go_wp2
    go_ret
    exact ⟨qr_, qB_⟩
   refine jb_ H ?_ ?_ <;> clear H <;> intro T H
   ·have a3 : decide (0 < c) = false := decide_eq_false T
    clear T; have H' := am_ H; clear H
    have u := dt_ c
    have v := du_ c a.length
    obtain ⟨d, x, z, A, B⟩ := at_T99 s.out c (ot_ u) (ot_ v)
    cases x
    replace z := qx_ HB z
    replace A := qx_ HB A
    replace B := qx_ HB B
    try go_wp2_with (first | ((with_reducible refine gd_ 4 ?_); ((refine gate_guard (by rfl) ?_; dsimp only)); refine by_ 4 (cs := #[.string (⟨#[]⟩ : ByteArray), .string (⟨#[]⟩ : ByteArray), .int .i64 0]) (t := 99) ?_; intro g hg U i hb; have a8 := gw_ hg; obtain ⟨a9, F⟩ := qn_ l hg; replace l := qbl_ l hb; replace HB := hs_ hb; clear hb hg; obtain ⟨g8, g9⟩ := nn_ F; obtain ⟨h0, h1, h2, h3, h4, h5⟩ := bc3_ i))
    have m : Aside0 ((((U.setCell ⟨g, 0, none⟩ (.string ((rd_T99 a c).f0))).setCell ⟨g, 1, none⟩ (.string ((rd_T99 a c).f1))).setCell ⟨g, 2, none⟩ (.int .i64 ((rd_T99 a c).f2))).heap[M]? = some (.cells #[.slice (some d) a.length q] 44 (0, 0))) := ⟨qf_ l⟩
    have o : Aside0 ((((U.setCell ⟨g, 0, none⟩ (.string ((rd_T99 a c).f0))).setCell ⟨g, 1, none⟩ (.string ((rd_T99 a c).f1))).setCell ⟨g, 2, none⟩ (.int .i64 ((rd_T99 a c).f2))).heap[g]? = some (.cells #[.string ((rd_T99 a c).f0), .string ((rd_T99 a c).f1), .int .i64 ((rd_T99 a c).f2)] 99 (0, 0))) := ⟨qp_ i⟩
    have p : Aside0 (Below w.heap.size w (((U.setCell ⟨g, 0, none⟩ (.string ((rd_T99 a c).f0))).setCell ⟨g, 1, none⟩ (.string ((rd_T99 a c).f1))).setCell ⟨g, 2, none⟩ (.int .i64 ((rd_T99 a c).f2)))) := ⟨qB_⟩
    clear l i HB
    generalize (((U.setCell ⟨g, 0, none⟩ (.string ((rd_T99 a c).f0))).setCell ⟨g, 1, none⟩ (.string ((rd_T99 a c).f1))).setCell ⟨g, 2, none⟩ (.int .i64 ((rd_T99 a c).f2))) = b7 at m o p ⊢
    have l := m; have i := o; have HB := p; clear m o p
    replace l := bd_ l; replace i := bd_ i; replace HB := hd_ HB
    refine start_ (n := 36) (S := fun w' => w'.cell? ⟨g, 0, none⟩ = some (.string ((rd_T99 a c).f0)) ∧ w'.cell? ⟨g, 1, none⟩ = some (.string ((rd_T99 a c).f1)) ∧ w'.cell? ⟨g, 2, none⟩ = some (.int .i64 ((rd_T99 a c).f2))) (ds := []) (bm 36 0) (by kernel_rfl) rfl (by kernel_rfl) ⟨bl_ i 0, bl_ i 1, bl_ i 2⟩ (fun hHeld => ?_); refine with_tabW impl_DiskOk.tab4 impl_DiskOk.bits4 (fun HT_ HW_ => ?_)
    generalize b7.drew = d1 at l i HB hHeld ⊢
    refine pz_ 0 13 36 1 ?_; refine tz3_ 1 14 36 3 ?_; refine pz_ 2 15 36 7 ?_
    refine o1_ 3 (some 16) 36 15 (fun K hK => ?_)
    refine gs_ Try.func69 #[.int .i64 (((rd_T99 a c).f0).size : Int), .int .i64 1, .int .i64 8] ?_
    with_reducible refine (impl_in.calls (((rd_T99 a c).f0).size : Int) 1 8 true _ a2.out).mono ?_
    rintro e w' ⟨rfl, ⟨nd, rfl⟩⟩
    refine ⟨_, rfl, ?_⟩
    refine hK.out _ _ ⟨bl_ i 0, bl_ i 1, bl_ i 2⟩ (fun hHeld => ?_)
    clear hK K
    refine nm_ 16 ?_
    refine pz_ 4 17 36 31 ?_; refine pz_ 5 18 36 63 ?_; refine pz_ 6 19 36 127 ?_; refine tz3_ 7 20 36 255 ?_; refine pz_ 8 21 36 511 ?_; refine pz_ 9 22 36 1023 ?_; refine pz_ 10 23 36 2047 ?_; refine pz_ 11 24 36 4095 ?_; refine pz_ 12 25 36 8191 ?_; refine pz_ 14 27 36 24575 ?_; refine tz3_ 13 26 36 32767 ?_; refine tz3_ 15 28 36 65535 ?_; refine pz_ 16 29 36 131071 ?_
    refine o1_ 17 (some 30) 36 262143 (fun K hK => ?_)
    refine gs_ Try.func69 #[.int .i64 ((rd_T99 a c).f2), .int .i64 0, .int .i64 (((rd_T99 a c).f1).size : Int)] ?_
    with_reducible refine (impl_in.calls ((rd_T99 a c).f2) 0 (((rd_T99 a c).f1).size : Int) true _ G.out).mono ?_
    rintro e w' ⟨rfl, ⟨nd, rfl⟩⟩
    refine ⟨_, rfl, ?_⟩
    refine hK.out _ _ ⟨bl_ i 0, bl_ i 1, bl_ i 2⟩ (fun hHeld => ?_)
    clear hK K
    refine nm_ 30 ?_
    refine pz_ 18 31 36 524287 ?_; refine pz_ 19 32 36 1048575 ?_; refine pz_ 20 33 36 2097151 ?_; refine pz_ 21 34 36 4194303 ?_; refine pz_ 22 35 36 8388607 ?_; refine pz_ 23 36 36 16777215 ?_
    refine pu_ 24 37 36 33554431 ?_
    refine pu_ 25 38 36 67108863 ?_
    refine pu_ 26 39 36 134217727 ?_
    refine pu_ 27 40 36 268435455 ?_
    refine pu_ 28 41 36 536870911 ?_
    refine pu_ 29 42 36 1073741823 ?_
    refine pu_ 30 43 36 2147483647 ?_
    refine pu_ 31 44 36 4294967295 ?_
    refine pu_ 32 45 36 8589934591 ?_
    refine pu_ 33 46 36 17179869183 ?_
    refine pz_ 34 47 36 34359738367 ?_; refine pz_ 35 48 36 68719476735 ?_
    refine done_ (done_of HT_.out (by kernel_rfl)) ?_
    try go_wp2
    go_roundg c2
    case measure => have := HK1.out; omega
    case rel => exact ⟨(wrap64 (c + 1)), qe_, H', ⟨by have := HK1.out; omega⟩, ⟨qk_ l⟩, ⟨qB_⟩⟩
   have a3 : decide (0 < c) = true := decide_eq_true T
   clear T
   obtain ⟨j, y⟩ : ∃ j_ : Int, (wrap64 (c - 1)) = j_ := ⟨_, rfl⟩
   first | rw [y] at H | simp only [y] at H
   have hji18w : (IntKind.i64.wrap (c - 1)) = j := (i64_w _).trans y
   refine ig_ H ?_; clear H; intro b8 H
   refine ig_ H ?_; clear H; intro b9 H
   refine jc_ H ?_ ?_ <;> clear H <;> intro V H
   ·have a4 : (Op.bytesLess (((rd_T99 a (j)).f0).toList) (((rd_T99 a c).f0).toList)) = true := V
    clear V; have H' := am_ H; clear H
    have u := dt_ c
    have v := du_ c a.length
    obtain ⟨d, x, z, A, B⟩ := at_T99 s.out c (ot_ u) (ot_ v)
    cases x
    replace z := qx_ HB z
    replace A := qx_ HB A
    replace B := qx_ HB B
    try go_wp2_with (first | ((with_reducible refine gd_ 4 ?_); ((refine gate_guard (by rfl) ?_; dsimp only)); refine by_ 4 (cs := #[.string (⟨#[]⟩ : ByteArray), .string (⟨#[]⟩ : ByteArray), .int .i64 0]) (t := 99) ?_; intro g hg X i hb; have a8 := gw_ hg; obtain ⟨a9, F⟩ := qn_ l hg; replace l := qbl_ l hb; replace HB := hs_ hb; clear hb hg; obtain ⟨h6, h7⟩ := nn_ F; obtain ⟨h8, h9, i0, i1, i2, i3⟩ := bc3_ i))
    have m : Aside0 ((((X.setCell ⟨g, 0, none⟩ (.string ((rd_T99 a c).f0))).setCell ⟨g, 1, none⟩ (.string ((rd_T99 a c).f1))).setCell ⟨g, 2, none⟩ (.int .i64 ((rd_T99 a c).f2))).heap[M]? = some (.cells #[.slice (some d) a.length q] 44 (0, 0))) := ⟨qf_ l⟩
    have o : Aside0 ((((X.setCell ⟨g, 0, none⟩ (.string ((rd_T99 a c).f0))).setCell ⟨g, 1, none⟩ (.string ((rd_T99 a c).f1))).setCell ⟨g, 2, none⟩ (.int .i64 ((rd_T99 a c).f2))).heap[g]? = some (.cells #[.string ((rd_T99 a c).f0), .string ((rd_T99 a c).f1), .int .i64 ((rd_T99 a c).f2)] 99 (0, 0))) := ⟨qp_ i⟩
    have p : Aside0 (Below w.heap.size w (((X.setCell ⟨g, 0, none⟩ (.string ((rd_T99 a c).f0))).setCell ⟨g, 1, none⟩ (.string ((rd_T99 a c).f1))).setCell ⟨g, 2, none⟩ (.int .i64 ((rd_T99 a c).f2)))) := ⟨qB_⟩
    clear l i HB
    generalize (((X.setCell ⟨g, 0, none⟩ (.string ((rd_T99 a c).f0))).setCell ⟨g, 1, none⟩ (.string ((rd_T99 a c).f1))).setCell ⟨g, 2, none⟩ (.int .i64 ((rd_T99 a c).f2))) = c0 at m o p ⊢
    have l := m; have i := o; have HB := p; clear m o p
    replace l := bd_ l; replace i := bd_ i; replace HB := hd_ HB
    have I := dt_ ((j))
    have J := du_ (j) a.length
    obtain ⟨D, L, Y, Z, a0⟩ := at_T99 s.out (j) (ot_ I) (ot_ J)
    have a5 := a0; have a6 := Z; have a7 := Y
    obtain rfl : d = D := (by injection L)
    replace Y := qx_ HB Y
    replace Z := qx_ HB Z
    replace a0 := qx_ HB a0
    refine start_ (n := 36) (S := fun w' => w'.cell? ⟨g, 0, none⟩ = some (.string ((rd_T99 a c).f0)) ∧ w'.cell? ⟨g, 1, none⟩ = some (.string ((rd_T99 a c).f1)) ∧ w'.cell? ⟨g, 2, none⟩ = some (.int .i64 ((rd_T99 a c).f2)) ∧ w'.cell? ⟨M, 0, none⟩ = some (.slice (some d) a.length q) ∧ w'.cell? (d.add (((j)).toNat * 3)) = some (.string ((rd_T99 a (j)).f0)) ∧ w'.cell? ⟨(d.add (((j)).toNat * 3)).block, (d.add (((j)).toNat * 3)).off + 1, none⟩ = some (.string ((rd_T99 a (j)).f1)) ∧ w'.cell? ⟨(d.add (((j)).toNat * 3)).block, (d.add (((j)).toNat * 3)).off + 2, none⟩ = some (.int .i64 ((rd_T99 a (j)).f2))) (ds := []) (bm 36 0) (by kernel_rfl) rfl (by kernel_rfl) ⟨bl_ i 0, bl_ i 1, bl_ i 2, bl_ l 0, ((qx_ HB a7).trans rfl), ((qx_ HB a6).trans rfl), ((qx_ HB a5).trans rfl)⟩ (fun hHeld => ?_); refine with_tabW impl_DiskOk.tab4 impl_DiskOk.bits4 (fun HT_ HW_ => ?_)
    generalize c0.drew = d2 at l i HB Y Z a0 hHeld ⊢
    refine pz_ 0 13 36 1 ?_; refine tz7_ 1 14 36 3 ?_; refine pz_ 2 15 36 7 ?_
    refine o1_ 3 (some 16) 36 15 (fun K hK => ?_)
    refine gs_ Try.func69 #[.int .i64 (((rd_T99 a c).f0).size : Int), .int .i64 1, .int .i64 8] ?_
    with_reducible refine (impl_in.calls (((rd_T99 a c).f0).size : Int) 1 8 true _ a2.out).mono ?_
    rintro e w' ⟨rfl, ⟨nd, rfl⟩⟩
    refine ⟨_, rfl, ?_⟩
    refine hK.out _ _ ⟨bl_ i 0, bl_ i 1, bl_ i 2, bl_ l 0, ((qx_ HB a7).trans rfl), ((qx_ HB a6).trans rfl), ((qx_ HB a5).trans rfl)⟩ (fun hHeld => ?_)
    clear hK K
    refine nm_ 16 ?_
    refine pz_ 4 17 36 31 ?_; refine pz_ 5 18 36 63 ?_; refine pz_ 6 19 36 127 ?_; refine tz7_ 7 20 36 255 ?_; refine pz_ 8 21 36 511 ?_; refine pz_ 9 22 36 1023 ?_; refine pz_ 10 23 36 2047 ?_; refine pz_ 11 24 36 4095 ?_; refine pz_ 12 25 36 8191 ?_; refine pz_ 14 27 36 24575 ?_; refine tz7_ 13 26 36 32767 ?_; refine tz7_ 15 28 36 65535 ?_; refine pz_ 16 29 36 131071 ?_
    refine o1_ 17 (some 30) 36 262143 (fun K hK => ?_)
    refine gs_ Try.func69 #[.int .i64 ((rd_T99 a c).f2), .int .i64 0, .int .i64 (((rd_T99 a c).f1).size : Int)] ?_
    with_reducible refine (impl_in.calls ((rd_T99 a c).f2) 0 (((rd_T99 a c).f1).size : Int) true _ G.out).mono ?_
    rintro e w' ⟨rfl, ⟨nd, rfl⟩⟩
    refine ⟨_, rfl, ?_⟩
    refine hK.out _ _ ⟨bl_ i 0, bl_ i 1, bl_ i 2, bl_ l 0, ((qx_ HB a7).trans rfl), ((qx_ HB a6).trans rfl), ((qx_ HB a5).trans rfl)⟩ (fun hHeld => ?_)
    clear hK K
    refine nm_ 30 ?_
    refine pz_ 18 31 36 524287 ?_; refine pz_ 19 32 36 1048575 ?_; refine pz_ 20 33 36 2097151 ?_; refine pz_ 21 34 36 4194303 ?_; refine pz_ 22 35 36 8388607 ?_; refine pz_ 23 36 36 16777215 ?_; refine pz_ 24 37 36 33554431 ?_; refine pz_ 26 39 36 100663295 ?_; refine pz_ 27 40 36 234881023 ?_; refine pz_ 31 44 36 2382364671 ?_; refine tz7_ 25 38 36 2415919103 ?_; refine pz_ 28 41 36 2684354559 ?_; refine pz_ 29 42 36 3221225471 ?_; refine tz7_ 30 43 36 4294967295 ?_; refine tz7_ 32 45 36 8589934591 ?_; refine pz_ 33 46 36 17179869183 ?_; refine pz_ 34 47 36 34359738367 ?_; refine pz_ 35 48 36 68719476735 ?_
    refine done_ (done_of HT_.out (by kernel_rfl)) ?_
    try go_wp2
    go_roundg c2
    case measure => have := HK1.out; omega
    case rel => exact ⟨(wrap64 (c + 1)), qe_, H', ⟨by have := HK1.out; omega⟩, ⟨qk_ l⟩, ⟨qB_⟩⟩
   have a4 : (Op.bytesLess (((rd_T99 a (j)).f0).toList) (((rd_T99 a c).f0).toList)) = false := by simpa using V
   clear V
   obtain rfl := oi_ H
   have u := dt_ c
   have v := du_ c a.length
   obtain ⟨d, x, z, A, B⟩ := at_T99 s.out c (ot_ u) (ot_ v)
   cases x
   replace z := qx_ HB z
   replace A := qx_ HB A
   replace B := qx_ HB B
   try go_wp2_with (first | ((with_reducible refine gd_ 4 ?_); ((refine gate_guard (by rfl) ?_; dsimp only)); refine by_ 4 (cs := #[.string (⟨#[]⟩ : ByteArray), .string (⟨#[]⟩ : ByteArray), .int .i64 0]) (t := 99) ?_; intro g hg a1 i hb; have a8 := gw_ hg; obtain ⟨a9, F⟩ := qn_ l hg; replace l := qbl_ l hb; replace HB := hs_ hb; clear hb hg; obtain ⟨i4, i5⟩ := nn_ F; obtain ⟨i6, i7, i8, i9, j3, j4⟩ := bc3_ i))
   have m : Aside0 ((((a1.setCell ⟨g, 0, none⟩ (.string ((rd_T99 a c).f0))).setCell ⟨g, 1, none⟩ (.string ((rd_T99 a c).f1))).setCell ⟨g, 2, none⟩ (.int .i64 ((rd_T99 a c).f2))).heap[M]? = some (.cells #[.slice (some d) a.length q] 44 (0, 0))) := ⟨qf_ l⟩
   have o : Aside0 ((((a1.setCell ⟨g, 0, none⟩ (.string ((rd_T99 a c).f0))).setCell ⟨g, 1, none⟩ (.string ((rd_T99 a c).f1))).setCell ⟨g, 2, none⟩ (.int .i64 ((rd_T99 a c).f2))).heap[g]? = some (.cells #[.string ((rd_T99 a c).f0), .string ((rd_T99 a c).f1), .int .i64 ((rd_T99 a c).f2)] 99 (0, 0))) := ⟨qp_ i⟩
   have p : Aside0 (Below w.heap.size w (((a1.setCell ⟨g, 0, none⟩ (.string ((rd_T99 a c).f0))).setCell ⟨g, 1, none⟩ (.string ((rd_T99 a c).f1))).setCell ⟨g, 2, none⟩ (.int .i64 ((rd_T99 a c).f2)))) := ⟨qB_⟩
   clear l i HB
   generalize (((a1.setCell ⟨g, 0, none⟩ (.string ((rd_T99 a c).f0))).setCell ⟨g, 1, none⟩ (.string ((rd_T99 a c).f1))).setCell ⟨g, 2, none⟩ (.int .i64 ((rd_T99 a c).f2))) = c1 at m o p ⊢
   have l := m; have i := o; have HB := p; clear m o p
   replace l := bd_ l; replace i := bd_ i; replace HB := hd_ HB
   have I := dt_ ((j))
   have J := du_ (j) a.length
   obtain ⟨D, L, Y, Z, a0⟩ := at_T99 s.out (j) (ot_ I) (ot_ J)
   have a5 := a0; have a6 := Z; have a7 := Y
   obtain rfl : d = D := (by injection L)
   replace Y := qx_ HB Y
   replace Z := qx_ HB Z
   replace a0 := qx_ HB a0
   refine start_ (n := 36) (S := fun w' => w'.cell? ⟨g, 0, none⟩ = some (.string ((rd_T99 a c).f0)) ∧ w'.cell? ⟨g, 1, none⟩ = some (.string ((rd_T99 a c).f1)) ∧ w'.cell? ⟨g, 2, none⟩ = some (.int .i64 ((rd_T99 a c).f2)) ∧ w'.cell? ⟨M, 0, none⟩ = some (.slice (some d) a.length q) ∧ w'.cell? (d.add (((j)).toNat * 3)) = some (.string ((rd_T99 a (j)).f0)) ∧ w'.cell? ⟨(d.add (((j)).toNat * 3)).block, (d.add (((j)).toNat * 3)).off + 1, none⟩ = some (.string ((rd_T99 a (j)).f1)) ∧ w'.cell? ⟨(d.add (((j)).toNat * 3)).block, (d.add (((j)).toNat * 3)).off + 2, none⟩ = some (.int .i64 ((rd_T99 a (j)).f2))) (ds := []) (bm 36 0) (by kernel_rfl) rfl (by kernel_rfl) ⟨bl_ i 0, bl_ i 1, bl_ i 2, bl_ l 0, ((qx_ HB a7).trans rfl), ((qx_ HB a6).trans rfl), ((qx_ HB a5).trans rfl)⟩ (fun hHeld => ?_); refine with_tabW impl_DiskOk.tab4 impl_DiskOk.bits4 (fun HT_ HW_ => ?_)
   generalize c1.drew = d3 at l i HB Y Z a0 hHeld ⊢
   refine pz_ 0 13 36 1 ?_; refine tz7_ 1 14 36 3 ?_; refine pz_ 2 15 36 7 ?_
   refine o1_ 3 (some 16) 36 15 (fun K hK => ?_)
   refine gs_ Try.func69 #[.int .i64 (((rd_T99 a c).f0).size : Int), .int .i64 1, .int .i64 8] ?_
   with_reducible refine (impl_in.calls (((rd_T99 a c).f0).size : Int) 1 8 true _ a2.out).mono ?_
   rintro e w' ⟨rfl, ⟨nd, rfl⟩⟩
   refine ⟨_, rfl, ?_⟩
   refine hK.out _ _ ⟨bl_ i 0, bl_ i 1, bl_ i 2, bl_ l 0, ((qx_ HB a7).trans rfl), ((qx_ HB a6).trans rfl), ((qx_ HB a5).trans rfl)⟩ (fun hHeld => ?_)
   clear hK K
   refine nm_ 16 ?_
   refine pz_ 4 17 36 31 ?_; refine pz_ 5 18 36 63 ?_; refine pz_ 6 19 36 127 ?_; refine tz7_ 7 20 36 255 ?_; refine pz_ 8 21 36 511 ?_; refine pz_ 9 22 36 1023 ?_; refine pz_ 10 23 36 2047 ?_; refine pz_ 11 24 36 4095 ?_; refine pz_ 12 25 36 8191 ?_; refine pz_ 14 27 36 24575 ?_; refine tz7_ 13 26 36 32767 ?_; refine tz7_ 15 28 36 65535 ?_; refine pz_ 16 29 36 131071 ?_
   refine o1_ 17 (some 30) 36 262143 (fun K hK => ?_)
   refine gs_ Try.func69 #[.int .i64 ((rd_T99 a c).f2), .int .i64 0, .int .i64 (((rd_T99 a c).f1).size : Int)] ?_
   with_reducible refine (impl_in.calls ((rd_T99 a c).f2) 0 (((rd_T99 a c).f1).size : Int) true _ G.out).mono ?_
   rintro e w' ⟨rfl, ⟨nd, rfl⟩⟩
   refine ⟨_, rfl, ?_⟩
   refine hK.out _ _ ⟨bl_ i 0, bl_ i 1, bl_ i 2, bl_ l 0, ((qx_ HB a7).trans rfl), ((qx_ HB a6).trans rfl), ((qx_ HB a5).trans rfl)⟩ (fun hHeld => ?_)
   clear hK K
   refine nm_ 30 ?_
   refine pz_ 18 31 36 524287 ?_; refine pz_ 19 32 36 1048575 ?_; refine pz_ 20 33 36 2097151 ?_; refine pz_ 21 34 36 4194303 ?_; refine pz_ 22 35 36 8388607 ?_; refine pz_ 23 36 36 16777215 ?_; refine pz_ 24 37 36 33554431 ?_; refine pz_ 26 39 36 100663295 ?_; refine pz_ 27 40 36 234881023 ?_; refine pz_ 31 44 36 2382364671 ?_; refine tz7_ 25 38 36 2415919103 ?_; refine pz_ 28 41 36 2684354559 ?_; refine pz_ 29 42 36 3221225471 ?_; refine tz7_ 30 43 36 4294967295 ?_; refine tz7_ 32 45 36 8589934591 ?_; refine pz_ 33 46 36 17179869183 ?_; refine pz_ 34 47 36 34359738367 ?_; refine pz_ 35 48 36 68719476735 ?_
   refine done_ (done_of HT_.out (by kernel_rfl)) ?_
   try go_wp2
   go_ret
   exact ⟨by first | rfl | (simp [errW_none, errW_some] <;> rfl) | (simp only [← y]; first | rfl | (simp [errW_none, errW_some] <;> rfl)) | (simp [*, errW_none, errW_some] <;> rfl), qB_⟩
end Go.Proofs.Ytacnlodcbbhahaa.QFnActs
