import Derived.Test.YtacnlodcbbhahaaQFnActsx0
namespace Go.Proofs.Ytacnlodcbbhahaa.QFnActs
open Go.RowKit Go.Proofs.YtacnlodcbbhahaaW.PrintWords Go.Proofs.YtacnlodcbbhahaaW.PrintLast Go.Proofs.YtacnlodcbbhahaaW.PrintMore
set_option maxHeartbeats 8000000
set_option maxRecDepth 100000
set_option linter.unusedVariables false
set_option linter.unusedSimpArgs false
mutual
def impl_Disk_put.j1 : Nat → Int → List (S99) → ByteArray → ByteArray → Int → Option ((List (S99)))
  | 0, _, _, _, _, _ => none
  | k + 1, x4, x228000, x229000, x229001, x229002 => if 0 ≤ x4 then (if x4 ≤ (x228000.length : Int) then ((some (x228000.drop (x4 : Int).toNat : List (S99))).bind fun y230 => (if ([] : List (S99)).length + y230.length < 3518437208883 then ((some (([] : List (S99)) ++ y230 : List (S99))).bind fun y234 => (if (y234.length : Int) > 0 then (if 0 < (y234.length : Int) then (if ((rd_T99 y234 0).f0).toList = x229000.toList then (if 1 ≤ (y234.length : Int) then ((some (y234.drop (1 : Int).toNat : List (S99))).bind fun y238 => ((some (x228000.take (x4 : Int).toNat : List (S99))).bind fun y241 => (if ([] : List (S99)).length + y241.length < 3518437208883 then ((some (([] : List (S99)) ++ y241 : List (S99))).bind fun y245 => ((some (([(⟨x229000, x229001, x229002⟩ : S99)] : List (S99)) : List (S99))).bind fun y248 => (if y245.length + y248.length < 3518437208883 then ((some (y245 ++ y248 : List (S99))).bind fun y251 => (if y251.length + y238.length < 3518437208883 then (some (y251 ++ y238)) else (none))) else (none)))) else (none)))) else (none)) else ((some (x228000.take (x4 : Int).toNat : List (S99))).bind fun y257 => (if ([] : List (S99)).length + y257.length < 3518437208883 then ((some (([] : List (S99)) ++ y257 : List (S99))).bind fun y261 => ((some (([(⟨x229000, x229001, x229002⟩ : S99)] : List (S99)) : List (S99))).bind fun y264 => (if y261.length + y264.length < 3518437208883 then ((some (y261 ++ y264 : List (S99))).bind fun y267 => (if y267.length + y234.length < 3518437208883 then (some (y267 ++ y234)) else (none))) else (none)))) else (none)))) else (none)) else ((some (x228000.take (x4 : Int).toNat : List (S99))).bind fun y273 => (if ([] : List (S99)).length + y273.length < 3518437208883 then ((some (([] : List (S99)) ++ y273 : List (S99))).bind fun y277 => ((some (([(⟨x229000, x229001, x229002⟩ : S99)] : List (S99)) : List (S99))).bind fun y280 => (if y277.length + y280.length < 3518437208883 then ((some (y277 ++ y280 : List (S99))).bind fun y283 => (if y283.length + y234.length < 3518437208883 then (some (y283 ++ y234)) else (none))) else (none)))) else (none))))) else (none))) else (none)) else (none)
def impl_Disk_put.l0 : Nat → Int → List (S99) → ByteArray → ByteArray → Int → Option ((List (S99)))
  | 0, _, _, _, _, _ => none
  | k + 1, x4, x228000, x229000, x229001, x229002 => if x4 < (x228000.length : Int) then (if 0 ≤ x4 then (if (Op.bytesLess (((rd_T99 x228000 x4).f0).toList) x229000.toList) = true then (impl_Disk_put.l0 k (wrap64 (x4 + 1)) x228000 x229000 x229001 x229002) else (impl_Disk_put.j1 k x4 x228000 x229000 x229001 x229002)) else (none)) else (impl_Disk_put.j1 k x4 x228000 x229000 x229001 x229002)
end
def impl_Disk_put.f (k : Nat) (l0_0 : List (S99)) (a1_0 : ByteArray) (a1_1 : ByteArray) (a1_2 : Int) : Option ((List (S99))) := impl_Disk_put.l0 k 0 l0_0 a1_0 a1_1 a1_2
def impl_Disk_put.T2 : Bool × List (List Nat × List Nat) := (true, [([], []), ([], []), ([1], [1]), ([2], [2]), ([3], [3]), ([4], [4]), ([0, 5], [0, 5]), ([6], [6]), ([7], [7]), ([8, 7], [7, 8]), ([9, 7], [7, 9]), ([10, 7], [7, 10]), ([7], [7]), ([11, 12, 7], [7, 11, 12]), ([13, 7], [7, 13]), ([14, 7], [7, 14]), ([7], [7]), ([16, 7], [7, 16]), ([15, 17, 7], [7, 15, 17]), ([7, 18], [7, 18])])
def impl_Disk_put.B2 : List Nat := [0, 0, 2, 6, 14, 30, 63, 127, 255, 511, 1023, 2047, 255, 8191, 16383, 32767, 255, 65791, 262143, 524287]
theorem impl_Disk_put.tab2 : rtab .any (opsOf Try.f87 2) = impl_Disk_put.T2 := by kernel_rfl
theorem impl_Disk_put.bits2 : waitsOk impl_Disk_put.T2.2 impl_Disk_put.B2 = true := by kernel_rfl
def impl_Disk_put.T5 : Bool × List (List Nat × List Nat) := (true, [([], []), ([0], [0]), ([1], [1]), ([2], [2]), ([3], [3]), ([4, 3], [3, 4]), ([5, 3], [3, 5]), ([6, 3], [3, 6]), ([3], [3]), ([8, 3], [3, 8]), ([7, 9, 3], [3, 7, 9]), ([3, 10], [3, 10])])
def impl_Disk_put.B5 : List Nat := [0, 1, 3, 7, 15, 31, 63, 127, 15, 271, 1023, 2047]
theorem impl_Disk_put.tab5 : rtab .any (opsOf Try.f87 5) = impl_Disk_put.T5 := by kernel_rfl
theorem impl_Disk_put.bits5 : waitsOk impl_Disk_put.T5.2 impl_Disk_put.B5 = true := by kernel_rfl
def impl_Disk_put.T7 : Bool × List (List Nat × List Nat) := (true, [([], []), ([], []), ([1], [1]), ([2], [2]), ([3], [3]), ([], []), ([4, 5], [4, 5]), ([6], [6]), ([], []), ([8], [8]), ([7, 9, 7], [7, 9]), ([], []), ([10, 11, 10], [10, 11]), ([0, 0, 1, 2, 3, 4, 5, 6, 7, 8, 9, 10, 11, 12], [0]), ([13, 0, 1, 2, 3, 4, 5, 6, 7, 8, 9, 10, 11, 12], [13]), ([14, 12, 12, 0, 1, 2, 3, 4, 5, 6, 7, 8, 9, 10, 11, 12], [12, 14])])
def impl_Disk_put.B7 : List Nat := [0, 0, 2, 6, 14, 0, 62, 126, 0, 256, 1022, 0, 4094, 8191, 16383, 32767]
theorem impl_Disk_put.tab7 : rtab .any (opsOf Try.f87 7) = impl_Disk_put.T7 := by kernel_rfl
theorem impl_Disk_put.bits7 : waitsOk impl_Disk_put.T7.2 impl_Disk_put.B7 = true := by kernel_rfl
theorem impl_Disk_put.calls (k : Nat) (u : Option Addr) (q : Nat) (a : List (S99)) (d : ByteArray) (l : ByteArray) (o : Int) (r : List (S99)) (Y : Nat) (w : World) (hblk : w.heap[Y]? = some (.cells #[.slice u a.length q] 44 (0, 0))) (hr0_0 : Kd.C k99 w u a.length a) (hc0_0 : a.length ≤ q) (h : impl_Disk_put.f k a d l o = some r) :
  Calls Try.prog 87 #[.pointer (some ⟨Y, 0, none⟩), .agg #[.string d, .string l, .int .i64 o]] w fun e w' => ∃ (j7 : World) (m9 : Value), e = .returned (.tuple #[]) ∧ Kd.R k99 99 j7 w.heap.size (fun _ => True) m9 r ∧ Below w.heap.size w j7 ∧ w' = j7.setCell ⟨Y, 0, none⟩ m9 := by
 have hu44 := Try.underlying44; have hu99 := Try.underlying99
 have G := am_ hr0_0
 have V := am_ hc0_0
 clear hr0_0 hc0_0
 have HB := am_ (Below.refl w.heap.size w)
 have s := am_ hblk
 clear hblk
 rw [impl_Disk_put.f] at h; have H := h; clear h
 have q4 := am_ H
 clear H
 go_enter Try.func87, Try.ntmps87
 go_upto_block 0 with (first | ((with_reducible refine gd_ 3 ?_); refine by_ 3 (cs := #[.string d, .string l, .int .i64 o]) (t := 99) ?_; intro y hg A7 g hb; have A8 := gw_ hg; obtain ⟨m8, q5⟩ := qn_ s hg; replace s := qbl_ s hb; replace HB := hs_ hb; clear hb hg))
 go_cut [4] (fun v4 wc => ∃ (kq : Nat) (p : Int), v4 = .int .i64 p ∧ Aside0 (impl_Disk_put.j1 kq p a d l o = some r) ∧ Aside0 (kq ≤ k) ∧ Aside0 (wc.heap[Y]? = some (.cells #[(.slice u a.length q)] 44 (0, 0))) ∧ Aside0 (wc.heap[y]? = some (.cells #[.string d, .string l, .int .i64 o] 99 (0, 0))) ∧ Aside0 (Below w.heap.size w wc))
 case first =>
  have H := q4.out; clear q4; have H' := am_ H; clear H
  go_wp2
  go_loopg [4] k (fun kq v4 w' => ∃ (z : Int), v4 = .int .i64 z ∧ Aside0 (impl_Disk_put.l0 kq z a d l o = some r) ∧ Aside0 (kq ≤ k) ∧ Aside0 (w'.heap[Y]? = some (.cells #[(.slice u a.length q)] 44 (0, 0))) ∧ Aside0 (w'.heap[y]? = some (.cells #[.string d, .string l, .int .i64 o] 99 (0, 0))) ∧ Aside0 (Below w.heap.size w w'))
  case atStart => exact ⟨(0), qe_, H', ⟨Nat.le_refl _⟩, ⟨qk_ s⟩, ⟨qk_ g⟩, ⟨qB_⟩⟩
  case round =>
   clear H'
   obtain ⟨z, rfl, HA, HK1, s, g, HB⟩ := hrel
   cases gk with
   | zero => exact absurd HA.out (by simp [impl_Disk_put.l0])
   | succ y9 =>
    have H := HA.out; clear HA
    simp only [impl_Disk_put.l0] at H
    refine ib_ H ?_ ?_ <;> clear H <;> intro b0 H
    ·(first | rw [b0] | (simp only [i64_w, i32_w]; rw [b0]) | skip)
     have H' := am_ H; clear H
     try go_wp2
     replace s := bd_ s; replace g := bd_ g; replace HB := hd_ HB
     refine start_ (n := 20) (S := fun w' => w'.cell? ⟨Y, 0, none⟩ = some (.slice u a.length q)) (ds := []) (bm 20 0) (by kernel_rfl) rfl (by kernel_rfl) (bl_ s 0) (fun hHeld => ?_); refine with_tabW impl_Disk_put.tab2 impl_Disk_put.bits2 (fun HT_ HW_ => ?_)
     generalize wr.drew = z0 at s g HB hHeld ⊢
     refine pz_ 0 6 20 1 ?_; refine pz_ 1 7 20 3 ?_; refine pz_ 2 8 20 7 ?_; refine pz_ 3 9 20 15 ?_
     refine take_ (i := 4) (N := some 10) (v := ?_) (a' := ?_) (bm 20 31) rfl rfl (take_ofW HT_.out HW_.out (by kernel_rfl)) (fun _ _ _ h => h) (Or.inl ⟨by rfl, ?_⟩) hHeld ?_ ?_
     rotate_left
     ·intro w' A9
      go_simp
      with_reducible rfl
     rotate_left
     ·simp only [Act.put, sA_, sB_, sC_, i64_w, i32_w]
      rfl
     refine pz_ 5 11 20 63 ?_; refine pz_ 6 12 20 127 ?_; refine pz_ 7 13 20 255 ?_
     refine pu_ 8 14 20 511 ?_
     refine pu_ 9 15 20 1023 ?_
     refine pu_ 10 16 20 2047 ?_
     refine pu_ 11 17 20 4095 ?_
     refine pu_ 12 18 20 8191 ?_
     refine pu_ 13 19 20 16383 ?_
     refine pu_ 14 20 20 32767 ?_
     refine pu_ 15 21 20 65535 ?_
     refine pu_ 16 22 20 131071 ?_
     refine pu_ 17 23 20 262143 ?_
     refine pu_ 18 24 20 524287 ?_
     refine pz_ 19 25 20 1048575 ?_
     refine done_ (done_of HT_.out (by kernel_rfl)) ?_
     try go_wp2
     go_meet
     case rel => exact ⟨_, (z), qe_, H', ⟨by have := HK1.out; first | omega | exact Nat.le_refl _⟩, ⟨qk_ s⟩, ⟨qk_ g⟩, ⟨qB_⟩⟩
    (first | rw [b0] | (simp only [i64_w, i32_w]; rw [b0]) | skip)
    refine ig_ H ?_; clear H; intro n0 H
    refine jc_ H ?_ ?_ <;> clear H <;> intro n1 H
    ·have i7 : (Op.bytesLess (((rd_T99 a z).f0).toList) d.toList) = true := n1
     clear n1; have H' := am_ H; clear H
     try go_wp2
     replace s := bd_ s; replace g := bd_ g; replace HB := hd_ HB
     have c8 := dt_ z
     have c9 := du_ z a.length
     obtain ⟨D, d7, i0, i1, i2⟩ := at_T99 G.out z (ot_ c8) (ot_ c9)
     have q6 := i2; have q7 := i1; have q8 := i0; cases d7
     replace i0 := qx_ HB i0
     replace i1 := qx_ HB i1
     replace i2 := qx_ HB i2
     refine start_ (n := 20) (S := fun w' => w'.cell? ⟨Y, 0, none⟩ = some (.slice (some D) a.length q) ∧ w'.cell? ⟨y, 0, none⟩ = some (.string d) ∧ w'.cell? ⟨y, 1, none⟩ = some (.string l) ∧ w'.cell? ⟨y, 2, none⟩ = some (.int .i64 o) ∧ w'.cell? (D.add ((z).toNat * 3)) = some (.string ((rd_T99 a z).f0)) ∧ w'.cell? ⟨(D.add ((z).toNat * 3)).block, (D.add ((z).toNat * 3)).off + 1, none⟩ = some (.string ((rd_T99 a z).f1)) ∧ w'.cell? ⟨(D.add ((z).toNat * 3)).block, (D.add ((z).toNat * 3)).off + 2, none⟩ = some (.int .i64 ((rd_T99 a z).f2))) (ds := []) (bm 20 0) (by kernel_rfl) rfl (by kernel_rfl) ⟨bl_ s 0, bl_ g 0, bl_ g 1, bl_ g 2, ((qx_ HB q8).trans rfl), ((qx_ HB q7).trans rfl), ((qx_ HB q6).trans rfl)⟩ (fun hHeld => ?_); refine with_tabW impl_Disk_put.tab2 impl_Disk_put.bits2 (fun HT_ HW_ => ?_)
     generalize wr.drew = B1 at s g HB i0 i1 i2 hHeld ⊢
     refine pz_ 0 6 20 1 ?_; refine pz_ 1 7 20 3 ?_; refine pz_ 2 8 20 7 ?_; refine pz_ 3 9 20 15 ?_; refine tz7_ 4 10 20 31 ?_; refine pz_ 5 11 20 63 ?_; refine pz_ 6 12 20 127 ?_; refine pz_ 7 13 20 255 ?_; refine pz_ 8 14 20 511 ?_; refine pz_ 9 15 20 1023 ?_; refine pz_ 10 16 20 2047 ?_; refine pz_ 12 18 20 6143 ?_; refine pz_ 16 22 20 71679 ?_; refine tz7_ 11 17 20 73727 ?_; refine pz_ 13 19 20 81919 ?_; refine pz_ 14 20 20 98303 ?_; refine tz7_ 15 21 20 131071 ?_; refine tz7_ 17 23 20 262143 ?_; refine pz_ 18 24 20 524287 ?_; refine pz_ 19 25 20 1048575 ?_
     refine done_ (done_of HT_.out (by kernel_rfl)) ?_
     try go_wp2
     go_roundg y9
     case measure => have := HK1.out; omega
     case rel => exact ⟨(wrap64 (z + 1)), qe_, H', ⟨by have := HK1.out; omega⟩, ⟨qk_ s⟩, ⟨qk_ g⟩, ⟨qB_⟩⟩
    have i7 : (Op.bytesLess (((rd_T99 a z).f0).toList) d.toList) = false := by simpa using n1
    clear n1; have H' := am_ H; clear H
    try go_wp2
    replace s := bd_ s; replace g := bd_ g; replace HB := hd_ HB
    have c8 := dt_ z
    have c9 := du_ z a.length
    obtain ⟨D, d7, i0, i1, i2⟩ := at_T99 G.out z (ot_ c8) (ot_ c9)
    have q6 := i2; have q7 := i1; have q8 := i0; cases d7
    replace i0 := qx_ HB i0
    replace i1 := qx_ HB i1
    replace i2 := qx_ HB i2
    refine start_ (n := 20) (S := fun w' => w'.cell? ⟨Y, 0, none⟩ = some (.slice (some D) a.length q) ∧ w'.cell? ⟨y, 0, none⟩ = some (.string d) ∧ w'.cell? ⟨y, 1, none⟩ = some (.string l) ∧ w'.cell? ⟨y, 2, none⟩ = some (.int .i64 o) ∧ w'.cell? (D.add ((z).toNat * 3)) = some (.string ((rd_T99 a z).f0)) ∧ w'.cell? ⟨(D.add ((z).toNat * 3)).block, (D.add ((z).toNat * 3)).off + 1, none⟩ = some (.string ((rd_T99 a z).f1)) ∧ w'.cell? ⟨(D.add ((z).toNat * 3)).block, (D.add ((z).toNat * 3)).off + 2, none⟩ = some (.int .i64 ((rd_T99 a z).f2))) (ds := []) (bm 20 0) (by kernel_rfl) rfl (by kernel_rfl) ⟨bl_ s 0, bl_ g 0, bl_ g 1, bl_ g 2, ((qx_ HB q8).trans rfl), ((qx_ HB q7).trans rfl), ((qx_ HB q6).trans rfl)⟩ (fun hHeld => ?_); refine with_tabW impl_Disk_put.tab2 impl_Disk_put.bits2 (fun HT_ HW_ => ?_)
    generalize wr.drew = z1 at s g HB i0 i1 i2 hHeld ⊢
    refine pz_ 0 6 20 1 ?_; refine pz_ 1 7 20 3 ?_; refine pz_ 2 8 20 7 ?_; refine pz_ 3 9 20 15 ?_; refine tz7_ 4 10 20 31 ?_; refine pz_ 5 11 20 63 ?_; refine pz_ 6 12 20 127 ?_; refine pz_ 7 13 20 255 ?_; refine pz_ 8 14 20 511 ?_; refine pz_ 9 15 20 1023 ?_; refine pz_ 10 16 20 2047 ?_; refine pz_ 12 18 20 6143 ?_; refine pz_ 16 22 20 71679 ?_; refine tz7_ 11 17 20 73727 ?_; refine pz_ 13 19 20 81919 ?_; refine pz_ 14 20 20 98303 ?_; refine tz7_ 15 21 20 131071 ?_; refine tz7_ 17 23 20 262143 ?_; refine pz_ 18 24 20 524287 ?_; refine pz_ 19 25 20 1048575 ?_
    refine done_ (done_of HT_.out (by kernel_rfl)) ?_
    try go_wp2
    go_meet
    case rel => exact ⟨_, (z), qe_, H', ⟨by have := HK1.out; first | omega | exact Nat.le_refl _⟩, ⟨qk_ s⟩, ⟨qk_ g⟩, ⟨qB_⟩⟩
 case rest =>
  clear q4
  obtain ⟨kq, p, rfl, HA, C3, s, g, HB⟩ := hcut
  cases kq with
  | zero => exact absurd HA.out (by simp [impl_Disk_put.j1])
  | succ kj2 =>
   have H := HA.out; clear HA
   simp only [impl_Disk_put.j1] at H
   refine jg_ H ?_; clear H; intro j8 H
   have q9 := eq_true j8
   have r0 := decide_eq_true j8
   clear j8
   refine jg_ H ?_; clear H; intro j9 H
   have r1 := eq_true j9
   have r2 := decide_eq_true j9
   clear j9
   generalize d8 : (a.drop (p : Int).toNat) = a5 at H; replace H := bh_ H; have X := am_ d8.symm; clear d8
   refine jg_ H ?_; clear H; intro n2 H
   have c6 := am_ n2
   clear n2
   generalize d9 : (([] : List (S99)) ++ a5) = B at H; replace H := bh_ H; have c7 := am_ d9.symm; clear d9
   refine jb_ H ?_ ?_ <;> clear H <;> intro i3 H
   ·have k0 : decide (0 < (B.length : Int)) = false := decide_eq_false i3
    have k1 : decide (0 < B.length) = false := decide_eq_false (by omega)
    clear i3
    have r3 := eq_true (of_decide_eq_true qa_ : 0 ≤ p)
    have r4 := eq_true (of_decide_eq_true qa_ : p ≤ (a.length : Int))
    generalize e0 : (a.take (p : Int).toNat) = n3 at H; replace H := bh_ H; have e1 := am_ e0.symm; clear e0
    refine jg_ H ?_; clear H; intro n4 H
    have e2 := am_ n4
    clear n4
    generalize e3 : (([] : List (S99)) ++ n3) = p1 at H; replace H := bh_ H; have e4 := am_ e3.symm; clear e3
    generalize e5 : (([(⟨d, l, o⟩ : S99)] : List (S99))) = i8 at H; replace H := bh_ H; have a6 := am_ e5.symm; clear e5
    refine jg_ H ?_; clear H; intro n5 H
    have k2 := am_ n5
    clear n5
    generalize e6 : (p1 ++ i8) = x2 at H; replace H := bh_ H; have k3 := am_ e6.symm; clear e6
    refine jg_ H ?_; clear H; intro n6 H
    have k4 := am_ n6
    clear n6
    generalize e7 : (x2 ++ B) = C4 at H; replace H := bh_ H; have k5 := am_ e7.symm; clear e7
    obtain rfl := oi_ H
    obtain ⟨C5, C6⟩ := nn_ m8
    obtain ⟨C7, C8⟩ := bc1_ s
    have k6 : (p : Int) ≤ ((a.length : Int) : Int) := of_decide_eq_true qa_
    obtain ⟨i071, hi071, _, hsz71, _⟩ := info_parts info99
    have hroom71 : a.length ≤ q := V.out
    have hC71 : Kd.C k99 _ u a.length a := G.out
    have n7 : (0 : Int) ≤ (p : Int) := of_decide_eq_true qa_
    have hcut71 := cut_from (P := Try.prog) 42 99 .i64 Try.underlying42 hi071 3 hsz71 u a.length q p n7 k6
    have hr71 := Kd.C_drop (m := (p : Int).toNat) (c := q) hC71 (by omega) hroom71
    obtain ⟨r5, hA71⟩ : ∃ k7, k7 = (if q = (p : Int).toNat then u else (u : Option Addr).map (·.add ((p : Int).toNat * 3))) := ⟨_, rfl⟩
    obtain ⟨r6, hc71⟩ : ∃ k8, k8 = q - (p : Int).toNat := ⟨_, rfl⟩
    have d0 : a5.length = a.length - (p : Int).toNat := (by rw [X.out, List.length_drop] <;> omega)
    rw [show (a).drop (p : Int).toNat = a5 from X.out.symm] at hr71
    replace hr71 : Kd.C k99 _ r5 a5.length a5 := (by rw [hA71]; exact hr71)
    rw [← d0, ← hA71, ← hc71] at hcut71
    have n8 := am_ hr71
    have x3 := am_ (show a5.length ≤ r6 from by rw [d0, hc71]; exact Nat.sub_le_sub_right hroom71 _)
    clear hr71 hC71 hroom71 hi071 hsz71 hc71
    have KY71 := am_ d0
    have KA71 := am_ hA71
    clear d0 hA71; replace k6 := eq_true k6
    try go_wp2_with (first | ((with_reducible refine gate_builtin (b := .append) (xs := #[.const (.slice none 0 0), .tmp 33]) rfl ?_); at_builtin; refine Kd.R_append_rows k99 (w0 := w) w.heap.size rfl (.const (.slice none 0 0)) (.tmp 33) 42 99 (.agg #[(.string ⟨#[]⟩), (.string ⟨#[]⟩), (.int .i64 0)]) 40 rfl Try.underlying42 info99 rfl (by decide) (by omega) (.slice none 0 0) ([] : List (S99)) a5 _ _ _ (fun k_ => k_ ≠ y) (fun _ => False) rfl rfl ?aO ?aR (fun _ _ h => h) (fun _ h => h.elim) ?aF ?aB ?aS ?aL ?_; (case aR => repeat (first | exact (Kd.C_below n8.out HB.out) | (with_reducible refine Kd.C_alloc ?_ _) | (with_reducible refine Kd.C_drewN ?_ _) | (with_reducible refine Kd.C_drew ?_))); (case aB => exact qB_); (case aF => exact (fun k_ hk => Kd.freshB (qk_ g) k_ hk)); (case aO => exact ((Kd.R_nil _ _ _ _ (fun k_ => k_ ≠ y)))); (case aS => exact (below_size qB_)); (case aL => have := c6.out; omega); intro x4 r7 ho hb hg hat; rw [← c7.out] at ho; have A := am_ (ho); replace s := am_ (blk_grown (qk_ s) hg (by simp [Value.ownBlock])); replace g := am_ (blk_grown (qk_ g) hg (by simp [Value.ownBlock])); replace HB := am_ (hb); clear ho hb hg hat))
    replace A := rd_ A; replace s := bd_ s; replace g := bd_ g; replace HB := hd_ HB
    obtain ⟨d1, d2, x5⟩ := Kd.R_slice A.out
    (first | subst x5 | (injection x5 with E I F; have J := E.symm; have L := F.symm; clear E I F; subst J; subst L))
    refine start_ (n := 12) (S := fun w' => True) (ds := []) (bm 12 0) (by kernel_rfl) rfl (by kernel_rfl) trivial (fun hHeld => ?_); refine with_tabW impl_Disk_put.tab5 impl_Disk_put.bits5 (fun HT_ HW_ => ?_)
    generalize r7.drew = r8 at A s g HB hHeld ⊢
    refine pz_ 0 35 12 1 ?_; refine pz_ 1 36 12 3 ?_; refine pz_ 2 37 12 7 ?_; refine pz_ 3 38 12 15 ?_
    refine pu_ 4 39 12 31 ?_
    refine pu_ 5 40 12 63 ?_
    refine pu_ 6 41 12 127 ?_
    refine pu_ 7 42 12 255 ?_
    refine pu_ 8 43 12 511 ?_
    refine pu_ 9 44 12 1023 ?_
    refine pu_ 10 45 12 2047 ?_
    refine pz_ 11 46 12 4095 ?_
    refine done_ (done_of HT_.out (by kernel_rfl)) ?_
    try go_wp2
    replace A := rd_ A; replace s := bd_ s; replace g := bd_ g; replace HB := hd_ HB
    have k9 : (p : Int) ≤ ((a.length : Int) : Int) := of_decide_eq_true qa_
    obtain ⟨i076, hi076, _, hsz76, _⟩ := info_parts info99
    have hroom76 : a.length ≤ q := V.out
    have hC76 : Kd.C k99 _ u a.length a := G.out
    have hcut76 := cut_to (P := Try.prog) 42 99 .i64 Try.underlying42 hi076 u a.length q p (of_decide_eq_true qa_) k9 hroom76
    have hr76 := Kd.C_take (m := (p : Int).toNat) hC76 (by omega)
    have e8 : n3.length = (p : Int).toNat := (by rw [e1.out, List.length_take]; omega)
    rw [← e1.out] at hr76
    rw [← e8] at hcut76
    have r9 := am_ hr76
    have C9 := am_ (show n3.length ≤ q from by omega)
    clear hr76 hC76 hroom76 hi076 hsz76
    have KY76 := am_ e8
    clear e8; replace k9 := eq_true k9
    refine start_ (n := 16) (S := fun w' => w'.cell? ⟨Y, 0, none⟩ = some (.slice u a.length q) ∧ w'.cell? ⟨y, 0, none⟩ = some (.string d) ∧ w'.cell? ⟨y, 1, none⟩ = some (.string l) ∧ w'.cell? ⟨y, 2, none⟩ = some (.int .i64 o)) (ds := [15]) (bm 16 0) (by kernel_rfl) rfl (by kernel_rfl) ⟨bl_ s 0, bl_ g 0, bl_ g 1, bl_ g 2⟩ (fun hHeld => ?_); refine with_tabW impl_Disk_put.tab7 impl_Disk_put.bits7 (fun HT_ HW_ => ?_)
    generalize r8.drew = z2 at A s g HB r9 hHeld ⊢
    refine pz_ 0 49 16 1 ?_; refine pz_ 1 50 16 3 ?_; refine pz_ 2 51 16 7 ?_; refine pz_ 3 52 16 15 ?_; refine pz_ 5 54 16 47 ?_; refine pz_ 11 60 16 2095 ?_; refine tz4_ 4 53 16 2111 ?_; refine pz_ 6 55 16 2175 ?_; refine tz4_ 8 57 16 2431 ?_
    refine join_ (σ := Value × Value) 5 #[true, true, true, true, true, true, true, true, true, true, false, true, false, false, false, false] (fun s_ => [(56, s_.1), (58, s_.2)]) (fun s_ w' => (w'.cell? ⟨Y, 0, none⟩ = some (.slice u a.length q) ∧ w'.cell? ⟨y, 0, none⟩ = some (.string d) ∧ w'.cell? ⟨y, 1, none⟩ = some (.string l) ∧ w'.cell? ⟨y, 2, none⟩ = some (.int .i64 o)) ∧ (Kd.R k99 99 w' w.heap.size (fun k_ => some k_ ≠ (s_.1 : Value).ownBlock ∧ some k_ ≠ (s_.2 : Value).ownBlock ∧ k_ ≠ y) (.slice d1 B.length d2) B) ∧ (Kd.R k99 99 w' w.heap.size (fun k_ => some k_ ≠ (.slice d1 B.length d2 : Value).ownBlock ∧ some k_ ≠ (s_.2 : Value).ownBlock ∧ k_ ≠ y) s_.1 p1) ∧ (Kd.R k99 99 w' w.heap.size (fun k_ => some k_ ≠ (.slice d1 B.length d2 : Value).ownBlock ∧ some k_ ≠ (s_.1 : Value).ownBlock ∧ k_ ≠ y) s_.2 i8) ∧ (w'.heap[Y]? = some (.cells #[.slice u a.length q] 44 (0, 0))) ∧ (w'.heap[y]? = some (.cells #[.string d, .string l, .int .i64 o] 99 (0, 0))) ∧ (Below w.heap.size w w')) ?_ ?_
    rotate_left
    ·intro hCont
     refine two_ (i := 7) (j := 9) (Ni := some 56) (Nj := some 58) (bm 16 2559) #[true, true, true, true, true, true, true, false, true, true, false, true, false, false, false, false] rfl rfl rfl rfl (two_of HT_.out (by kernel_rfl)) (by decide) (by decide) (fun K hK => ?_) (fun K hK => ?_)
     ·skip
      refine Kd.R_append_rows_step k99 (w0 := w) w.heap.size rfl (.const (.slice none 0 0)) (.tmp 55) 42 99 (.agg #[(.string ⟨#[]⟩), (.string ⟨#[]⟩), (.int .i64 0)]) 40 rfl Try.underlying42 info99 rfl (by decide) (by omega) (.slice none 0 0) ([] : List (S99)) n3 _ _ _ (fun k_ => some k_ ≠ (.slice d1 B.length d2 : Value).ownBlock ∧ k_ ≠ y) (fun _ => False) rfl rfl ?aO ?aR (fun _ _ h => h) (fun _ h => h.elim) ?aF ?aB ?aS ?aL ?_
      (case aR => repeat (first | exact (Kd.C_below r9.out HB.out) | (with_reducible refine Kd.C_alloc ?_ _) | (with_reducible refine Kd.C_drewN ?_ _) | (with_reducible refine Kd.C_drew ?_)))
      (case aB => exact qB_)
      (case aF => exact (fun k_ hk => ⟨Kd.fresh' (Kd.R_lt (qR_ A)) k_ hk, Kd.freshB (qk_ g) k_ hk⟩))
      (case aO => exact ((Kd.R_nil _ _ _ _ (fun k_ => some k_ ≠ (.slice d1 B.length d2 : Value).ownBlock ∧ k_ ≠ y))))
      (case aS => exact (below_size qB_))
      (case aL => have := e2.out; omega)
      intro i9 s0 ho hb hg hat
      rw [← e4.out] at ho
      have e9 := am_ (ho); replace s := am_ (blk_grown (qk_ s) hg (by simp [Value.ownBlock])); replace g := am_ (blk_grown (qk_ g) hg (by simp [Value.ownBlock])); replace A := am_ (Kd.R_after (Kd.R_apart_nil (qR_ A)) hg hat); replace HB := am_ (hb); clear ho hb hg hat
      refine hK.out _ _ ⟨bl_ s 0, bl_ g 0, bl_ g 1, bl_ g 2⟩ (fun hHeld => ?_)
      clear hK K
      refine nm_ 56 ?_
      refine o1_ 9 (some 58) 16 3071 (fun K hK => ?_)
      refine Kd.R_lit_step k99 _ 99 ?hg (N := 58) ?hd (xs := ([(⟨d, l, o⟩ : S99)] : List (S99))) (inner := [.string d, .string l, .int .i64 o]) (ok := fun _ => True) (okp := fun _ => True) ?hr ?hp (fun _ hk => hk) trivial (Below.refl _ _) (Nat.le_refl _) (by simp) ?_; (case hd => rfl); (case hg => rfl); (case hr => first | (go_simp; done) | (go_simp; rfl)); (case hp => exact (Reps.c3 (show Kd.M k99 _ _ _ (⟨d, l, o⟩ : S99) [.string d, .string l, .int .i64 o] from (k99_mkM _ _ _ (⟨d, l, o⟩ : S99) )) (Reps.none _ _)))
      intro i4 z3 ho79 hb hg_ hnew_
      clear hg_ hnew_
      (first | rw [← a6.out] at ho79 | (simp only [Int.reduceToNat] at ho79; rw [← a6.out] at ho79))
      have c4 := am_ (Kd.R_lower (Kd.R_newB (Kd.R_new' (Kd.R_new' ho79 (Kd.R_lt (qR_ A))) (Kd.R_lt (qR_ e9))) (qk_ g)) (below_size qB_)); replace A := ke_ A ho79 hb; replace e9 := ke_ e9 ho79 hb; replace s := qbl_ s hb; replace g := qbl_ g hb; replace HB := hs_ hb; clear hb ho79
      refine hK.out _ _ ⟨bl_ s 0, bl_ g 0, bl_ g 1, bl_ g 2⟩ (fun hHeld => ?_)
      clear hK K
      refine nm_ 58 ?_
      exact norm_ (by simp only [putAll, Act.put, sA_, sB_, sC_]) (hCont (i9, i4) _ ⟨hHeld, (by (with_reducible repeat (first | apply Kd.R_alloc | apply Kd.R_drewN | apply Kd.R_drew)); exact Kd.R_mono A.out (fun _ hk => ⟨hk.1.2, ⟨hk.2, hk.1.1⟩⟩)), (by (with_reducible repeat (first | apply Kd.R_alloc | apply Kd.R_drewN | apply Kd.R_drew)); exact Kd.R_mono e9.out (fun _ hk => ⟨hk.1.1, ⟨hk.2, hk.1.2⟩⟩)), (by (with_reducible repeat (first | apply Kd.R_alloc | apply Kd.R_drewN | apply Kd.R_drew)); exact Kd.R_mono c4.out (fun _ hk => ⟨hk.1.1.2, ⟨hk.1.2, hk.2⟩⟩)), (qk_ s), (qk_ g), qB_⟩)
     skip
     refine Kd.R_lit_step k99 _ 99 ?hg (N := 58) ?hd (xs := ([(⟨d, l, o⟩ : S99)] : List (S99))) (inner := [.string d, .string l, .int .i64 o]) (ok := fun _ => True) (okp := fun _ => True) ?hr ?hp (fun _ hk => hk) trivial (Below.refl _ _) (Nat.le_refl _) (by simp) ?_; (case hd => rfl); (case hg => rfl); (case hr => first | (go_simp; done) | (go_simp; rfl)); (case hp => exact (Reps.c3 (show Kd.M k99 _ _ _ (⟨d, l, o⟩ : S99) [.string d, .string l, .int .i64 o] from (k99_mkM _ _ _ (⟨d, l, o⟩ : S99) )) (Reps.none _ _)))
     intro i4 s0 ho78 hb hg_ hnew_
     clear hg_ hnew_
     (first | rw [← a6.out] at ho78 | (simp only [Int.reduceToNat] at ho78; rw [← a6.out] at ho78))
     have c4 := am_ (Kd.R_lower (Kd.R_newB (Kd.R_new' ho78 (Kd.R_lt (qR_ A))) (qk_ g)) (below_size qB_)); replace A := ke_ A ho78 hb; replace s := qbl_ s hb; replace g := qbl_ g hb; replace HB := hs_ hb; clear hb ho78
     refine hK.out _ _ ⟨bl_ s 0, bl_ g 0, bl_ g 1, bl_ g 2⟩ (fun hHeld => ?_)
     clear hK K
     refine nm_ 58 ?_
     refine o1_ 7 (some 56) 16 3071 (fun K hK => ?_)
     refine Kd.R_append_rows_step k99 (w0 := w) w.heap.size rfl (.const (.slice none 0 0)) (.tmp 55) 42 99 (.agg #[(.string ⟨#[]⟩), (.string ⟨#[]⟩), (.int .i64 0)]) 40 rfl Try.underlying42 info99 rfl (by decide) (by omega) (.slice none 0 0) ([] : List (S99)) n3 _ _ _ (fun k_ => some k_ ≠ (.slice d1 B.length d2 : Value).ownBlock ∧ some k_ ≠ (i4 : Value).ownBlock ∧ k_ ≠ y) (fun _ => False) rfl rfl ?aO ?aR (fun _ _ h => h) (fun _ h => h.elim) ?aF ?aB ?aS ?aL ?_
     (case aR => repeat (first | exact (Kd.C_below r9.out HB.out) | (with_reducible refine Kd.C_alloc ?_ _) | (with_reducible refine Kd.C_drewN ?_ _) | (with_reducible refine Kd.C_drew ?_)))
     (case aB => exact qB_)
     (case aF => exact (fun k_ hk => ⟨Kd.fresh' (Kd.R_lt (qR_ A)) k_ hk, Kd.fresh' (Kd.R_lt (qR_ c4)) k_ hk, Kd.freshB (qk_ g) k_ hk⟩))
     (case aO => exact ((Kd.R_nil _ _ _ _ (fun k_ => some k_ ≠ (.slice d1 B.length d2 : Value).ownBlock ∧ some k_ ≠ (i4 : Value).ownBlock ∧ k_ ≠ y))))
     (case aS => exact (below_size qB_))
     (case aL => have := e2.out; omega)
     intro i9 z4 ho hb hg hat
     rw [← e4.out] at ho
     have e9 := am_ (ho); replace s := am_ (blk_grown (qk_ s) hg (by simp [Value.ownBlock])); replace g := am_ (blk_grown (qk_ g) hg (by simp [Value.ownBlock])); replace A := am_ (Kd.R_after (Kd.R_apart_nil (qR_ A)) hg hat); replace c4 := am_ (Kd.R_after (Kd.R_apart_nil (qR_ c4)) hg hat); replace HB := am_ (hb); clear ho hb hg hat
     refine hK.out _ _ ⟨bl_ s 0, bl_ g 0, bl_ g 1, bl_ g 2⟩ (fun hHeld => ?_)
     clear hK K
     refine nm_ 56 ?_
     exact norm_ (by simp only [putAll, Act.put, sA_, sB_, sC_]) (hCont (i9, i4) _ ⟨hHeld, (by (with_reducible repeat (first | apply Kd.R_alloc | apply Kd.R_drewN | apply Kd.R_drew)); exact Kd.R_mono A.out (fun _ hk => ⟨hk.2, ⟨hk.1.2, hk.1.1⟩⟩)), (qR_ e9), (by (with_reducible repeat (first | apply Kd.R_alloc | apply Kd.R_drewN | apply Kd.R_drew)); exact Kd.R_mono c4.out (fun _ hk => ⟨hk.1.1.2, ⟨hk.2, hk.1.2⟩⟩)), (qk_ s), (qk_ g), qB_⟩)
    rintro ⟨i9, i4⟩ a2 ⟨hS_, b1, b2, b3, b4, b5, b6⟩
    have b7 : Aside0 (Kd.R k99 99 a2 w.heap.size (fun k_ => some k_ ≠ (i9 : Value).ownBlock ∧ some k_ ≠ (i4 : Value).ownBlock ∧ k_ ≠ y) (.slice d1 B.length d2) B) := ⟨b1⟩
    have b8 : Aside0 (Kd.R k99 99 a2 w.heap.size (fun k_ => some k_ ≠ (.slice d1 B.length d2 : Value).ownBlock ∧ some k_ ≠ (i4 : Value).ownBlock ∧ k_ ≠ y) i9 p1) := ⟨b2⟩
    have b9 : Aside0 (Kd.R k99 99 a2 w.heap.size (fun k_ => some k_ ≠ (.slice d1 B.length d2 : Value).ownBlock ∧ some k_ ≠ (i9 : Value).ownBlock ∧ k_ ≠ y) i4 i8) := ⟨b3⟩
    have c0 : Aside0 (a2.heap[Y]? = some (.cells #[.slice u a.length q] 44 (0, 0))) := ⟨b4⟩
    have c1 : Aside0 (a2.heap[y]? = some (.cells #[.string d, .string l, .int .i64 o] 99 (0, 0))) := ⟨b5⟩
    have c2 : Aside0 (Below w.heap.size w a2) := ⟨b6⟩
    clear A s g HB b1 b2 b3 b4 b5 b6; have A := b7; have e9 := b8; have c4 := b9; have s := c0; have g := c1; have HB := c2; clear b7 b8 b9 c0 c1 c2
    have hHeld : a2.cell? ⟨Y, 0, none⟩ = some (.slice u a.length q) ∧ a2.cell? ⟨y, 0, none⟩ = some (.string d) ∧ a2.cell? ⟨y, 1, none⟩ = some (.string l) ∧ a2.cell? ⟨y, 2, none⟩ = some (.int .i64 o) := hS_
    obtain ⟨p2, p3, x6⟩ := Kd.R_slice c4.out
    (first | subst x6 | (injection x6 with E I F; have J := E.symm; have L := F.symm; clear E I F; subst J; subst L))
    refine norm_ (a' := ?_) ?_ ?_
    rotate_left
    ·simp only [putAll, Act.put, sA_, sB_, sC_]
     rfl
    refine o1_ 10 (some 59) 16 4095 (fun K hK => ?_)
    refine Kd.R_append_rows_step k99 (w0 := w) w.heap.size (by rfl) (.tmp 56) (.tmp 58) 42 99 (.agg #[(.string ⟨#[]⟩), (.string ⟨#[]⟩), (.int .i64 0)]) 40 rfl Try.underlying42 info99 rfl (by decide) (by omega) i9 p1 i8 _ _ _ (fun k_ => some k_ ≠ (.slice d1 B.length d2 : Value).ownBlock ∧ some k_ ≠ (.slice p2 i8.length p3 : Value).ownBlock ∧ k_ ≠ y) (fun _ => False) rfl rfl ?aO ?aR (fun _ _ h => h) (fun _ h => h.elim) ?aF ?aB ?aS ?aL ?_
    (case aR => repeat (first | exact (Kd.R_reads' c4.out).2.2 | (with_reducible refine Kd.C_alloc ?_ _) | (with_reducible refine Kd.C_drewN ?_ _) | (with_reducible refine Kd.C_drew ?_)))
    (case aB => exact qB_)
    (case aF => exact (fun k_ hk => ⟨Kd.fresh' (Kd.R_lt (qR_ A)) k_ hk, Kd.fresh' (Kd.R_lt (qR_ c4)) k_ hk, Kd.freshB (qk_ g) k_ hk⟩))
    (case aO => exact (qR_ e9))
    (case aS => exact (below_size qB_))
    (case aL => have := k2.out; omega)
    intro z5 z6 ho hb hg hat
    rw [← k3.out] at ho
    refine dn6_ (am_ (blk_grown (qk_ s) hg (Kd.R_ne e9.out s.out (by decide)))) (am_ (blk_grown (qk_ g) hg (Kd.R_away e9.out (fun _ hk => hk.2.2)))) (am_ (Kd.R_after (ok := (fun k_ => some k_ ≠ (.slice p2 i8.length p3 : Value).ownBlock ∧ k_ ≠ y)) (by (with_reducible repeat (first | apply Kd.R_alloc | apply Kd.R_drewN | apply Kd.R_drew)); exact Kd.R_mono A.out (fun _ hk => ⟨⟨hk.2.1, hk.2.2⟩, hk.1⟩)) hg hat)) (am_ (Kd.R_after (ok := (fun k_ => some k_ ≠ (.slice d1 B.length d2 : Value).ownBlock ∧ k_ ≠ y)) (by (with_reducible repeat (first | apply Kd.R_alloc | apply Kd.R_drewN | apply Kd.R_drew)); exact Kd.R_mono c4.out (fun _ hk => ⟨⟨hk.1, hk.2.2⟩, hk.2.1⟩)) hg hat)) (am_ (hb)) (am_ (ho)) ?_; clear s g A c4 HB e9; intro s g A c4 HB p4; clear ho hb hg hat
    refine hK.out _ _ ⟨bl_ s 0, bl_ g 0, bl_ g 1, bl_ g 2⟩ (fun hHeld => ?_)
    clear hK K
    refine nm_ 59 ?_
    refine o1_ 12 (some 61) 16 8191 (fun K hK => ?_)
    refine Kd.R_append_rows_step k99 (w0 := w) w.heap.size (by rfl) (.tmp 59) (.tmp 60) 42 99 (.agg #[(.string ⟨#[]⟩), (.string ⟨#[]⟩), (.int .i64 0)]) 40 rfl Try.underlying42 info99 rfl (by decide) (by omega) z5 x2 B _ _ _ (fun k_ => some k_ ≠ (.slice d1 B.length d2 : Value).ownBlock ∧ some k_ ≠ (.slice p2 i8.length p3 : Value).ownBlock ∧ k_ ≠ y) (fun _ => False) rfl rfl ?aO ?aR (fun _ _ h => h) (fun _ h => h.elim) ?aF ?aB ?aS ?aL ?_
    (case aR => repeat (first | exact (Kd.R_reads' A.out).2.2 | (with_reducible refine Kd.C_alloc ?_ _) | (with_reducible refine Kd.C_drewN ?_ _) | (with_reducible refine Kd.C_drew ?_)))
    (case aB => exact qB_)
    (case aF => exact (fun k_ hk => ⟨Kd.fresh' (Kd.R_lt (qR_ A)) k_ hk, Kd.fresh' (Kd.R_lt (qR_ c4)) k_ hk, Kd.freshB (qk_ g) k_ hk⟩))
    (case aO => exact (qR_ p4))
    (case aS => exact (below_size qB_))
    (case aL => have := k4.out; omega)
    intro D0 s1 ho hb hg hat
    rw [← k5.out] at ho
    have s2 := am_ (ho); replace s := am_ (blk_grown (qk_ s) hg (Kd.R_ne p4.out s.out (by decide))); replace g := am_ (blk_grown (qk_ g) hg (Kd.R_away p4.out (fun _ hk => hk.2.2))); replace A := am_ (Kd.R_after (ok := (fun k_ => some k_ ≠ (.slice p2 i8.length p3 : Value).ownBlock ∧ k_ ≠ y)) (qR_ A) hg hat); replace c4 := am_ (Kd.R_after (ok := (fun k_ => some k_ ≠ (.slice d1 B.length d2 : Value).ownBlock ∧ k_ ≠ y)) (qR_ c4) hg hat); replace HB := am_ (hb); clear p4 ho hb hg hat
    obtain ⟨D1, D2, x7⟩ := Kd.R_slice s2.out
    (first | subst x7 | (injection x7 with E I F; have J := E.symm; have L := F.symm; clear E I F; subst J; subst L))
    refine hK.out _ _ ⟨bl_ s 0, bl_ g 0, bl_ g 1, bl_ g 2⟩ (fun hHeld => ?_)
    clear hK K
    refine nm_ 61 ?_
    refine pz_ 13 62 16 16383 ?_; refine pz_ 14 63 16 32767 ?_
    refine last_ (i := 15) (N := none) (bm 16 65535) rfl rfl (one_of HT_.out (by kernel_rfl)) (by decide) (fun K hK => ?_)
    have x8 : s1.cell? ⟨Y, 0, none⟩ = some (.slice u a.length q) := bl_ s 0
    have s3 := blk_frozen s.out 0
    have D3 := q5.out; have D4 := m8.out
    refine skip_ (w1 := ?_) (by rfl) rfl ?_ ?_
    rotate_left
    ·go_simp
     rfl
    refine hK.out _ _ ?_
    clear hK K
    refine done_ (done_of HT_.out (by kernel_rfl)) ?_
    try go_wp2
    first | refine bodyPost_end (results_none rfl _ _ _) rfl ?_ | refine bodyPost_ret (results_none rfl _ _ _) rfl ?_
    first | exact ⟨_, _, rfl, Kd.R_mono s2.out (fun _ _ => trivial), HB.out, rfl⟩ | exact ⟨rfl, _, _, Kd.R_mono s2.out (fun _ _ => trivial), HB.out, rfl⟩
   have k0 : decide (0 < (B.length : Int)) = true := decide_eq_true i3
   have k1 : decide (0 < B.length) = true := decide_eq_true (by omega)
   clear i3
   refine jg_ H ?_; clear H; intro n9 H
   have s4 := decide_eq_true n9
   have s5 : decide (0 < B.length) = true := decide_eq_true (by omega)
   clear n9
   refine jb_ H ?_ ?_ <;> clear H <;> intro f3 H
   ·have l2 : (((rd_T99 B 0).f0).toList == d.toList) = false := beq_eq_false_iff_ne.mpr f3
    have l3 : (((rd_T99 B 0).f0).toList != d.toList) = true := bne_iff_ne.mpr f3
    have s6 := eq_true (of_decide_eq_true qa_ : 0 ≤ p)
    have s7 := eq_true (of_decide_eq_true qa_ : p ≤ (a.length : Int))
    generalize f4 : (a.take (p : Int).toNat) = o0 at H; replace H := bh_ H; have f5 := am_ f4.symm; clear f4
    refine jg_ H ?_; clear H; intro o1 H
    have f6 := am_ o1
    clear o1
    generalize f7 : (([] : List (S99)) ++ o0) = p5 at H; replace H := bh_ H; have f8 := am_ f7.symm; clear f7
    generalize f9 : (([(⟨d, l, o⟩ : S99)] : List (S99))) = j3 at H; replace H := bh_ H; have a7 := am_ f9.symm; clear f9
    refine jg_ H ?_; clear H; intro o2 H
    have l4 := am_ o2
    clear o2
    generalize g0 : (p5 ++ j3) = x9 at H; replace H := bh_ H; have l5 := am_ g0.symm; clear g0
    refine jg_ H ?_; clear H; intro o3 H
    have l6 := am_ o3
    clear o3
    generalize g1 : (x9 ++ B) = D5 at H; replace H := bh_ H; have l7 := am_ g1.symm; clear g1
    obtain rfl := oi_ H
    obtain ⟨D6, l1⟩ := nn_ m8
    obtain ⟨D7, D8⟩ := bc1_ s
    have l8 : (p : Int) ≤ ((a.length : Int) : Int) := of_decide_eq_true qa_
    obtain ⟨i049, hi049, _, hsz49, _⟩ := info_parts info99
    have hroom49 : a.length ≤ q := V.out
    have hC49 : Kd.C k99 _ u a.length a := G.out
    have o4 : (0 : Int) ≤ (p : Int) := of_decide_eq_true qa_
    have hcut49 := cut_from (P := Try.prog) 42 99 .i64 Try.underlying42 hi049 3 hsz49 u a.length q p o4 l8
    have hr49 := Kd.C_drop (m := (p : Int).toNat) (c := q) hC49 (by omega) hroom49
    obtain ⟨s8, hA49⟩ : ∃ k7, k7 = (if q = (p : Int).toNat then u else (u : Option Addr).map (·.add ((p : Int).toNat * 3))) := ⟨_, rfl⟩
    obtain ⟨s9, hc49⟩ : ∃ k8, k8 = q - (p : Int).toNat := ⟨_, rfl⟩
    have d3 : a5.length = a.length - (p : Int).toNat := (by rw [X.out, List.length_drop] <;> omega)
    rw [show (a).drop (p : Int).toNat = a5 from X.out.symm] at hr49
    replace hr49 : Kd.C k99 _ s8 a5.length a5 := (by rw [hA49]; exact hr49)
    rw [← d3, ← hA49, ← hc49] at hcut49
    have n8 := am_ hr49
    have x3 := am_ (show a5.length ≤ s9 from by rw [d3, hc49]; exact Nat.sub_le_sub_right hroom49 _)
    clear hr49 hC49 hroom49 hi049 hsz49 hc49
    have KY49 := am_ d3
    have KA49 := am_ hA49
    clear d3 hA49; replace l8 := eq_true l8
    try go_wp2_with (first | ((with_reducible refine gate_builtin (b := .append) (xs := #[.const (.slice none 0 0), .tmp 33]) rfl ?_); at_builtin; refine Kd.R_append_rows k99 (w0 := w) w.heap.size rfl (.const (.slice none 0 0)) (.tmp 33) 42 99 (.agg #[(.string ⟨#[]⟩), (.string ⟨#[]⟩), (.int .i64 0)]) 40 rfl Try.underlying42 info99 rfl (by decide) (by omega) (.slice none 0 0) ([] : List (S99)) a5 _ _ _ (fun k_ => k_ ≠ y) (fun _ => False) rfl rfl ?aO ?aR (fun _ _ h => h) (fun _ h => h.elim) ?aF ?aB ?aS ?aL ?_; (case aR => repeat (first | exact (Kd.C_below n8.out HB.out) | (with_reducible refine Kd.C_alloc ?_ _) | (with_reducible refine Kd.C_drewN ?_ _) | (with_reducible refine Kd.C_drew ?_))); (case aB => exact qB_); (case aF => exact (fun k_ hk => Kd.freshB (qk_ g) k_ hk)); (case aO => exact ((Kd.R_nil _ _ _ _ (fun k_ => k_ ≠ y)))); (case aS => exact (below_size qB_)); (case aL => have := c6.out; omega); intro x4 t0 ho hb hg hat; rw [← c7.out] at ho; have A := am_ (ho); replace s := am_ (blk_grown (qk_ s) hg (by simp [Value.ownBlock])); replace g := am_ (blk_grown (qk_ g) hg (by simp [Value.ownBlock])); replace HB := am_ (hb); clear ho hb hg hat))
    replace A := rd_ A; replace s := bd_ s; replace g := bd_ g; replace HB := hd_ HB
    obtain ⟨D9, d4, y0⟩ := Kd.R_slice A.out
    (first | subst y0 | (injection y0 with E I F; have J := E.symm; have L := F.symm; clear E I F; subst J; subst L))
    have Z : 0 ≤ (0 : Int) := (by omega)
    have a0 := dl_ 0 B.length
    obtain ⟨x, g2, g3, g4, g5⟩ := at_T99 (Kd.R_reads' A.out).2.2 0 Z a0
    cases g2
    have qi237 : (0 < B.length) = True := eq_true (by omega)
    rw [show ((0 : Int)).toNat = 0 from rfl] at g3
    rw [show 0 * 3 = 0 from rfl] at g3
    rw [Addr.add_zero'] at g3
    rw [show ((0 : Int)).toNat = 0 from rfl] at g4
    rw [show 0 * 3 = 0 from rfl] at g4
    rw [Addr.add_zero'] at g4
    rw [show ((0 : Int)).toNat = 0 from rfl] at g5
    rw [show 0 * 3 = 0 from rfl] at g5
    rw [Addr.add_zero'] at g5
    replace Z := eq_true Z; replace a0 := eq_true a0
    refine start_ (n := 12) (S := fun w' => w'.cell? ⟨y, 0, none⟩ = some (.string d) ∧ w'.cell? ⟨y, 1, none⟩ = some (.string l) ∧ w'.cell? ⟨y, 2, none⟩ = some (.int .i64 o) ∧ w'.cell? x = some (.string ((rd_T99 B 0).f0)) ∧ w'.cell? ⟨x.block, x.off + 1, none⟩ = some (.string ((rd_T99 B 0).f1)) ∧ w'.cell? ⟨x.block, x.off + 2, none⟩ = some (.int .i64 ((rd_T99 B 0).f2))) (ds := []) (bm 12 0) (by kernel_rfl) rfl (by kernel_rfl) ⟨bl_ g 0, bl_ g 1, bl_ g 2, g3, g4, g5⟩ (fun hHeld => ?_); refine with_tabW impl_Disk_put.tab5 impl_Disk_put.bits5 (fun HT_ HW_ => ?_)
    generalize t0.drew = t1 at A s g HB g3 g4 g5 hHeld ⊢
    refine pz_ 0 35 12 1 ?_; refine pz_ 1 36 12 3 ?_; refine pz_ 2 37 12 7 ?_; refine pz_ 3 38 12 15 ?_; refine pz_ 4 39 12 31 ?_; refine pz_ 5 40 12 63 ?_; refine pz_ 6 41 12 127 ?_; refine pz_ 8 43 12 383 ?_; refine tz6_ 7 42 12 511 ?_; refine tz6_ 9 44 12 1023 ?_; refine pz_ 10 45 12 2047 ?_; refine pz_ 11 46 12 4095 ?_
    refine done_ (done_of HT_.out (by kernel_rfl)) ?_
    try go_wp2
    replace A := rd_ A; replace s := bd_ s; replace g := bd_ g; replace HB := hd_ HB
    have l9 : (p : Int) ≤ ((a.length : Int) : Int) := of_decide_eq_true qa_
    obtain ⟨i054, hi054, _, hsz54, _⟩ := info_parts info99
    have hroom54 : a.length ≤ q := V.out
    have hC54 : Kd.C k99 _ u a.length a := G.out
    have hcut54 := cut_to (P := Try.prog) 42 99 .i64 Try.underlying42 hi054 u a.length q p (of_decide_eq_true qa_) l9 hroom54
    have hr54 := Kd.C_take (m := (p : Int).toNat) hC54 (by omega)
    have g6 : o0.length = (p : Int).toNat := (by rw [f5.out, List.length_take]; omega)
    rw [← f5.out] at hr54
    rw [← g6] at hcut54
    have t2 := am_ hr54
    have E0 := am_ (show o0.length ≤ q from by omega)
    clear hr54 hC54 hroom54 hi054 hsz54
    have KY54 := am_ g6
    clear g6; replace l9 := eq_true l9
    refine start_ (n := 16) (S := fun w' => w'.cell? ⟨Y, 0, none⟩ = some (.slice u a.length q) ∧ w'.cell? ⟨y, 0, none⟩ = some (.string d) ∧ w'.cell? ⟨y, 1, none⟩ = some (.string l) ∧ w'.cell? ⟨y, 2, none⟩ = some (.int .i64 o)) (ds := [15]) (bm 16 0) (by kernel_rfl) rfl (by kernel_rfl) ⟨bl_ s 0, bl_ g 0, bl_ g 1, bl_ g 2⟩ (fun hHeld => ?_); refine with_tabW impl_Disk_put.tab7 impl_Disk_put.bits7 (fun HT_ HW_ => ?_)
    generalize t1.drew = z7 at A s g HB t2 hHeld ⊢
    refine pz_ 0 49 16 1 ?_; refine pz_ 1 50 16 3 ?_; refine pz_ 2 51 16 7 ?_; refine pz_ 3 52 16 15 ?_; refine pz_ 5 54 16 47 ?_; refine pz_ 11 60 16 2095 ?_; refine tz4_ 4 53 16 2111 ?_; refine pz_ 6 55 16 2175 ?_; refine tz4_ 8 57 16 2431 ?_
    refine join_ (σ := Value × Value) 5 #[true, true, true, true, true, true, true, true, true, true, false, true, false, false, false, false] (fun s_ => [(56, s_.1), (58, s_.2)]) (fun s_ w' => (w'.cell? ⟨Y, 0, none⟩ = some (.slice u a.length q) ∧ w'.cell? ⟨y, 0, none⟩ = some (.string d) ∧ w'.cell? ⟨y, 1, none⟩ = some (.string l) ∧ w'.cell? ⟨y, 2, none⟩ = some (.int .i64 o)) ∧ (Kd.R k99 99 w' w.heap.size (fun k_ => some k_ ≠ (s_.1 : Value).ownBlock ∧ some k_ ≠ (s_.2 : Value).ownBlock ∧ k_ ≠ y) (.slice (some x) B.length d4) B) ∧ (Kd.R k99 99 w' w.heap.size (fun k_ => some k_ ≠ (.slice (some x) B.length d4 : Value).ownBlock ∧ some k_ ≠ (s_.2 : Value).ownBlock ∧ k_ ≠ y) s_.1 p5) ∧ (Kd.R k99 99 w' w.heap.size (fun k_ => some k_ ≠ (.slice (some x) B.length d4 : Value).ownBlock ∧ some k_ ≠ (s_.1 : Value).ownBlock ∧ k_ ≠ y) s_.2 j3) ∧ (w'.heap[Y]? = some (.cells #[.slice u a.length q] 44 (0, 0))) ∧ (w'.heap[y]? = some (.cells #[.string d, .string l, .int .i64 o] 99 (0, 0))) ∧ (Below w.heap.size w w')) ?_ ?_
    rotate_left
    ·intro hCont
     refine two_ (i := 7) (j := 9) (Ni := some 56) (Nj := some 58) (bm 16 2559) #[true, true, true, true, true, true, true, false, true, true, false, true, false, false, false, false] rfl rfl rfl rfl (two_of HT_.out (by kernel_rfl)) (by decide) (by decide) (fun K hK => ?_) (fun K hK => ?_)
     ·skip
      refine Kd.R_append_rows_step k99 (w0 := w) w.heap.size rfl (.const (.slice none 0 0)) (.tmp 55) 42 99 (.agg #[(.string ⟨#[]⟩), (.string ⟨#[]⟩), (.int .i64 0)]) 40 rfl Try.underlying42 info99 rfl (by decide) (by omega) (.slice none 0 0) ([] : List (S99)) o0 _ _ _ (fun k_ => some k_ ≠ (.slice (some x) B.length d4 : Value).ownBlock ∧ k_ ≠ y) (fun _ => False) rfl rfl ?aO ?aR (fun _ _ h => h) (fun _ h => h.elim) ?aF ?aB ?aS ?aL ?_
      (case aR => repeat (first | exact (Kd.C_below t2.out HB.out) | (with_reducible refine Kd.C_alloc ?_ _) | (with_reducible refine Kd.C_drewN ?_ _) | (with_reducible refine Kd.C_drew ?_)))
      (case aB => exact qB_)
      (case aF => exact (fun k_ hk => ⟨Kd.fresh' (Kd.R_lt (qR_ A)) k_ hk, Kd.freshB (qk_ g) k_ hk⟩))
      (case aO => exact ((Kd.R_nil _ _ _ _ (fun k_ => some k_ ≠ (.slice (some x) B.length d4 : Value).ownBlock ∧ k_ ≠ y))))
      (case aS => exact (below_size qB_))
      (case aL => have := f6.out; omega)
      intro j4 t3 ho hb hg hat
      rw [← f8.out] at ho
      have g7 := am_ (ho); replace s := am_ (blk_grown (qk_ s) hg (by simp [Value.ownBlock])); replace g := am_ (blk_grown (qk_ g) hg (by simp [Value.ownBlock])); replace A := am_ (Kd.R_after (Kd.R_apart_nil (qR_ A)) hg hat); replace HB := am_ (hb); clear ho hb hg hat
      refine hK.out _ _ ⟨bl_ s 0, bl_ g 0, bl_ g 1, bl_ g 2⟩ (fun hHeld => ?_)
      clear hK K
      refine nm_ 56 ?_
      refine o1_ 9 (some 58) 16 3071 (fun K hK => ?_)
      refine Kd.R_lit_step k99 _ 99 ?hg (N := 58) ?hd (xs := ([(⟨d, l, o⟩ : S99)] : List (S99))) (inner := [.string d, .string l, .int .i64 o]) (ok := fun _ => True) (okp := fun _ => True) ?hr ?hp (fun _ hk => hk) trivial (Below.refl _ _) (Nat.le_refl _) (by simp) ?_; (case hd => rfl); (case hg => rfl); (case hr => first | (go_simp; done) | (go_simp; rfl)); (case hp => exact (Reps.c3 (show Kd.M k99 _ _ _ (⟨d, l, o⟩ : S99) [.string d, .string l, .int .i64 o] from (k99_mkM _ _ _ (⟨d, l, o⟩ : S99) )) (Reps.none _ _)))
      intro i5 z8 ho57 hb hg_ hnew_
      clear hg_ hnew_
      (first | rw [← a7.out] at ho57 | (simp only [Int.reduceToNat] at ho57; rw [← a7.out] at ho57))
      have c5 := am_ (Kd.R_lower (Kd.R_newB (Kd.R_new' (Kd.R_new' ho57 (Kd.R_lt (qR_ A))) (Kd.R_lt (qR_ g7))) (qk_ g)) (below_size qB_)); replace A := ke_ A ho57 hb; replace g7 := ke_ g7 ho57 hb; replace s := qbl_ s hb; replace g := qbl_ g hb; replace HB := hs_ hb; clear hb ho57
      refine hK.out _ _ ⟨bl_ s 0, bl_ g 0, bl_ g 1, bl_ g 2⟩ (fun hHeld => ?_)
      clear hK K
      refine nm_ 58 ?_
      exact norm_ (by simp only [putAll, Act.put, sA_, sB_, sC_]) (hCont (j4, i5) _ ⟨hHeld, (by (with_reducible repeat (first | apply Kd.R_alloc | apply Kd.R_drewN | apply Kd.R_drew)); exact Kd.R_mono A.out (fun _ hk => ⟨hk.1.2, ⟨hk.2, hk.1.1⟩⟩)), (by (with_reducible repeat (first | apply Kd.R_alloc | apply Kd.R_drewN | apply Kd.R_drew)); exact Kd.R_mono g7.out (fun _ hk => ⟨hk.1.1, ⟨hk.2, hk.1.2⟩⟩)), (by (with_reducible repeat (first | apply Kd.R_alloc | apply Kd.R_drewN | apply Kd.R_drew)); exact Kd.R_mono c5.out (fun _ hk => ⟨hk.1.1.2, ⟨hk.1.2, hk.2⟩⟩)), (qk_ s), (qk_ g), qB_⟩)
     skip
     refine Kd.R_lit_step k99 _ 99 ?hg (N := 58) ?hd (xs := ([(⟨d, l, o⟩ : S99)] : List (S99))) (inner := [.string d, .string l, .int .i64 o]) (ok := fun _ => True) (okp := fun _ => True) ?hr ?hp (fun _ hk => hk) trivial (Below.refl _ _) (Nat.le_refl _) (by simp) ?_; (case hd => rfl); (case hg => rfl); (case hr => first | (go_simp; done) | (go_simp; rfl)); (case hp => exact (Reps.c3 (show Kd.M k99 _ _ _ (⟨d, l, o⟩ : S99) [.string d, .string l, .int .i64 o] from (k99_mkM _ _ _ (⟨d, l, o⟩ : S99) )) (Reps.none _ _)))
     intro i5 t3 ho56 hb hg_ hnew_
     clear hg_ hnew_
     (first | rw [← a7.out] at ho56 | (simp only [Int.reduceToNat] at ho56; rw [← a7.out] at ho56))
     have c5 := am_ (Kd.R_lower (Kd.R_newB (Kd.R_new' ho56 (Kd.R_lt (qR_ A))) (qk_ g)) (below_size qB_)); replace A := ke_ A ho56 hb; replace s := qbl_ s hb; replace g := qbl_ g hb; replace HB := hs_ hb; clear hb ho56
     refine hK.out _ _ ⟨bl_ s 0, bl_ g 0, bl_ g 1, bl_ g 2⟩ (fun hHeld => ?_)
     clear hK K
     refine nm_ 58 ?_
     refine o1_ 7 (some 56) 16 3071 (fun K hK => ?_)
     refine Kd.R_append_rows_step k99 (w0 := w) w.heap.size rfl (.const (.slice none 0 0)) (.tmp 55) 42 99 (.agg #[(.string ⟨#[]⟩), (.string ⟨#[]⟩), (.int .i64 0)]) 40 rfl Try.underlying42 info99 rfl (by decide) (by omega) (.slice none 0 0) ([] : List (S99)) o0 _ _ _ (fun k_ => some k_ ≠ (.slice (some x) B.length d4 : Value).ownBlock ∧ some k_ ≠ (i5 : Value).ownBlock ∧ k_ ≠ y) (fun _ => False) rfl rfl ?aO ?aR (fun _ _ h => h) (fun _ h => h.elim) ?aF ?aB ?aS ?aL ?_
     (case aR => repeat (first | exact (Kd.C_below t2.out HB.out) | (with_reducible refine Kd.C_alloc ?_ _) | (with_reducible refine Kd.C_drewN ?_ _) | (with_reducible refine Kd.C_drew ?_)))
     (case aB => exact qB_)
     (case aF => exact (fun k_ hk => ⟨Kd.fresh' (Kd.R_lt (qR_ A)) k_ hk, Kd.fresh' (Kd.R_lt (qR_ c5)) k_ hk, Kd.freshB (qk_ g) k_ hk⟩))
     (case aO => exact ((Kd.R_nil _ _ _ _ (fun k_ => some k_ ≠ (.slice (some x) B.length d4 : Value).ownBlock ∧ some k_ ≠ (i5 : Value).ownBlock ∧ k_ ≠ y))))
     (case aS => exact (below_size qB_))
     (case aL => have := f6.out; omega)
     intro j4 z9 ho hb hg hat
     rw [← f8.out] at ho
     have g7 := am_ (ho); replace s := am_ (blk_grown (qk_ s) hg (by simp [Value.ownBlock])); replace g := am_ (blk_grown (qk_ g) hg (by simp [Value.ownBlock])); replace A := am_ (Kd.R_after (Kd.R_apart_nil (qR_ A)) hg hat); replace c5 := am_ (Kd.R_after (Kd.R_apart_nil (qR_ c5)) hg hat); replace HB := am_ (hb); clear ho hb hg hat
     refine hK.out _ _ ⟨bl_ s 0, bl_ g 0, bl_ g 1, bl_ g 2⟩ (fun hHeld => ?_)
     clear hK K
     refine nm_ 56 ?_
     exact norm_ (by simp only [putAll, Act.put, sA_, sB_, sC_]) (hCont (j4, i5) _ ⟨hHeld, (by (with_reducible repeat (first | apply Kd.R_alloc | apply Kd.R_drewN | apply Kd.R_drew)); exact Kd.R_mono A.out (fun _ hk => ⟨hk.2, ⟨hk.1.2, hk.1.1⟩⟩)), (qR_ g7), (by (with_reducible repeat (first | apply Kd.R_alloc | apply Kd.R_drewN | apply Kd.R_drew)); exact Kd.R_mono c5.out (fun _ hk => ⟨hk.1.1.2, ⟨hk.2, hk.1.2⟩⟩)), (qk_ s), (qk_ g), qB_⟩)
    rintro ⟨j4, i5⟩ a3 ⟨hS_, b1, b2, b3, b4, b5, b6⟩
    have b7 : Aside0 (Kd.R k99 99 a3 w.heap.size (fun k_ => some k_ ≠ (j4 : Value).ownBlock ∧ some k_ ≠ (i5 : Value).ownBlock ∧ k_ ≠ y) (.slice (some x) B.length d4) B) := ⟨b1⟩
    have b8 : Aside0 (Kd.R k99 99 a3 w.heap.size (fun k_ => some k_ ≠ (.slice (some x) B.length d4 : Value).ownBlock ∧ some k_ ≠ (i5 : Value).ownBlock ∧ k_ ≠ y) j4 p5) := ⟨b2⟩
    have b9 : Aside0 (Kd.R k99 99 a3 w.heap.size (fun k_ => some k_ ≠ (.slice (some x) B.length d4 : Value).ownBlock ∧ some k_ ≠ (j4 : Value).ownBlock ∧ k_ ≠ y) i5 j3) := ⟨b3⟩
    have c0 : Aside0 (a3.heap[Y]? = some (.cells #[.slice u a.length q] 44 (0, 0))) := ⟨b4⟩
    have c1 : Aside0 (a3.heap[y]? = some (.cells #[.string d, .string l, .int .i64 o] 99 (0, 0))) := ⟨b5⟩
    have c2 : Aside0 (Below w.heap.size w a3) := ⟨b6⟩
    clear A s g HB b1 b2 b3 b4 b5 b6; have A := b7; have g7 := b8; have c5 := b9; have s := c0; have g := c1; have HB := c2; clear b7 b8 b9 c0 c1 c2
    have hHeld : a3.cell? ⟨Y, 0, none⟩ = some (.slice u a.length q) ∧ a3.cell? ⟨y, 0, none⟩ = some (.string d) ∧ a3.cell? ⟨y, 1, none⟩ = some (.string l) ∧ a3.cell? ⟨y, 2, none⟩ = some (.int .i64 o) := hS_
    obtain ⟨p6, p7, y1⟩ := Kd.R_slice c5.out
    (first | subst y1 | (injection y1 with E I F; have J := E.symm; have L := F.symm; clear E I F; subst J; subst L))
    refine norm_ (a' := ?_) ?_ ?_
    rotate_left
    ·simp only [putAll, Act.put, sA_, sB_, sC_]
     rfl
    refine o1_ 10 (some 59) 16 4095 (fun K hK => ?_)
    refine Kd.R_append_rows_step k99 (w0 := w) w.heap.size (by rfl) (.tmp 56) (.tmp 58) 42 99 (.agg #[(.string ⟨#[]⟩), (.string ⟨#[]⟩), (.int .i64 0)]) 40 rfl Try.underlying42 info99 rfl (by decide) (by omega) j4 p5 j3 _ _ _ (fun k_ => some k_ ≠ (.slice (some x) B.length d4 : Value).ownBlock ∧ some k_ ≠ (.slice p6 j3.length p7 : Value).ownBlock ∧ k_ ≠ y) (fun _ => False) rfl rfl ?aO ?aR (fun _ _ h => h) (fun _ h => h.elim) ?aF ?aB ?aS ?aL ?_
    (case aR => repeat (first | exact (Kd.R_reads' c5.out).2.2 | (with_reducible refine Kd.C_alloc ?_ _) | (with_reducible refine Kd.C_drewN ?_ _) | (with_reducible refine Kd.C_drew ?_)))
    (case aB => exact qB_)
    (case aF => exact (fun k_ hk => ⟨Kd.fresh' (Kd.R_lt (qR_ A)) k_ hk, Kd.fresh' (Kd.R_lt (qR_ c5)) k_ hk, Kd.freshB (qk_ g) k_ hk⟩))
    (case aO => exact (qR_ g7))
    (case aS => exact (below_size qB_))
    (case aL => have := l4.out; omega)
    intro A0 A1 ho hb hg hat
    rw [← l5.out] at ho
    refine dn6_ (am_ (blk_grown (qk_ s) hg (Kd.R_ne g7.out s.out (by decide)))) (am_ (blk_grown (qk_ g) hg (Kd.R_away g7.out (fun _ hk => hk.2.2)))) (am_ (Kd.R_after (ok := (fun k_ => some k_ ≠ (.slice p6 j3.length p7 : Value).ownBlock ∧ k_ ≠ y)) (by (with_reducible repeat (first | apply Kd.R_alloc | apply Kd.R_drewN | apply Kd.R_drew)); exact Kd.R_mono A.out (fun _ hk => ⟨⟨hk.2.1, hk.2.2⟩, hk.1⟩)) hg hat)) (am_ (Kd.R_after (ok := (fun k_ => some k_ ≠ (.slice (some x) B.length d4 : Value).ownBlock ∧ k_ ≠ y)) (by (with_reducible repeat (first | apply Kd.R_alloc | apply Kd.R_drewN | apply Kd.R_drew)); exact Kd.R_mono c5.out (fun _ hk => ⟨⟨hk.1, hk.2.2⟩, hk.2.1⟩)) hg hat)) (am_ (hb)) (am_ (ho)) ?_; clear s g A c5 HB g7; intro s g A c5 HB p8; clear ho hb hg hat
    refine hK.out _ _ ⟨bl_ s 0, bl_ g 0, bl_ g 1, bl_ g 2⟩ (fun hHeld => ?_)
    clear hK K
    refine nm_ 59 ?_
    refine o1_ 12 (some 61) 16 8191 (fun K hK => ?_)
    refine Kd.R_append_rows_step k99 (w0 := w) w.heap.size (by rfl) (.tmp 59) (.tmp 60) 42 99 (.agg #[(.string ⟨#[]⟩), (.string ⟨#[]⟩), (.int .i64 0)]) 40 rfl Try.underlying42 info99 rfl (by decide) (by omega) A0 x9 B _ _ _ (fun k_ => some k_ ≠ (.slice (some x) B.length d4 : Value).ownBlock ∧ some k_ ≠ (.slice p6 j3.length p7 : Value).ownBlock ∧ k_ ≠ y) (fun _ => False) rfl rfl ?aO ?aR (fun _ _ h => h) (fun _ h => h.elim) ?aF ?aB ?aS ?aL ?_
    (case aR => repeat (first | exact (Kd.R_reads' A.out).2.2 | (with_reducible refine Kd.C_alloc ?_ _) | (with_reducible refine Kd.C_drewN ?_ _) | (with_reducible refine Kd.C_drew ?_)))
    (case aB => exact qB_)
    (case aF => exact (fun k_ hk => ⟨Kd.fresh' (Kd.R_lt (qR_ A)) k_ hk, Kd.fresh' (Kd.R_lt (qR_ c5)) k_ hk, Kd.freshB (qk_ g) k_ hk⟩))
    (case aO => exact (qR_ p8))
    (case aS => exact (below_size qB_))
    (case aL => have := l6.out; omega)
    intro E1 t4 ho hb hg hat
    rw [← l7.out] at ho
    have t5 := am_ (ho); replace s := am_ (blk_grown (qk_ s) hg (Kd.R_ne p8.out s.out (by decide))); replace g := am_ (blk_grown (qk_ g) hg (Kd.R_away p8.out (fun _ hk => hk.2.2))); replace A := am_ (Kd.R_after (ok := (fun k_ => some k_ ≠ (.slice p6 j3.length p7 : Value).ownBlock ∧ k_ ≠ y)) (qR_ A) hg hat); replace c5 := am_ (Kd.R_after (ok := (fun k_ => some k_ ≠ (.slice (some x) B.length d4 : Value).ownBlock ∧ k_ ≠ y)) (qR_ c5) hg hat); replace HB := am_ (hb); clear p8 ho hb hg hat
    obtain ⟨E2, E3, y2⟩ := Kd.R_slice t5.out
    (first | subst y2 | (injection y2 with E I F; have J := E.symm; have L := F.symm; clear E I F; subst J; subst L))
    refine hK.out _ _ ⟨bl_ s 0, bl_ g 0, bl_ g 1, bl_ g 2⟩ (fun hHeld => ?_)
    clear hK K
    refine nm_ 61 ?_
    refine pz_ 13 62 16 16383 ?_; refine pz_ 14 63 16 32767 ?_
    refine last_ (i := 15) (N := none) (bm 16 65535) rfl rfl (one_of HT_.out (by kernel_rfl)) (by decide) (fun K hK => ?_)
    have y3 : t4.cell? ⟨Y, 0, none⟩ = some (.slice u a.length q) := bl_ s 0
    have t6 := blk_frozen s.out 0
    have j0 := q5.out; have j2 := m8.out
    refine skip_ (w1 := ?_) (by rfl) rfl ?_ ?_
    rotate_left
    ·go_simp
     rfl
    refine hK.out _ _ ?_
    clear hK K
    refine done_ (done_of HT_.out (by kernel_rfl)) ?_
    try go_wp2
    first | refine bodyPost_end (results_none rfl _ _ _) rfl ?_ | refine bodyPost_ret (results_none rfl _ _ _) rfl ?_
    first | exact ⟨_, _, rfl, Kd.R_mono t5.out (fun _ _ => trivial), HB.out, rfl⟩ | exact ⟨rfl, _, _, Kd.R_mono t5.out (fun _ _ => trivial), HB.out, rfl⟩
   have l2 : (((rd_T99 B 0).f0).toList == d.toList) = true := beq_iff_eq.mpr f3
   have l3 : (((rd_T99 B 0).f0).toList != d.toList) = false := bne_eq_false_iff_eq.mpr f3
   clear f3
   refine jg_ H ?_; clear H; intro m0 H
   have t7 := eq_true m0
   have t8 := decide_eq_true m0
   clear m0
   generalize g8 : (B.drop (1 : Int).toNat) = a1 at H; replace H := bh_ H; have g9 := am_ g8.symm; clear g8
   have t9 := eq_true (of_decide_eq_true qa_ : 0 ≤ p)
   have w2 := eq_true (of_decide_eq_true qa_ : p ≤ (a.length : Int))
   generalize h0 : (a.take (p : Int).toNat) = o5 at H; replace H := bh_ H; have h1 := am_ h0.symm; clear h0
   refine jg_ H ?_; clear H; intro o6 H
   have h2 := am_ o6
   clear o6
   generalize h3 : (([] : List (S99)) ++ o5) = p9 at H; replace H := bh_ H; have h4 := am_ h3.symm; clear h3
   generalize h5 : (([(⟨d, l, o⟩ : S99)] : List (S99))) = j5 at H; replace H := bh_ H; have a8 := am_ h5.symm; clear h5
   refine jg_ H ?_; clear H; intro o7 H
   have m1 := am_ o7
   clear o7
   generalize h6 : (p9 ++ j5) = y4 at H; replace H := bh_ H; have m2 := am_ h6.symm; clear h6
   refine jg_ H ?_; clear H; intro o8 H
   have m3 := am_ o8
   clear o8
   generalize h7 : (y4 ++ a1) = E4 at H; replace H := bh_ H; have m4 := am_ h7.symm; clear h7
   obtain rfl := oi_ H
   obtain ⟨E5, E6⟩ := nn_ m8
   obtain ⟨E7, E8⟩ := bc1_ s
   have m5 : (p : Int) ≤ ((a.length : Int) : Int) := of_decide_eq_true qa_
   obtain ⟨i026, hi026, _, hsz26, _⟩ := info_parts info99
   have hroom26 : a.length ≤ q := V.out
   have hC26 : Kd.C k99 _ u a.length a := G.out
   have o9 : (0 : Int) ≤ (p : Int) := of_decide_eq_true qa_
   have hcut26 := cut_from (P := Try.prog) 42 99 .i64 Try.underlying42 hi026 3 hsz26 u a.length q p o9 m5
   have hr26 := Kd.C_drop (m := (p : Int).toNat) (c := q) hC26 (by omega) hroom26
   obtain ⟨w3, hA26⟩ : ∃ k7, k7 = (if q = (p : Int).toNat then u else (u : Option Addr).map (·.add ((p : Int).toNat * 3))) := ⟨_, rfl⟩
   obtain ⟨w4, hc26⟩ : ∃ k8, k8 = q - (p : Int).toNat := ⟨_, rfl⟩
   have d5 : a5.length = a.length - (p : Int).toNat := (by rw [X.out, List.length_drop] <;> omega)
   rw [show (a).drop (p : Int).toNat = a5 from X.out.symm] at hr26
   replace hr26 : Kd.C k99 _ w3 a5.length a5 := (by rw [hA26]; exact hr26)
   rw [← d5, ← hA26, ← hc26] at hcut26
   have n8 := am_ hr26
   have x3 := am_ (show a5.length ≤ w4 from by rw [d5, hc26]; exact Nat.sub_le_sub_right hroom26 _)
   clear hr26 hC26 hroom26 hi026 hsz26 hc26
   have KY26 := am_ d5
   have KA26 := am_ hA26
   clear d5 hA26; replace m5 := eq_true m5
   try go_wp2_with (first | ((with_reducible refine gate_builtin (b := .append) (xs := #[.const (.slice none 0 0), .tmp 33]) rfl ?_); at_builtin; refine Kd.R_append_rows k99 (w0 := w) w.heap.size rfl (.const (.slice none 0 0)) (.tmp 33) 42 99 (.agg #[(.string ⟨#[]⟩), (.string ⟨#[]⟩), (.int .i64 0)]) 40 rfl Try.underlying42 info99 rfl (by decide) (by omega) (.slice none 0 0) ([] : List (S99)) a5 _ _ _ (fun k_ => k_ ≠ y) (fun _ => False) rfl rfl ?aO ?aR (fun _ _ h => h) (fun _ h => h.elim) ?aF ?aB ?aS ?aL ?_; (case aR => repeat (first | exact (Kd.C_below n8.out HB.out) | (with_reducible refine Kd.C_alloc ?_ _) | (with_reducible refine Kd.C_drewN ?_ _) | (with_reducible refine Kd.C_drew ?_))); (case aB => exact qB_); (case aF => exact (fun k_ hk => Kd.freshB (qk_ g) k_ hk)); (case aO => exact ((Kd.R_nil _ _ _ _ (fun k_ => k_ ≠ y)))); (case aS => exact (below_size qB_)); (case aL => have := c6.out; omega); intro x4 w5 ho hb hg hat; rw [← c7.out] at ho; have A := am_ (ho); replace s := am_ (blk_grown (qk_ s) hg (by simp [Value.ownBlock])); replace g := am_ (blk_grown (qk_ g) hg (by simp [Value.ownBlock])); replace HB := am_ (hb); clear ho hb hg hat))
   replace A := rd_ A; replace s := bd_ s; replace g := bd_ g; replace HB := hd_ HB
   obtain ⟨E9, q0, y5⟩ := Kd.R_slice A.out
   (first | subst y5 | (injection y5 with E I F; have J := E.symm; have L := F.symm; clear E I F; subst J; subst L))
   have Z : 0 ≤ (0 : Int) := (by omega)
   have a0 := dl_ 0 B.length
   obtain ⟨x, g2, g3, g4, g5⟩ := at_T99 (Kd.R_reads' A.out).2.2 0 Z a0
   cases g2
   have qi237 : (0 < B.length) = True := eq_true (by omega)
   rw [show ((0 : Int)).toNat = 0 from rfl] at g3
   rw [show 0 * 3 = 0 from rfl] at g3
   rw [Addr.add_zero'] at g3
   rw [show ((0 : Int)).toNat = 0 from rfl] at g4
   rw [show 0 * 3 = 0 from rfl] at g4
   rw [Addr.add_zero'] at g4
   rw [show ((0 : Int)).toNat = 0 from rfl] at g5
   rw [show 0 * 3 = 0 from rfl] at g5
   rw [Addr.add_zero'] at g5
   replace Z := eq_true Z; replace a0 := eq_true a0
   refine start_ (n := 12) (S := fun w' => w'.cell? ⟨y, 0, none⟩ = some (.string d) ∧ w'.cell? ⟨y, 1, none⟩ = some (.string l) ∧ w'.cell? ⟨y, 2, none⟩ = some (.int .i64 o) ∧ w'.cell? x = some (.string ((rd_T99 B 0).f0)) ∧ w'.cell? ⟨x.block, x.off + 1, none⟩ = some (.string ((rd_T99 B 0).f1)) ∧ w'.cell? ⟨x.block, x.off + 2, none⟩ = some (.int .i64 ((rd_T99 B 0).f2))) (ds := []) (bm 12 0) (by kernel_rfl) rfl (by kernel_rfl) ⟨bl_ g 0, bl_ g 1, bl_ g 2, g3, g4, g5⟩ (fun hHeld => ?_); refine with_tabW impl_Disk_put.tab5 impl_Disk_put.bits5 (fun HT_ HW_ => ?_)
   generalize w5.drew = p0 at A s g HB g3 g4 g5 hHeld ⊢
   refine pz_ 0 35 12 1 ?_; refine pz_ 1 36 12 3 ?_; refine pz_ 2 37 12 7 ?_; refine pz_ 3 38 12 15 ?_; refine pz_ 4 39 12 31 ?_; refine pz_ 5 40 12 63 ?_; refine pz_ 6 41 12 127 ?_; refine pz_ 8 43 12 383 ?_; refine tz6_ 7 42 12 511 ?_; refine tz6_ 9 44 12 1023 ?_; refine pz_ 10 45 12 2047 ?_; refine pz_ 11 46 12 4095 ?_
   refine done_ (done_of HT_.out (by kernel_rfl)) ?_
   have m6 : (1 : Int) ≤ ((B.length : Int) : Int) := of_decide_eq_true qa_
   obtain ⟨i030, hi030, _, hsz30, _⟩ := info_parts info99
   have hcut30 := cut_from (P := Try.prog) 42 99 .i64 Try.underlying42 hi030 3 hsz30 (some x) B.length q0 1 (by omega) m6
   have hr30 := Kd.Q_drop (k := (1 : Int).toNat) (Kd.Q_of_R A.out) (by omega)
   obtain ⟨O, hA30⟩ : ∃ k7, k7 = (if q0 = (1 : Int).toNat then (some x) else ((some x) : Option Addr).map (·.add ((1 : Int).toNat * 3))) := ⟨_, rfl⟩
   obtain ⟨T, hc30⟩ : ∃ k8, k8 = q0 - (1 : Int).toNat := ⟨_, rfl⟩
   have h8 : a1.length = B.length - (1 : Int).toNat := (by rw [g9.out, List.length_drop])
   rw [← g9.out] at hr30
   rw [← h8, ← hA30, ← hc30] at hcut30
   replace hr30 : Kd.Q k99 99 p0 w.heap.size (fun k_ => k_ ≠ y) (.slice O a1.length T) a1 := (by rw [hA30, hc30, h8]; exact hr30)
   have HE30 : Aside0 ((Value.slice O a1.length T).ownBlock = (.slice (some x) B.length q0 : Value).ownBlock) := ⟨by rw [hA30]; split <;> (cases ((some x) : Option Addr) <;> rfl)⟩
   clear h8 hi030 hsz30 A hA30 hc30
   have U := am_ hr30
   clear hr30; replace m6 := eq_true m6
   try go_wp2
   replace U := am_ (Kd.Q_drew U.out); replace s := bd_ s; replace g := bd_ g; replace HB := hd_ HB
   have m7 : (p : Int) ≤ ((a.length : Int) : Int) := of_decide_eq_true qa_
   obtain ⟨i032, hi032, _, hsz32, _⟩ := info_parts info99
   have hroom32 : a.length ≤ q := V.out
   have hC32 : Kd.C k99 _ u a.length a := G.out
   have hcut32 := cut_to (P := Try.prog) 42 99 .i64 Try.underlying42 hi032 u a.length q p (of_decide_eq_true qa_) m7 hroom32
   have hr32 := Kd.C_take (m := (p : Int).toNat) hC32 (by omega)
   have h9 : o5.length = (p : Int).toNat := (by rw [h1.out, List.length_take]; omega)
   rw [← h1.out] at hr32
   rw [← h9] at hcut32
   have w6 := am_ hr32
   have F0 := am_ (show o5.length ≤ q from by omega)
   clear hr32 hC32 hroom32 hi032 hsz32
   have KY32 := am_ h9
   clear h9; replace m7 := eq_true m7
   refine start_ (n := 16) (S := fun w' => w'.cell? ⟨Y, 0, none⟩ = some (.slice u a.length q) ∧ w'.cell? ⟨y, 0, none⟩ = some (.string d) ∧ w'.cell? ⟨y, 1, none⟩ = some (.string l) ∧ w'.cell? ⟨y, 2, none⟩ = some (.int .i64 o)) (ds := [15]) (bm 16 0) (by kernel_rfl) rfl (by kernel_rfl) ⟨bl_ s 0, bl_ g 0, bl_ g 1, bl_ g 2⟩ (fun hHeld => ?_); refine with_tabW impl_Disk_put.tab7 impl_Disk_put.bits7 (fun HT_ HW_ => ?_)
   generalize p0.drew = A2 at U s g HB w6 hHeld ⊢
   refine pz_ 0 49 16 1 ?_; refine pz_ 1 50 16 3 ?_; refine pz_ 2 51 16 7 ?_; refine pz_ 3 52 16 15 ?_; refine pz_ 5 54 16 47 ?_; refine pz_ 11 60 16 2095 ?_; refine tz4_ 4 53 16 2111 ?_; refine pz_ 6 55 16 2175 ?_; refine tz4_ 8 57 16 2431 ?_
   refine join_ (σ := Value × Value) 5 #[true, true, true, true, true, true, true, true, true, true, false, true, false, false, false, false] (fun s_ => [(56, s_.1), (58, s_.2)]) (fun s_ w' => (w'.cell? ⟨Y, 0, none⟩ = some (.slice u a.length q) ∧ w'.cell? ⟨y, 0, none⟩ = some (.string d) ∧ w'.cell? ⟨y, 1, none⟩ = some (.string l) ∧ w'.cell? ⟨y, 2, none⟩ = some (.int .i64 o)) ∧ (Kd.Q k99 99 w' w.heap.size (fun k_ => some k_ ≠ (s_.1 : Value).ownBlock ∧ some k_ ≠ (s_.2 : Value).ownBlock ∧ k_ ≠ y) (.slice O a1.length T) a1) ∧ (Kd.R k99 99 w' w.heap.size (fun k_ => some k_ ≠ (.slice O a1.length T : Value).ownBlock ∧ some k_ ≠ (s_.2 : Value).ownBlock ∧ k_ ≠ y) s_.1 p9) ∧ (Kd.R k99 99 w' w.heap.size (fun k_ => some k_ ≠ (.slice O a1.length T : Value).ownBlock ∧ some k_ ≠ (s_.1 : Value).ownBlock ∧ k_ ≠ y) s_.2 j5) ∧ (w'.heap[Y]? = some (.cells #[.slice u a.length q] 44 (0, 0))) ∧ (w'.heap[y]? = some (.cells #[.string d, .string l, .int .i64 o] 99 (0, 0))) ∧ (Below w.heap.size w w')) ?_ ?_
   rotate_left
   ·intro hCont
    refine two_ (i := 7) (j := 9) (Ni := some 56) (Nj := some 58) (bm 16 2559) #[true, true, true, true, true, true, true, false, true, true, false, true, false, false, false, false] rfl rfl rfl rfl (two_of HT_.out (by kernel_rfl)) (by decide) (by decide) (fun K hK => ?_) (fun K hK => ?_)
    ·skip
     refine Kd.R_append_rows_step k99 (w0 := w) w.heap.size rfl (.const (.slice none 0 0)) (.tmp 55) 42 99 (.agg #[(.string ⟨#[]⟩), (.string ⟨#[]⟩), (.int .i64 0)]) 40 rfl Try.underlying42 info99 rfl (by decide) (by omega) (.slice none 0 0) ([] : List (S99)) o5 _ _ _ (fun k_ => some k_ ≠ (.slice O a1.length T : Value).ownBlock ∧ k_ ≠ y) (fun _ => False) rfl rfl ?aO ?aR (fun _ _ h => h) (fun _ h => h.elim) ?aF ?aB ?aS ?aL ?_
     (case aR => repeat (first | exact (Kd.C_below w6.out HB.out) | (with_reducible refine Kd.C_alloc ?_ _) | (with_reducible refine Kd.C_drewN ?_ _) | (with_reducible refine Kd.C_drew ?_)))
     (case aB => exact qB_)
     (case aF => exact (fun k_ hk => ⟨Kd.fresh' (Kd.Q_lt (by (with_reducible repeat (first | apply Kd.Q_alloc | apply Kd.Q_drewN | apply Kd.Q_drew)); exact U.out)) k_ hk, Kd.freshB (qk_ g) k_ hk⟩))
     (case aO => exact ((Kd.R_nil _ _ _ _ (fun k_ => some k_ ≠ (.slice O a1.length T : Value).ownBlock ∧ k_ ≠ y))))
     (case aS => exact (below_size qB_))
     (case aL => have := h2.out; omega)
     intro j6 w7 ho hb hg hat
     rw [← h4.out] at ho
     refine dn5_ (am_ (blk_grown (qk_ s) hg (by simp [Value.ownBlock]))) (am_ (blk_grown (qk_ g) hg (by simp [Value.ownBlock]))) (am_ (Kd.Q_after (Kd.Q_apart_nil (by (with_reducible repeat (first | apply Kd.Q_alloc | apply Kd.Q_drewN | apply Kd.Q_drew)); exact U.out)) hg hat)) (am_ (hb)) (am_ (ho)) ?_; clear s g U HB; intro s g U HB d6; clear ho hb hg hat
     refine hK.out _ _ ⟨bl_ s 0, bl_ g 0, bl_ g 1, bl_ g 2⟩ (fun hHeld => ?_)
     clear hK K
     refine nm_ 56 ?_
     refine o1_ 9 (some 58) 16 3071 (fun K hK => ?_)
     refine Kd.R_lit_step k99 _ 99 ?hg (N := 58) ?hd (xs := ([(⟨d, l, o⟩ : S99)] : List (S99))) (inner := [.string d, .string l, .int .i64 o]) (ok := fun _ => True) (okp := fun _ => True) ?hr ?hp (fun _ hk => hk) trivial (Below.refl _ _) (Nat.le_refl _) (by simp) ?_; (case hd => rfl); (case hg => rfl); (case hr => first | (go_simp; done) | (go_simp; rfl)); (case hp => exact (Reps.c3 (show Kd.M k99 _ _ _ (⟨d, l, o⟩ : S99) [.string d, .string l, .int .i64 o] from (k99_mkM _ _ _ (⟨d, l, o⟩ : S99) )) (Reps.none _ _)))
     intro i6 A3 ho35 hb hg_ hnew_
     clear hg_ hnew_
     (first | rw [← a8.out] at ho35 | (simp only [Int.reduceToNat] at ho35; rw [← a8.out] at ho35))
     refine dn6_ (am_ (Kd.Q_elder' (by (with_reducible repeat (first | apply Kd.Q_alloc | apply Kd.Q_drewN | apply Kd.Q_drew)); exact U.out) (Kd.R_base ho35) hb)) (ke_ d6 ho35 hb) (am_ (Kd.R_lower (Kd.R_newB (Kd.R_new' (Kd.R_new' ho35 (Kd.Q_lt (by (with_reducible repeat (first | apply Kd.Q_alloc | apply Kd.Q_drewN | apply Kd.Q_drew)); exact U.out))) (Kd.R_lt (qR_ d6))) (qk_ g)) (below_size qB_))) (qbl_ s hb) (qbl_ g hb) (am_ (below_step qB_ hb)) ?_; clear U d6 s g HB; intro U d6 a9 s g HB; clear hb ho35
     refine hK.out _ _ ⟨bl_ s 0, bl_ g 0, bl_ g 1, bl_ g 2⟩ (fun hHeld => ?_)
     clear hK K
     refine nm_ 58 ?_
     exact norm_ (by simp only [putAll, Act.put, sA_, sB_, sC_]) (hCont (j6, i6) _ ⟨hHeld, (by (with_reducible repeat (first | apply Kd.Q_alloc | apply Kd.Q_drewN | apply Kd.Q_drew)); exact Kd.Q_mono U.out (fun _ hk => ⟨hk.1.2, ⟨hk.2, hk.1.1⟩⟩)), (by (with_reducible repeat (first | apply Kd.R_alloc | apply Kd.R_drewN | apply Kd.R_drew)); exact Kd.R_mono d6.out (fun _ hk => ⟨hk.1.1, ⟨hk.2, hk.1.2⟩⟩)), (by (with_reducible repeat (first | apply Kd.R_alloc | apply Kd.R_drewN | apply Kd.R_drew)); exact Kd.R_mono a9.out (fun _ hk => ⟨hk.1.1.2, ⟨hk.1.2, hk.2⟩⟩)), (qk_ s), (qk_ g), qB_⟩)
    skip
    refine Kd.R_lit_step k99 _ 99 ?hg (N := 58) ?hd (xs := ([(⟨d, l, o⟩ : S99)] : List (S99))) (inner := [.string d, .string l, .int .i64 o]) (ok := fun _ => True) (okp := fun _ => True) ?hr ?hp (fun _ hk => hk) trivial (Below.refl _ _) (Nat.le_refl _) (by simp) ?_; (case hd => rfl); (case hg => rfl); (case hr => first | (go_simp; done) | (go_simp; rfl)); (case hp => exact (Reps.c3 (show Kd.M k99 _ _ _ (⟨d, l, o⟩ : S99) [.string d, .string l, .int .i64 o] from (k99_mkM _ _ _ (⟨d, l, o⟩ : S99) )) (Reps.none _ _)))
    intro i6 w7 ho34 hb hg_ hnew_
    clear hg_ hnew_
    (first | rw [← a8.out] at ho34 | (simp only [Int.reduceToNat] at ho34; rw [← a8.out] at ho34))
    refine dn5_ (am_ (Kd.Q_elder' (by (with_reducible repeat (first | apply Kd.Q_alloc | apply Kd.Q_drewN | apply Kd.Q_drew)); exact U.out) (Kd.R_base ho34) hb)) (am_ (Kd.R_lower (Kd.R_newB (Kd.R_new' ho34 (Kd.Q_lt (by (with_reducible repeat (first | apply Kd.Q_alloc | apply Kd.Q_drewN | apply Kd.Q_drew)); exact U.out))) (qk_ g)) (below_size qB_))) (qbl_ s hb) (qbl_ g hb) (am_ (below_step qB_ hb)) ?_; clear U s g HB; intro U a9 s g HB; clear hb ho34
    refine hK.out _ _ ⟨bl_ s 0, bl_ g 0, bl_ g 1, bl_ g 2⟩ (fun hHeld => ?_)
    clear hK K
    refine nm_ 58 ?_
    refine o1_ 7 (some 56) 16 3071 (fun K hK => ?_)
    refine Kd.R_append_rows_step k99 (w0 := w) w.heap.size rfl (.const (.slice none 0 0)) (.tmp 55) 42 99 (.agg #[(.string ⟨#[]⟩), (.string ⟨#[]⟩), (.int .i64 0)]) 40 rfl Try.underlying42 info99 rfl (by decide) (by omega) (.slice none 0 0) ([] : List (S99)) o5 _ _ _ (fun k_ => some k_ ≠ (.slice O a1.length T : Value).ownBlock ∧ some k_ ≠ (i6 : Value).ownBlock ∧ k_ ≠ y) (fun _ => False) rfl rfl ?aO ?aR (fun _ _ h => h) (fun _ h => h.elim) ?aF ?aB ?aS ?aL ?_
    (case aR => repeat (first | exact (Kd.C_below w6.out HB.out) | (with_reducible refine Kd.C_alloc ?_ _) | (with_reducible refine Kd.C_drewN ?_ _) | (with_reducible refine Kd.C_drew ?_)))
    (case aB => exact qB_)
    (case aF => exact (fun k_ hk => ⟨Kd.fresh' (Kd.Q_lt (by (with_reducible repeat (first | apply Kd.Q_alloc | apply Kd.Q_drewN | apply Kd.Q_drew)); exact U.out)) k_ hk, Kd.fresh' (Kd.R_lt (qR_ a9)) k_ hk, Kd.freshB (qk_ g) k_ hk⟩))
    (case aO => exact ((Kd.R_nil _ _ _ _ (fun k_ => some k_ ≠ (.slice O a1.length T : Value).ownBlock ∧ some k_ ≠ (i6 : Value).ownBlock ∧ k_ ≠ y))))
    (case aS => exact (below_size qB_))
    (case aL => have := h2.out; omega)
    intro j6 A4 ho hb hg hat
    rw [← h4.out] at ho
    refine dn6_ (am_ (blk_grown (qk_ s) hg (by simp [Value.ownBlock]))) (am_ (blk_grown (qk_ g) hg (by simp [Value.ownBlock]))) (am_ (Kd.Q_after (Kd.Q_apart_nil (by (with_reducible repeat (first | apply Kd.Q_alloc | apply Kd.Q_drewN | apply Kd.Q_drew)); exact U.out)) hg hat)) (am_ (Kd.R_after (Kd.R_apart_nil (qR_ a9)) hg hat)) (am_ (hb)) (am_ (ho)) ?_; clear s g U a9 HB; intro s g U a9 HB d6; clear ho hb hg hat
    refine hK.out _ _ ⟨bl_ s 0, bl_ g 0, bl_ g 1, bl_ g 2⟩ (fun hHeld => ?_)
    clear hK K
    refine nm_ 56 ?_
    exact norm_ (by simp only [putAll, Act.put, sA_, sB_, sC_]) (hCont (j6, i6) _ ⟨hHeld, (by (with_reducible repeat (first | apply Kd.Q_alloc | apply Kd.Q_drewN | apply Kd.Q_drew)); exact Kd.Q_mono U.out (fun _ hk => ⟨hk.2, ⟨hk.1.2, hk.1.1⟩⟩)), (qR_ d6), (by (with_reducible repeat (first | apply Kd.R_alloc | apply Kd.R_drewN | apply Kd.R_drew)); exact Kd.R_mono a9.out (fun _ hk => ⟨hk.1.1.2, ⟨hk.2, hk.1.2⟩⟩)), (qk_ s), (qk_ g), qB_⟩)
   rintro ⟨j6, i6⟩ a4 ⟨hS_, b1, b2, b3, b4, b5, b6⟩
   have b7 : Aside0 (Kd.Q k99 99 a4 w.heap.size (fun k_ => some k_ ≠ (j6 : Value).ownBlock ∧ some k_ ≠ (i6 : Value).ownBlock ∧ k_ ≠ y) (.slice O a1.length T) a1) := ⟨b1⟩
   have b8 : Aside0 (Kd.R k99 99 a4 w.heap.size (fun k_ => some k_ ≠ (.slice O a1.length T : Value).ownBlock ∧ some k_ ≠ (i6 : Value).ownBlock ∧ k_ ≠ y) j6 p9) := ⟨b2⟩
   have b9 : Aside0 (Kd.R k99 99 a4 w.heap.size (fun k_ => some k_ ≠ (.slice O a1.length T : Value).ownBlock ∧ some k_ ≠ (j6 : Value).ownBlock ∧ k_ ≠ y) i6 j5) := ⟨b3⟩
   have c0 : Aside0 (a4.heap[Y]? = some (.cells #[.slice u a.length q] 44 (0, 0))) := ⟨b4⟩
   have c1 : Aside0 (a4.heap[y]? = some (.cells #[.string d, .string l, .int .i64 o] 99 (0, 0))) := ⟨b5⟩
   have c2 : Aside0 (Below w.heap.size w a4) := ⟨b6⟩
   clear U s g HB b1 b2 b3 b4 b5 b6; have U := b7; have d6 := b8; have a9 := b9; have s := c0; have g := c1; have HB := c2; clear b7 b8 b9 c0 c1 c2
   have hHeld : a4.cell? ⟨Y, 0, none⟩ = some (.slice u a.length q) ∧ a4.cell? ⟨y, 0, none⟩ = some (.string d) ∧ a4.cell? ⟨y, 1, none⟩ = some (.string l) ∧ a4.cell? ⟨y, 2, none⟩ = some (.int .i64 o) := hS_
   obtain ⟨q1, q2, y6⟩ := Kd.R_slice a9.out
   (first | subst y6 | (injection y6 with E I F; have J := E.symm; have L := F.symm; clear E I F; subst J; subst L))
   refine norm_ (a' := ?_) ?_ ?_
   rotate_left
   ·simp only [putAll, Act.put, sA_, sB_, sC_]
    rfl
   refine o1_ 10 (some 59) 16 4095 (fun K hK => ?_)
   refine Kd.R_append_rows_step k99 (w0 := w) w.heap.size (by rfl) (.tmp 56) (.tmp 58) 42 99 (.agg #[(.string ⟨#[]⟩), (.string ⟨#[]⟩), (.int .i64 0)]) 40 rfl Try.underlying42 info99 rfl (by decide) (by omega) j6 p9 j5 _ _ _ (fun k_ => some k_ ≠ (.slice O a1.length T : Value).ownBlock ∧ some k_ ≠ (.slice q1 j5.length q2 : Value).ownBlock ∧ k_ ≠ y) (fun _ => False) rfl rfl ?aO ?aR (fun _ _ h => h) (fun _ h => h.elim) ?aF ?aB ?aS ?aL ?_
   (case aR => repeat (first | exact (Kd.R_reads' a9.out).2.2 | (with_reducible refine Kd.C_alloc ?_ _) | (with_reducible refine Kd.C_drewN ?_ _) | (with_reducible refine Kd.C_drew ?_)))
   (case aB => exact qB_)
   (case aF => exact (fun k_ hk => ⟨Kd.fresh' (Kd.Q_lt (by (with_reducible repeat (first | apply Kd.Q_alloc | apply Kd.Q_drewN | apply Kd.Q_drew)); exact U.out)) k_ hk, Kd.fresh' (Kd.R_lt (qR_ a9)) k_ hk, Kd.freshB (qk_ g) k_ hk⟩))
   (case aO => exact (qR_ d6))
   (case aS => exact (below_size qB_))
   (case aL => have := m1.out; omega)
   intro A5 A6 ho hb hg hat
   rw [← m2.out] at ho
   refine dn6_ (am_ (blk_grown (qk_ s) hg (Kd.R_ne d6.out s.out (by decide)))) (am_ (blk_grown (qk_ g) hg (Kd.R_away d6.out (fun _ hk => hk.2.2)))) (am_ (Kd.Q_after (ok := (fun k_ => some k_ ≠ (.slice q1 j5.length q2 : Value).ownBlock ∧ k_ ≠ y)) (by (with_reducible repeat (first | apply Kd.Q_alloc | apply Kd.Q_drewN | apply Kd.Q_drew)); exact Kd.Q_mono U.out (fun _ hk => ⟨⟨hk.2.1, hk.2.2⟩, hk.1⟩)) hg hat)) (am_ (Kd.R_after (ok := (fun k_ => some k_ ≠ (.slice O a1.length T : Value).ownBlock ∧ k_ ≠ y)) (by (with_reducible repeat (first | apply Kd.R_alloc | apply Kd.R_drewN | apply Kd.R_drew)); exact Kd.R_mono a9.out (fun _ hk => ⟨⟨hk.1, hk.2.2⟩, hk.2.1⟩)) hg hat)) (am_ (hb)) (am_ (ho)) ?_; clear s g U a9 HB d6; intro s g U a9 HB q3; clear ho hb hg hat
   refine hK.out _ _ ⟨bl_ s 0, bl_ g 0, bl_ g 1, bl_ g 2⟩ (fun hHeld => ?_)
   clear hK K
   refine nm_ 59 ?_
   refine o1_ 12 (some 61) 16 8191 (fun K hK => ?_)
   refine Kd.R_append_rows_step k99 (w0 := w) w.heap.size (by rfl) (.tmp 59) (.tmp 60) 42 99 (.agg #[(.string ⟨#[]⟩), (.string ⟨#[]⟩), (.int .i64 0)]) 40 rfl Try.underlying42 info99 rfl (by decide) (by omega) A5 y4 a1 _ _ _ (fun k_ => some k_ ≠ (.slice O a1.length T : Value).ownBlock ∧ some k_ ≠ (.slice q1 j5.length q2 : Value).ownBlock ∧ k_ ≠ y) (fun _ => False) rfl rfl ?aO ?aR (fun _ _ h => h) (fun _ h => h.elim) ?aF ?aB ?aS ?aL ?_
   (case aR => repeat (first | exact (Kd.Q_reads' U.out).2.2 | (with_reducible refine Kd.C_alloc ?_ _) | (with_reducible refine Kd.C_drewN ?_ _) | (with_reducible refine Kd.C_drew ?_)))
   (case aB => exact qB_)
   (case aF => exact (fun k_ hk => ⟨Kd.fresh' (Kd.Q_lt (by (with_reducible repeat (first | apply Kd.Q_alloc | apply Kd.Q_drewN | apply Kd.Q_drew)); exact U.out)) k_ hk, Kd.fresh' (Kd.R_lt (qR_ a9)) k_ hk, Kd.freshB (qk_ g) k_ hk⟩))
   (case aO => exact (qR_ q3))
   (case aS => exact (below_size qB_))
   (case aL => have := m3.out; omega)
   intro F1 w8 ho hb hg hat
   rw [← m4.out] at ho
   refine dn6_ (am_ (blk_grown (qk_ s) hg (Kd.R_ne q3.out s.out (by decide)))) (am_ (blk_grown (qk_ g) hg (Kd.R_away q3.out (fun _ hk => hk.2.2)))) (am_ (Kd.Q_after (ok := (fun k_ => some k_ ≠ (.slice q1 j5.length q2 : Value).ownBlock ∧ k_ ≠ y)) (by (with_reducible repeat (first | apply Kd.Q_alloc | apply Kd.Q_drewN | apply Kd.Q_drew)); exact U.out) hg hat)) (am_ (Kd.R_after (ok := (fun k_ => some k_ ≠ (.slice O a1.length T : Value).ownBlock ∧ k_ ≠ y)) (qR_ a9) hg hat)) (am_ (hb)) (am_ (ho)) ?_; clear s g U a9 HB q3; intro s g U a9 HB w9; clear ho hb hg hat
   obtain ⟨F2, F3, y7⟩ := Kd.R_slice w9.out
   (first | subst y7 | (injection y7 with E I F; have J := E.symm; have L := F.symm; clear E I F; subst J; subst L))
   refine hK.out _ _ ⟨bl_ s 0, bl_ g 0, bl_ g 1, bl_ g 2⟩ (fun hHeld => ?_)
   clear hK K
   refine nm_ 61 ?_
   refine pz_ 13 62 16 16383 ?_; refine pz_ 14 63 16 32767 ?_
   refine last_ (i := 15) (N := none) (bm 16 65535) rfl rfl (one_of HT_.out (by kernel_rfl)) (by decide) (fun K hK => ?_)
   have y8 : w8.cell? ⟨Y, 0, none⟩ = some (.slice u a.length q) := bl_ s 0
   have x0 := blk_frozen s.out 0
   have F4 := q5.out; have F5 := m8.out
   refine skip_ (w1 := ?_) (by rfl) rfl ?_ ?_
   rotate_left
   ·go_simp
    rfl
   refine hK.out _ _ ?_
   clear hK K
   refine done_ (done_of HT_.out (by kernel_rfl)) ?_
   try go_wp2
   first | refine bodyPost_end (results_none rfl _ _ _) rfl ?_ | refine bodyPost_ret (results_none rfl _ _ _) rfl ?_
   first | exact ⟨_, _, rfl, Kd.R_mono w9.out (fun _ _ => trivial), HB.out, rfl⟩ | exact ⟨rfl, _, _, Kd.R_mono w9.out (fun _ _ => trivial), HB.out, rfl⟩
end Go.Proofs.Ytacnlodcbbhahaa.QFnActs
