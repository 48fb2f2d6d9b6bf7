-- printed for this claim by a program of the session's own (no text of the kit's print)
import Derived.Test.YtacnlodcbbhahaaQFnExactCutActsx0
namespace Go.Proofs.Ytacnlodcbbhahaa.QFnExactCutActs
open Go.RowKit Go.Proofs.YtacnlodcbbhahaaW.PrintWords Go.Proofs.YtacnlodcbbhahaaW.PrintLast Go.Proofs.YtacnlodcbbhahaaW.PrintMore
attribute [local go_sem] max2_int min2_int max_two min_two max_three min_three max_four min_four   -- for this text's walks alone
set_option linter.unusedVariables false
set_option linter.unusedSimpArgs false

/-! ### impl_Disk_put: function 87 -/
mutual
def impl_Disk_put.j1 : Nat → Int → List (S99) → ByteArray → ByteArray → Int → Option ((List (S99)))
  | 0, _, _, _, _, _ => none
  | k + 1, x4, x228000, x229000, x229001, x229002 => if 0 ≤ x4 then (if x4 ≤ (x228000.length : Int) then ((some (x228000.drop (x4 : Int).toNat : List (S99))).bind fun y230 => (if ([] : List (S99)).length + y230.length < 3518437208883 then ((some (([] : List (S99)) ++ y230 : List (S99))).bind fun y234 => (if (y234.length : Int) > 0 then (if 0 < (y234.length : Int) then (if ((rd_T99 y234 0).f0).toList = x229000.toList then (if 1 ≤ (y234.length : Int) then ((some (y234.drop (1 : Int).toNat : List (S99))).bind fun y238 => ((some (x228000.take (x4 : Int).toNat : List (S99))).bind fun y241 => (if ([] : List (S99)).length + y241.length < 3518437208883 then ((some (([] : List (S99)) ++ y241 : List (S99))).bind fun y245 => ((some (([(⟨x229000, x229001, x229002⟩ : S99)] : List (S99)) : List (S99))).bind fun y248 => (if y245.length + y248.length < 3518437208883 then ((some (y245 ++ y248 : List (S99))).bind fun y251 => (if y251.length + y238.length < 3518437208883 then (some (y251 ++ y238)) else (none))) else (none)))) else (none)))) else (none)) else ((some (x228000.take (x4 : Int).toNat : List (S99))).bind fun y257 => (if ([] : List (S99)).length + y257.length < 3518437208883 then ((some (([] : List (S99)) ++ y257 : List (S99))).bind fun y261 => ((some (([(⟨x229000, x229001, x229002⟩ : S99)] : List (S99)) : List (S99))).bind fun y264 => (if y261.length + y264.length < 3518437208883 then ((some (y261 ++ y264 : List (S99))).bind fun y267 => (if y267.length + y234.length < 3518437208883 then (some (y267 ++ y234)) else (none))) else (none)))) else (none)))) else (none)) else ((some (x228000.take (x4 : Int).toNat : List (S99))).bind fun y273 => (if ([] : List (S99)).length + y273.length < 3518437208883 then ((some (([] : List (S99)) ++ y273 : List (S99))).bind fun y277 => ((some (([(⟨x229000, x229001, x229002⟩ : S99)] : List (S99)) : List (S99))).bind fun y280 => (if y277.length + y280.length < 3518437208883 then ((some (y277 ++ y280 : List (S99))).bind fun y283 => (if y283.length + y234.length < 3518437208883 then (some (y283 ++ y234)) else (none))) else (none)))) else (none))))) else (none))) else (none)) else (none)
def impl_Disk_put.l0 : Nat → Int → List (S99) → ByteArray → ByteArray → Int → Option ((List (S99)))
  | 0, _, _, _, _, _ => none
  | k + 1, x4, x228000, x229000, x229001, x229002 => if x4 < (x228000.length : Int) then (if 0 ≤ x4 then (if (Op.bytesLess (((rd_T99 x228000 x4).f0).toList) x229000.toList) = true then (impl_Disk_put.l0 k (wrap64 (x4 + 1)) x228000 x229000 x229001 x229002) else (impl_Disk_put.j1 k x4 x228000 x229000 x229001 x229002)) else (none)) else (impl_Disk_put.j1 k x4 x228000 x229000 x229001 x229002)
end
def impl_Disk_put.f (k : Nat) (l0_0 : List (S99)) (a1_0 : ByteArray) (a1_1 : ByteArray) (a1_2 : Int) : Option ((List (S99))) := impl_Disk_put.l0 k 0 l0_0 a1_0 a1_1 a1_2
theorem impl_Disk_put.mono_l : ∀ k, (∀ y0 y1 y2 y3 y4, LeO (impl_Disk_put.j1 k y0 y1 y2 y3 y4) (impl_Disk_put.j1 (k + 1) y0 y1 y2 y3 y4)) ∧ (∀ y0 y1 y2 y3 y4, LeO (impl_Disk_put.l0 k y0 y1 y2 y3 y4) (impl_Disk_put.l0 (k + 1) y0 y1 y2 y3 y4))
  | 0 => ⟨fun _ _ _ _ _ r h => by simp [impl_Disk_put.j1] at h, fun _ _ _ _ _ r h => by simp [impl_Disk_put.l0] at h⟩
  | k + 1 => by
    obtain ⟨ih0, ih1⟩ := impl_Disk_put.mono_l k
    refine ⟨?_, ?_⟩ <;> (intros; first | unfold impl_Disk_put.j1 | unfold impl_Disk_put.l0) <;> repeat' first | (with_reducible first | exact ih0 _ _ _ _ _ | exact ih1 _ _ _ _ _ | exact LeO.refl _ | exact LeO.none _ | refine LeO.ite ?_ ?_ | refine LeO.bind ?_ (fun _ => ?_)) | exact LeO.none _ | refine LeO.ite ?_ ?_ | refine LeO.bind ?_ (fun _ => ?_)
theorem impl_Disk_put.mono : ∀ a0 a1 a2 a3 k, LeO (impl_Disk_put.f k a0 a1 a2 a3) (impl_Disk_put.f (k + 1) a0 a1 a2 a3) := by
  intro a0 a1 a2 a3 k
  obtain ⟨ih0, ih1⟩ := impl_Disk_put.mono_l k
  unfold impl_Disk_put.f
  repeat' first | (with_reducible first | exact ih0 _ _ _ _ _ | exact ih1 _ _ _ _ _ | exact LeO.refl _ | exact LeO.none _ | refine LeO.ite ?_ ?_ | refine LeO.bind ?_ (fun _ => ?_)) | exact LeO.none _ | refine LeO.ite ?_ ?_ | refine LeO.bind ?_ (fun _ => ?_)
def impl_Disk_put.T2 : Bool × List (List Nat × List Nat) := (true, [([], []), ([], []), ([1], [1]), ([2], [2]), ([3], [3]), ([4], [4]), ([0, 5], [0, 5]), ([6], [6]), ([7], [7]), ([8, 7], [7, 8]), ([9, 7], [7, 9]), ([10, 7], [7, 10]), ([7], [7]), ([11, 12, 7], [7, 11, 12]), ([13, 7], [7, 13]), ([14, 7], [7, 14]), ([7], [7]), ([16, 7], [7, 16]), ([15, 17, 7], [7, 15, 17]), ([7, 18], [7, 18])])
def impl_Disk_put.B2 : List Nat := [0, 0, 2, 6, 14, 30, 63, 127, 255, 511, 1023, 2047, 255, 8191, 16383, 32767, 255, 65791, 262143, 524287]
theorem impl_Disk_put.tab2 : rtab .any (opsOf Try.f87 2) = impl_Disk_put.T2 := by kernel_rfl
theorem impl_Disk_put.bits2 : waitsOk impl_Disk_put.T2.2 impl_Disk_put.B2 = true := by kernel_rfl
def impl_Disk_put.T5 : Bool × List (List Nat × List Nat) := (true, [([], []), ([0], [0]), ([1], [1]), ([2], [2]), ([3], [3]), ([4, 3], [3, 4]), ([5, 3], [3, 5]), ([6, 3], [3, 6]), ([3], [3]), ([8, 3], [3, 8]), ([7, 9, 3], [3, 7, 9]), ([3, 10], [3, 10])])
def impl_Disk_put.B5 : List Nat := [0, 1, 3, 7, 15, 31, 63, 127, 15, 271, 1023, 2047]
theorem impl_Disk_put.tab5 : rtab .any (opsOf Try.f87 5) = impl_Disk_put.T5 := by kernel_rfl
theorem impl_Disk_put.bits5 : waitsOk impl_Disk_put.T5.2 impl_Disk_put.B5 = true := by kernel_rfl
def impl_Disk_put.T7 : Bool × List (List Nat × List Nat) := (true, [([], []), ([], []), ([1], [1]), ([2], [2]), ([3], [3]), ([], []), ([4, 5], [4, 5]), ([6], [6]), ([], []), ([8], [8]), ([7, 9, 7], [7, 9]), ([], []), ([10, 11, 10], [10, 11]), ([0, 0, 1, 2, 3, 4, 5, 6, 7, 8, 9, 10, 11, 12], [0]), ([13, 0, 1, 2, 3, 4, 5, 6, 7, 8, 9, 10, 11, 12], [13]), ([14, 12, 12, 0, 1, 2, 3, 4, 5, 6, 7, 8, 9, 10, 11, 12], [12, 14])])
def impl_Disk_put.B7 : List Nat := [0, 0, 2, 6, 14, 0, 62, 126, 0, 256, 1022, 0, 4094, 8191, 16383, 32767]
theorem impl_Disk_put.tab7 : rtab .any (opsOf Try.f87 7) = impl_Disk_put.T7 := by kernel_rfl
theorem impl_Disk_put.bits7 : waitsOk impl_Disk_put.T7.2 impl_Disk_put.B7 = true := by kernel_rfl
set_option maxHeartbeats 8000000 in
set_option maxRecDepth 100000 in
theorem impl_Disk_put.calls (k : Nat) (A0_0 : Option Addr) (c0_0 : Nat) (l0_0 : List (S99)) (a1_0 : ByteArray) (a1_1 : ByteArray) (a1_2 : Int) (r : List (S99)) (gb227 : Nat) (w : World) (hblk : w.heap[gb227]? = some (.cells #[.slice A0_0 l0_0.length c0_0] 44 (0, 0))) (hr0_0 : Kd.C k99 w A0_0 l0_0.length l0_0) (hc0_0 : l0_0.length ≤ c0_0) (h : impl_Disk_put.f k l0_0 a1_0 a1_1 a1_2 = some r) :
  Calls Try.prog 87 #[.pointer (some ⟨gb227, 0, none⟩), .agg #[.string a1_0, .string a1_1, .int .i64 a1_2]] w fun e w' => ∃ (w1_ : World) (v0_ : Value), e = .returned (.tuple #[]) ∧ Kd.R k99 99 w1_ w.heap.size (fun _ => True) v0_ r ∧ Below w.heap.size w w1_ ∧ w' = w1_.setCell ⟨gb227, 0, none⟩ v0_ := by
 have hu44 := Try.underlying44; have hu99 := Try.underlying99
 have HR0_0 := am_ hr0_0
 have HC0_0 := am_ hc0_0
 clear hr0_0 hc0_0
 have HB := am_ (Below.refl w.heap.size w)
 have BK227 := am_ hblk
 clear hblk
 have H : (impl_Disk_put.l0 k 0 l0_0 a1_0 a1_1 a1_2) = some r := h
 clear h
 have HC3 := am_ H
 clear H
 go_enter Try.func87, Try.ntmps87
 go_upto_block 0 with (first | ((with_reducible refine gate_dst (N := 3) rfl ?_); refine bx_ 3 (cs := #[.string a1_0, .string a1_1, .int .i64 a1_2]) (t := 99) ?_; intro gb228 hg w5 hbox hb; have BK228 := am_ (hbox); have GW228 := am_ ((qs_ : w.heap.size ≤ gb228)); have GE228 := GW228; obtain ⟨NB227_228, NB228_227⟩ := qn_ BK227 hg; replace BK227 := qbl_ BK227 hb; replace HB := hs_ hb; clear hb hbox hg))
 (try simp only [Act.put, sA_, sB_, sC_])
 go_cut [4] (fun v4 wc => ∃ (kq : Nat) (x4_2 : Int), v4 = .int .i64 x4_2 ∧ Aside0 (impl_Disk_put.j1 kq x4_2 l0_0 a1_0 a1_1 a1_2 = some r) ∧ Aside0 (kq ≤ k) ∧ Aside0 (wc.heap[gb227]? = some (.cells #[(.slice A0_0 l0_0.length c0_0)] 44 (0, 0))) ∧ Aside0 (wc.heap[gb228]? = some (.cells #[.string a1_0, .string a1_1, .int .i64 a1_2] 99 (0, 0))) ∧ Aside0 (Below w.heap.size w wc))
 case first =>
  have H := HC3.out; clear HC3; have H' := am_ H; clear H
  go_wp2
  go_loopg [4] k (fun kq v4 w' => ∃ (x4_1 : Int), v4 = .int .i64 x4_1 ∧ Aside0 (impl_Disk_put.l0 kq x4_1 l0_0 a1_0 a1_1 a1_2 = some r) ∧ Aside0 (kq ≤ k) ∧ Aside0 (w'.heap[gb227]? = some (.cells #[(.slice A0_0 l0_0.length c0_0)] 44 (0, 0))) ∧ Aside0 (w'.heap[gb228]? = some (.cells #[.string a1_0, .string a1_1, .int .i64 a1_2] 99 (0, 0))) ∧ Aside0 (Below w.heap.size w w'))
  case atStart => exact ⟨(0), qe_, H', ⟨Nat.le_refl _⟩, ⟨qk_ BK227⟩, ⟨qk_ BK228⟩, ⟨qB_⟩⟩
  case round =>
   clear H'
   (try clear p2)
   obtain ⟨x4_1, rfl, HA, HK1, BK227, BK228, HB⟩ := hrel
   cases gk with
   | zero => exact absurd HA.out (by simp [impl_Disk_put.l0])
   | succ k1 =>
    have H := HA.out; clear HA
    simp only [impl_Disk_put.l0] at H
    by_cases c6 : x4_1 < (l0_0.length : Int)
    ·rw [if_pos c6] at H
     have c6b0 : decide (x4_1 < (l0_0.length : Int)) = true := decide_eq_true c6
     clear c6
     (first | rw [c6b0] | (simp only [i64_w, i32_w]; rw [c6b0]) | skip)
     by_cases c7 : 0 ≤ x4_1
     ·rw [if_pos c7] at H
      have c7b0 : decide (0 ≤ x4_1) = true := decide_eq_true c7
      clear c7
      by_cases c8 : (Op.bytesLess (((rd_T99 l0_0 x4_1).f0).toList) a1_0.toList) = true
      ·rw [if_pos c8] at H
       have c8b0 : (Op.bytesLess (((rd_T99 l0_0 x4_1).f0).toList) a1_0.toList) = true := c8
       clear c8; have H' := am_ H; clear H
       try go_wp2
       replace BK227 := am_ (blk_drew BK227.out); replace BK228 := am_ (blk_drew BK228.out); replace HB := am_ (below_drew1 HB.out)
       have p229 : 0 ≤ (x4_1 : Int) := of_decide_eq_true qa_
       have q229 : x4_1 < (l0_0.length : Int) := of_decide_eq_true qa_
       obtain ⟨ad229, e229, hx229_0, hx229_1, hx229_2⟩ := at_T99 HR0_0.out x4_1 p229 q229
       have hw229_2 := hx229_2; have hw229_1 := hx229_1; have hw229_0 := hx229_0; cases e229
       replace hx229_0 := qx_ HB hx229_0
       replace hx229_1 := qx_ HB hx229_1
       replace hx229_2 := qx_ HB hx229_2
       replace p229 := eq_true p229; replace q229 := eq_true q229
       refine start_ (n := 20) (S := fun w' => w'.cell? ⟨gb227, 0, none⟩ = some (.slice (some ad229) l0_0.length c0_0) ∧ w'.cell? ⟨gb228, 0, none⟩ = some (.string a1_0) ∧ w'.cell? ⟨gb228, 1, none⟩ = some (.string a1_1) ∧ w'.cell? ⟨gb228, 2, none⟩ = some (.int .i64 a1_2) ∧ w'.cell? (ad229.add ((x4_1).toNat * 3)) = some (.string ((rd_T99 l0_0 x4_1).f0)) ∧ w'.cell? ⟨(ad229.add ((x4_1).toNat * 3)).block, (ad229.add ((x4_1).toNat * 3)).off + 1, none⟩ = some (.string ((rd_T99 l0_0 x4_1).f1)) ∧ w'.cell? ⟨(ad229.add ((x4_1).toNat * 3)).block, (ad229.add ((x4_1).toNat * 3)).off + 2, none⟩ = some (.int .i64 ((rd_T99 l0_0 x4_1).f2))) (ds := []) (bm 20 0) (by kernel_rfl) rfl (by kernel_rfl) ⟨bl_ BK227 0, bl_ BK228 0, bl_ BK228 1, bl_ BK228 2, ((qx_ HB hw229_0).trans rfl), ((qx_ HB hw229_1).trans rfl), ((qx_ HB hw229_2).trans rfl)⟩ (fun hHeld => ?_); refine with_tabW impl_Disk_put.tab2 impl_Disk_put.bits2 (fun HT_ HW_ => ?_)
       generalize wr.drew = w9 at BK227 BK228 HB hx229_0 hx229_1 hx229_2 hHeld ⊢
       refine pz_ 0 6 (bm 20 1) ?_; refine pz_ 1 7 (bm 20 3) ?_; refine pz_ 2 8 (bm 20 7) ?_; refine pz_ 3 9 (bm 20 15) ?_; refine tz7_ 4 10 (bm 20 31) ?_; refine pz_ 5 11 (bm 20 63) ?_; refine pz_ 6 12 (bm 20 127) ?_; refine pz_ 7 13 (bm 20 255) ?_; refine pz_ 8 14 (bm 20 511) ?_; refine pz_ 9 15 (bm 20 1023) ?_; refine pz_ 10 16 (bm 20 2047) ?_; refine pz_ 12 18 (bm 20 6143) ?_; refine pz_ 16 22 (bm 20 71679) ?_; refine tz7_ 11 17 (bm 20 73727) ?_; refine pz_ 13 19 (bm 20 81919) ?_; refine pz_ 14 20 (bm 20 98303) ?_; refine tz7_ 15 21 (bm 20 131071) ?_; refine tz7_ 17 23 (bm 20 262143) ?_; refine pz_ 18 24 (bm 20 524287) ?_; refine pz_ 19 25 (bm 20 1048575) ?_
       refine done_ (done_of HT_.out (by kernel_rfl)) ?_
       try go_wp2
       go_roundg k1
       case measure => have := HK1.out; omega
       case rel => exact ⟨(wrap64 (x4_1 + 1)), qe_, H', ⟨by have := HK1.out; omega⟩, ⟨qk_ BK227⟩, ⟨qk_ BK228⟩, ⟨qB_⟩⟩
      rw [if_neg c8] at H
      have c8b0 : (Op.bytesLess (((rd_T99 l0_0 x4_1).f0).toList) a1_0.toList) = false := by simpa using c8
      clear c8; have H' := am_ H; clear H
      try go_wp2
      replace BK227 := am_ (blk_drew BK227.out); replace BK228 := am_ (blk_drew BK228.out); replace HB := am_ (below_drew1 HB.out)
      have p229 : 0 ≤ (x4_1 : Int) := of_decide_eq_true qa_
      have q229 : x4_1 < (l0_0.length : Int) := of_decide_eq_true qa_
      obtain ⟨ad229, e229, hx229_0, hx229_1, hx229_2⟩ := at_T99 HR0_0.out x4_1 p229 q229
      have hw229_2 := hx229_2; have hw229_1 := hx229_1; have hw229_0 := hx229_0; cases e229
      replace hx229_0 := qx_ HB hx229_0
      replace hx229_1 := qx_ HB hx229_1
      replace hx229_2 := qx_ HB hx229_2
      replace p229 := eq_true p229; replace q229 := eq_true q229
      refine start_ (n := 20) (S := fun w' => w'.cell? ⟨gb227, 0, none⟩ = some (.slice (some ad229) l0_0.length c0_0) ∧ w'.cell? ⟨gb228, 0, none⟩ = some (.string a1_0) ∧ w'.cell? ⟨gb228, 1, none⟩ = some (.string a1_1) ∧ w'.cell? ⟨gb228, 2, none⟩ = some (.int .i64 a1_2) ∧ w'.cell? (ad229.add ((x4_1).toNat * 3)) = some (.string ((rd_T99 l0_0 x4_1).f0)) ∧ w'.cell? ⟨(ad229.add ((x4_1).toNat * 3)).block, (ad229.add ((x4_1).toNat * 3)).off + 1, none⟩ = some (.string ((rd_T99 l0_0 x4_1).f1)) ∧ w'.cell? ⟨(ad229.add ((x4_1).toNat * 3)).block, (ad229.add ((x4_1).toNat * 3)).off + 2, none⟩ = some (.int .i64 ((rd_T99 l0_0 x4_1).f2))) (ds := []) (bm 20 0) (by kernel_rfl) rfl (by kernel_rfl) ⟨bl_ BK227 0, bl_ BK228 0, bl_ BK228 1, bl_ BK228 2, ((qx_ HB hw229_0).trans rfl), ((qx_ HB hw229_1).trans rfl), ((qx_ HB hw229_2).trans rfl)⟩ (fun hHeld => ?_); refine with_tabW impl_Disk_put.tab2 impl_Disk_put.bits2 (fun HT_ HW_ => ?_)
      generalize wr.drew = w10 at BK227 BK228 HB hx229_0 hx229_1 hx229_2 hHeld ⊢
      refine pz_ 0 6 (bm 20 1) ?_; refine pz_ 1 7 (bm 20 3) ?_; refine pz_ 2 8 (bm 20 7) ?_; refine pz_ 3 9 (bm 20 15) ?_; refine tz7_ 4 10 (bm 20 31) ?_; refine pz_ 5 11 (bm 20 63) ?_; refine pz_ 6 12 (bm 20 127) ?_; refine pz_ 7 13 (bm 20 255) ?_; refine pz_ 8 14 (bm 20 511) ?_; refine pz_ 9 15 (bm 20 1023) ?_; refine pz_ 10 16 (bm 20 2047) ?_; refine pz_ 12 18 (bm 20 6143) ?_; refine pz_ 16 22 (bm 20 71679) ?_; refine tz7_ 11 17 (bm 20 73727) ?_; refine pz_ 13 19 (bm 20 81919) ?_; refine pz_ 14 20 (bm 20 98303) ?_; refine tz7_ 15 21 (bm 20 131071) ?_; refine tz7_ 17 23 (bm 20 262143) ?_; refine pz_ 18 24 (bm 20 524287) ?_; refine pz_ 19 25 (bm 20 1048575) ?_
      refine done_ (done_of HT_.out (by kernel_rfl)) ?_
      try go_wp2
      go_meet
      case rel => exact ⟨_, (x4_1), qe_, H', ⟨by have := HK1.out; first | omega | exact Nat.le_refl _⟩, ⟨qk_ BK227⟩, ⟨qk_ BK228⟩, ⟨qB_⟩⟩
     rw [if_neg c7] at H
     exact absurd H (by simp)
    rw [if_neg c6] at H
    have c6b0 : decide (x4_1 < (l0_0.length : Int)) = false := decide_eq_false c6
    clear c6
    (first | rw [c6b0] | (simp only [i64_w, i32_w]; rw [c6b0]) | skip)
    have H' := am_ H; clear H
    try go_wp2
    replace BK227 := am_ (blk_drew BK227.out); replace BK228 := am_ (blk_drew BK228.out); replace HB := am_ (below_drew1 HB.out)
    refine start_ (n := 20) (S := fun w' => w'.cell? ⟨gb227, 0, none⟩ = some (.slice A0_0 l0_0.length c0_0)) (ds := []) (bm 20 0) (by kernel_rfl) rfl (by kernel_rfl) (bl_ BK227 0) (fun hHeld => ?_); refine with_tabW impl_Disk_put.tab2 impl_Disk_put.bits2 (fun HT_ HW_ => ?_)
    generalize wr.drew = w11 at BK227 BK228 HB hHeld ⊢
    refine pz_ 0 6 (bm 20 1) ?_; refine pz_ 1 7 (bm 20 3) ?_; refine pz_ 2 8 (bm 20 7) ?_; refine pz_ 3 9 (bm 20 15) ?_
    refine take_ (i := 4) (N := some 10) (v := ?_) (a' := ?_) (bm 20 31) rfl rfl (take_ofW HT_.out HW_.out (by kernel_rfl)) (fun _ _ _ h => h) (Or.inl ⟨by rfl, ?_⟩) hHeld ?_ ?_
    rotate_left
    ·intro w' s0
     go_simp
     with_reducible rfl
    rotate_left
    ·simp only [Act.put, sA_, sB_, sC_, i64_w, i32_w]
     rfl
    refine pz_ 5 11 (bm 20 63) ?_; refine pz_ 6 12 (bm 20 127) ?_; refine pz_ 7 13 (bm 20 255) ?_
    refine pu_ 8 14 (bm 20 511) ?_
    refine pu_ 9 15 (bm 20 1023) ?_
    refine pu_ 10 16 (bm 20 2047) ?_
    refine pu_ 11 17 (bm 20 4095) ?_
    refine pu_ 12 18 (bm 20 8191) ?_
    refine pu_ 13 19 (bm 20 16383) ?_
    refine pu_ 14 20 (bm 20 32767) ?_
    refine pu_ 15 21 (bm 20 65535) ?_
    refine pu_ 16 22 (bm 20 131071) ?_
    refine pu_ 17 23 (bm 20 262143) ?_
    refine pu_ 18 24 (bm 20 524287) ?_
    refine pz_ 19 25 (bm 20 1048575) ?_
    refine done_ (done_of HT_.out (by kernel_rfl)) ?_
    try go_wp2
    go_meet
    case rel => exact ⟨_, (x4_1), qe_, H', ⟨by have := HK1.out; first | omega | exact Nat.le_refl _⟩, ⟨qk_ BK227⟩, ⟨qk_ BK228⟩, ⟨qB_⟩⟩
 case rest =>
  clear HC3; (try clear p2); (try clear q2); (try clear hx2); (try clear c6); (try clear c6b0); (try clear p6); (try clear c7); (try clear c7b0); (try clear c8); (try clear c8b0); (try clear hx229_0); (try clear hx229_1); (try clear hx229_2); (try clear p2); (try clear p229); (try clear q229)
  obtain ⟨kq, x4_2, rfl, HA, HJ2, BK227, BK228, HB⟩ := hcut
  cases kq with
  | zero => exact absurd HA.out (by simp [impl_Disk_put.j1])
  | succ kj2 =>
   have H := HA.out; clear HA
   simp only [impl_Disk_put.j1] at H
   by_cases c12 : 0 ≤ x4_2
   ·rw [if_pos c12] at H
    have c12b0 := eq_true c12
    have c12b1 : decide (0 ≤ x4_2) = true := decide_eq_true c12
    clear c12
    by_cases c13 : x4_2 ≤ (l0_0.length : Int)
    ·rw [if_pos c13] at H
     have c13b0 := eq_true c13
     have c13b1 : decide (x4_2 ≤ (l0_0.length : Int)) = true := decide_eq_true c13
     clear c13
     obtain ⟨y230, hy230⟩ : ∃ y_ : List (S99), y_ = (l0_0.drop (x4_2 : Int).toNat) := ⟨_, rfl⟩
     replace H : (if ([] : List (S99)).length + y230.length < 3518437208883 then ((some (([] : List (S99)) ++ y230 : List (S99))).bind fun y234 => (if (y234.length : Int) > 0 then (if 0 < (y234.length : Int) then (if ((rd_T99 y234 0).f0).toList = a1_0.toList then (if 1 ≤ (y234.length : Int) then ((some (y234.drop (1 : Int).toNat : List (S99))).bind fun y238 => ((some (l0_0.take (x4_2 : Int).toNat : List (S99))).bind fun y241 => (if ([] : List (S99)).length + y241.length < 3518437208883 then ((some (([] : List (S99)) ++ y241 : List (S99))).bind fun y245 => ((some (([(⟨a1_0, a1_1, a1_2⟩ : S99)] : List (S99)) : List (S99))).bind fun y248 => (if y245.length + y248.length < 3518437208883 then ((some (y245 ++ y248 : List (S99))).bind fun y251 => (if y251.length + y238.length < 3518437208883 then (some (y251 ++ y238)) else (none))) else (none)))) else (none)))) else (none)) else ((some (l0_0.take (x4_2 : Int).toNat : List (S99))).bind fun y257 => (if ([] : List (S99)).length + y257.length < 3518437208883 then ((some (([] : List (S99)) ++ y257 : List (S99))).bind fun y261 => ((some (([(⟨a1_0, a1_1, a1_2⟩ : S99)] : List (S99)) : List (S99))).bind fun y264 => (if y261.length + y264.length < 3518437208883 then ((some (y261 ++ y264 : List (S99))).bind fun y267 => (if y267.length + y234.length < 3518437208883 then (some (y267 ++ y234)) else (none))) else (none)))) else (none)))) else (none)) else ((some (l0_0.take (x4_2 : Int).toNat : List (S99))).bind fun y273 => (if ([] : List (S99)).length + y273.length < 3518437208883 then ((some (([] : List (S99)) ++ y273 : List (S99))).bind fun y277 => ((some (([(⟨a1_0, a1_1, a1_2⟩ : S99)] : List (S99)) : List (S99))).bind fun y280 => (if y277.length + y280.length < 3518437208883 then ((some (y277 ++ y280 : List (S99))).bind fun y283 => (if y283.length + y234.length < 3518437208883 then (some (y283 ++ y234)) else (none))) else (none)))) else (none))))) else (none)) = some r := by first | (rw [hy230]; with_reducible exact H) | (have H2_ := (Option.bind_some _ _).symm.trans H; rw [hy230]; with_reducible exact H2_) | (have H2_ := (Option.bind_some _ _).symm.trans H; with_reducible exact H2_) | with_reducible exact H | (rw [hy230]; exact H) | exact H
     have Ny230 := am_ hy230
     clear hy230
     by_cases c14 : ([] : List (S99)).length + y230.length < 3518437208883
     ·rw [if_pos c14] at H
      have LMc14 := am_ c14
      clear c14
      obtain ⟨y234, hy234⟩ : ∃ y_ : List (S99), y_ = (([] : List (S99)) ++ y230) := ⟨_, rfl⟩
      replace H : (if (y234.length : Int) > 0 then (if 0 < (y234.length : Int) then (if ((rd_T99 y234 0).f0).toList = a1_0.toList then (if 1 ≤ (y234.length : Int) then ((some (y234.drop (1 : Int).toNat : List (S99))).bind fun y238 => ((some (l0_0.take (x4_2 : Int).toNat : List (S99))).bind fun y241 => (if ([] : List (S99)).length + y241.length < 3518437208883 then ((some (([] : List (S99)) ++ y241 : List (S99))).bind fun y245 => ((some (([(⟨a1_0, a1_1, a1_2⟩ : S99)] : List (S99)) : List (S99))).bind fun y248 => (if y245.length + y248.length < 3518437208883 then ((some (y245 ++ y248 : List (S99))).bind fun y251 => (if y251.length + y238.length < 3518437208883 then (some (y251 ++ y238)) else (none))) else (none)))) else (none)))) else (none)) else ((some (l0_0.take (x4_2 : Int).toNat : List (S99))).bind fun y257 => (if ([] : List (S99)).length + y257.length < 3518437208883 then ((some (([] : List (S99)) ++ y257 : List (S99))).bind fun y261 => ((some (([(⟨a1_0, a1_1, a1_2⟩ : S99)] : List (S99)) : List (S99))).bind fun y264 => (if y261.length + y264.length < 3518437208883 then ((some (y261 ++ y264 : List (S99))).bind fun y267 => (if y267.length + y234.length < 3518437208883 then (some (y267 ++ y234)) else (none))) else (none)))) else (none)))) else (none)) else ((some (l0_0.take (x4_2 : Int).toNat : List (S99))).bind fun y273 => (if ([] : List (S99)).length + y273.length < 3518437208883 then ((some (([] : List (S99)) ++ y273 : List (S99))).bind fun y277 => ((some (([(⟨a1_0, a1_1, a1_2⟩ : S99)] : List (S99)) : List (S99))).bind fun y280 => (if y277.length + y280.length < 3518437208883 then ((some (y277 ++ y280 : List (S99))).bind fun y283 => (if y283.length + y234.length < 3518437208883 then (some (y283 ++ y234)) else (none))) else (none)))) else (none)))) = some r := by first | (rw [hy234]; with_reducible exact H) | (have H2_ := (Option.bind_some _ _).symm.trans H; rw [hy234]; with_reducible exact H2_) | (have H2_ := (Option.bind_some _ _).symm.trans H; with_reducible exact H2_) | with_reducible exact H | (rw [hy234]; exact H) | exact H
      have Ny234 := am_ hy234
      clear hy234
      by_cases c15 : (y234.length : Int) > 0
      ·rw [if_pos c15] at H
       have c15b0 : decide (0 < (y234.length : Int)) = true := decide_eq_true c15
       have c15b1 : decide (0 < y234.length) = true := decide_eq_true (by omega)
       clear c15
       by_cases c16 : 0 < (y234.length : Int)
       ·rw [if_pos c16] at H
        have c16b0 : decide (0 < (y234.length : Int)) = true := decide_eq_true c16
        have c16b1 : decide (0 < y234.length) = true := decide_eq_true (by omega)
        clear c16
        by_cases c17 : ((rd_T99 y234 0).f0).toList = a1_0.toList
        ·rw [if_pos c17] at H
         have c17b0 : (((rd_T99 y234 0).f0).toList == a1_0.toList) = true := beq_iff_eq.mpr c17
         have c17b1 : (((rd_T99 y234 0).f0).toList != a1_0.toList) = false := bne_eq_false_iff_eq.mpr c17
         clear c17
         by_cases c18 : 1 ≤ (y234.length : Int)
         ·rw [if_pos c18] at H
          have c18b0 := eq_true c18
          have c18b1 : decide (1 ≤ (y234.length : Int)) = true := decide_eq_true c18
          clear c18
          obtain ⟨y238, hy238⟩ : ∃ y_ : List (S99), y_ = (y234.drop (1 : Int).toNat) := ⟨_, rfl⟩
          replace H : ((some (l0_0.take (x4_2 : Int).toNat : List (S99))).bind fun y241 => (if ([] : List (S99)).length + y241.length < 3518437208883 then ((some (([] : List (S99)) ++ y241 : List (S99))).bind fun y245 => ((some (([(⟨a1_0, a1_1, a1_2⟩ : S99)] : List (S99)) : List (S99))).bind fun y248 => (if y245.length + y248.length < 3518437208883 then ((some (y245 ++ y248 : List (S99))).bind fun y251 => (if y251.length + y238.length < 3518437208883 then (some (y251 ++ y238)) else (none))) else (none)))) else (none))) = some r := by first | (rw [hy238]; with_reducible exact H) | (have H2_ := (Option.bind_some _ _).symm.trans H; rw [hy238]; with_reducible exact H2_) | (have H2_ := (Option.bind_some _ _).symm.trans H; with_reducible exact H2_) | with_reducible exact H | (rw [hy238]; exact H) | exact H
          have Ny238 := am_ hy238
          clear hy238
          have c19b0 := eq_true (of_decide_eq_true qa_ : 0 ≤ x4_2)
          have c20b0 := eq_true (of_decide_eq_true qa_ : x4_2 ≤ (l0_0.length : Int))
          obtain ⟨y241, hy241⟩ : ∃ y_ : List (S99), y_ = (l0_0.take (x4_2 : Int).toNat) := ⟨_, rfl⟩
          replace H : (if ([] : List (S99)).length + y241.length < 3518437208883 then ((some (([] : List (S99)) ++ y241 : List (S99))).bind fun y245 => ((some (([(⟨a1_0, a1_1, a1_2⟩ : S99)] : List (S99)) : List (S99))).bind fun y248 => (if y245.length + y248.length < 3518437208883 then ((some (y245 ++ y248 : List (S99))).bind fun y251 => (if y251.length + y238.length < 3518437208883 then (some (y251 ++ y238)) else (none))) else (none)))) else (none)) = some r := by first | (rw [hy241]; with_reducible exact H) | (have H2_ := (Option.bind_some _ _).symm.trans H; rw [hy241]; with_reducible exact H2_) | (have H2_ := (Option.bind_some _ _).symm.trans H; with_reducible exact H2_) | with_reducible exact H | (rw [hy241]; exact H) | exact H
          have Ny241 := am_ hy241
          clear hy241
          by_cases c21 : ([] : List (S99)).length + y241.length < 3518437208883
          ·rw [if_pos c21] at H
           have LMc21 := am_ c21
           clear c21
           obtain ⟨y245, hy245⟩ : ∃ y_ : List (S99), y_ = (([] : List (S99)) ++ y241) := ⟨_, rfl⟩
           replace H : ((some (([(⟨a1_0, a1_1, a1_2⟩ : S99)] : List (S99)) : List (S99))).bind fun y248 => (if y245.length + y248.length < 3518437208883 then ((some (y245 ++ y248 : List (S99))).bind fun y251 => (if y251.length + y238.length < 3518437208883 then (some (y251 ++ y238)) else (none))) else (none))) = some r := by first | (rw [hy245]; with_reducible exact H) | (have H2_ := (Option.bind_some _ _).symm.trans H; rw [hy245]; with_reducible exact H2_) | (have H2_ := (Option.bind_some _ _).symm.trans H; with_reducible exact H2_) | with_reducible exact H | (rw [hy245]; exact H) | exact H
           have Ny245 := am_ hy245
           clear hy245
           obtain ⟨y248, hy248⟩ : ∃ y_ : List (S99), y_ = (([(⟨a1_0, a1_1, a1_2⟩ : S99)] : List (S99))) := ⟨_, rfl⟩
           replace H : (if y245.length + y248.length < 3518437208883 then ((some (y245 ++ y248 : List (S99))).bind fun y251 => (if y251.length + y238.length < 3518437208883 then (some (y251 ++ y238)) else (none))) else (none)) = some r := by first | (rw [hy248]; with_reducible exact H) | (have H2_ := (Option.bind_some _ _).symm.trans H; rw [hy248]; with_reducible exact H2_) | (have H2_ := (Option.bind_some _ _).symm.trans H; with_reducible exact H2_) | with_reducible exact H | (rw [hy248]; exact H) | exact H
           have Ny248 := am_ hy248
           clear hy248
           by_cases c22 : y245.length + y248.length < 3518437208883
           ·rw [if_pos c22] at H
            have LMc22 := am_ c22
            clear c22
            obtain ⟨y251, hy251⟩ : ∃ y_ : List (S99), y_ = (y245 ++ y248) := ⟨_, rfl⟩
            replace H : (if y251.length + y238.length < 3518437208883 then (some (y251 ++ y238)) else (none)) = some r := by first | (rw [hy251]; with_reducible exact H) | (have H2_ := (Option.bind_some _ _).symm.trans H; rw [hy251]; with_reducible exact H2_) | (have H2_ := (Option.bind_some _ _).symm.trans H; with_reducible exact H2_) | with_reducible exact H | (rw [hy251]; exact H) | exact H
            have Ny251 := am_ hy251
            clear hy251
            by_cases c23 : y251.length + y238.length < 3518437208883
            ·rw [if_pos c23] at H
             have LMc23 := am_ c23
             clear c23
             obtain ⟨y254, hy254⟩ : ∃ y_ : List (S99), y_ = (y251 ++ y238) := ⟨_, rfl⟩
             replace H : (some y254) = some r := by first | (rw [hy254]; with_reducible exact H) | (have H2_ := (Option.bind_some _ _).symm.trans H; rw [hy254]; with_reducible exact H2_) | (have H2_ := (Option.bind_some _ _).symm.trans H; with_reducible exact H2_) | with_reducible exact H | (rw [hy254]; exact H) | exact H
             have Ny254 := am_ hy254
             clear hy254
             obtain rfl := Option.some.inj H
             obtain ⟨hnb24, hnc24⟩ := nn_ NB227_228
             obtain ⟨hcz25_0, hfz25_0⟩ := bc1_ BK227
             have q26 : (x4_2 : Int) ≤ ((l0_0.length : Int) : Int) := of_decide_eq_true qa_
             obtain ⟨i026, hi026, _, hsz26, _⟩ := info_parts info99
             have hroom26 : l0_0.length ≤ c0_0 := HC0_0.out
             have hC26 : Kd.C k99 _ A0_0 l0_0.length l0_0 := HR0_0.out
             have q026 : (0 : Int) ≤ (x4_2 : Int) := of_decide_eq_true qa_
             have hcut26 := cut_from (P := Try.prog) 42 99 .i64 Try.underlying42 hi026 3 hsz26 A0_0 l0_0.length c0_0 x4_2 q026 q26
             have hr26 := Kd.C_drop (m := (x4_2 : Int).toNat) (c := c0_0) hC26 (by omega) hroom26
             obtain ⟨A26, hA26⟩ : ∃ A1, A1 = (if c0_0 = (x4_2 : Int).toNat then A0_0 else (A0_0 : Option Addr).map (·.add ((x4_2 : Int).toNat * 3))) := ⟨_, rfl⟩
             obtain ⟨c26, hc26⟩ : ∃ c1, c1 = c0_0 - (x4_2 : Int).toNat := ⟨_, rfl⟩
             have hy26 : y230.length = l0_0.length - (x4_2 : Int).toNat := (by rw [Ny230.out, List.length_drop] <;> omega)
             rw [show (l0_0).drop (x4_2 : Int).toNat = y230 from Ny230.out.symm] at hr26
             replace hr26 : Kd.C k99 _ A26 y230.length y230 := (by rw [hA26]; exact hr26)
             rw [← hy26, ← hA26, ← hc26] at hcut26
             have HR233 := am_ hr26
             have HC233 := am_ (show y230.length ≤ c26 from by rw [hy26, hc26]; exact Nat.sub_le_sub_right hroom26 _)
             clear hr26 hC26 hroom26 hi026 hsz26 hc26
             have KY26 := am_ hy26
             have KA26 := am_ hA26
             clear hy26 hA26; replace q26 := eq_true q26
             try go_wp2_with (first | ((with_reducible refine gate_builtin (b := .append) (xs := #[.const (.slice none 0 0), .tmp 33]) rfl ?_); at_builtin; refine Kd.R_append_rows k99 (w0 := w) w.heap.size rfl (.const (.slice none 0 0)) (.tmp 33) 42 99 (.agg #[(.string ⟨#[]⟩), (.string ⟨#[]⟩), (.int .i64 0)]) 40 rfl Try.underlying42 info99 rfl (by decide) (by omega) (.slice none 0 0) ([] : List (S99)) y230 _ _ _ (fun k_ => k_ ≠ gb228) (fun _ => False) rfl rfl ?aO ?aR (fun _ _ h => h) (fun _ h => h.elim) ?aF ?aB ?aS ?aL ?_; (case aR => repeat (first | exact (Kd.C_below HR233.out HB.out) | (with_reducible refine Kd.C_alloc ?_ _) | (with_reducible refine Kd.C_drewN ?_ _) | (with_reducible refine Kd.C_drew ?_))); (case aB => exact qB_); (case aF => exact (fun k_ hk => Kd.freshB (qk_ BK228) k_ hk)); (case aO => exact ((Kd.R_nil _ _ _ _ (fun k_ => k_ ≠ gb228)))); (case aS => exact (below_size qB_)); (case aL => have := LMc14.out; omega); intro v235 w27 ho hb hg hat; rw [← Ny234.out] at ho; have HO236 := am_ (ho); replace BK227 := am_ (blk_grown (qk_ BK227) hg (by simp [Value.ownBlock])); replace BK228 := am_ (blk_grown (qk_ BK228) hg (by simp [Value.ownBlock])); replace HB := am_ (hb); clear ho hb hg hat))
             replace HO236 := am_ (Kd.R_drew HO236.out); replace BK227 := am_ (blk_drew BK227.out); replace BK228 := am_ (blk_drew BK228.out); replace HB := am_ (below_drew1 HB.out)
             obtain ⟨Ao29, co29, eo29⟩ := Kd.R_slice HO236.out
             (first | subst eo29 | (injection eo29 with f1_ f2_ f3_; have f4_ := f1_.symm; have f5_ := f3_.symm; clear f1_ f2_ f3_; subst f4_; subst f5_))
             have p237 : 0 ≤ (0 : Int) := (by omega)
             have q237 : 0 < (y234.length : Int) := of_decide_eq_true qa_
             obtain ⟨ad237, e237, hx237_0, hx237_1, hx237_2⟩ := at_T99 (Kd.R_reads' HO236.out).2.2 0 p237 q237
             cases e237
             have qi237 : (0 < y234.length) = True := eq_true (by omega)
             (try rw [show ((0 : Int)).toNat = 0 from rfl] at hx237_0)
             (try rw [show 0 * 3 = 0 from rfl] at hx237_0)
             (try rw [Addr.add_zero'] at hx237_0)
             (try rw [show ((0 : Int)).toNat = 0 from rfl] at hx237_1)
             (try rw [show 0 * 3 = 0 from rfl] at hx237_1)
             (try rw [Addr.add_zero'] at hx237_1)
             (try rw [show ((0 : Int)).toNat = 0 from rfl] at hx237_2)
             (try rw [show 0 * 3 = 0 from rfl] at hx237_2)
             (try rw [Addr.add_zero'] at hx237_2)
             replace p237 := eq_true p237; replace q237 := eq_true q237
             refine start_ (n := 12) (S := fun w' => w'.cell? ⟨gb228, 0, none⟩ = some (.string a1_0) ∧ w'.cell? ⟨gb228, 1, none⟩ = some (.string a1_1) ∧ w'.cell? ⟨gb228, 2, none⟩ = some (.int .i64 a1_2) ∧ w'.cell? ad237 = some (.string ((rd_T99 y234 0).f0)) ∧ w'.cell? ⟨ad237.block, ad237.off + 1, none⟩ = some (.string ((rd_T99 y234 0).f1)) ∧ w'.cell? ⟨ad237.block, ad237.off + 2, none⟩ = some (.int .i64 ((rd_T99 y234 0).f2))) (ds := []) (bm 12 0) (by kernel_rfl) rfl (by kernel_rfl) ⟨bl_ BK228 0, bl_ BK228 1, bl_ BK228 2, hx237_0, hx237_1, hx237_2⟩ (fun hHeld => ?_); refine with_tabW impl_Disk_put.tab5 impl_Disk_put.bits5 (fun HT_ HW_ => ?_)
             generalize w27.drew = w28 at HO236 BK227 BK228 HB hx237_0 hx237_1 hx237_2 hHeld ⊢
             refine pz_ 0 35 (bm 12 1) ?_; refine pz_ 1 36 (bm 12 3) ?_; refine pz_ 2 37 (bm 12 7) ?_; refine pz_ 3 38 (bm 12 15) ?_; refine pz_ 4 39 (bm 12 31) ?_; refine pz_ 5 40 (bm 12 63) ?_; refine pz_ 6 41 (bm 12 127) ?_; refine pz_ 8 43 (bm 12 383) ?_; refine tz6_ 7 42 (bm 12 511) ?_; refine tz6_ 9 44 (bm 12 1023) ?_; refine pz_ 10 45 (bm 12 2047) ?_; refine pz_ 11 46 (bm 12 4095) ?_
             refine done_ (done_of HT_.out (by kernel_rfl)) ?_
             have q30 : (1 : Int) ≤ ((y234.length : Int) : Int) := of_decide_eq_true qa_
             obtain ⟨i030, hi030, _, hsz30, _⟩ := info_parts info99
             have hcut30 := cut_from (P := Try.prog) 42 99 .i64 Try.underlying42 hi030 3 hsz30 (some ad237) y234.length co29 1 (by omega) q30
             have hr30 := Kd.Q_drop (k := (1 : Int).toNat) (Kd.Q_of_R HO236.out) (by omega)
             obtain ⟨A30, hA30⟩ : ∃ A1, A1 = (if co29 = (1 : Int).toNat then (some ad237) else ((some ad237) : Option Addr).map (·.add ((1 : Int).toNat * 3))) := ⟨_, rfl⟩
             obtain ⟨c30, hc30⟩ : ∃ c1, c1 = co29 - (1 : Int).toNat := ⟨_, rfl⟩
             have hy30 : y238.length = y234.length - (1 : Int).toNat := (by rw [Ny238.out, List.length_drop])
             rw [← Ny238.out] at hr30
             rw [← hy30, ← hA30, ← hc30] at hcut30
             replace hr30 : Kd.Q k99 99 w28 w.heap.size (fun k_ => k_ ≠ gb228) (.slice A30 y238.length c30) y238 := (by rw [hA30, hc30, hy30]; exact hr30)
             have HE30 : Aside0 ((Value.slice A30 y238.length c30).ownBlock = (.slice (some ad237) y234.length co29 : Value).ownBlock) := ⟨by rw [hA30]; split <;> (cases ((some ad237) : Option Addr) <;> rfl)⟩
             clear hy30 hi030 hsz30 HO236 hA30 hc30
             have HO240 := am_ hr30
             clear hr30; replace q30 := eq_true q30
             try go_wp2
             replace HO240 := am_ (Kd.Q_drew HO240.out); replace BK227 := am_ (blk_drew BK227.out); replace BK228 := am_ (blk_drew BK228.out); replace HB := am_ (below_drew1 HB.out)
             have q32 : (x4_2 : Int) ≤ ((l0_0.length : Int) : Int) := of_decide_eq_true qa_
             obtain ⟨i032, hi032, _, hsz32, _⟩ := info_parts info99
             have hroom32 : l0_0.length ≤ c0_0 := HC0_0.out
             have hC32 : Kd.C k99 _ A0_0 l0_0.length l0_0 := HR0_0.out
             have hcut32 := cut_to (P := Try.prog) 42 99 .i64 Try.underlying42 hi032 A0_0 l0_0.length c0_0 x4_2 (of_decide_eq_true qa_) q32 hroom32
             have hr32 := Kd.C_take (m := (x4_2 : Int).toNat) hC32 (by omega)
             have hy32 : y241.length = (x4_2 : Int).toNat := (by rw [Ny241.out, List.length_take]; omega)
             rw [← Ny241.out] at hr32
             rw [← hy32] at hcut32
             have HR244 := am_ hr32
             have HC244 := am_ (show y241.length ≤ c0_0 from by omega)
             clear hr32 hC32 hroom32 hi032 hsz32
             have KY32 := am_ hy32
             clear hy32; replace q32 := eq_true q32
             refine start_ (n := 16) (S := fun w' => w'.cell? ⟨gb227, 0, none⟩ = some (.slice A0_0 l0_0.length c0_0) ∧ w'.cell? ⟨gb228, 0, none⟩ = some (.string a1_0) ∧ w'.cell? ⟨gb228, 1, none⟩ = some (.string a1_1) ∧ w'.cell? ⟨gb228, 2, none⟩ = some (.int .i64 a1_2)) (ds := [15]) (bm 16 0) (by kernel_rfl) rfl (by kernel_rfl) ⟨bl_ BK227 0, bl_ BK228 0, bl_ BK228 1, bl_ BK228 2⟩ (fun hHeld => ?_); refine with_tabW impl_Disk_put.tab7 impl_Disk_put.bits7 (fun HT_ HW_ => ?_)
             generalize w28.drew = w31 at HO240 BK227 BK228 HB HR244 hHeld ⊢
             refine pz_ 0 49 (bm 16 1) ?_; refine pz_ 1 50 (bm 16 3) ?_; refine pz_ 2 51 (bm 16 7) ?_; refine pz_ 3 52 (bm 16 15) ?_; refine pz_ 5 54 (bm 16 47) ?_; refine pz_ 11 60 (bm 16 2095) ?_; refine tz4_ 4 53 (bm 16 2111) ?_; refine pz_ 6 55 (bm 16 2175) ?_; refine tz4_ 8 57 (bm 16 2431) ?_
             refine join_ (σ := Value × Value) 5 #[true, true, true, true, true, true, true, true, true, true, false, true, false, false, false, false] (fun s_ => [(56, s_.1), (58, s_.2)]) (fun s_ w' => (w'.cell? ⟨gb227, 0, none⟩ = some (.slice A0_0 l0_0.length c0_0) ∧ w'.cell? ⟨gb228, 0, none⟩ = some (.string a1_0) ∧ w'.cell? ⟨gb228, 1, none⟩ = some (.string a1_1) ∧ w'.cell? ⟨gb228, 2, none⟩ = some (.int .i64 a1_2)) ∧ (Kd.Q k99 99 w' w.heap.size (fun k_ => some k_ ≠ (s_.1 : Value).ownBlock ∧ some k_ ≠ (s_.2 : Value).ownBlock ∧ k_ ≠ gb228) (.slice A30 y238.length c30) y238) ∧ (Kd.R k99 99 w' w.heap.size (fun k_ => some k_ ≠ (.slice A30 y238.length c30 : Value).ownBlock ∧ some k_ ≠ (s_.2 : Value).ownBlock ∧ k_ ≠ gb228) s_.1 y245) ∧ (Kd.R k99 99 w' w.heap.size (fun k_ => some k_ ≠ (.slice A30 y238.length c30 : Value).ownBlock ∧ some k_ ≠ (s_.1 : Value).ownBlock ∧ k_ ≠ gb228) s_.2 y248) ∧ (w'.heap[gb227]? = some (.cells #[.slice A0_0 l0_0.length c0_0] 44 (0, 0))) ∧ (w'.heap[gb228]? = some (.cells #[.string a1_0, .string a1_1, .int .i64 a1_2] 99 (0, 0))) ∧ (Below w.heap.size w w')) ?_ ?_
             rotate_left
             ·intro hCont
              refine two_ (i := 7) (j := 9) (Ni := some 56) (Nj := some 58) (bm 16 2559) #[true, true, true, true, true, true, true, false, true, true, false, true, false, false, false, false] rfl rfl rfl rfl (two_of HT_.out (by kernel_rfl)) (by decide) (by decide) (fun K hK => ?_) (fun K hK => ?_)
              ·skip
               refine Kd.R_append_rows_step k99 (w0 := w) w.heap.size rfl (.const (.slice none 0 0)) (.tmp 55) 42 99 (.agg #[(.string ⟨#[]⟩), (.string ⟨#[]⟩), (.int .i64 0)]) 40 rfl Try.underlying42 info99 rfl (by decide) (by omega) (.slice none 0 0) ([] : List (S99)) y241 _ _ _ (fun k_ => some k_ ≠ (.slice A30 y238.length c30 : Value).ownBlock ∧ k_ ≠ gb228) (fun _ => False) rfl rfl ?aO ?aR (fun _ _ h => h) (fun _ h => h.elim) ?aF ?aB ?aS ?aL ?_
               (case aR => repeat (first | exact (Kd.C_below HR244.out HB.out) | (with_reducible refine Kd.C_alloc ?_ _) | (with_reducible refine Kd.C_drewN ?_ _) | (with_reducible refine Kd.C_drew ?_)))
               (case aB => exact qB_)
               (case aF => exact (fun k_ hk => ⟨Kd.fresh' (Kd.Q_lt (by (with_reducible repeat (first | apply Kd.Q_alloc | apply Kd.Q_drewN | apply Kd.Q_drew)); exact HO240.out)) k_ hk, Kd.freshB (qk_ BK228) k_ hk⟩))
               (case aO => exact ((Kd.R_nil _ _ _ _ (fun k_ => some k_ ≠ (.slice A30 y238.length c30 : Value).ownBlock ∧ k_ ≠ gb228))))
               (case aS => exact (below_size qB_))
               (case aL => have := LMc21.out; omega)
               intro v246 w33 ho hb hg hat
               rw [← Ny245.out] at ho
               have n0_ := am_ (blk_grown (qk_ BK227) hg (by simp [Value.ownBlock]))
               have n1_ := am_ (blk_grown (qk_ BK228) hg (by simp [Value.ownBlock]))
               have n2_ := am_ (Kd.Q_after (Kd.Q_apart_nil (by (with_reducible repeat (first | apply Kd.Q_alloc | apply Kd.Q_drewN | apply Kd.Q_drew)); exact HO240.out)) hg hat)
               have n3_ := am_ (hb)
               have n4_ := am_ (ho)
               clear BK227; clear BK228; clear HO240; clear HB; have BK227 := n0_; have BK228 := n1_; have HO240 := n2_; have HB := n3_; have HO247 := n4_; clear n0_ n1_ n2_ n3_ n4_; clear ho hb hg hat
               refine hK.out _ _ ⟨bl_ BK227 0, bl_ BK228 0, bl_ BK228 1, bl_ BK228 2⟩ (fun hHeld => ?_)
               clear hK K
               refine nm_ 56 ?_
               refine o1_ 9 (some 58) (bm 16 3071) (fun K hK => ?_)
               refine Kd.R_lit_step k99 _ 99 ?hg (N := 58) ?hd (xs := ([(⟨a1_0, a1_1, a1_2⟩ : S99)] : List (S99))) (inner := [.string a1_0, .string a1_1, .int .i64 a1_2]) (ok := fun _ => True) (okp := fun _ => True) ?hr ?hp (fun _ hk => hk) trivial (Below.refl _ _) (Nat.le_refl _) (by simp) ?_; (case hd => rfl); (case hg => rfl); (case hr => first | (go_simp; done) | (go_simp; rfl)); (case hp => exact (Reps.c3 (show Kd.M k99 _ _ _ (⟨a1_0, a1_1, a1_2⟩ : S99) [.string a1_0, .string a1_1, .int .i64 a1_2] from (k99_mkM _ _ _ (⟨a1_0, a1_1, a1_2⟩ : S99) )) (Reps.none _ _)))
               intro v249 w34 ho35 hb hg_ hnew_
               clear hg_ hnew_
               (first | rw [← Ny248.out] at ho35 | (simp only [Int.reduceToNat] at ho35; rw [← Ny248.out] at ho35))
               have n0_ := am_ (Kd.Q_elder' (by (with_reducible repeat (first | apply Kd.Q_alloc | apply Kd.Q_drewN | apply Kd.Q_drew)); exact HO240.out) (Kd.R_base ho35) hb)
               have n1_ := am_ (Kd.R_elder' (qR_ HO247) (Kd.R_base ho35) hb)
               have n2_ := am_ (Kd.R_lower (Kd.R_newB (Kd.R_new' (Kd.R_new' ho35 (Kd.Q_lt (by (with_reducible repeat (first | apply Kd.Q_alloc | apply Kd.Q_drewN | apply Kd.Q_drew)); exact HO240.out))) (Kd.R_lt (qR_ HO247))) (qk_ BK228)) (below_size qB_))
               have n3_ := qbl_ BK227 hb
               have n4_ := qbl_ BK228 hb
               have n5_ := am_ (below_step qB_ hb)
               clear HO240; clear HO247; clear BK227; clear BK228; clear HB; have HO240 := n0_; have HO247 := n1_; have HO250 := n2_; have BK227 := n3_; have BK228 := n4_; have HB := n5_; clear n0_ n1_ n2_ n3_ n4_ n5_; clear hb ho35
               refine hK.out _ _ ⟨bl_ BK227 0, bl_ BK228 0, bl_ BK228 1, bl_ BK228 2⟩ (fun hHeld => ?_)
               clear hK K
               refine nm_ 58 ?_
               exact norm_ (by simp only [putAll, Act.put, sA_, sB_, sC_]) (hCont (v246, v249) _ ⟨hHeld, (by (with_reducible repeat (first | apply Kd.Q_alloc | apply Kd.Q_drewN | apply Kd.Q_drew)); exact Kd.Q_mono HO240.out (fun _ hk => ⟨hk.1.2, ⟨hk.2, hk.1.1⟩⟩)), (by (with_reducible repeat (first | apply Kd.R_alloc | apply Kd.R_drewN | apply Kd.R_drew)); exact Kd.R_mono HO247.out (fun _ hk => ⟨hk.1.1, ⟨hk.2, hk.1.2⟩⟩)), (by (with_reducible repeat (first | apply Kd.R_alloc | apply Kd.R_drewN | apply Kd.R_drew)); exact Kd.R_mono HO250.out (fun _ hk => ⟨hk.1.1.2, ⟨hk.1.2, hk.2⟩⟩)), (qk_ BK227), (qk_ BK228), qB_⟩)
              skip
              refine Kd.R_lit_step k99 _ 99 ?hg (N := 58) ?hd (xs := ([(⟨a1_0, a1_1, a1_2⟩ : S99)] : List (S99))) (inner := [.string a1_0, .string a1_1, .int .i64 a1_2]) (ok := fun _ => True) (okp := fun _ => True) ?hr ?hp (fun _ hk => hk) trivial (Below.refl _ _) (Nat.le_refl _) (by simp) ?_; (case hd => rfl); (case hg => rfl); (case hr => first | (go_simp; done) | (go_simp; rfl)); (case hp => exact (Reps.c3 (show Kd.M k99 _ _ _ (⟨a1_0, a1_1, a1_2⟩ : S99) [.string a1_0, .string a1_1, .int .i64 a1_2] from (k99_mkM _ _ _ (⟨a1_0, a1_1, a1_2⟩ : S99) )) (Reps.none _ _)))
              intro v249 w33 ho34 hb hg_ hnew_
              clear hg_ hnew_
              (first | rw [← Ny248.out] at ho34 | (simp only [Int.reduceToNat] at ho34; rw [← Ny248.out] at ho34))
              have n0_ := am_ (Kd.Q_elder' (by (with_reducible repeat (first | apply Kd.Q_alloc | apply Kd.Q_drewN | apply Kd.Q_drew)); exact HO240.out) (Kd.R_base ho34) hb)
              have n1_ := am_ (Kd.R_lower (Kd.R_newB (Kd.R_new' ho34 (Kd.Q_lt (by (with_reducible repeat (first | apply Kd.Q_alloc | apply Kd.Q_drewN | apply Kd.Q_drew)); exact HO240.out))) (qk_ BK228)) (below_size qB_))
              have n2_ := qbl_ BK227 hb
              have n3_ := qbl_ BK228 hb
              have n4_ := am_ (below_step qB_ hb)
              clear HO240; clear BK227; clear BK228; clear HB; have HO240 := n0_; have HO250 := n1_; have BK227 := n2_; have BK228 := n3_; have HB := n4_; clear n0_ n1_ n2_ n3_ n4_; clear hb ho34
              refine hK.out _ _ ⟨bl_ BK227 0, bl_ BK228 0, bl_ BK228 1, bl_ BK228 2⟩ (fun hHeld => ?_)
              clear hK K
              refine nm_ 58 ?_
              refine o1_ 7 (some 56) (bm 16 3071) (fun K hK => ?_)
              refine Kd.R_append_rows_step k99 (w0 := w) w.heap.size rfl (.const (.slice none 0 0)) (.tmp 55) 42 99 (.agg #[(.string ⟨#[]⟩), (.string ⟨#[]⟩), (.int .i64 0)]) 40 rfl Try.underlying42 info99 rfl (by decide) (by omega) (.slice none 0 0) ([] : List (S99)) y241 _ _ _ (fun k_ => some k_ ≠ (.slice A30 y238.length c30 : Value).ownBlock ∧ some k_ ≠ (v249 : Value).ownBlock ∧ k_ ≠ gb228) (fun _ => False) rfl rfl ?aO ?aR (fun _ _ h => h) (fun _ h => h.elim) ?aF ?aB ?aS ?aL ?_
              (case aR => repeat (first | exact (Kd.C_below HR244.out HB.out) | (with_reducible refine Kd.C_alloc ?_ _) | (with_reducible refine Kd.C_drewN ?_ _) | (with_reducible refine Kd.C_drew ?_)))
              (case aB => exact qB_)
              (case aF => exact (fun k_ hk => ⟨Kd.fresh' (Kd.Q_lt (by (with_reducible repeat (first | apply Kd.Q_alloc | apply Kd.Q_drewN | apply Kd.Q_drew)); exact HO240.out)) k_ hk, Kd.fresh' (Kd.R_lt (qR_ HO250)) k_ hk, Kd.freshB (qk_ BK228) k_ hk⟩))
              (case aO => exact ((Kd.R_nil _ _ _ _ (fun k_ => some k_ ≠ (.slice A30 y238.length c30 : Value).ownBlock ∧ some k_ ≠ (v249 : Value).ownBlock ∧ k_ ≠ gb228))))
              (case aS => exact (below_size qB_))
              (case aL => have := LMc21.out; omega)
              intro v246 w35 ho hb hg hat
              rw [← Ny245.out] at ho
              have n0_ := am_ (blk_grown (qk_ BK227) hg (by simp [Value.ownBlock]))
              have n1_ := am_ (blk_grown (qk_ BK228) hg (by simp [Value.ownBlock]))
              have n2_ := am_ (Kd.Q_after (Kd.Q_apart_nil (by (with_reducible repeat (first | apply Kd.Q_alloc | apply Kd.Q_drewN | apply Kd.Q_drew)); exact HO240.out)) hg hat)
              have n3_ := am_ (Kd.R_after (Kd.R_apart_nil (qR_ HO250)) hg hat)
              have n4_ := am_ (hb)
              have n5_ := am_ (ho)
              clear BK227; clear BK228; clear HO240; clear HO250; clear HB; have BK227 := n0_; have BK228 := n1_; have HO240 := n2_; have HO250 := n3_; have HB := n4_; have HO247 := n5_; clear n0_ n1_ n2_ n3_ n4_ n5_; clear ho hb hg hat
              refine hK.out _ _ ⟨bl_ BK227 0, bl_ BK228 0, bl_ BK228 1, bl_ BK228 2⟩ (fun hHeld => ?_)
              clear hK K
              refine nm_ 56 ?_
              exact norm_ (by simp only [putAll, Act.put, sA_, sB_, sC_]) (hCont (v246, v249) _ ⟨hHeld, (by (with_reducible repeat (first | apply Kd.Q_alloc | apply Kd.Q_drewN | apply Kd.Q_drew)); exact Kd.Q_mono HO240.out (fun _ hk => ⟨hk.2, ⟨hk.1.2, hk.1.1⟩⟩)), (qR_ HO247), (by (with_reducible repeat (first | apply Kd.R_alloc | apply Kd.R_drewN | apply Kd.R_drew)); exact Kd.R_mono HO250.out (fun _ hk => ⟨hk.1.1.2, ⟨hk.2, hk.1.2⟩⟩)), (qk_ BK227), (qk_ BK228), qB_⟩)
             rintro ⟨v246, v249⟩ w36 ⟨hS_, h0_, h1_, h2_, h3_, h4_, h5_⟩
             have n0_ : Aside0 (Kd.Q k99 99 w36 w.heap.size (fun k_ => some k_ ≠ (v246 : Value).ownBlock ∧ some k_ ≠ (v249 : Value).ownBlock ∧ k_ ≠ gb228) (.slice A30 y238.length c30) y238) := ⟨h0_⟩
             have n1_ : Aside0 (Kd.R k99 99 w36 w.heap.size (fun k_ => some k_ ≠ (.slice A30 y238.length c30 : Value).ownBlock ∧ some k_ ≠ (v249 : Value).ownBlock ∧ k_ ≠ gb228) v246 y245) := ⟨h1_⟩
             have n2_ : Aside0 (Kd.R k99 99 w36 w.heap.size (fun k_ => some k_ ≠ (.slice A30 y238.length c30 : Value).ownBlock ∧ some k_ ≠ (v246 : Value).ownBlock ∧ k_ ≠ gb228) v249 y248) := ⟨h2_⟩
             have n3_ : Aside0 (w36.heap[gb227]? = some (.cells #[.slice A0_0 l0_0.length c0_0] 44 (0, 0))) := ⟨h3_⟩
             have n4_ : Aside0 (w36.heap[gb228]? = some (.cells #[.string a1_0, .string a1_1, .int .i64 a1_2] 99 (0, 0))) := ⟨h4_⟩
             have n5_ : Aside0 (Below w.heap.size w w36) := ⟨h5_⟩
             clear HO240; clear BK227; clear BK228; clear HB; clear h0_ h1_ h2_ h3_ h4_ h5_; have HO240 := n0_; have HO247 := n1_; have HO250 := n2_; have BK227 := n3_; have BK228 := n4_; have HB := n5_; clear n0_ n1_ n2_ n3_ n4_ n5_
             have hHeld : w36.cell? ⟨gb227, 0, none⟩ = some (.slice A0_0 l0_0.length c0_0) ∧ w36.cell? ⟨gb228, 0, none⟩ = some (.string a1_0) ∧ w36.cell? ⟨gb228, 1, none⟩ = some (.string a1_1) ∧ w36.cell? ⟨gb228, 2, none⟩ = some (.int .i64 a1_2) := hS_
             obtain ⟨Ao38, co38, eo38⟩ := Kd.R_slice HO250.out
             (first | subst eo38 | (injection eo38 with f1_ f2_ f3_; have f4_ := f1_.symm; have f5_ := f3_.symm; clear f1_ f2_ f3_; subst f4_; subst f5_))
             refine norm_ (a' := ?_) ?_ ?_
             rotate_left
             ·simp only [putAll, Act.put, sA_, sB_, sC_]
              rfl
             refine o1_ 10 (some 59) (bm 16 4095) (fun K hK => ?_)
             refine Kd.R_append_rows_step k99 (w0 := w) w.heap.size (by rfl) (.tmp 56) (.tmp 58) 42 99 (.agg #[(.string ⟨#[]⟩), (.string ⟨#[]⟩), (.int .i64 0)]) 40 rfl Try.underlying42 info99 rfl (by decide) (by omega) v246 y245 y248 _ _ _ (fun k_ => some k_ ≠ (.slice A30 y238.length c30 : Value).ownBlock ∧ some k_ ≠ (.slice Ao38 y248.length co38 : Value).ownBlock ∧ k_ ≠ gb228) (fun _ => False) rfl rfl ?aO ?aR (fun _ _ h => h) (fun _ h => h.elim) ?aF ?aB ?aS ?aL ?_
             (case aR => repeat (first | exact (Kd.R_reads' HO250.out).2.2 | (with_reducible refine Kd.C_alloc ?_ _) | (with_reducible refine Kd.C_drewN ?_ _) | (with_reducible refine Kd.C_drew ?_)))
             (case aB => exact qB_)
             (case aF => exact (fun k_ hk => ⟨Kd.fresh' (Kd.Q_lt (by (with_reducible repeat (first | apply Kd.Q_alloc | apply Kd.Q_drewN | apply Kd.Q_drew)); exact HO240.out)) k_ hk, Kd.fresh' (Kd.R_lt (qR_ HO250)) k_ hk, Kd.freshB (qk_ BK228) k_ hk⟩))
             (case aO => exact (qR_ HO247))
             (case aS => exact (below_size qB_))
             (case aL => have := LMc22.out; omega)
             intro v252 w37 ho hb hg hat
             rw [← Ny251.out] at ho
             have n0_ := am_ (blk_grown (qk_ BK227) hg (Kd.R_ne HO247.out BK227.out (by decide)))
             have n1_ := am_ (blk_grown (qk_ BK228) hg (Kd.R_away HO247.out (fun _ hk => hk.2.2)))
             have n2_ := am_ (Kd.Q_after (ok := (fun k_ => some k_ ≠ (.slice Ao38 y248.length co38 : Value).ownBlock ∧ k_ ≠ gb228)) (by (with_reducible repeat (first | apply Kd.Q_alloc | apply Kd.Q_drewN | apply Kd.Q_drew)); exact Kd.Q_mono HO240.out (fun _ hk => ⟨⟨hk.2.1, hk.2.2⟩, hk.1⟩)) hg hat)
             have n3_ := am_ (Kd.R_after (ok := (fun k_ => some k_ ≠ (.slice A30 y238.length c30 : Value).ownBlock ∧ k_ ≠ gb228)) (by (with_reducible repeat (first | apply Kd.R_alloc | apply Kd.R_drewN | apply Kd.R_drew)); exact Kd.R_mono HO250.out (fun _ hk => ⟨⟨hk.1, hk.2.2⟩, hk.2.1⟩)) hg hat)
             have n4_ := am_ (hb)
             have n5_ := am_ (ho)
             clear BK227; clear BK228; clear HO240; clear HO250; clear HB; clear HO247; have BK227 := n0_; have BK228 := n1_; have HO240 := n2_; have HO250 := n3_; have HB := n4_; have HO253 := n5_; clear n0_ n1_ n2_ n3_ n4_ n5_; clear ho hb hg hat
             refine hK.out _ _ ⟨bl_ BK227 0, bl_ BK228 0, bl_ BK228 1, bl_ BK228 2⟩ (fun hHeld => ?_)
             clear hK K
             refine nm_ 59 ?_
             refine o1_ 12 (some 61) (bm 16 8191) (fun K hK => ?_)
             refine Kd.R_append_rows_step k99 (w0 := w) w.heap.size (by rfl) (.tmp 59) (.tmp 60) 42 99 (.agg #[(.string ⟨#[]⟩), (.string ⟨#[]⟩), (.int .i64 0)]) 40 rfl Try.underlying42 info99 rfl (by decide) (by omega) v252 y251 y238 _ _ _ (fun k_ => some k_ ≠ (.slice A30 y238.length c30 : Value).ownBlock ∧ some k_ ≠ (.slice Ao38 y248.length co38 : Value).ownBlock ∧ k_ ≠ gb228) (fun _ => False) rfl rfl ?aO ?aR (fun _ _ h => h) (fun _ h => h.elim) ?aF ?aB ?aS ?aL ?_
             (case aR => repeat (first | exact (Kd.Q_reads' HO240.out).2.2 | (with_reducible refine Kd.C_alloc ?_ _) | (with_reducible refine Kd.C_drewN ?_ _) | (with_reducible refine Kd.C_drew ?_)))
             (case aB => exact qB_)
             (case aF => exact (fun k_ hk => ⟨Kd.fresh' (Kd.Q_lt (by (with_reducible repeat (first | apply Kd.Q_alloc | apply Kd.Q_drewN | apply Kd.Q_drew)); exact HO240.out)) k_ hk, Kd.fresh' (Kd.R_lt (qR_ HO250)) k_ hk, Kd.freshB (qk_ BK228) k_ hk⟩))
             (case aO => exact (qR_ HO253))
             (case aS => exact (below_size qB_))
             (case aL => have := LMc23.out; omega)
             intro v255 w39 ho hb hg hat
             rw [← Ny254.out] at ho
             have n0_ := am_ (blk_grown (qk_ BK227) hg (Kd.R_ne HO253.out BK227.out (by decide)))
             have n1_ := am_ (blk_grown (qk_ BK228) hg (Kd.R_away HO253.out (fun _ hk => hk.2.2)))
             have n2_ := am_ (Kd.Q_after (ok := (fun k_ => some k_ ≠ (.slice Ao38 y248.length co38 : Value).ownBlock ∧ k_ ≠ gb228)) (by (with_reducible repeat (first | apply Kd.Q_alloc | apply Kd.Q_drewN | apply Kd.Q_drew)); exact HO240.out) hg hat)
             have n3_ := am_ (Kd.R_after (ok := (fun k_ => some k_ ≠ (.slice A30 y238.length c30 : Value).ownBlock ∧ k_ ≠ gb228)) (qR_ HO250) hg hat)
             have n4_ := am_ (hb)
             have n5_ := am_ (ho)
             clear BK227; clear BK228; clear HO240; clear HO250; clear HB; clear HO253; have BK227 := n0_; have BK228 := n1_; have HO240 := n2_; have HO250 := n3_; have HB := n4_; have HO256 := n5_; clear n0_ n1_ n2_ n3_ n4_ n5_; clear ho hb hg hat
             obtain ⟨Ao40, co40, eo40⟩ := Kd.R_slice HO256.out
             (first | subst eo40 | (injection eo40 with f1_ f2_ f3_; have f4_ := f1_.symm; have f5_ := f3_.symm; clear f1_ f2_ f3_; subst f4_; subst f5_))
             refine hK.out _ _ ⟨bl_ BK227 0, bl_ BK228 0, bl_ BK228 1, bl_ BK228 2⟩ (fun hHeld => ?_)
             clear hK K
             refine nm_ 61 ?_
             refine pz_ 13 62 (bm 16 16383) ?_; refine pz_ 14 63 (bm 16 32767) ?_
             refine last_ (i := 15) (N := none) (bm 16 65535) rfl rfl (one_of HT_.out (by kernel_rfl)) (by decide) (fun K hK => ?_)
             have hs41 : w39.cell? ⟨gb227, 0, none⟩ = some (.slice A0_0 l0_0.length c0_0) := bl_ BK227 0
             have hfs41 := blk_frozen BK227.out 0
             have hns41_1 := NB228_227.out; have hms41_1 := NB227_228.out
             refine skip_ (w1 := ?_) (by rfl) rfl ?_ ?_
             rotate_left
             ·go_simp
              rfl
             refine hK.out _ _ ?_
             clear hK K
             refine done_ (done_of HT_.out (by kernel_rfl)) ?_
             try go_wp2
             (try simp only [Exit.inBlock, Exit.then])
             first | refine bodyPost_end (results_none rfl _ _ _) rfl ?_ | refine bodyPost_ret (results_none rfl _ _ _) rfl ?_
             first | exact ⟨_, _, rfl, Kd.R_mono HO256.out (fun _ _ => trivial), HB.out, rfl⟩ | exact ⟨rfl, _, _, Kd.R_mono HO256.out (fun _ _ => trivial), HB.out, rfl⟩
            rw [if_neg c23] at H
            exact absurd H (by simp)
           rw [if_neg c22] at H
           exact absurd H (by simp)
          rw [if_neg c21] at H
          exact absurd H (by simp)
         rw [if_neg c18] at H
         exact absurd H (by simp)
        rw [if_neg c17] at H
        have c17b0 : (((rd_T99 y234 0).f0).toList == a1_0.toList) = false := beq_eq_false_iff_ne.mpr c17
        have c17b1 : (((rd_T99 y234 0).f0).toList != a1_0.toList) = true := bne_iff_ne.mpr c17
        have c42b0 := eq_true (of_decide_eq_true qa_ : 0 ≤ x4_2)
        have c43b0 := eq_true (of_decide_eq_true qa_ : x4_2 ≤ (l0_0.length : Int))
        obtain ⟨y257, hy257⟩ : ∃ y_ : List (S99), y_ = (l0_0.take (x4_2 : Int).toNat) := ⟨_, rfl⟩
        replace H : (if ([] : List (S99)).length + y257.length < 3518437208883 then ((some (([] : List (S99)) ++ y257 : List (S99))).bind fun y261 => ((some (([(⟨a1_0, a1_1, a1_2⟩ : S99)] : List (S99)) : List (S99))).bind fun y264 => (if y261.length + y264.length < 3518437208883 then ((some (y261 ++ y264 : List (S99))).bind fun y267 => (if y267.length + y234.length < 3518437208883 then (some (y267 ++ y234)) else (none))) else (none)))) else (none)) = some r := by first | (rw [hy257]; with_reducible exact H) | (have H2_ := (Option.bind_some _ _).symm.trans H; rw [hy257]; with_reducible exact H2_) | (have H2_ := (Option.bind_some _ _).symm.trans H; with_reducible exact H2_) | with_reducible exact H | (rw [hy257]; exact H) | exact H
        have Ny257 := am_ hy257
        clear hy257
        by_cases c44 : ([] : List (S99)).length + y257.length < 3518437208883
        ·rw [if_pos c44] at H
         have LMc44 := am_ c44
         clear c44
         obtain ⟨y261, hy261⟩ : ∃ y_ : List (S99), y_ = (([] : List (S99)) ++ y257) := ⟨_, rfl⟩
         replace H : ((some (([(⟨a1_0, a1_1, a1_2⟩ : S99)] : List (S99)) : List (S99))).bind fun y264 => (if y261.length + y264.length < 3518437208883 then ((some (y261 ++ y264 : List (S99))).bind fun y267 => (if y267.length + y234.length < 3518437208883 then (some (y267 ++ y234)) else (none))) else (none))) = some r := by first | (rw [hy261]; with_reducible exact H) | (have H2_ := (Option.bind_some _ _).symm.trans H; rw [hy261]; with_reducible exact H2_) | (have H2_ := (Option.bind_some _ _).symm.trans H; with_reducible exact H2_) | with_reducible exact H | (rw [hy261]; exact H) | exact H
         have Ny261 := am_ hy261
         clear hy261
         obtain ⟨y264, hy264⟩ : ∃ y_ : List (S99), y_ = (([(⟨a1_0, a1_1, a1_2⟩ : S99)] : List (S99))) := ⟨_, rfl⟩
         replace H : (if y261.length + y264.length < 3518437208883 then ((some (y261 ++ y264 : List (S99))).bind fun y267 => (if y267.length + y234.length < 3518437208883 then (some (y267 ++ y234)) else (none))) else (none)) = some r := by first | (rw [hy264]; with_reducible exact H) | (have H2_ := (Option.bind_some _ _).symm.trans H; rw [hy264]; with_reducible exact H2_) | (have H2_ := (Option.bind_some _ _).symm.trans H; with_reducible exact H2_) | with_reducible exact H | (rw [hy264]; exact H) | exact H
         have Ny264 := am_ hy264
         clear hy264
         by_cases c45 : y261.length + y264.length < 3518437208883
         ·rw [if_pos c45] at H
          have LMc45 := am_ c45
          clear c45
          obtain ⟨y267, hy267⟩ : ∃ y_ : List (S99), y_ = (y261 ++ y264) := ⟨_, rfl⟩
          replace H : (if y267.length + y234.length < 3518437208883 then (some (y267 ++ y234)) else (none)) = some r := by first | (rw [hy267]; with_reducible exact H) | (have H2_ := (Option.bind_some _ _).symm.trans H; rw [hy267]; with_reducible exact H2_) | (have H2_ := (Option.bind_some _ _).symm.trans H; with_reducible exact H2_) | with_reducible exact H | (rw [hy267]; exact H) | exact H
          have Ny267 := am_ hy267
          clear hy267
          by_cases c46 : y267.length + y234.length < 3518437208883
          ·rw [if_pos c46] at H
           have LMc46 := am_ c46
           clear c46
           obtain ⟨y270, hy270⟩ : ∃ y_ : List (S99), y_ = (y267 ++ y234) := ⟨_, rfl⟩
           replace H : (some y270) = some r := by first | (rw [hy270]; with_reducible exact H) | (have H2_ := (Option.bind_some _ _).symm.trans H; rw [hy270]; with_reducible exact H2_) | (have H2_ := (Option.bind_some _ _).symm.trans H; with_reducible exact H2_) | with_reducible exact H | (rw [hy270]; exact H) | exact H
           have Ny270 := am_ hy270
           clear hy270
           obtain rfl := Option.some.inj H
           obtain ⟨hnb47, hnc47⟩ := nn_ NB227_228
           obtain ⟨hcz48_0, hfz48_0⟩ := bc1_ BK227
           have q49 : (x4_2 : Int) ≤ ((l0_0.length : Int) : Int) := of_decide_eq_true qa_
           obtain ⟨i049, hi049, _, hsz49, _⟩ := info_parts info99
           have hroom49 : l0_0.length ≤ c0_0 := HC0_0.out
           have hC49 : Kd.C k99 _ A0_0 l0_0.length l0_0 := HR0_0.out
           have q049 : (0 : Int) ≤ (x4_2 : Int) := of_decide_eq_true qa_
           have hcut49 := cut_from (P := Try.prog) 42 99 .i64 Try.underlying42 hi049 3 hsz49 A0_0 l0_0.length c0_0 x4_2 q049 q49
           have hr49 := Kd.C_drop (m := (x4_2 : Int).toNat) (c := c0_0) hC49 (by omega) hroom49
           obtain ⟨A49, hA49⟩ : ∃ A1, A1 = (if c0_0 = (x4_2 : Int).toNat then A0_0 else (A0_0 : Option Addr).map (·.add ((x4_2 : Int).toNat * 3))) := ⟨_, rfl⟩
           obtain ⟨c49, hc49⟩ : ∃ c1, c1 = c0_0 - (x4_2 : Int).toNat := ⟨_, rfl⟩
           have hy49 : y230.length = l0_0.length - (x4_2 : Int).toNat := (by rw [Ny230.out, List.length_drop] <;> omega)
           rw [show (l0_0).drop (x4_2 : Int).toNat = y230 from Ny230.out.symm] at hr49
           replace hr49 : Kd.C k99 _ A49 y230.length y230 := (by rw [hA49]; exact hr49)
           rw [← hy49, ← hA49, ← hc49] at hcut49
           have HR233 := am_ hr49
           have HC233 := am_ (show y230.length ≤ c49 from by rw [hy49, hc49]; exact Nat.sub_le_sub_right hroom49 _)
           clear hr49 hC49 hroom49 hi049 hsz49 hc49
           have KY49 := am_ hy49
           have KA49 := am_ hA49
           clear hy49 hA49; replace q49 := eq_true q49
           try go_wp2_with (first | ((with_reducible refine gate_builtin (b := .append) (xs := #[.const (.slice none 0 0), .tmp 33]) rfl ?_); at_builtin; refine Kd.R_append_rows k99 (w0 := w) w.heap.size rfl (.const (.slice none 0 0)) (.tmp 33) 42 99 (.agg #[(.string ⟨#[]⟩), (.string ⟨#[]⟩), (.int .i64 0)]) 40 rfl Try.underlying42 info99 rfl (by decide) (by omega) (.slice none 0 0) ([] : List (S99)) y230 _ _ _ (fun k_ => k_ ≠ gb228) (fun _ => False) rfl rfl ?aO ?aR (fun _ _ h => h) (fun _ h => h.elim) ?aF ?aB ?aS ?aL ?_; (case aR => repeat (first | exact (Kd.C_below HR233.out HB.out) | (with_reducible refine Kd.C_alloc ?_ _) | (with_reducible refine Kd.C_drewN ?_ _) | (with_reducible refine Kd.C_drew ?_))); (case aB => exact qB_); (case aF => exact (fun k_ hk => Kd.freshB (qk_ BK228) k_ hk)); (case aO => exact ((Kd.R_nil _ _ _ _ (fun k_ => k_ ≠ gb228)))); (case aS => exact (below_size qB_)); (case aL => have := LMc14.out; omega); intro v235 w50 ho hb hg hat; rw [← Ny234.out] at ho; have HO236 := am_ (ho); replace BK227 := am_ (blk_grown (qk_ BK227) hg (by simp [Value.ownBlock])); replace BK228 := am_ (blk_grown (qk_ BK228) hg (by simp [Value.ownBlock])); replace HB := am_ (hb); clear ho hb hg hat))
           replace HO236 := am_ (Kd.R_drew HO236.out); replace BK227 := am_ (blk_drew BK227.out); replace BK228 := am_ (blk_drew BK228.out); replace HB := am_ (below_drew1 HB.out)
           obtain ⟨Ao52, co52, eo52⟩ := Kd.R_slice HO236.out
           (first | subst eo52 | (injection eo52 with f1_ f2_ f3_; have f4_ := f1_.symm; have f5_ := f3_.symm; clear f1_ f2_ f3_; subst f4_; subst f5_))
           have p237 : 0 ≤ (0 : Int) := (by omega)
           have q237 : 0 < (y234.length : Int) := of_decide_eq_true qa_
           obtain ⟨ad237, e237, hx237_0, hx237_1, hx237_2⟩ := at_T99 (Kd.R_reads' HO236.out).2.2 0 p237 q237
           cases e237
           have qi237 : (0 < y234.length) = True := eq_true (by omega)
           (try rw [show ((0 : Int)).toNat = 0 from rfl] at hx237_0)
           (try rw [show 0 * 3 = 0 from rfl] at hx237_0)
           (try rw [Addr.add_zero'] at hx237_0)
           (try rw [show ((0 : Int)).toNat = 0 from rfl] at hx237_1)
           (try rw [show 0 * 3 = 0 from rfl] at hx237_1)
           (try rw [Addr.add_zero'] at hx237_1)
           (try rw [show ((0 : Int)).toNat = 0 from rfl] at hx237_2)
           (try rw [show 0 * 3 = 0 from rfl] at hx237_2)
           (try rw [Addr.add_zero'] at hx237_2)
           replace p237 := eq_true p237; replace q237 := eq_true q237
           refine start_ (n := 12) (S := fun w' => w'.cell? ⟨gb228, 0, none⟩ = some (.string a1_0) ∧ w'.cell? ⟨gb228, 1, none⟩ = some (.string a1_1) ∧ w'.cell? ⟨gb228, 2, none⟩ = some (.int .i64 a1_2) ∧ w'.cell? ad237 = some (.string ((rd_T99 y234 0).f0)) ∧ w'.cell? ⟨ad237.block, ad237.off + 1, none⟩ = some (.string ((rd_T99 y234 0).f1)) ∧ w'.cell? ⟨ad237.block, ad237.off + 2, none⟩ = some (.int .i64 ((rd_T99 y234 0).f2))) (ds := []) (bm 12 0) (by kernel_rfl) rfl (by kernel_rfl) ⟨bl_ BK228 0, bl_ BK228 1, bl_ BK228 2, hx237_0, hx237_1, hx237_2⟩ (fun hHeld => ?_); refine with_tabW impl_Disk_put.tab5 impl_Disk_put.bits5 (fun HT_ HW_ => ?_)
           generalize w50.drew = w51 at HO236 BK227 BK228 HB hx237_0 hx237_1 hx237_2 hHeld ⊢
           refine pz_ 0 35 (bm 12 1) ?_; refine pz_ 1 36 (bm 12 3) ?_; refine pz_ 2 37 (bm 12 7) ?_; refine pz_ 3 38 (bm 12 15) ?_; refine pz_ 4 39 (bm 12 31) ?_; refine pz_ 5 40 (bm 12 63) ?_; refine pz_ 6 41 (bm 12 127) ?_; refine pz_ 8 43 (bm 12 383) ?_; refine tz6_ 7 42 (bm 12 511) ?_; refine tz6_ 9 44 (bm 12 1023) ?_; refine pz_ 10 45 (bm 12 2047) ?_; refine pz_ 11 46 (bm 12 4095) ?_
           refine done_ (done_of HT_.out (by kernel_rfl)) ?_
           try go_wp2
           replace HO236 := am_ (Kd.R_drew HO236.out); replace BK227 := am_ (blk_drew BK227.out); replace BK228 := am_ (blk_drew BK228.out); replace HB := am_ (below_drew1 HB.out)
           have q54 : (x4_2 : Int) ≤ ((l0_0.length : Int) : Int) := of_decide_eq_true qa_
           obtain ⟨i054, hi054, _, hsz54, _⟩ := info_parts info99
           have hroom54 : l0_0.length ≤ c0_0 := HC0_0.out
           have hC54 : Kd.C k99 _ A0_0 l0_0.length l0_0 := HR0_0.out
           have hcut54 := cut_to (P := Try.prog) 42 99 .i64 Try.underlying42 hi054 A0_0 l0_0.length c0_0 x4_2 (of_decide_eq_true qa_) q54 hroom54
           have hr54 := Kd.C_take (m := (x4_2 : Int).toNat) hC54 (by omega)
           have hy54 : y257.length = (x4_2 : Int).toNat := (by rw [Ny257.out, List.length_take]; omega)
           rw [← Ny257.out] at hr54
           rw [← hy54] at hcut54
           have HR260 := am_ hr54
           have HC260 := am_ (show y257.length ≤ c0_0 from by omega)
           clear hr54 hC54 hroom54 hi054 hsz54
           have KY54 := am_ hy54
           clear hy54; replace q54 := eq_true q54
           refine start_ (n := 16) (S := fun w' => w'.cell? ⟨gb227, 0, none⟩ = some (.slice A0_0 l0_0.length c0_0) ∧ w'.cell? ⟨gb228, 0, none⟩ = some (.string a1_0) ∧ w'.cell? ⟨gb228, 1, none⟩ = some (.string a1_1) ∧ w'.cell? ⟨gb228, 2, none⟩ = some (.int .i64 a1_2)) (ds := [15]) (bm 16 0) (by kernel_rfl) rfl (by kernel_rfl) ⟨bl_ BK227 0, bl_ BK228 0, bl_ BK228 1, bl_ BK228 2⟩ (fun hHeld => ?_); refine with_tabW impl_Disk_put.tab7 impl_Disk_put.bits7 (fun HT_ HW_ => ?_)
           generalize w51.drew = w53 at HO236 BK227 BK228 HB HR260 hHeld ⊢
           refine pz_ 0 49 (bm 16 1) ?_; refine pz_ 1 50 (bm 16 3) ?_; refine pz_ 2 51 (bm 16 7) ?_; refine pz_ 3 52 (bm 16 15) ?_; refine pz_ 5 54 (bm 16 47) ?_; refine pz_ 11 60 (bm 16 2095) ?_; refine tz4_ 4 53 (bm 16 2111) ?_; refine pz_ 6 55 (bm 16 2175) ?_; refine tz4_ 8 57 (bm 16 2431) ?_
           refine join_ (σ := Value × Value) 5 #[true, true, true, true, true, true, true, true, true, true, false, true, false, false, false, false] (fun s_ => [(56, s_.1), (58, s_.2)]) (fun s_ w' => (w'.cell? ⟨gb227, 0, none⟩ = some (.slice A0_0 l0_0.length c0_0) ∧ w'.cell? ⟨gb228, 0, none⟩ = some (.string a1_0) ∧ w'.cell? ⟨gb228, 1, none⟩ = some (.string a1_1) ∧ w'.cell? ⟨gb228, 2, none⟩ = some (.int .i64 a1_2)) ∧ (Kd.R k99 99 w' w.heap.size (fun k_ => some k_ ≠ (s_.1 : Value).ownBlock ∧ some k_ ≠ (s_.2 : Value).ownBlock ∧ k_ ≠ gb228) (.slice (some ad237) y234.length co52) y234) ∧ (Kd.R k99 99 w' w.heap.size (fun k_ => some k_ ≠ (.slice (some ad237) y234.length co52 : Value).ownBlock ∧ some k_ ≠ (s_.2 : Value).ownBlock ∧ k_ ≠ gb228) s_.1 y261) ∧ (Kd.R k99 99 w' w.heap.size (fun k_ => some k_ ≠ (.slice (some ad237) y234.length co52 : Value).ownBlock ∧ some k_ ≠ (s_.1 : Value).ownBlock ∧ k_ ≠ gb228) s_.2 y264) ∧ (w'.heap[gb227]? = some (.cells #[.slice A0_0 l0_0.length c0_0] 44 (0, 0))) ∧ (w'.heap[gb228]? = some (.cells #[.string a1_0, .string a1_1, .int .i64 a1_2] 99 (0, 0))) ∧ (Below w.heap.size w w')) ?_ ?_
           rotate_left
           ·intro hCont
            refine two_ (i := 7) (j := 9) (Ni := some 56) (Nj := some 58) (bm 16 2559) #[true, true, true, true, true, true, true, false, true, true, false, true, false, false, false, false] rfl rfl rfl rfl (two_of HT_.out (by kernel_rfl)) (by decide) (by decide) (fun K hK => ?_) (fun K hK => ?_)
            ·skip
             refine Kd.R_append_rows_step k99 (w0 := w) w.heap.size rfl (.const (.slice none 0 0)) (.tmp 55) 42 99 (.agg #[(.string ⟨#[]⟩), (.string ⟨#[]⟩), (.int .i64 0)]) 40 rfl Try.underlying42 info99 rfl (by decide) (by omega) (.slice none 0 0) ([] : List (S99)) y257 _ _ _ (fun k_ => some k_ ≠ (.slice (some ad237) y234.length co52 : Value).ownBlock ∧ k_ ≠ gb228) (fun _ => False) rfl rfl ?aO ?aR (fun _ _ h => h) (fun _ h => h.elim) ?aF ?aB ?aS ?aL ?_
             (case aR => repeat (first | exact (Kd.C_below HR260.out HB.out) | (with_reducible refine Kd.C_alloc ?_ _) | (with_reducible refine Kd.C_drewN ?_ _) | (with_reducible refine Kd.C_drew ?_)))
             (case aB => exact qB_)
             (case aF => exact (fun k_ hk => ⟨Kd.fresh' (Kd.R_lt (qR_ HO236)) k_ hk, Kd.freshB (qk_ BK228) k_ hk⟩))
             (case aO => exact ((Kd.R_nil _ _ _ _ (fun k_ => some k_ ≠ (.slice (some ad237) y234.length co52 : Value).ownBlock ∧ k_ ≠ gb228))))
             (case aS => exact (below_size qB_))
             (case aL => have := LMc44.out; omega)
             intro v262 w55 ho hb hg hat
             rw [← Ny261.out] at ho
             have HO263 := am_ (ho); replace BK227 := am_ (blk_grown (qk_ BK227) hg (by simp [Value.ownBlock])); replace BK228 := am_ (blk_grown (qk_ BK228) hg (by simp [Value.ownBlock])); replace HO236 := am_ (Kd.R_after (Kd.R_apart_nil (qR_ HO236)) hg hat); replace HB := am_ (hb); clear ho hb hg hat
             refine hK.out _ _ ⟨bl_ BK227 0, bl_ BK228 0, bl_ BK228 1, bl_ BK228 2⟩ (fun hHeld => ?_)
             clear hK K
             refine nm_ 56 ?_
             refine o1_ 9 (some 58) (bm 16 3071) (fun K hK => ?_)
             refine Kd.R_lit_step k99 _ 99 ?hg (N := 58) ?hd (xs := ([(⟨a1_0, a1_1, a1_2⟩ : S99)] : List (S99))) (inner := [.string a1_0, .string a1_1, .int .i64 a1_2]) (ok := fun _ => True) (okp := fun _ => True) ?hr ?hp (fun _ hk => hk) trivial (Below.refl _ _) (Nat.le_refl _) (by simp) ?_; (case hd => rfl); (case hg => rfl); (case hr => first | (go_simp; done) | (go_simp; rfl)); (case hp => exact (Reps.c3 (show Kd.M k99 _ _ _ (⟨a1_0, a1_1, a1_2⟩ : S99) [.string a1_0, .string a1_1, .int .i64 a1_2] from (k99_mkM _ _ _ (⟨a1_0, a1_1, a1_2⟩ : S99) )) (Reps.none _ _)))
             intro v265 w56 ho57 hb hg_ hnew_
             clear hg_ hnew_
             (first | rw [← Ny264.out] at ho57 | (simp only [Int.reduceToNat] at ho57; rw [← Ny264.out] at ho57))
             have HO266 := am_ (Kd.R_lower (Kd.R_newB (Kd.R_new' (Kd.R_new' ho57 (Kd.R_lt (qR_ HO236))) (Kd.R_lt (qR_ HO263))) (qk_ BK228)) (below_size qB_)); replace HO236 := am_ (Kd.R_elder' (qR_ HO236) (Kd.R_base ho57) hb); replace HO263 := am_ (Kd.R_elder' (qR_ HO263) (Kd.R_base ho57) hb); replace BK227 := qbl_ BK227 hb; replace BK228 := qbl_ BK228 hb; replace HB := am_ (below_step qB_ hb); clear hb ho57
             refine hK.out _ _ ⟨bl_ BK227 0, bl_ BK228 0, bl_ BK228 1, bl_ BK228 2⟩ (fun hHeld => ?_)
             clear hK K
             refine nm_ 58 ?_
             exact norm_ (by simp only [putAll, Act.put, sA_, sB_, sC_]) (hCont (v262, v265) _ ⟨hHeld, (by (with_reducible repeat (first | apply Kd.R_alloc | apply Kd.R_drewN | apply Kd.R_drew)); exact Kd.R_mono HO236.out (fun _ hk => ⟨hk.1.2, ⟨hk.2, hk.1.1⟩⟩)), (by (with_reducible repeat (first | apply Kd.R_alloc | apply Kd.R_drewN | apply Kd.R_drew)); exact Kd.R_mono HO263.out (fun _ hk => ⟨hk.1.1, ⟨hk.2, hk.1.2⟩⟩)), (by (with_reducible repeat (first | apply Kd.R_alloc | apply Kd.R_drewN | apply Kd.R_drew)); exact Kd.R_mono HO266.out (fun _ hk => ⟨hk.1.1.2, ⟨hk.1.2, hk.2⟩⟩)), (qk_ BK227), (qk_ BK228), qB_⟩)
            skip
            refine Kd.R_lit_step k99 _ 99 ?hg (N := 58) ?hd (xs := ([(⟨a1_0, a1_1, a1_2⟩ : S99)] : List (S99))) (inner := [.string a1_0, .string a1_1, .int .i64 a1_2]) (ok := fun _ => True) (okp := fun _ => True) ?hr ?hp (fun _ hk => hk) trivial (Below.refl _ _) (Nat.le_refl _) (by simp) ?_; (case hd => rfl); (case hg => rfl); (case hr => first | (go_simp; done) | (go_simp; rfl)); (case hp => exact (Reps.c3 (show Kd.M k99 _ _ _ (⟨a1_0, a1_1, a1_2⟩ : S99) [.string a1_0, .string a1_1, .int .i64 a1_2] from (k99_mkM _ _ _ (⟨a1_0, a1_1, a1_2⟩ : S99) )) (Reps.none _ _)))
            intro v265 w55 ho56 hb hg_ hnew_
            clear hg_ hnew_
            (first | rw [← Ny264.out] at ho56 | (simp only [Int.reduceToNat] at ho56; rw [← Ny264.out] at ho56))
            have HO266 := am_ (Kd.R_lower (Kd.R_newB (Kd.R_new' ho56 (Kd.R_lt (qR_ HO236))) (qk_ BK228)) (below_size qB_)); replace HO236 := am_ (Kd.R_elder' (qR_ HO236) (Kd.R_base ho56) hb); replace BK227 := qbl_ BK227 hb; replace BK228 := qbl_ BK228 hb; replace HB := am_ (below_step qB_ hb); clear hb ho56
            refine hK.out _ _ ⟨bl_ BK227 0, bl_ BK228 0, bl_ BK228 1, bl_ BK228 2⟩ (fun hHeld => ?_)
            clear hK K
            refine nm_ 58 ?_
            refine o1_ 7 (some 56) (bm 16 3071) (fun K hK => ?_)
            refine Kd.R_append_rows_step k99 (w0 := w) w.heap.size rfl (.const (.slice none 0 0)) (.tmp 55) 42 99 (.agg #[(.string ⟨#[]⟩), (.string ⟨#[]⟩), (.int .i64 0)]) 40 rfl Try.underlying42 info99 rfl (by decide) (by omega) (.slice none 0 0) ([] : List (S99)) y257 _ _ _ (fun k_ => some k_ ≠ (.slice (some ad237) y234.length co52 : Value).ownBlock ∧ some k_ ≠ (v265 : Value).ownBlock ∧ k_ ≠ gb228) (fun _ => False) rfl rfl ?aO ?aR (fun _ _ h => h) (fun _ h => h.elim) ?aF ?aB ?aS ?aL ?_
            (case aR => repeat (first | exact (Kd.C_below HR260.out HB.out) | (with_reducible refine Kd.C_alloc ?_ _) | (with_reducible refine Kd.C_drewN ?_ _) | (with_reducible refine Kd.C_drew ?_)))
            (case aB => exact qB_)
            (case aF => exact (fun k_ hk => ⟨Kd.fresh' (Kd.R_lt (qR_ HO236)) k_ hk, Kd.fresh' (Kd.R_lt (qR_ HO266)) k_ hk, Kd.freshB (qk_ BK228) k_ hk⟩))
            (case aO => exact ((Kd.R_nil _ _ _ _ (fun k_ => some k_ ≠ (.slice (some ad237) y234.length co52 : Value).ownBlock ∧ some k_ ≠ (v265 : Value).ownBlock ∧ k_ ≠ gb228))))
            (case aS => exact (below_size qB_))
            (case aL => have := LMc44.out; omega)
            intro v262 w57 ho hb hg hat
            rw [← Ny261.out] at ho
            have HO263 := am_ (ho); replace BK227 := am_ (blk_grown (qk_ BK227) hg (by simp [Value.ownBlock])); replace BK228 := am_ (blk_grown (qk_ BK228) hg (by simp [Value.ownBlock])); replace HO236 := am_ (Kd.R_after (Kd.R_apart_nil (qR_ HO236)) hg hat); replace HO266 := am_ (Kd.R_after (Kd.R_apart_nil (qR_ HO266)) hg hat); replace HB := am_ (hb); clear ho hb hg hat
            refine hK.out _ _ ⟨bl_ BK227 0, bl_ BK228 0, bl_ BK228 1, bl_ BK228 2⟩ (fun hHeld => ?_)
            clear hK K
            refine nm_ 56 ?_
            exact norm_ (by simp only [putAll, Act.put, sA_, sB_, sC_]) (hCont (v262, v265) _ ⟨hHeld, (by (with_reducible repeat (first | apply Kd.R_alloc | apply Kd.R_drewN | apply Kd.R_drew)); exact Kd.R_mono HO236.out (fun _ hk => ⟨hk.2, ⟨hk.1.2, hk.1.1⟩⟩)), (qR_ HO263), (by (with_reducible repeat (first | apply Kd.R_alloc | apply Kd.R_drewN | apply Kd.R_drew)); exact Kd.R_mono HO266.out (fun _ hk => ⟨hk.1.1.2, ⟨hk.2, hk.1.2⟩⟩)), (qk_ BK227), (qk_ BK228), qB_⟩)
           rintro ⟨v262, v265⟩ w58 ⟨hS_, h0_, h1_, h2_, h3_, h4_, h5_⟩
           have n0_ : Aside0 (Kd.R k99 99 w58 w.heap.size (fun k_ => some k_ ≠ (v262 : Value).ownBlock ∧ some k_ ≠ (v265 : Value).ownBlock ∧ k_ ≠ gb228) (.slice (some ad237) y234.length co52) y234) := ⟨h0_⟩
           have n1_ : Aside0 (Kd.R k99 99 w58 w.heap.size (fun k_ => some k_ ≠ (.slice (some ad237) y234.length co52 : Value).ownBlock ∧ some k_ ≠ (v265 : Value).ownBlock ∧ k_ ≠ gb228) v262 y261) := ⟨h1_⟩
           have n2_ : Aside0 (Kd.R k99 99 w58 w.heap.size (fun k_ => some k_ ≠ (.slice (some ad237) y234.length co52 : Value).ownBlock ∧ some k_ ≠ (v262 : Value).ownBlock ∧ k_ ≠ gb228) v265 y264) := ⟨h2_⟩
           have n3_ : Aside0 (w58.heap[gb227]? = some (.cells #[.slice A0_0 l0_0.length c0_0] 44 (0, 0))) := ⟨h3_⟩
           have n4_ : Aside0 (w58.heap[gb228]? = some (.cells #[.string a1_0, .string a1_1, .int .i64 a1_2] 99 (0, 0))) := ⟨h4_⟩
           have n5_ : Aside0 (Below w.heap.size w w58) := ⟨h5_⟩
           clear HO236; clear BK227; clear BK228; clear HB; clear h0_ h1_ h2_ h3_ h4_ h5_; have HO236 := n0_; have HO263 := n1_; have HO266 := n2_; have BK227 := n3_; have BK228 := n4_; have HB := n5_; clear n0_ n1_ n2_ n3_ n4_ n5_
           have hHeld : w58.cell? ⟨gb227, 0, none⟩ = some (.slice A0_0 l0_0.length c0_0) ∧ w58.cell? ⟨gb228, 0, none⟩ = some (.string a1_0) ∧ w58.cell? ⟨gb228, 1, none⟩ = some (.string a1_1) ∧ w58.cell? ⟨gb228, 2, none⟩ = some (.int .i64 a1_2) := hS_
           obtain ⟨Ao60, co60, eo60⟩ := Kd.R_slice HO266.out
           (first | subst eo60 | (injection eo60 with f1_ f2_ f3_; have f4_ := f1_.symm; have f5_ := f3_.symm; clear f1_ f2_ f3_; subst f4_; subst f5_))
           refine norm_ (a' := ?_) ?_ ?_
           rotate_left
           ·simp only [putAll, Act.put, sA_, sB_, sC_]
            rfl
           refine o1_ 10 (some 59) (bm 16 4095) (fun K hK => ?_)
           refine Kd.R_append_rows_step k99 (w0 := w) w.heap.size (by rfl) (.tmp 56) (.tmp 58) 42 99 (.agg #[(.string ⟨#[]⟩), (.string ⟨#[]⟩), (.int .i64 0)]) 40 rfl Try.underlying42 info99 rfl (by decide) (by omega) v262 y261 y264 _ _ _ (fun k_ => some k_ ≠ (.slice (some ad237) y234.length co52 : Value).ownBlock ∧ some k_ ≠ (.slice Ao60 y264.length co60 : Value).ownBlock ∧ k_ ≠ gb228) (fun _ => False) rfl rfl ?aO ?aR (fun _ _ h => h) (fun _ h => h.elim) ?aF ?aB ?aS ?aL ?_
           (case aR => repeat (first | exact (Kd.R_reads' HO266.out).2.2 | (with_reducible refine Kd.C_alloc ?_ _) | (with_reducible refine Kd.C_drewN ?_ _) | (with_reducible refine Kd.C_drew ?_)))
           (case aB => exact qB_)
           (case aF => exact (fun k_ hk => ⟨Kd.fresh' (Kd.R_lt (qR_ HO236)) k_ hk, Kd.fresh' (Kd.R_lt (qR_ HO266)) k_ hk, Kd.freshB (qk_ BK228) k_ hk⟩))
           (case aO => exact (qR_ HO263))
           (case aS => exact (below_size qB_))
           (case aL => have := LMc45.out; omega)
           intro v268 w59 ho hb hg hat
           rw [← Ny267.out] at ho
           have n0_ := am_ (blk_grown (qk_ BK227) hg (Kd.R_ne HO263.out BK227.out (by decide)))
           have n1_ := am_ (blk_grown (qk_ BK228) hg (Kd.R_away HO263.out (fun _ hk => hk.2.2)))
           have n2_ := am_ (Kd.R_after (ok := (fun k_ => some k_ ≠ (.slice Ao60 y264.length co60 : Value).ownBlock ∧ k_ ≠ gb228)) (by (with_reducible repeat (first | apply Kd.R_alloc | apply Kd.R_drewN | apply Kd.R_drew)); exact Kd.R_mono HO236.out (fun _ hk => ⟨⟨hk.2.1, hk.2.2⟩, hk.1⟩)) hg hat)
           have n3_ := am_ (Kd.R_after (ok := (fun k_ => some k_ ≠ (.slice (some ad237) y234.length co52 : Value).ownBlock ∧ k_ ≠ gb228)) (by (with_reducible repeat (first | apply Kd.R_alloc | apply Kd.R_drewN | apply Kd.R_drew)); exact Kd.R_mono HO266.out (fun _ hk => ⟨⟨hk.1, hk.2.2⟩, hk.2.1⟩)) hg hat)
           have n4_ := am_ (hb)
           have n5_ := am_ (ho)
           clear BK227; clear BK228; clear HO236; clear HO266; clear HB; clear HO263; have BK227 := n0_; have BK228 := n1_; have HO236 := n2_; have HO266 := n3_; have HB := n4_; have HO269 := n5_; clear n0_ n1_ n2_ n3_ n4_ n5_; clear ho hb hg hat
           refine hK.out _ _ ⟨bl_ BK227 0, bl_ BK228 0, bl_ BK228 1, bl_ BK228 2⟩ (fun hHeld => ?_)
           clear hK K
           refine nm_ 59 ?_
           refine o1_ 12 (some 61) (bm 16 8191) (fun K hK => ?_)
           refine Kd.R_append_rows_step k99 (w0 := w) w.heap.size (by rfl) (.tmp 59) (.tmp 60) 42 99 (.agg #[(.string ⟨#[]⟩), (.string ⟨#[]⟩), (.int .i64 0)]) 40 rfl Try.underlying42 info99 rfl (by decide) (by omega) v268 y267 y234 _ _ _ (fun k_ => some k_ ≠ (.slice (some ad237) y234.length co52 : Value).ownBlock ∧ some k_ ≠ (.slice Ao60 y264.length co60 : Value).ownBlock ∧ k_ ≠ gb228) (fun _ => False) rfl rfl ?aO ?aR (fun _ _ h => h) (fun _ h => h.elim) ?aF ?aB ?aS ?aL ?_
           (case aR => repeat (first | exact (Kd.R_reads' HO236.out).2.2 | (with_reducible refine Kd.C_alloc ?_ _) | (with_reducible refine Kd.C_drewN ?_ _) | (with_reducible refine Kd.C_drew ?_)))
           (case aB => exact qB_)
           (case aF => exact (fun k_ hk => ⟨Kd.fresh' (Kd.R_lt (qR_ HO236)) k_ hk, Kd.fresh' (Kd.R_lt (qR_ HO266)) k_ hk, Kd.freshB (qk_ BK228) k_ hk⟩))
           (case aO => exact (qR_ HO269))
           (case aS => exact (below_size qB_))
           (case aL => have := LMc46.out; omega)
           intro v271 w61 ho hb hg hat
           rw [← Ny270.out] at ho
           have HO272 := am_ (ho); replace BK227 := am_ (blk_grown (qk_ BK227) hg (Kd.R_ne HO269.out BK227.out (by decide))); replace BK228 := am_ (blk_grown (qk_ BK228) hg (Kd.R_away HO269.out (fun _ hk => hk.2.2))); replace HO236 := am_ (Kd.R_after (ok := (fun k_ => some k_ ≠ (.slice Ao60 y264.length co60 : Value).ownBlock ∧ k_ ≠ gb228)) (qR_ HO236) hg hat); replace HO266 := am_ (Kd.R_after (ok := (fun k_ => some k_ ≠ (.slice (some ad237) y234.length co52 : Value).ownBlock ∧ k_ ≠ gb228)) (qR_ HO266) hg hat); replace HB := am_ (hb); clear HO269; clear ho hb hg hat
           obtain ⟨Ao62, co62, eo62⟩ := Kd.R_slice HO272.out
           (first | subst eo62 | (injection eo62 with f1_ f2_ f3_; have f4_ := f1_.symm; have f5_ := f3_.symm; clear f1_ f2_ f3_; subst f4_; subst f5_))
           refine hK.out _ _ ⟨bl_ BK227 0, bl_ BK228 0, bl_ BK228 1, bl_ BK228 2⟩ (fun hHeld => ?_)
           clear hK K
           refine nm_ 61 ?_
           refine pz_ 13 62 (bm 16 16383) ?_; refine pz_ 14 63 (bm 16 32767) ?_
           refine last_ (i := 15) (N := none) (bm 16 65535) rfl rfl (one_of HT_.out (by kernel_rfl)) (by decide) (fun K hK => ?_)
           have hs63 : w61.cell? ⟨gb227, 0, none⟩ = some (.slice A0_0 l0_0.length c0_0) := bl_ BK227 0
           have hfs63 := blk_frozen BK227.out 0
           have hns63_1 := NB228_227.out; have hms63_1 := NB227_228.out
           refine skip_ (w1 := ?_) (by rfl) rfl ?_ ?_
           rotate_left
           ·go_simp
            rfl
           refine hK.out _ _ ?_
           clear hK K
           refine done_ (done_of HT_.out (by kernel_rfl)) ?_
           try go_wp2
           (try simp only [Exit.inBlock, Exit.then])
           first | refine bodyPost_end (results_none rfl _ _ _) rfl ?_ | refine bodyPost_ret (results_none rfl _ _ _) rfl ?_
           first | exact ⟨_, _, rfl, Kd.R_mono HO272.out (fun _ _ => trivial), HB.out, rfl⟩ | exact ⟨rfl, _, _, Kd.R_mono HO272.out (fun _ _ => trivial), HB.out, rfl⟩
          rw [if_neg c46] at H
          exact absurd H (by simp)
         rw [if_neg c45] at H
         exact absurd H (by simp)
        rw [if_neg c44] at H
        exact absurd H (by simp)
       rw [if_neg c16] at H
       exact absurd H (by simp)
      rw [if_neg c15] at H
      have c15b0 : decide (0 < (y234.length : Int)) = false := decide_eq_false c15
      have c15b1 : decide (0 < y234.length) = false := decide_eq_false (by omega)
      clear c15
      have c64b0 := eq_true (of_decide_eq_true qa_ : 0 ≤ x4_2)
      have c65b0 := eq_true (of_decide_eq_true qa_ : x4_2 ≤ (l0_0.length : Int))
      obtain ⟨y273, hy273⟩ : ∃ y_ : List (S99), y_ = (l0_0.take (x4_2 : Int).toNat) := ⟨_, rfl⟩
      replace H : (if ([] : List (S99)).length + y273.length < 3518437208883 then ((some (([] : List (S99)) ++ y273 : List (S99))).bind fun y277 => ((some (([(⟨a1_0, a1_1, a1_2⟩ : S99)] : List (S99)) : List (S99))).bind fun y280 => (if y277.length + y280.length < 3518437208883 then ((some (y277 ++ y280 : List (S99))).bind fun y283 => (if y283.length + y234.length < 3518437208883 then (some (y283 ++ y234)) else (none))) else (none)))) else (none)) = some r := by first | (rw [hy273]; with_reducible exact H) | (have H2_ := (Option.bind_some _ _).symm.trans H; rw [hy273]; with_reducible exact H2_) | (have H2_ := (Option.bind_some _ _).symm.trans H; with_reducible exact H2_) | with_reducible exact H | (rw [hy273]; exact H) | exact H
      have Ny273 := am_ hy273
      clear hy273
      by_cases c66 : ([] : List (S99)).length + y273.length < 3518437208883
      ·rw [if_pos c66] at H
       have LMc66 := am_ c66
       clear c66
       obtain ⟨y277, hy277⟩ : ∃ y_ : List (S99), y_ = (([] : List (S99)) ++ y273) := ⟨_, rfl⟩
       replace H : ((some (([(⟨a1_0, a1_1, a1_2⟩ : S99)] : List (S99)) : List (S99))).bind fun y280 => (if y277.length + y280.length < 3518437208883 then ((some (y277 ++ y280 : List (S99))).bind fun y283 => (if y283.length + y234.length < 3518437208883 then (some (y283 ++ y234)) else (none))) else (none))) = some r := by first | (rw [hy277]; with_reducible exact H) | (have H2_ := (Option.bind_some _ _).symm.trans H; rw [hy277]; with_reducible exact H2_) | (have H2_ := (Option.bind_some _ _).symm.trans H; with_reducible exact H2_) | with_reducible exact H | (rw [hy277]; exact H) | exact H
       have Ny277 := am_ hy277
       clear hy277
       obtain ⟨y280, hy280⟩ : ∃ y_ : List (S99), y_ = (([(⟨a1_0, a1_1, a1_2⟩ : S99)] : List (S99))) := ⟨_, rfl⟩
       replace H : (if y277.length + y280.length < 3518437208883 then ((some (y277 ++ y280 : List (S99))).bind fun y283 => (if y283.length + y234.length < 3518437208883 then (some (y283 ++ y234)) else (none))) else (none)) = some r := by first | (rw [hy280]; with_reducible exact H) | (have H2_ := (Option.bind_some _ _).symm.trans H; rw [hy280]; with_reducible exact H2_) | (have H2_ := (Option.bind_some _ _).symm.trans H; with_reducible exact H2_) | with_reducible exact H | (rw [hy280]; exact H) | exact H
       have Ny280 := am_ hy280
       clear hy280
       by_cases c67 : y277.length + y280.length < 3518437208883
       ·rw [if_pos c67] at H
        have LMc67 := am_ c67
        clear c67
        obtain ⟨y283, hy283⟩ : ∃ y_ : List (S99), y_ = (y277 ++ y280) := ⟨_, rfl⟩
        replace H : (if y283.length + y234.length < 3518437208883 then (some (y283 ++ y234)) else (none)) = some r := by first | (rw [hy283]; with_reducible exact H) | (have H2_ := (Option.bind_some _ _).symm.trans H; rw [hy283]; with_reducible exact H2_) | (have H2_ := (Option.bind_some _ _).symm.trans H; with_reducible exact H2_) | with_reducible exact H | (rw [hy283]; exact H) | exact H
        have Ny283 := am_ hy283
        clear hy283
        by_cases c68 : y283.length + y234.length < 3518437208883
        ·rw [if_pos c68] at H
         have LMc68 := am_ c68
         clear c68
         obtain ⟨y286, hy286⟩ : ∃ y_ : List (S99), y_ = (y283 ++ y234) := ⟨_, rfl⟩
         replace H : (some y286) = some r := by first | (rw [hy286]; with_reducible exact H) | (have H2_ := (Option.bind_some _ _).symm.trans H; rw [hy286]; with_reducible exact H2_) | (have H2_ := (Option.bind_some _ _).symm.trans H; with_reducible exact H2_) | with_reducible exact H | (rw [hy286]; exact H) | exact H
         have Ny286 := am_ hy286
         clear hy286
         obtain rfl := Option.some.inj H
         obtain ⟨hnb69, hnc69⟩ := nn_ NB227_228
         obtain ⟨hcz70_0, hfz70_0⟩ := bc1_ BK227
         have q71 : (x4_2 : Int) ≤ ((l0_0.length : Int) : Int) := of_decide_eq_true qa_
         obtain ⟨i071, hi071, _, hsz71, _⟩ := info_parts info99
         have hroom71 : l0_0.length ≤ c0_0 := HC0_0.out
         have hC71 : Kd.C k99 _ A0_0 l0_0.length l0_0 := HR0_0.out
         have q071 : (0 : Int) ≤ (x4_2 : Int) := of_decide_eq_true qa_
         have hcut71 := cut_from (P := Try.prog) 42 99 .i64 Try.underlying42 hi071 3 hsz71 A0_0 l0_0.length c0_0 x4_2 q071 q71
         have hr71 := Kd.C_drop (m := (x4_2 : Int).toNat) (c := c0_0) hC71 (by omega) hroom71
         obtain ⟨A71, hA71⟩ : ∃ A1, A1 = (if c0_0 = (x4_2 : Int).toNat then A0_0 else (A0_0 : Option Addr).map (·.add ((x4_2 : Int).toNat * 3))) := ⟨_, rfl⟩
         obtain ⟨c71, hc71⟩ : ∃ c1, c1 = c0_0 - (x4_2 : Int).toNat := ⟨_, rfl⟩
         have hy71 : y230.length = l0_0.length - (x4_2 : Int).toNat := (by rw [Ny230.out, List.length_drop] <;> omega)
         rw [show (l0_0).drop (x4_2 : Int).toNat = y230 from Ny230.out.symm] at hr71
         replace hr71 : Kd.C k99 _ A71 y230.length y230 := (by rw [hA71]; exact hr71)
         rw [← hy71, ← hA71, ← hc71] at hcut71
         have HR233 := am_ hr71
         have HC233 := am_ (show y230.length ≤ c71 from by rw [hy71, hc71]; exact Nat.sub_le_sub_right hroom71 _)
         clear hr71 hC71 hroom71 hi071 hsz71 hc71
         have KY71 := am_ hy71
         have KA71 := am_ hA71
         clear hy71 hA71; replace q71 := eq_true q71
         try go_wp2_with (first | ((with_reducible refine gate_builtin (b := .append) (xs := #[.const (.slice none 0 0), .tmp 33]) rfl ?_); at_builtin; refine Kd.R_append_rows k99 (w0 := w) w.heap.size rfl (.const (.slice none 0 0)) (.tmp 33) 42 99 (.agg #[(.string ⟨#[]⟩), (.string ⟨#[]⟩), (.int .i64 0)]) 40 rfl Try.underlying42 info99 rfl (by decide) (by omega) (.slice none 0 0) ([] : List (S99)) y230 _ _ _ (fun k_ => k_ ≠ gb228) (fun _ => False) rfl rfl ?aO ?aR (fun _ _ h => h) (fun _ h => h.elim) ?aF ?aB ?aS ?aL ?_; (case aR => repeat (first | exact (Kd.C_below HR233.out HB.out) | (with_reducible refine Kd.C_alloc ?_ _) | (with_reducible refine Kd.C_drewN ?_ _) | (with_reducible refine Kd.C_drew ?_))); (case aB => exact qB_); (case aF => exact (fun k_ hk => Kd.freshB (qk_ BK228) k_ hk)); (case aO => exact ((Kd.R_nil _ _ _ _ (fun k_ => k_ ≠ gb228)))); (case aS => exact (below_size qB_)); (case aL => have := LMc14.out; omega); intro v235 w72 ho hb hg hat; rw [← Ny234.out] at ho; have HO236 := am_ (ho); replace BK227 := am_ (blk_grown (qk_ BK227) hg (by simp [Value.ownBlock])); replace BK228 := am_ (blk_grown (qk_ BK228) hg (by simp [Value.ownBlock])); replace HB := am_ (hb); clear ho hb hg hat))
         replace HO236 := am_ (Kd.R_drew HO236.out); replace BK227 := am_ (blk_drew BK227.out); replace BK228 := am_ (blk_drew BK228.out); replace HB := am_ (below_drew1 HB.out)
         obtain ⟨Ao74, co74, eo74⟩ := Kd.R_slice HO236.out
         (first | subst eo74 | (injection eo74 with f1_ f2_ f3_; have f4_ := f1_.symm; have f5_ := f3_.symm; clear f1_ f2_ f3_; subst f4_; subst f5_))
         refine start_ (n := 12) (S := fun w' => True) (ds := []) (bm 12 0) (by kernel_rfl) rfl (by kernel_rfl) trivial (fun hHeld => ?_); refine with_tabW impl_Disk_put.tab5 impl_Disk_put.bits5 (fun HT_ HW_ => ?_)
         generalize w72.drew = w73 at HO236 BK227 BK228 HB hHeld ⊢
         refine pz_ 0 35 (bm 12 1) ?_; refine pz_ 1 36 (bm 12 3) ?_; refine pz_ 2 37 (bm 12 7) ?_; refine pz_ 3 38 (bm 12 15) ?_
         refine pu_ 4 39 (bm 12 31) ?_
         refine pu_ 5 40 (bm 12 63) ?_
         refine pu_ 6 41 (bm 12 127) ?_
         refine pu_ 7 42 (bm 12 255) ?_
         refine pu_ 8 43 (bm 12 511) ?_
         refine pu_ 9 44 (bm 12 1023) ?_
         refine pu_ 10 45 (bm 12 2047) ?_
         refine pz_ 11 46 (bm 12 4095) ?_
         refine done_ (done_of HT_.out (by kernel_rfl)) ?_
         try go_wp2
         replace HO236 := am_ (Kd.R_drew HO236.out); replace BK227 := am_ (blk_drew BK227.out); replace BK228 := am_ (blk_drew BK228.out); replace HB := am_ (below_drew1 HB.out)
         have q76 : (x4_2 : Int) ≤ ((l0_0.length : Int) : Int) := of_decide_eq_true qa_
         obtain ⟨i076, hi076, _, hsz76, _⟩ := info_parts info99
         have hroom76 : l0_0.length ≤ c0_0 := HC0_0.out
         have hC76 : Kd.C k99 _ A0_0 l0_0.length l0_0 := HR0_0.out
         have hcut76 := cut_to (P := Try.prog) 42 99 .i64 Try.underlying42 hi076 A0_0 l0_0.length c0_0 x4_2 (of_decide_eq_true qa_) q76 hroom76
         have hr76 := Kd.C_take (m := (x4_2 : Int).toNat) hC76 (by omega)
         have hy76 : y273.length = (x4_2 : Int).toNat := (by rw [Ny273.out, List.length_take]; omega)
         rw [← Ny273.out] at hr76
         rw [← hy76] at hcut76
         have HR276 := am_ hr76
         have HC276 := am_ (show y273.length ≤ c0_0 from by omega)
         clear hr76 hC76 hroom76 hi076 hsz76
         have KY76 := am_ hy76
         clear hy76; replace q76 := eq_true q76
         refine start_ (n := 16) (S := fun w' => w'.cell? ⟨gb227, 0, none⟩ = some (.slice A0_0 l0_0.length c0_0) ∧ w'.cell? ⟨gb228, 0, none⟩ = some (.string a1_0) ∧ w'.cell? ⟨gb228, 1, none⟩ = some (.string a1_1) ∧ w'.cell? ⟨gb228, 2, none⟩ = some (.int .i64 a1_2)) (ds := [15]) (bm 16 0) (by kernel_rfl) rfl (by kernel_rfl) ⟨bl_ BK227 0, bl_ BK228 0, bl_ BK228 1, bl_ BK228 2⟩ (fun hHeld => ?_); refine with_tabW impl_Disk_put.tab7 impl_Disk_put.bits7 (fun HT_ HW_ => ?_)
         generalize w73.drew = w75 at HO236 BK227 BK228 HB HR276 hHeld ⊢
         refine pz_ 0 49 (bm 16 1) ?_; refine pz_ 1 50 (bm 16 3) ?_; refine pz_ 2 51 (bm 16 7) ?_; refine pz_ 3 52 (bm 16 15) ?_; refine pz_ 5 54 (bm 16 47) ?_; refine pz_ 11 60 (bm 16 2095) ?_; refine tz4_ 4 53 (bm 16 2111) ?_; refine pz_ 6 55 (bm 16 2175) ?_; refine tz4_ 8 57 (bm 16 2431) ?_
         refine join_ (σ := Value × Value) 5 #[true, true, true, true, true, true, true, true, true, true, false, true, false, false, false, false] (fun s_ => [(56, s_.1), (58, s_.2)]) (fun s_ w' => (w'.cell? ⟨gb227, 0, none⟩ = some (.slice A0_0 l0_0.length c0_0) ∧ w'.cell? ⟨gb228, 0, none⟩ = some (.string a1_0) ∧ w'.cell? ⟨gb228, 1, none⟩ = some (.string a1_1) ∧ w'.cell? ⟨gb228, 2, none⟩ = some (.int .i64 a1_2)) ∧ (Kd.R k99 99 w' w.heap.size (fun k_ => some k_ ≠ (s_.1 : Value).ownBlock ∧ some k_ ≠ (s_.2 : Value).ownBlock ∧ k_ ≠ gb228) (.slice Ao74 y234.length co74) y234) ∧ (Kd.R k99 99 w' w.heap.size (fun k_ => some k_ ≠ (.slice Ao74 y234.length co74 : Value).ownBlock ∧ some k_ ≠ (s_.2 : Value).ownBlock ∧ k_ ≠ gb228) s_.1 y277) ∧ (Kd.R k99 99 w' w.heap.size (fun k_ => some k_ ≠ (.slice Ao74 y234.length co74 : Value).ownBlock ∧ some k_ ≠ (s_.1 : Value).ownBlock ∧ k_ ≠ gb228) s_.2 y280) ∧ (w'.heap[gb227]? = some (.cells #[.slice A0_0 l0_0.length c0_0] 44 (0, 0))) ∧ (w'.heap[gb228]? = some (.cells #[.string a1_0, .string a1_1, .int .i64 a1_2] 99 (0, 0))) ∧ (Below w.heap.size w w')) ?_ ?_
         rotate_left
         ·intro hCont
          refine two_ (i := 7) (j := 9) (Ni := some 56) (Nj := some 58) (bm 16 2559) #[true, true, true, true, true, true, true, false, true, true, false, true, false, false, false, false] rfl rfl rfl rfl (two_of HT_.out (by kernel_rfl)) (by decide) (by decide) (fun K hK => ?_) (fun K hK => ?_)
          ·skip
           refine Kd.R_append_rows_step k99 (w0 := w) w.heap.size rfl (.const (.slice none 0 0)) (.tmp 55) 42 99 (.agg #[(.string ⟨#[]⟩), (.string ⟨#[]⟩), (.int .i64 0)]) 40 rfl Try.underlying42 info99 rfl (by decide) (by omega) (.slice none 0 0) ([] : List (S99)) y273 _ _ _ (fun k_ => some k_ ≠ (.slice Ao74 y234.length co74 : Value).ownBlock ∧ k_ ≠ gb228) (fun _ => False) rfl rfl ?aO ?aR (fun _ _ h => h) (fun _ h => h.elim) ?aF ?aB ?aS ?aL ?_
           (case aR => repeat (first | exact (Kd.C_below HR276.out HB.out) | (with_reducible refine Kd.C_alloc ?_ _) | (with_reducible refine Kd.C_drewN ?_ _) | (with_reducible refine Kd.C_drew ?_)))
           (case aB => exact qB_)
           (case aF => exact (fun k_ hk => ⟨Kd.fresh' (Kd.R_lt (qR_ HO236)) k_ hk, Kd.freshB (qk_ BK228) k_ hk⟩))
           (case aO => exact ((Kd.R_nil _ _ _ _ (fun k_ => some k_ ≠ (.slice Ao74 y234.length co74 : Value).ownBlock ∧ k_ ≠ gb228))))
           (case aS => exact (below_size qB_))
           (case aL => have := LMc66.out; omega)
           intro v278 w77 ho hb hg hat
           rw [← Ny277.out] at ho
           have HO279 := am_ (ho); replace BK227 := am_ (blk_grown (qk_ BK227) hg (by simp [Value.ownBlock])); replace BK228 := am_ (blk_grown (qk_ BK228) hg (by simp [Value.ownBlock])); replace HO236 := am_ (Kd.R_after (Kd.R_apart_nil (qR_ HO236)) hg hat); replace HB := am_ (hb); clear ho hb hg hat
           refine hK.out _ _ ⟨bl_ BK227 0, bl_ BK228 0, bl_ BK228 1, bl_ BK228 2⟩ (fun hHeld => ?_)
           clear hK K
           refine nm_ 56 ?_
           refine o1_ 9 (some 58) (bm 16 3071) (fun K hK => ?_)
           refine Kd.R_lit_step k99 _ 99 ?hg (N := 58) ?hd (xs := ([(⟨a1_0, a1_1, a1_2⟩ : S99)] : List (S99))) (inner := [.string a1_0, .string a1_1, .int .i64 a1_2]) (ok := fun _ => True) (okp := fun _ => True) ?hr ?hp (fun _ hk => hk) trivial (Below.refl _ _) (Nat.le_refl _) (by simp) ?_; (case hd => rfl); (case hg => rfl); (case hr => first | (go_simp; done) | (go_simp; rfl)); (case hp => exact (Reps.c3 (show Kd.M k99 _ _ _ (⟨a1_0, a1_1, a1_2⟩ : S99) [.string a1_0, .string a1_1, .int .i64 a1_2] from (k99_mkM _ _ _ (⟨a1_0, a1_1, a1_2⟩ : S99) )) (Reps.none _ _)))
           intro v281 w78 ho79 hb hg_ hnew_
           clear hg_ hnew_
           (first | rw [← Ny280.out] at ho79 | (simp only [Int.reduceToNat] at ho79; rw [← Ny280.out] at ho79))
           have HO282 := am_ (Kd.R_lower (Kd.R_newB (Kd.R_new' (Kd.R_new' ho79 (Kd.R_lt (qR_ HO236))) (Kd.R_lt (qR_ HO279))) (qk_ BK228)) (below_size qB_)); replace HO236 := am_ (Kd.R_elder' (qR_ HO236) (Kd.R_base ho79) hb); replace HO279 := am_ (Kd.R_elder' (qR_ HO279) (Kd.R_base ho79) hb); replace BK227 := qbl_ BK227 hb; replace BK228 := qbl_ BK228 hb; replace HB := am_ (below_step qB_ hb); clear hb ho79
           refine hK.out _ _ ⟨bl_ BK227 0, bl_ BK228 0, bl_ BK228 1, bl_ BK228 2⟩ (fun hHeld => ?_)
           clear hK K
           refine nm_ 58 ?_
           exact norm_ (by simp only [putAll, Act.put, sA_, sB_, sC_]) (hCont (v278, v281) _ ⟨hHeld, (by (with_reducible repeat (first | apply Kd.R_alloc | apply Kd.R_drewN | apply Kd.R_drew)); exact Kd.R_mono HO236.out (fun _ hk => ⟨hk.1.2, ⟨hk.2, hk.1.1⟩⟩)), (by (with_reducible repeat (first | apply Kd.R_alloc | apply Kd.R_drewN | apply Kd.R_drew)); exact Kd.R_mono HO279.out (fun _ hk => ⟨hk.1.1, ⟨hk.2, hk.1.2⟩⟩)), (by (with_reducible repeat (first | apply Kd.R_alloc | apply Kd.R_drewN | apply Kd.R_drew)); exact Kd.R_mono HO282.out (fun _ hk => ⟨hk.1.1.2, ⟨hk.1.2, hk.2⟩⟩)), (qk_ BK227), (qk_ BK228), qB_⟩)
          skip
          refine Kd.R_lit_step k99 _ 99 ?hg (N := 58) ?hd (xs := ([(⟨a1_0, a1_1, a1_2⟩ : S99)] : List (S99))) (inner := [.string a1_0, .string a1_1, .int .i64 a1_2]) (ok := fun _ => True) (okp := fun _ => True) ?hr ?hp (fun _ hk => hk) trivial (Below.refl _ _) (Nat.le_refl _) (by simp) ?_; (case hd => rfl); (case hg => rfl); (case hr => first | (go_simp; done) | (go_simp; rfl)); (case hp => exact (Reps.c3 (show Kd.M k99 _ _ _ (⟨a1_0, a1_1, a1_2⟩ : S99) [.string a1_0, .string a1_1, .int .i64 a1_2] from (k99_mkM _ _ _ (⟨a1_0, a1_1, a1_2⟩ : S99) )) (Reps.none _ _)))
          intro v281 w77 ho78 hb hg_ hnew_
          clear hg_ hnew_
          (first | rw [← Ny280.out] at ho78 | (simp only [Int.reduceToNat] at ho78; rw [← Ny280.out] at ho78))
          have HO282 := am_ (Kd.R_lower (Kd.R_newB (Kd.R_new' ho78 (Kd.R_lt (qR_ HO236))) (qk_ BK228)) (below_size qB_)); replace HO236 := am_ (Kd.R_elder' (qR_ HO236) (Kd.R_base ho78) hb); replace BK227 := qbl_ BK227 hb; replace BK228 := qbl_ BK228 hb; replace HB := am_ (below_step qB_ hb); clear hb ho78
          refine hK.out _ _ ⟨bl_ BK227 0, bl_ BK228 0, bl_ BK228 1, bl_ BK228 2⟩ (fun hHeld => ?_)
          clear hK K
          refine nm_ 58 ?_
          refine o1_ 7 (some 56) (bm 16 3071) (fun K hK => ?_)
          refine Kd.R_append_rows_step k99 (w0 := w) w.heap.size rfl (.const (.slice none 0 0)) (.tmp 55) 42 99 (.agg #[(.string ⟨#[]⟩), (.string ⟨#[]⟩), (.int .i64 0)]) 40 rfl Try.underlying42 info99 rfl (by decide) (by omega) (.slice none 0 0) ([] : List (S99)) y273 _ _ _ (fun k_ => some k_ ≠ (.slice Ao74 y234.length co74 : Value).ownBlock ∧ some k_ ≠ (v281 : Value).ownBlock ∧ k_ ≠ gb228) (fun _ => False) rfl rfl ?aO ?aR (fun _ _ h => h) (fun _ h => h.elim) ?aF ?aB ?aS ?aL ?_
          (case aR => repeat (first | exact (Kd.C_below HR276.out HB.out) | (with_reducible refine Kd.C_alloc ?_ _) | (with_reducible refine Kd.C_drewN ?_ _) | (with_reducible refine Kd.C_drew ?_)))
          (case aB => exact qB_)
          (case aF => exact (fun k_ hk => ⟨Kd.fresh' (Kd.R_lt (qR_ HO236)) k_ hk, Kd.fresh' (Kd.R_lt (qR_ HO282)) k_ hk, Kd.freshB (qk_ BK228) k_ hk⟩))
          (case aO => exact ((Kd.R_nil _ _ _ _ (fun k_ => some k_ ≠ (.slice Ao74 y234.length co74 : Value).ownBlock ∧ some k_ ≠ (v281 : Value).ownBlock ∧ k_ ≠ gb228))))
          (case aS => exact (below_size qB_))
          (case aL => have := LMc66.out; omega)
          intro v278 w79 ho hb hg hat
          rw [← Ny277.out] at ho
          have HO279 := am_ (ho); replace BK227 := am_ (blk_grown (qk_ BK227) hg (by simp [Value.ownBlock])); replace BK228 := am_ (blk_grown (qk_ BK228) hg (by simp [Value.ownBlock])); replace HO236 := am_ (Kd.R_after (Kd.R_apart_nil (qR_ HO236)) hg hat); replace HO282 := am_ (Kd.R_after (Kd.R_apart_nil (qR_ HO282)) hg hat); replace HB := am_ (hb); clear ho hb hg hat
          refine hK.out _ _ ⟨bl_ BK227 0, bl_ BK228 0, bl_ BK228 1, bl_ BK228 2⟩ (fun hHeld => ?_)
          clear hK K
          refine nm_ 56 ?_
          exact norm_ (by simp only [putAll, Act.put, sA_, sB_, sC_]) (hCont (v278, v281) _ ⟨hHeld, (by (with_reducible repeat (first | apply Kd.R_alloc | apply Kd.R_drewN | apply Kd.R_drew)); exact Kd.R_mono HO236.out (fun _ hk => ⟨hk.2, ⟨hk.1.2, hk.1.1⟩⟩)), (qR_ HO279), (by (with_reducible repeat (first | apply Kd.R_alloc | apply Kd.R_drewN | apply Kd.R_drew)); exact Kd.R_mono HO282.out (fun _ hk => ⟨hk.1.1.2, ⟨hk.2, hk.1.2⟩⟩)), (qk_ BK227), (qk_ BK228), qB_⟩)
         rintro ⟨v278, v281⟩ w80 ⟨hS_, h0_, h1_, h2_, h3_, h4_, h5_⟩
         have n0_ : Aside0 (Kd.R k99 99 w80 w.heap.size (fun k_ => some k_ ≠ (v278 : Value).ownBlock ∧ some k_ ≠ (v281 : Value).ownBlock ∧ k_ ≠ gb228) (.slice Ao74 y234.length co74) y234) := ⟨h0_⟩
         have n1_ : Aside0 (Kd.R k99 99 w80 w.heap.size (fun k_ => some k_ ≠ (.slice Ao74 y234.length co74 : Value).ownBlock ∧ some k_ ≠ (v281 : Value).ownBlock ∧ k_ ≠ gb228) v278 y277) := ⟨h1_⟩
         have n2_ : Aside0 (Kd.R k99 99 w80 w.heap.size (fun k_ => some k_ ≠ (.slice Ao74 y234.length co74 : Value).ownBlock ∧ some k_ ≠ (v278 : Value).ownBlock ∧ k_ ≠ gb228) v281 y280) := ⟨h2_⟩
         have n3_ : Aside0 (w80.heap[gb227]? = some (.cells #[.slice A0_0 l0_0.length c0_0] 44 (0, 0))) := ⟨h3_⟩
         have n4_ : Aside0 (w80.heap[gb228]? = some (.cells #[.string a1_0, .string a1_1, .int .i64 a1_2] 99 (0, 0))) := ⟨h4_⟩
         have n5_ : Aside0 (Below w.heap.size w w80) := ⟨h5_⟩
         clear HO236; clear BK227; clear BK228; clear HB; clear h0_ h1_ h2_ h3_ h4_ h5_; have HO236 := n0_; have HO279 := n1_; have HO282 := n2_; have BK227 := n3_; have BK228 := n4_; have HB := n5_; clear n0_ n1_ n2_ n3_ n4_ n5_
         have hHeld : w80.cell? ⟨gb227, 0, none⟩ = some (.slice A0_0 l0_0.length c0_0) ∧ w80.cell? ⟨gb228, 0, none⟩ = some (.string a1_0) ∧ w80.cell? ⟨gb228, 1, none⟩ = some (.string a1_1) ∧ w80.cell? ⟨gb228, 2, none⟩ = some (.int .i64 a1_2) := hS_
         obtain ⟨Ao82, co82, eo82⟩ := Kd.R_slice HO282.out
         (first | subst eo82 | (injection eo82 with f1_ f2_ f3_; have f4_ := f1_.symm; have f5_ := f3_.symm; clear f1_ f2_ f3_; subst f4_; subst f5_))
         refine norm_ (a' := ?_) ?_ ?_
         rotate_left
         ·simp only [putAll, Act.put, sA_, sB_, sC_]
          rfl
         refine o1_ 10 (some 59) (bm 16 4095) (fun K hK => ?_)
         refine Kd.R_append_rows_step k99 (w0 := w) w.heap.size (by rfl) (.tmp 56) (.tmp 58) 42 99 (.agg #[(.string ⟨#[]⟩), (.string ⟨#[]⟩), (.int .i64 0)]) 40 rfl Try.underlying42 info99 rfl (by decide) (by omega) v278 y277 y280 _ _ _ (fun k_ => some k_ ≠ (.slice Ao74 y234.length co74 : Value).ownBlock ∧ some k_ ≠ (.slice Ao82 y280.length co82 : Value).ownBlock ∧ k_ ≠ gb228) (fun _ => False) rfl rfl ?aO ?aR (fun _ _ h => h) (fun _ h => h.elim) ?aF ?aB ?aS ?aL ?_
         (case aR => repeat (first | exact (Kd.R_reads' HO282.out).2.2 | (with_reducible refine Kd.C_alloc ?_ _) | (with_reducible refine Kd.C_drewN ?_ _) | (with_reducible refine Kd.C_drew ?_)))
         (case aB => exact qB_)
         (case aF => exact (fun k_ hk => ⟨Kd.fresh' (Kd.R_lt (qR_ HO236)) k_ hk, Kd.fresh' (Kd.R_lt (qR_ HO282)) k_ hk, Kd.freshB (qk_ BK228) k_ hk⟩))
         (case aO => exact (qR_ HO279))
         (case aS => exact (below_size qB_))
         (case aL => have := LMc67.out; omega)
         intro v284 w81 ho hb hg hat
         rw [← Ny283.out] at ho
         have n0_ := am_ (blk_grown (qk_ BK227) hg (Kd.R_ne HO279.out BK227.out (by decide)))
         have n1_ := am_ (blk_grown (qk_ BK228) hg (Kd.R_away HO279.out (fun _ hk => hk.2.2)))
         have n2_ := am_ (Kd.R_after (ok := (fun k_ => some k_ ≠ (.slice Ao82 y280.length co82 : Value).ownBlock ∧ k_ ≠ gb228)) (by (with_reducible repeat (first | apply Kd.R_alloc | apply Kd.R_drewN | apply Kd.R_drew)); exact Kd.R_mono HO236.out (fun _ hk => ⟨⟨hk.2.1, hk.2.2⟩, hk.1⟩)) hg hat)
         have n3_ := am_ (Kd.R_after (ok := (fun k_ => some k_ ≠ (.slice Ao74 y234.length co74 : Value).ownBlock ∧ k_ ≠ gb228)) (by (with_reducible repeat (first | apply Kd.R_alloc | apply Kd.R_drewN | apply Kd.R_drew)); exact Kd.R_mono HO282.out (fun _ hk => ⟨⟨hk.1, hk.2.2⟩, hk.2.1⟩)) hg hat)
         have n4_ := am_ (hb)
         have n5_ := am_ (ho)
         clear BK227; clear BK228; clear HO236; clear HO282; clear HB; clear HO279; have BK227 := n0_; have BK228 := n1_; have HO236 := n2_; have HO282 := n3_; have HB := n4_; have HO285 := n5_; clear n0_ n1_ n2_ n3_ n4_ n5_; clear ho hb hg hat
         refine hK.out _ _ ⟨bl_ BK227 0, bl_ BK228 0, bl_ BK228 1, bl_ BK228 2⟩ (fun hHeld => ?_)
         clear hK K
         refine nm_ 59 ?_
         refine o1_ 12 (some 61) (bm 16 8191) (fun K hK => ?_)
         refine Kd.R_append_rows_step k99 (w0 := w) w.heap.size (by rfl) (.tmp 59) (.tmp 60) 42 99 (.agg #[(.string ⟨#[]⟩), (.string ⟨#[]⟩), (.int .i64 0)]) 40 rfl Try.underlying42 info99 rfl (by decide) (by omega) v284 y283 y234 _ _ _ (fun k_ => some k_ ≠ (.slice Ao74 y234.length co74 : Value).ownBlock ∧ some k_ ≠ (.slice Ao82 y280.length co82 : Value).ownBlock ∧ k_ ≠ gb228) (fun _ => False) rfl rfl ?aO ?aR (fun _ _ h => h) (fun _ h => h.elim) ?aF ?aB ?aS ?aL ?_
         (case aR => repeat (first | exact (Kd.R_reads' HO236.out).2.2 | (with_reducible refine Kd.C_alloc ?_ _) | (with_reducible refine Kd.C_drewN ?_ _) | (with_reducible refine Kd.C_drew ?_)))
         (case aB => exact qB_)
         (case aF => exact (fun k_ hk => ⟨Kd.fresh' (Kd.R_lt (qR_ HO236)) k_ hk, Kd.fresh' (Kd.R_lt (qR_ HO282)) k_ hk, Kd.freshB (qk_ BK228) k_ hk⟩))
         (case aO => exact (qR_ HO285))
         (case aS => exact (below_size qB_))
         (case aL => have := LMc68.out; omega)
         intro v287 w83 ho hb hg hat
         rw [← Ny286.out] at ho
         have HO288 := am_ (ho); replace BK227 := am_ (blk_grown (qk_ BK227) hg (Kd.R_ne HO285.out BK227.out (by decide))); replace BK228 := am_ (blk_grown (qk_ BK228) hg (Kd.R_away HO285.out (fun _ hk => hk.2.2))); replace HO236 := am_ (Kd.R_after (ok := (fun k_ => some k_ ≠ (.slice Ao82 y280.length co82 : Value).ownBlock ∧ k_ ≠ gb228)) (qR_ HO236) hg hat); replace HO282 := am_ (Kd.R_after (ok := (fun k_ => some k_ ≠ (.slice Ao74 y234.length co74 : Value).ownBlock ∧ k_ ≠ gb228)) (qR_ HO282) hg hat); replace HB := am_ (hb); clear HO285; clear ho hb hg hat
         obtain ⟨Ao84, co84, eo84⟩ := Kd.R_slice HO288.out
         (first | subst eo84 | (injection eo84 with f1_ f2_ f3_; have f4_ := f1_.symm; have f5_ := f3_.symm; clear f1_ f2_ f3_; subst f4_; subst f5_))
         refine hK.out _ _ ⟨bl_ BK227 0, bl_ BK228 0, bl_ BK228 1, bl_ BK228 2⟩ (fun hHeld => ?_)
         clear hK K
         refine nm_ 61 ?_
         refine pz_ 13 62 (bm 16 16383) ?_; refine pz_ 14 63 (bm 16 32767) ?_
         refine last_ (i := 15) (N := none) (bm 16 65535) rfl rfl (one_of HT_.out (by kernel_rfl)) (by decide) (fun K hK => ?_)
         have hs85 : w83.cell? ⟨gb227, 0, none⟩ = some (.slice A0_0 l0_0.length c0_0) := bl_ BK227 0
         have hfs85 := blk_frozen BK227.out 0
         have hns85_1 := NB228_227.out; have hms85_1 := NB227_228.out
         refine skip_ (w1 := ?_) (by rfl) rfl ?_ ?_
         rotate_left
         ·go_simp
          rfl
         refine hK.out _ _ ?_
         clear hK K
         refine done_ (done_of HT_.out (by kernel_rfl)) ?_
         try go_wp2
         (try simp only [Exit.inBlock, Exit.then])
         first | refine bodyPost_end (results_none rfl _ _ _) rfl ?_ | refine bodyPost_ret (results_none rfl _ _ _) rfl ?_
         first | exact ⟨_, _, rfl, Kd.R_mono HO288.out (fun _ _ => trivial), HB.out, rfl⟩ | exact ⟨rfl, _, _, Kd.R_mono HO288.out (fun _ _ => trivial), HB.out, rfl⟩
        rw [if_neg c68] at H
        exact absurd H (by simp)
       rw [if_neg c67] at H
       exact absurd H (by simp)
      rw [if_neg c66] at H
      exact absurd H (by simp)
     rw [if_neg c14] at H
     exact absurd H (by simp)
    rw [if_neg c13] at H
    exact absurd H (by simp)
   rw [if_neg c12] at H
   exact absurd H (by simp)



end Go.Proofs.Ytacnlodcbbhahaa.QFnExactCutActs
