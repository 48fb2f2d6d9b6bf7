import Derived.Test.YtbkklafkoegdpaaQFnExactWebAddx16
namespace Go.Proofs.Ytbkklafkoegdpaa.QFnExactWebAdd
open Go.RowKit Go.Proofs.YtbkklafkoegdpaaW.PrintWords Go.Proofs.YtbkklafkoegdpaaW.PrintLast Go.Proofs.YtbkklafkoegdpaaW.PrintMore
set_option maxHeartbeats 8000000
set_option maxRecDepth 100000
set_option linter.unusedVariables false
set_option linter.unusedSimpArgs false
def impl_withEdge.l0 : Nat → List (S43) → Int → Int → Int → Option ((List (S43)))
  | 0, _, _, _, _ => none
  | k + 1, x0, x5, x494000, x494001 => if x5 < (x0.length : Int) then (if 0 ≤ x5 then ((impl_ahead.f ((rd_T43 x0 x5).f0) ((rd_T43 x0 x5).f1) x494000 x494001).bind fun t495 => (if t495 = true then (impl_withEdge.l0 k x0 (wrap64 (x5 + 1)) x494000 x494001) else (if x5 ≤ (x0.length : Int) then ((some (x0.take (x5 : Int).toNat : List (S43))).bind fun y496 => (if ([] : List (S43)).length + y496.length < 8796093022208 then ((some (([] : List (S43)) ++ y496 : List (S43))).bind fun y500 => ((some (([(⟨x494000, x494001⟩ : S43)] : List (S43)) : List (S43))).bind fun y503 => (if y500.length + y503.length < 8796093022208 then ((some (y500 ++ y503 : List (S43))).bind fun y506 => ((some (x0.drop (x5 : Int).toNat : List (S43))).bind fun y509 => (if y506.length + y509.length < 8796093022208 then (some (y506 ++ y509)) else (none)))) else (none)))) else (none))) else (none)))) else (none)) else (if 0 ≤ x5 then (if x5 ≤ (x0.length : Int) then ((some (x0.take (x5 : Int).toNat : List (S43))).bind fun y516 => (if ([] : List (S43)).length + y516.length < 8796093022208 then ((some (([] : List (S43)) ++ y516 : List (S43))).bind fun y520 => ((some (([(⟨x494000, x494001⟩ : S43)] : List (S43)) : List (S43))).bind fun y523 => (if y520.length + y523.length < 8796093022208 then ((some (y520 ++ y523 : List (S43))).bind fun y526 => ((some (x0.drop (x5 : Int).toNat : List (S43))).bind fun y529 => (if y526.length + y529.length < 8796093022208 then (some (y526 ++ y529)) else (none)))) else (none)))) else (none))) else (none)) else (none))
def impl_withEdge.f (k : Nat) (l0 : List (S43)) (a1_0 : Int) (a1_1 : Int) : Option ((List (S43))) := impl_withEdge.l0 k l0 0 a1_0 a1_1
theorem impl_withEdge.mono_l : ∀ k, (∀ y0 y1 y2 y3, LeO (impl_withEdge.l0 k y0 y1 y2 y3) (impl_withEdge.l0 (k + 1) y0 y1 y2 y3))
  | 0 => fun _ _ _ _ r h => by simp [impl_withEdge.l0] at h
  | k + 1 => by
    have ih0 := impl_withEdge.mono_l k
    · intro y0 y1 y2 y3
      unfold impl_withEdge.l0
      exact lo_
theorem impl_withEdge.mono : ∀ a0 a1 a2 k, LeO (impl_withEdge.f k a0 a1 a2) (impl_withEdge.f (k + 1) a0 a1 a2) := by
  intro a0 a1 a2 k
  have ih0 := impl_withEdge.mono_l k
  unfold impl_withEdge.f
  exact lo_
def impl_withEdge.T2 : Bool × List (List Nat × List Nat) := (true, [([], []), ([], []), ([1], [1]), ([0, 2], [0, 2]), ([3], [3]), ([4], [4]), ([4], [4]), ([5, 6, 4], [4, 5, 6]), ([7, 4], [4, 7]), ([4], [4]), ([8, 9, 4, 4], [4, 8, 9]), ([4, 10], [4, 10])])
def impl_withEdge.B2 : List Nat := [0, 0, 2, 7, 15, 31, 31, 127, 255, 31, 1023, 2047]
theorem impl_withEdge.tab2 : rtab .any (opsOf Try.f128 2) = impl_withEdge.T2 := by kernel_rfl
theorem impl_withEdge.bits2 : waitsOk impl_withEdge.T2.2 impl_withEdge.B2 = true := by kernel_rfl
def impl_withEdge.T4 : Bool × List (List Nat × List Nat) := (true, [([], []), ([], []), ([0, 1], [0, 1]), ([2], [2]), ([], []), ([4], [4]), ([3, 5, 3], [3, 5]), ([], []), ([], []), ([7, 8], [7, 8]), ([6, 9, 6], [6, 9]), ([10, 10, 0, 1, 2, 3, 4, 5, 6, 7, 8, 9, 10], [10])])
def impl_withEdge.B4 : List Nat := [0, 0, 3, 7, 0, 16, 63, 0, 0, 384, 1023, 2047]
theorem impl_withEdge.tab4 : rtab .any (opsOf Try.f128 4) = impl_withEdge.T4 := by kernel_rfl
theorem impl_withEdge.bits4 : waitsOk impl_withEdge.T4.2 impl_withEdge.B4 = true := by kernel_rfl
theorem impl_withEdge.calls (k : Nat) (A0 : Option Addr) (c0 : Nat) (l0 : List (S43)) (a1_0 : Int) (a1_1 : Int) (r : List (S43)) (w : World) (hr0 : Kd.C k43 w A0 l0.length l0) (hc0 : l0.length ≤ c0) (h : impl_withEdge.f k l0 a1_0 a1_1 = some r) :
  Calls Try.prog 128 #[.slice A0 l0.length c0, .agg #[.int .i64 a1_0, .int .i64 a1_1]] w fun e w' => ∃ v0_ : Value, e = .returned (v0_) ∧ Kd.R k43 43 w' w.heap.size (fun _ => True) v0_ r ∧ Below w.heap.size w w' := by
 have hu43 := Try.underlying43
 have d6 := am_ hr0
 have e6 := am_ hc0
 clear hr0 hc0
 have HB := am_ (Below.refl w.heap.size w)
 rw [impl_withEdge.f] at h; have H := h; clear h; have H' := am_ H; clear H
 go_enter Try.func128, Try.ntmps128
 go_wp2_with (first | ((with_reducible refine gd_ 3 ?_); refine by_ 3 (cs := #[.int .i64 a1_0, .int .i64 a1_1]) (t := 43) ?_; intro a1 hg w3 a0 hb; have d7 := gw_ hg; replace HB := hs_ hb; clear hb hg))
 go_loopg [5] k (fun kq v5 w' => ∃ (x5_1 : Int), v5 = .int .i64 x5_1 ∧ Aside0 (impl_withEdge.l0 kq l0 x5_1 a1_0 a1_1 = some r) ∧ Aside0 (kq ≤ k) ∧ Aside0 (w'.heap[a1]? = some (.cells #[.int .i64 a1_0, .int .i64 a1_1] 43 (0, 0))) ∧ Aside0 (Below w.heap.size w w'))
 case atStart => exact ⟨(0), qe_, H', ⟨Nat.le_refl _⟩, ⟨qk_ a0⟩, ⟨qB_⟩⟩
 case round =>
  clear H'
  (try clear c1); (try clear p2)
  obtain ⟨x5_1, rfl, HA, HK1, a0, HB⟩ := hrel
  cases gk with
  | zero => exact absurd HA.out (by simp [impl_withEdge.l0])
  | succ k1 =>
   have H := HA.out; clear HA
   simp only [impl_withEdge.l0] at H
   refine ib_ H ?_ ?_ <;> clear H <;> intro c4b0 H
   ·refine jg_ H ?_; clear H; intro c29 H
    have c29b0 := eq_true c29
    have c29b1 := decide_eq_true c29
    clear c29
    refine jg_ H ?_; clear H; intro c30 H
    have c30b0 := eq_true c30
    have c30b1 := decide_eq_true c30
    clear c30
    obtain ⟨b8, hy516⟩ : ∃ y_ : List (S43), y_ = (l0.take (x5_1 : Int).toNat) := ⟨_, rfl⟩
    replace H : (if ([] : List (S43)).length + b8.length < 8796093022208 then ((some (([] : List (S43)) ++ b8 : List (S43))).bind fun b6 => ((some (([(⟨a1_0, a1_1⟩ : S43)] : List (S43)) : List (S43))).bind fun b2 => (if b6.length + b2.length < 8796093022208 then ((some (b6 ++ b2 : List (S43))).bind fun a8 => ((some (l0.drop (x5_1 : Int).toNat : List (S43))).bind fun a6 => (if a8.length + a6.length < 8796093022208 then (some (a8 ++ a6)) else (none)))) else (none)))) else (none)) = some r := hq_ hy516 H
    have Ny516 := am_ hy516
    clear hy516
    refine jg_ H ?_; clear H; intro c31 H
    have LMc31 := am_ c31
    clear c31
    obtain ⟨b6, hy520⟩ : ∃ y_ : List (S43), y_ = (([] : List (S43)) ++ b8) := ⟨_, rfl⟩
    replace H : ((some (([(⟨a1_0, a1_1⟩ : S43)] : List (S43)) : List (S43))).bind fun b2 => (if b6.length + b2.length < 8796093022208 then ((some (b6 ++ b2 : List (S43))).bind fun a8 => ((some (l0.drop (x5_1 : Int).toNat : List (S43))).bind fun a6 => (if a8.length + a6.length < 8796093022208 then (some (a8 ++ a6)) else (none)))) else (none))) = some r := hq_ hy520 H
    have Ny520 := am_ hy520
    clear hy520
    obtain ⟨b2, hy523⟩ : ∃ y_ : List (S43), y_ = (([(⟨a1_0, a1_1⟩ : S43)] : List (S43))) := ⟨_, rfl⟩
    replace H : (if b6.length + b2.length < 8796093022208 then ((some (b6 ++ b2 : List (S43))).bind fun a8 => ((some (l0.drop (x5_1 : Int).toNat : List (S43))).bind fun a6 => (if a8.length + a6.length < 8796093022208 then (some (a8 ++ a6)) else (none)))) else (none)) = some r := hq_ hy523 H
    have Ny523 := am_ hy523
    clear hy523
    refine jg_ H ?_; clear H; intro c32 H
    have LMc32 := am_ c32
    clear c32
    obtain ⟨a8, hy526⟩ : ∃ y_ : List (S43), y_ = (b6 ++ b2) := ⟨_, rfl⟩
    replace H : ((some (l0.drop (x5_1 : Int).toNat : List (S43))).bind fun a6 => (if a8.length + a6.length < 8796093022208 then (some (a8 ++ a6)) else (none))) = some r := hq_ hy526 H
    have Ny526 := am_ hy526
    clear hy526
    have c33b0 := eq_true (of_decide_eq_true qa_ : 0 ≤ x5_1)
    have c34b0 := eq_true (of_decide_eq_true qa_ : x5_1 ≤ (l0.length : Int))
    obtain ⟨a6, hy529⟩ : ∃ y_ : List (S43), y_ = (l0.drop (x5_1 : Int).toNat) := ⟨_, rfl⟩
    replace H : (if a8.length + a6.length < 8796093022208 then (some (a8 ++ a6)) else (none)) = some r := hq_ hy529 H
    have Ny529 := am_ hy529
    clear hy529
    refine jg_ H ?_; clear H; intro c35 H
    have LMc35 := am_ c35
    clear c35
    obtain ⟨e7, hy533⟩ : ∃ y_ : List (S43), y_ = (a8 ++ a6) := ⟨_, rfl⟩
    replace H : (some e7) = some r := hq_ hy533 H
    have Ny533 := am_ hy533
    clear hy533
    obtain rfl := oi_ H
    try go_wp2
    replace a0 := am_ (blk_drew a0.out); replace HB := am_ (below_drew1 HB.out)
    refine start_ (n := 12) (S := fun w' => True) (ds := []) (bm 12 0) (by kernel_rfl) rfl (by kernel_rfl) trivial (fun hHeld => ?_); refine with_tabW impl_withEdge.tab2 impl_withEdge.bits2 (fun HT_ HW_ => ?_)
    generalize wr.drew = w36 at a0 HB hHeld ⊢
    refine pz_ 0 6 12 1 ?_; refine pz_ 1 7 12 3 ?_; refine pz_ 2 8 12 7 ?_; refine pz_ 3 9 12 15 ?_; refine pz_ 4 10 12 31 ?_
    refine pu_ 5 11 12 63 ?_
    refine pu_ 6 12 12 127 ?_
    refine pu_ 7 13 12 255 ?_
    refine pu_ 8 14 12 511 ?_
    refine pu_ 9 15 12 1023 ?_
    refine pu_ 10 16 12 2047 ?_
    refine pz_ 11 17 12 4095 ?_
    refine done_ (done_of HT_.out (by kernel_rfl)) ?_
    try go_wp2
    replace a0 := am_ (blk_drew a0.out); replace HB := am_ (below_drew1 HB.out)
    have q38 : (x5_1 : Int) ≤ ((l0.length : Int) : Int) := of_decide_eq_true qa_
    obtain ⟨i038, hi038, _, hsz38, _⟩ := info_parts info43
    have hroom38 : l0.length ≤ c0 := e6.out
    have hC38 : Kd.C k43 _ A0 l0.length l0 := d6.out
    have hcut38 := cut_to (P := Try.prog) 67 43 .i64 Try.underlying67 hi038 A0 l0.length c0 x5_1 (of_decide_eq_true qa_) q38 hroom38
    have hr38 := Kd.C_take (m := (x5_1 : Int).toNat) hC38 (by omega)
    have hy38 : b8.length = (x5_1 : Int).toNat := (by rw [Ny516.out, List.length_take]; omega)
    rw [← Ny516.out] at hr38
    rw [← hy38] at hcut38
    have d0 := am_ hr38
    have f5 := am_ (show b8.length ≤ c0 from by omega)
    clear hr38 hC38 hroom38 hi038 hsz38
    have KY38 := am_ hy38
    clear hy38; replace q38 := eq_true q38
    have q39 : (x5_1 : Int) ≤ ((l0.length : Int) : Int) := of_decide_eq_true qa_
    obtain ⟨i039, hi039, _, hsz39, _⟩ := info_parts info43
    have hroom39 : l0.length ≤ c0 := e6.out
    have hC39 : Kd.C k43 _ A0 l0.length l0 := d6.out
    have q039 : (0 : Int) ≤ (x5_1 : Int) := of_decide_eq_true qa_
    have hcut39 := cut_from (P := Try.prog) 67 43 .i64 Try.underlying67 hi039 2 hsz39 A0 l0.length c0 x5_1 q039 q39
    have hr39 := Kd.C_drop (m := (x5_1 : Int).toNat) (c := c0) hC39 (by omega) hroom39
    obtain ⟨A39, hA39⟩ : ∃ A1, A1 = (if c0 = (x5_1 : Int).toNat then A0 else (A0 : Option Addr).map (·.add ((x5_1 : Int).toNat * 2))) := ⟨_, rfl⟩
    obtain ⟨c39, hc39⟩ : ∃ c1, c1 = c0 - (x5_1 : Int).toNat := ⟨_, rfl⟩
    have hy39 : a6.length = l0.length - (x5_1 : Int).toNat := (by rw [Ny529.out, List.length_drop] <;> omega)
    rw [show (l0).drop (x5_1 : Int).toNat = a6 from Ny529.out.symm] at hr39
    replace hr39 : Kd.C k43 _ A39 a6.length a6 := (by rw [hA39]; exact hr39)
    rw [← hy39, ← hA39, ← hc39] at hcut39
    have d4 := am_ hr39
    have f6 := am_ (show a6.length ≤ c39 from by rw [hy39, hc39]; exact Nat.sub_le_sub_right hroom39 _)
    clear hr39 hC39 hroom39 hi039 hsz39 hc39
    have KY39 := am_ hy39
    have KA39 := am_ hA39
    clear hy39 hA39; replace q39 := eq_true q39
    refine start_ (n := 12) (S := fun w' => w'.cell? ⟨a1, 0, none⟩ = some (.int .i64 a1_0) ∧ w'.cell? ⟨a1, 1, none⟩ = some (.int .i64 a1_1)) (ds := []) (bm 12 0) (by kernel_rfl) rfl (by kernel_rfl) ⟨bl_ a0 0, bl_ a0 1⟩ (fun hHeld => ?_); refine with_tabW impl_withEdge.tab4 impl_withEdge.bits4 (fun HT_ HW_ => ?_)
    generalize w36.drew = w37 at a0 HB d0 d4 hHeld ⊢
    refine pz_ 0 20 12 1 ?_; refine pz_ 1 21 12 3 ?_; refine pz_ 2 22 12 7 ?_; refine pz_ 7 27 12 135 ?_; refine pz_ 8 28 12 391 ?_; refine pz_ 9 29 12 903 ?_; refine tz2_ 4 24 12 919 ?_
    refine join_ (σ := Value × Value) 3 #[true, true, true, true, true, true, false, true, true, true, false, false] (fun s_ => [(23, s_.1), (25, s_.2)]) (fun s_ w' => (w'.cell? ⟨a1, 0, none⟩ = some (.int .i64 a1_0) ∧ w'.cell? ⟨a1, 1, none⟩ = some (.int .i64 a1_1)) ∧ (Kd.R k43 43 w' w.heap.size (fun k_ => some k_ ≠ (s_.2 : Value).ownBlock ∧ k_ ≠ a1) s_.1 b6) ∧ (Kd.R k43 43 w' w.heap.size (fun k_ => some k_ ≠ (s_.1 : Value).ownBlock ∧ k_ ≠ a1) s_.2 b2) ∧ (w'.heap[a1]? = some (.cells #[.int .i64 a1_0, .int .i64 a1_1] 43 (0, 0))) ∧ (Below w.heap.size w w')) ?_ ?_
    rotate_left
    ·intro hCont
     refine two_ (i := 3) (j := 5) (Ni := some 23) (Nj := some 25) (bm 12 927) #[true, true, true, false, true, true, false, true, true, true, false, false] rfl rfl rfl rfl (two_of HT_.out (by kernel_rfl)) (by decide) (by decide) (fun K hK => ?_) (fun K hK => ?_)
     ·skip
      refine Kd.R_append_rows_step k43 (w0 := w) w.heap.size rfl (.const (.slice none 0 0)) (.tmp 22) 67 43 (.agg #[(.int .i64 0), (.int .i64 0)]) 16 rfl Try.underlying67 info43 rfl (by decide) (by omega) (.slice none 0 0) ([] : List (S43)) b8 _ _ _ (fun k_ => k_ ≠ a1) (fun _ => False) rfl rfl ?aO ?aR (fun _ _ h => h) (fun _ h => h.elim) ?aF ?aB ?aS ?aL ?_
      (case aR => repeat (first | exact (Kd.C_below d0.out HB.out) | (with_reducible refine Kd.C_alloc ?_ _) | (with_reducible refine Kd.C_drewN ?_ _) | (with_reducible refine Kd.C_drew ?_)))
      (case aB => exact qB_)
      (case aF => exact (fun k_ hk => Kd.freshB (qk_ a0) k_ hk))
      (case aO => exact ((Kd.R_nil _ _ _ _ (fun k_ => k_ ≠ a1))))
      (case aS => exact (below_size qB_))
      (case aL => have := LMc31.out; omega)
      intro c8 w40 ho hb hg hat
      rw [← Ny520.out] at ho
      have b0 := am_ (ho); replace a0 := am_ (blk_grown (qk_ a0) hg (by simp [Value.ownBlock])); replace HB := am_ (hb); clear ho hb hg hat
      refine hK.out _ _ ⟨bl_ a0 0, bl_ a0 1⟩ (fun hHeld => ?_)
      clear hK K
      refine nm_ 23 ?_
      refine o1_ 5 (some 25) 12 959 (fun K hK => ?_)
      refine Kd.R_lit_step k43 _ 43 ?hg (N := 25) ?hd (xs := ([(⟨a1_0, a1_1⟩ : S43)] : List (S43))) (inner := [.int .i64 a1_0, .int .i64 a1_1]) (ok := fun _ => True) (okp := fun _ => True) ?hr ?hp (fun _ hk => hk) trivial (Below.refl _ _) (Nat.le_refl _) (by simp) ?_; (case hd => rfl); (case hg => rfl); (case hr => first | (go_simp; done) | (go_simp; rfl)); (case hp => exact (Reps.c2 (show Kd.M k43 _ _ _ (⟨a1_0, a1_1⟩ : S43) [.int .i64 a1_0, .int .i64 a1_1] from (k43_mkM _ _ _ (⟨a1_0, a1_1⟩ : S43) )) (Reps.none _ _)))
      intro b9 w41 ho42 hb hg_ hnew_
      clear hg_ hnew_
      (first | rw [← Ny523.out] at ho42 | (simp only [Int.reduceToNat] at ho42; rw [← Ny523.out] at ho42))
      have a2 := am_ (Kd.R_lower (Kd.R_newB (Kd.R_new' ho42 (Kd.R_lt (qR_ b0))) (qk_ a0)) (below_size qB_)); replace b0 := ke_ b0 ho42 hb; replace a0 := qbl_ a0 hb; replace HB := hs_ hb; clear hb ho42
      refine hK.out _ _ ⟨bl_ a0 0, bl_ a0 1⟩ (fun hHeld => ?_)
      clear hK K
      refine nm_ 25 ?_
      exact norm_ (by simp only [putAll, Act.put, sA_, sB_, sC_]) (hCont (c8, b9) _ ⟨hHeld, (by (with_reducible repeat (first | apply Kd.R_alloc | apply Kd.R_drewN | apply Kd.R_drew)); exact Kd.R_mono b0.out (fun _ hk => ⟨hk.2, hk.1⟩)), (by (with_reducible repeat (first | apply Kd.R_alloc | apply Kd.R_drewN | apply Kd.R_drew)); exact Kd.R_mono a2.out (fun _ hk => ⟨hk.1.2, hk.2⟩)), (qk_ a0), qB_⟩)
     skip
     refine Kd.R_lit_step k43 _ 43 ?hg (N := 25) ?hd (xs := ([(⟨a1_0, a1_1⟩ : S43)] : List (S43))) (inner := [.int .i64 a1_0, .int .i64 a1_1]) (ok := fun _ => True) (okp := fun _ => True) ?hr ?hp (fun _ hk => hk) trivial (Below.refl _ _) (Nat.le_refl _) (by simp) ?_; (case hd => rfl); (case hg => rfl); (case hr => first | (go_simp; done) | (go_simp; rfl)); (case hp => exact (Reps.c2 (show Kd.M k43 _ _ _ (⟨a1_0, a1_1⟩ : S43) [.int .i64 a1_0, .int .i64 a1_1] from (k43_mkM _ _ _ (⟨a1_0, a1_1⟩ : S43) )) (Reps.none _ _)))
     intro b9 w40 ho41 hb hg_ hnew_
     clear hg_ hnew_
     (first | rw [← Ny523.out] at ho41 | (simp only [Int.reduceToNat] at ho41; rw [← Ny523.out] at ho41))
     have a2 := am_ (Kd.R_lower (Kd.R_newB ho41 (qk_ a0)) (below_size qB_)); replace a0 := qbl_ a0 hb; replace HB := hs_ hb; clear hb ho41
     refine hK.out _ _ ⟨bl_ a0 0, bl_ a0 1⟩ (fun hHeld => ?_)
     clear hK K
     refine nm_ 25 ?_
     refine o1_ 3 (some 23) 12 959 (fun K hK => ?_)
     refine Kd.R_append_rows_step k43 (w0 := w) w.heap.size rfl (.const (.slice none 0 0)) (.tmp 22) 67 43 (.agg #[(.int .i64 0), (.int .i64 0)]) 16 rfl Try.underlying67 info43 rfl (by decide) (by omega) (.slice none 0 0) ([] : List (S43)) b8 _ _ _ (fun k_ => some k_ ≠ (b9 : Value).ownBlock ∧ k_ ≠ a1) (fun _ => False) rfl rfl ?aO ?aR (fun _ _ h => h) (fun _ h => h.elim) ?aF ?aB ?aS ?aL ?_
     (case aR => repeat (first | exact (Kd.C_below d0.out HB.out) | (with_reducible refine Kd.C_alloc ?_ _) | (with_reducible refine Kd.C_drewN ?_ _) | (with_reducible refine Kd.C_drew ?_)))
     (case aB => exact qB_)
     (case aF => exact (fun k_ hk => ⟨Kd.fresh' (Kd.R_lt (qR_ a2)) k_ hk, Kd.freshB (qk_ a0) k_ hk⟩))
     (case aO => exact ((Kd.R_nil _ _ _ _ (fun k_ => some k_ ≠ (b9 : Value).ownBlock ∧ k_ ≠ a1))))
     (case aS => exact (below_size qB_))
     (case aL => have := LMc31.out; omega)
     intro c8 w42 ho hb hg hat
     rw [← Ny520.out] at ho
     have b0 := am_ (ho); replace a0 := am_ (blk_grown (qk_ a0) hg (by simp [Value.ownBlock])); replace a2 := am_ (Kd.R_after (Kd.R_apart_nil (qR_ a2)) hg hat); replace HB := am_ (hb); clear ho hb hg hat
     refine hK.out _ _ ⟨bl_ a0 0, bl_ a0 1⟩ (fun hHeld => ?_)
     clear hK K
     refine nm_ 23 ?_
     exact norm_ (by simp only [putAll, Act.put, sA_, sB_, sC_]) (hCont (c8, b9) _ ⟨hHeld, (qR_ b0), (by (with_reducible repeat (first | apply Kd.R_alloc | apply Kd.R_drewN | apply Kd.R_drew)); exact Kd.R_mono a2.out (fun _ hk => ⟨hk.2, hk.1.2⟩)), (qk_ a0), qB_⟩)
    rintro ⟨c8, b9⟩ w43 ⟨hS_, h0_, h1_, h2_, h3_⟩
    have n0_ : Aside0 (Kd.R k43 43 w43 w.heap.size (fun k_ => some k_ ≠ (b9 : Value).ownBlock ∧ k_ ≠ a1) c8 b6) := ⟨h0_⟩
    have n1_ : Aside0 (Kd.R k43 43 w43 w.heap.size (fun k_ => some k_ ≠ (c8 : Value).ownBlock ∧ k_ ≠ a1) b9 b2) := ⟨h1_⟩
    have n2_ : Aside0 (w43.heap[a1]? = some (.cells #[.int .i64 a1_0, .int .i64 a1_1] 43 (0, 0))) := ⟨h2_⟩
    have n3_ : Aside0 (Below w.heap.size w w43) := ⟨h3_⟩
    clear a0; clear HB; clear h0_ h1_ h2_ h3_; have b0 := n0_; have a2 := n1_; have a0 := n2_; have HB := n3_; clear n0_ n1_ n2_ n3_
    have hHeld : w43.cell? ⟨a1, 0, none⟩ = some (.int .i64 a1_0) ∧ w43.cell? ⟨a1, 1, none⟩ = some (.int .i64 a1_1) := hS_
    obtain ⟨d8, d9, e0⟩ := Kd.R_slice a2.out
    (first | subst e0 | (injection e0 with f1_ f2_ f3_; have f4_ := f1_.symm; have f5_ := f3_.symm; clear f1_ f2_ f3_; subst f4_; subst f5_))
    refine norm_ (a' := ?_) ?_ ?_
    rotate_left
    ·simp only [putAll, Act.put, sA_, sB_, sC_]
     rfl
    refine o1_ 6 (some 26) 12 1023 (fun K hK => ?_)
    refine Kd.R_append_rows_step k43 (w0 := w) w.heap.size (by rfl) (.tmp 23) (.tmp 25) 67 43 (.agg #[(.int .i64 0), (.int .i64 0)]) 16 rfl Try.underlying67 info43 rfl (by decide) (by omega) c8 b6 b2 _ _ _ (fun k_ => some k_ ≠ (.slice d8 b2.length d9 : Value).ownBlock ∧ k_ ≠ a1) (fun _ => False) rfl rfl ?aO ?aR (fun _ _ h => h) (fun _ h => h.elim) ?aF ?aB ?aS ?aL ?_
    (case aR => repeat (first | exact (Kd.R_reads' a2.out).2.2 | (with_reducible refine Kd.C_alloc ?_ _) | (with_reducible refine Kd.C_drewN ?_ _) | (with_reducible refine Kd.C_drew ?_)))
    (case aB => exact qB_)
    (case aF => exact (fun k_ hk => ⟨Kd.fresh' (Kd.R_lt (qR_ a2)) k_ hk, Kd.freshB (qk_ a0) k_ hk⟩))
    (case aO => exact (qR_ b0))
    (case aS => exact (below_size qB_))
    (case aL => have := LMc32.out; omega)
    intro e8 w44 ho hb hg hat
    rw [← Ny526.out] at ho
    have n0_ := am_ (blk_grown (qk_ a0) hg (Kd.R_away b0.out (fun _ hk => hk.2)))
    have n1_ := am_ (Kd.R_after (ok := (fun k_ => k_ ≠ a1)) (by (with_reducible repeat (first | apply Kd.R_alloc | apply Kd.R_drewN | apply Kd.R_drew)); exact Kd.R_mono a2.out (fun _ hk => ⟨hk.2, hk.1⟩)) hg hat)
    have n2_ := am_ (hb)
    have n3_ := am_ (ho)
    clear a0; clear a2; clear HB; clear b0; have a0 := n0_; have a2 := n1_; have HB := n2_; have d1 := n3_; clear n0_ n1_ n2_ n3_; clear ho hb hg hat
    refine hK.out _ _ ⟨bl_ a0 0, bl_ a0 1⟩ (fun hHeld => ?_)
    clear hK K
    refine nm_ 26 ?_
    refine o1_ 10 (some 30) 12 2047 (fun K hK => ?_)
    refine Kd.R_append_rows_step k43 (w0 := w) w.heap.size (by rfl) (.tmp 26) (.tmp 29) 67 43 (.agg #[(.int .i64 0), (.int .i64 0)]) 16 rfl Try.underlying67 info43 rfl (by decide) (by omega) e8 a8 a6 _ _ _ (fun k_ => some k_ ≠ (.slice d8 b2.length d9 : Value).ownBlock ∧ k_ ≠ a1) (fun _ => False) rfl rfl ?aO ?aR (fun _ _ h => h) (fun _ h => h.elim) ?aF ?aB ?aS ?aL ?_
    (case aR => repeat (first | exact (Kd.C_below d4.out HB.out) | (with_reducible refine Kd.C_alloc ?_ _) | (with_reducible refine Kd.C_drewN ?_ _) | (with_reducible refine Kd.C_drew ?_)))
    (case aB => exact qB_)
    (case aF => exact (fun k_ hk => ⟨Kd.fresh' (Kd.R_lt (qR_ a2)) k_ hk, Kd.freshB (qk_ a0) k_ hk⟩))
    (case aO => exact (qR_ d1))
    (case aS => exact (below_size qB_))
    (case aL => have := LMc35.out; omega)
    intro f9 w46 ho hb hg hat
    rw [← Ny533.out] at ho
    have e1 := am_ (ho); replace a0 := am_ (blk_grown (qk_ a0) hg (Kd.R_away d1.out (fun _ hk => hk.2))); replace a2 := am_ (Kd.R_after (ok := (fun k_ => k_ ≠ a1)) (qR_ a2) hg hat); replace HB := am_ (hb); clear d1; clear ho hb hg hat
    refine hK.out _ _ ⟨bl_ a0 0, bl_ a0 1⟩ (fun hHeld => ?_)
    clear hK K
    refine nm_ 30 ?_
    refine pz_ 11 4 12 4095 ?_
    refine done_ (done_of HT_.out (by kernel_rfl)) ?_
    try go_wp2
    go_ret
    exact ⟨_, qr_, by (with_reducible repeat (first | apply Kd.R_alloc | apply Kd.R_drewN | apply Kd.R_drew)); exact Kd.R_mono e1.out (fun _ hk => trivial), qB_⟩
   refine ig_ H ?_; clear H; intro c5b0 H
   obtain ⟨e9, A6, H⟩ := bs_ H
   refine ie_ H ?_ ?_ <;> clear H <;> rintro rfl H
   ·have H' := am_ H; clear H
    try go_wp2
    replace a0 := am_ (blk_drew a0.out); replace HB := am_ (below_drew1 HB.out)
    have p494 := dp_ x5_1
    have q494 := dl_ x5_1 l0.length
    obtain ⟨ad494, e494, a4, a5⟩ := at_T43 d6.out x5_1 p494 q494
    have b4 := a5; have b5 := a4; cases e494
    replace a4 := qx_ HB a4
    replace a5 := qx_ HB a5
    replace p494 := eq_true p494; replace q494 := eq_true q494
    refine start_ (n := 12) (S := fun w' => w'.cell? ⟨a1, 0, none⟩ = some (.int .i64 a1_0) ∧ w'.cell? ⟨a1, 1, none⟩ = some (.int .i64 a1_1) ∧ w'.cell? (ad494.add ((x5_1).toNat * 2)) = some (.int .i64 ((rd_T43 l0 x5_1).f0)) ∧ w'.cell? ⟨(ad494.add ((x5_1).toNat * 2)).block, (ad494.add ((x5_1).toNat * 2)).off + 1, none⟩ = some (.int .i64 ((rd_T43 l0 x5_1).f1))) (ds := []) (bm 12 0) (by kernel_rfl) rfl (by kernel_rfl) ⟨bl_ a0 0, bl_ a0 1, ((qx_ HB b5).trans rfl), ((qx_ HB b4).trans rfl)⟩ (fun hHeld => ?_); refine with_tabW impl_withEdge.tab2 impl_withEdge.bits2 (fun HT_ HW_ => ?_)
    generalize wr.drew = w8 at a0 HB a4 a5 hHeld ⊢
    refine pz_ 0 6 12 1 ?_; refine pz_ 1 7 12 3 ?_; refine pz_ 2 8 12 7 ?_; refine pz_ 3 9 12 15 ?_; refine pz_ 4 10 12 31 ?_; refine pz_ 5 11 12 63 ?_; refine pz_ 6 12 12 127 ?_; refine pz_ 7 13 12 255 ?_; refine tz4_ 8 14 12 511 ?_; refine tz4_ 9 15 12 1023 ?_
    refine o1_ 10 (some 16) 12 2047 (fun K hK => ?_)
    refine gs_ Try.func90 #[.agg #[.int .i64 ((rd_T43 l0 x5_1).f0), .int .i64 ((rd_T43 l0 x5_1).f1)], .agg #[.int .i64 a1_0, .int .i64 a1_1]] ?_
    with_reducible refine (impl_ahead.calls ((rd_T43 l0 x5_1).f0) ((rd_T43 l0 x5_1).f1) a1_0 a1_1 true _ A6.out).mono ?_
    rintro e w9 ⟨rfl, hb⟩
    refine ⟨_, rfl, ?_⟩
    replace a0 := qbl_ a0 hb; replace HB := hs_ hb; (try clear hb); (try clear hb2); (try clear hk); (try clear hi)
    refine hK.out _ _ ⟨bl_ a0 0, bl_ a0 1, ((qx_ HB b5).trans rfl), ((qx_ HB b4).trans rfl)⟩ (fun hHeld => ?_)
    clear hK K
    refine nm_ 16 ?_
    refine pz_ 11 17 12 4095 ?_
    refine done_ (done_of HT_.out (by kernel_rfl)) ?_
    try go_wp2
    go_roundg k1
    case measure => have := HK1.out; omega
    case rel => exact ⟨(wrap64 (x5_1 + 1)), qe_, H', ⟨by have := HK1.out; omega⟩, ⟨qk_ a0⟩, ⟨qB_⟩⟩
   have c10b0 := eq_true (of_decide_eq_true qa_ : 0 ≤ x5_1)
   refine jg_ H ?_; clear H; intro c11 H
   have c11b0 := eq_true c11
   have c11b1 := decide_eq_true c11
   clear c11
   obtain ⟨c3, hy496⟩ : ∃ y_ : List (S43), y_ = (l0.take (x5_1 : Int).toNat) := ⟨_, rfl⟩
   replace H : (if ([] : List (S43)).length + c3.length < 8796093022208 then ((some (([] : List (S43)) ++ c3 : List (S43))).bind fun b7 => ((some (([(⟨a1_0, a1_1⟩ : S43)] : List (S43)) : List (S43))).bind fun b3 => (if b7.length + b3.length < 8796093022208 then ((some (b7 ++ b3 : List (S43))).bind fun a9 => ((some (l0.drop (x5_1 : Int).toNat : List (S43))).bind fun a7 => (if a9.length + a7.length < 8796093022208 then (some (a9 ++ a7)) else (none)))) else (none)))) else (none)) = some r := hq_ hy496 H
   have Ny496 := am_ hy496
   clear hy496
   refine jg_ H ?_; clear H; intro c12 H
   have LMc12 := am_ c12
   clear c12
   obtain ⟨b7, hy500⟩ : ∃ y_ : List (S43), y_ = (([] : List (S43)) ++ c3) := ⟨_, rfl⟩
   replace H : ((some (([(⟨a1_0, a1_1⟩ : S43)] : List (S43)) : List (S43))).bind fun b3 => (if b7.length + b3.length < 8796093022208 then ((some (b7 ++ b3 : List (S43))).bind fun a9 => ((some (l0.drop (x5_1 : Int).toNat : List (S43))).bind fun a7 => (if a9.length + a7.length < 8796093022208 then (some (a9 ++ a7)) else (none)))) else (none))) = some r := hq_ hy500 H
   have Ny500 := am_ hy500
   clear hy500
   obtain ⟨b3, hy503⟩ : ∃ y_ : List (S43), y_ = (([(⟨a1_0, a1_1⟩ : S43)] : List (S43))) := ⟨_, rfl⟩
   replace H : (if b7.length + b3.length < 8796093022208 then ((some (b7 ++ b3 : List (S43))).bind fun a9 => ((some (l0.drop (x5_1 : Int).toNat : List (S43))).bind fun a7 => (if a9.length + a7.length < 8796093022208 then (some (a9 ++ a7)) else (none)))) else (none)) = some r := hq_ hy503 H
   have Ny503 := am_ hy503
   clear hy503
   refine jg_ H ?_; clear H; intro c13 H
   have LMc13 := am_ c13
   clear c13
   obtain ⟨a9, hy506⟩ : ∃ y_ : List (S43), y_ = (b7 ++ b3) := ⟨_, rfl⟩
   replace H : ((some (l0.drop (x5_1 : Int).toNat : List (S43))).bind fun a7 => (if a9.length + a7.length < 8796093022208 then (some (a9 ++ a7)) else (none))) = some r := hq_ hy506 H
   have Ny506 := am_ hy506
   clear hy506
   have c14b0 := eq_true (of_decide_eq_true qa_ : 0 ≤ x5_1)
   have c15b0 := eq_true (of_decide_eq_true qa_ : x5_1 ≤ (l0.length : Int))
   obtain ⟨a7, hy509⟩ : ∃ y_ : List (S43), y_ = (l0.drop (x5_1 : Int).toNat) := ⟨_, rfl⟩
   replace H : (if a9.length + a7.length < 8796093022208 then (some (a9 ++ a7)) else (none)) = some r := hq_ hy509 H
   have Ny509 := am_ hy509
   clear hy509
   refine jg_ H ?_; clear H; intro c16 H
   have LMc16 := am_ c16
   clear c16
   obtain ⟨f2, hy513⟩ : ∃ y_ : List (S43), y_ = (a9 ++ a7) := ⟨_, rfl⟩
   replace H : (some f2) = some r := hq_ hy513 H
   have Ny513 := am_ hy513
   clear hy513
   obtain rfl := oi_ H
   try go_wp2
   replace a0 := am_ (blk_drew a0.out); replace HB := am_ (below_drew1 HB.out)
   have p494 := dp_ x5_1
   have q494 := dl_ x5_1 l0.length
   obtain ⟨ad494, e494, a4, a5⟩ := at_T43 d6.out x5_1 p494 q494
   have b4 := a5; have b5 := a4; cases e494
   replace a4 := qx_ HB a4
   replace a5 := qx_ HB a5
   replace p494 := eq_true p494; replace q494 := eq_true q494
   refine start_ (n := 12) (S := fun w' => w'.cell? ⟨a1, 0, none⟩ = some (.int .i64 a1_0) ∧ w'.cell? ⟨a1, 1, none⟩ = some (.int .i64 a1_1) ∧ w'.cell? (ad494.add ((x5_1).toNat * 2)) = some (.int .i64 ((rd_T43 l0 x5_1).f0)) ∧ w'.cell? ⟨(ad494.add ((x5_1).toNat * 2)).block, (ad494.add ((x5_1).toNat * 2)).off + 1, none⟩ = some (.int .i64 ((rd_T43 l0 x5_1).f1))) (ds := []) (bm 12 0) (by kernel_rfl) rfl (by kernel_rfl) ⟨bl_ a0 0, bl_ a0 1, ((qx_ HB b5).trans rfl), ((qx_ HB b4).trans rfl)⟩ (fun hHeld => ?_); refine with_tabW impl_withEdge.tab2 impl_withEdge.bits2 (fun HT_ HW_ => ?_)
   generalize wr.drew = w17 at a0 HB a4 a5 hHeld ⊢
   refine pz_ 0 6 12 1 ?_; refine pz_ 1 7 12 3 ?_; refine pz_ 2 8 12 7 ?_; refine pz_ 3 9 12 15 ?_; refine pz_ 4 10 12 31 ?_; refine pz_ 5 11 12 63 ?_; refine pz_ 6 12 12 127 ?_; refine pz_ 7 13 12 255 ?_; refine tz4_ 8 14 12 511 ?_; refine tz4_ 9 15 12 1023 ?_
   refine o1_ 10 (some 16) 12 2047 (fun K hK => ?_)
   refine gs_ Try.func90 #[.agg #[.int .i64 ((rd_T43 l0 x5_1).f0), .int .i64 ((rd_T43 l0 x5_1).f1)], .agg #[.int .i64 a1_0, .int .i64 a1_1]] ?_
   with_reducible refine (impl_ahead.calls ((rd_T43 l0 x5_1).f0) ((rd_T43 l0 x5_1).f1) a1_0 a1_1 false _ A6.out).mono ?_
   rintro e w18 ⟨rfl, hb⟩
   refine ⟨_, rfl, ?_⟩
   replace a0 := qbl_ a0 hb; replace HB := hs_ hb; (try clear hb); (try clear hb2); (try clear hk); (try clear hi)
   refine hK.out _ _ ⟨bl_ a0 0, bl_ a0 1, ((qx_ HB b5).trans rfl), ((qx_ HB b4).trans rfl)⟩ (fun hHeld => ?_)
   clear hK K
   refine nm_ 16 ?_
   refine pz_ 11 17 12 4095 ?_
   refine done_ (done_of HT_.out (by kernel_rfl)) ?_
   try go_wp2
   replace a0 := am_ (blk_drew a0.out); replace HB := am_ (below_drew1 HB.out)
   have q20 : (x5_1 : Int) ≤ ((l0.length : Int) : Int) := of_decide_eq_true qa_
   obtain ⟨i020, hi020, _, hsz20, _⟩ := info_parts info43
   have hroom20 : l0.length ≤ c0 := e6.out
   have hC20 : Kd.C k43 _ (some ad494) l0.length l0 := d6.out
   have hcut20 := cut_to (P := Try.prog) 67 43 .i64 Try.underlying67 hi020 (some ad494) l0.length c0 x5_1 (of_decide_eq_true qa_) q20 hroom20
   have hr20 := Kd.C_take (m := (x5_1 : Int).toNat) hC20 (by omega)
   have hy20 : c3.length = (x5_1 : Int).toNat := (by rw [Ny496.out, List.length_take]; omega)
   rw [← Ny496.out] at hr20
   rw [← hy20] at hcut20
   have d2 := am_ hr20
   have f7 := am_ (show c3.length ≤ c0 from by omega)
   clear hr20 hC20 hroom20 hi020 hsz20
   have KY20 := am_ hy20
   clear hy20; replace q20 := eq_true q20
   have q21 : (x5_1 : Int) ≤ ((l0.length : Int) : Int) := of_decide_eq_true qa_
   obtain ⟨i021, hi021, _, hsz21, _⟩ := info_parts info43
   have hroom21 : l0.length ≤ c0 := e6.out
   have hC21 : Kd.C k43 _ (some ad494) l0.length l0 := d6.out
   have q021 : (0 : Int) ≤ (x5_1 : Int) := of_decide_eq_true qa_
   have hcut21 := cut_from (P := Try.prog) 67 43 .i64 Try.underlying67 hi021 2 hsz21 (some ad494) l0.length c0 x5_1 q021 q21
   have hr21 := Kd.C_drop (m := (x5_1 : Int).toNat) (c := c0) hC21 (by omega) hroom21
   obtain ⟨A21, hA21⟩ : ∃ A1, A1 = (if c0 = (x5_1 : Int).toNat then (some ad494) else ((some ad494) : Option Addr).map (·.add ((x5_1 : Int).toNat * 2))) := ⟨_, rfl⟩
   obtain ⟨c21, hc21⟩ : ∃ c1, c1 = c0 - (x5_1 : Int).toNat := ⟨_, rfl⟩
   have hy21 : a7.length = l0.length - (x5_1 : Int).toNat := (by rw [Ny509.out, List.length_drop] <;> omega)
   rw [show (l0).drop (x5_1 : Int).toNat = a7 from Ny509.out.symm] at hr21
   replace hr21 : Kd.C k43 _ A21 a7.length a7 := (by rw [hA21]; exact hr21)
   rw [← hy21, ← hA21, ← hc21] at hcut21
   have d5 := am_ hr21
   have f8 := am_ (show a7.length ≤ c21 from by rw [hy21, hc21]; exact Nat.sub_le_sub_right hroom21 _)
   clear hr21 hC21 hroom21 hi021 hsz21 hc21
   have KY21 := am_ hy21
   have KA21 := am_ hA21
   clear hy21 hA21; replace q21 := eq_true q21
   refine start_ (n := 12) (S := fun w' => w'.cell? ⟨a1, 0, none⟩ = some (.int .i64 a1_0) ∧ w'.cell? ⟨a1, 1, none⟩ = some (.int .i64 a1_1)) (ds := []) (bm 12 0) (by kernel_rfl) rfl (by kernel_rfl) ⟨bl_ a0 0, bl_ a0 1⟩ (fun hHeld => ?_); refine with_tabW impl_withEdge.tab4 impl_withEdge.bits4 (fun HT_ HW_ => ?_)
   generalize w18.drew = w19 at a0 HB d2 d5 hHeld ⊢
   refine pz_ 0 20 12 1 ?_; refine pz_ 1 21 12 3 ?_; refine pz_ 2 22 12 7 ?_; refine pz_ 7 27 12 135 ?_; refine pz_ 8 28 12 391 ?_; refine pz_ 9 29 12 903 ?_; refine tz2_ 4 24 12 919 ?_
   refine join_ (σ := Value × Value) 3 #[true, true, true, true, true, true, false, true, true, true, false, false] (fun s_ => [(23, s_.1), (25, s_.2)]) (fun s_ w' => (w'.cell? ⟨a1, 0, none⟩ = some (.int .i64 a1_0) ∧ w'.cell? ⟨a1, 1, none⟩ = some (.int .i64 a1_1)) ∧ (Kd.R k43 43 w' w.heap.size (fun k_ => some k_ ≠ (s_.2 : Value).ownBlock ∧ k_ ≠ a1) s_.1 b7) ∧ (Kd.R k43 43 w' w.heap.size (fun k_ => some k_ ≠ (s_.1 : Value).ownBlock ∧ k_ ≠ a1) s_.2 b3) ∧ (w'.heap[a1]? = some (.cells #[.int .i64 a1_0, .int .i64 a1_1] 43 (0, 0))) ∧ (Below w.heap.size w w')) ?_ ?_
   rotate_left
   ·intro hCont
    refine two_ (i := 3) (j := 5) (Ni := some 23) (Nj := some 25) (bm 12 927) #[true, true, true, false, true, true, false, true, true, true, false, false] rfl rfl rfl rfl (two_of HT_.out (by kernel_rfl)) (by decide) (by decide) (fun K hK => ?_) (fun K hK => ?_)
    ·skip
     refine Kd.R_append_rows_step k43 (w0 := w) w.heap.size rfl (.const (.slice none 0 0)) (.tmp 22) 67 43 (.agg #[(.int .i64 0), (.int .i64 0)]) 16 rfl Try.underlying67 info43 rfl (by decide) (by omega) (.slice none 0 0) ([] : List (S43)) c3 _ _ _ (fun k_ => k_ ≠ a1) (fun _ => False) rfl rfl ?aO ?aR (fun _ _ h => h) (fun _ h => h.elim) ?aF ?aB ?aS ?aL ?_
     (case aR => repeat (first | exact (Kd.C_below d2.out HB.out) | (with_reducible refine Kd.C_alloc ?_ _) | (with_reducible refine Kd.C_drewN ?_ _) | (with_reducible refine Kd.C_drew ?_)))
     (case aB => exact qB_)
     (case aF => exact (fun k_ hk => Kd.freshB (qk_ a0) k_ hk))
     (case aO => exact ((Kd.R_nil _ _ _ _ (fun k_ => k_ ≠ a1))))
     (case aS => exact (below_size qB_))
     (case aL => have := LMc12.out; omega)
     intro c9 w22 ho hb hg hat
     rw [← Ny500.out] at ho
     have b1 := am_ (ho); replace a0 := am_ (blk_grown (qk_ a0) hg (by simp [Value.ownBlock])); replace HB := am_ (hb); clear ho hb hg hat
     refine hK.out _ _ ⟨bl_ a0 0, bl_ a0 1⟩ (fun hHeld => ?_)
     clear hK K
     refine nm_ 23 ?_
     refine o1_ 5 (some 25) 12 959 (fun K hK => ?_)
     refine Kd.R_lit_step k43 _ 43 ?hg (N := 25) ?hd (xs := ([(⟨a1_0, a1_1⟩ : S43)] : List (S43))) (inner := [.int .i64 a1_0, .int .i64 a1_1]) (ok := fun _ => True) (okp := fun _ => True) ?hr ?hp (fun _ hk => hk) trivial (Below.refl _ _) (Nat.le_refl _) (by simp) ?_; (case hd => rfl); (case hg => rfl); (case hr => first | (go_simp; done) | (go_simp; rfl)); (case hp => exact (Reps.c2 (show Kd.M k43 _ _ _ (⟨a1_0, a1_1⟩ : S43) [.int .i64 a1_0, .int .i64 a1_1] from (k43_mkM _ _ _ (⟨a1_0, a1_1⟩ : S43) )) (Reps.none _ _)))
     intro c6 w23 ho24 hb hg_ hnew_
     clear hg_ hnew_
     (first | rw [← Ny503.out] at ho24 | (simp only [Int.reduceToNat] at ho24; rw [← Ny503.out] at ho24))
     have a3 := am_ (Kd.R_lower (Kd.R_newB (Kd.R_new' ho24 (Kd.R_lt (qR_ b1))) (qk_ a0)) (below_size qB_)); replace b1 := ke_ b1 ho24 hb; replace a0 := qbl_ a0 hb; replace HB := hs_ hb; clear hb ho24
     refine hK.out _ _ ⟨bl_ a0 0, bl_ a0 1⟩ (fun hHeld => ?_)
     clear hK K
     refine nm_ 25 ?_
     exact norm_ (by simp only [putAll, Act.put, sA_, sB_, sC_]) (hCont (c9, c6) _ ⟨hHeld, (by (with_reducible repeat (first | apply Kd.R_alloc | apply Kd.R_drewN | apply Kd.R_drew)); exact Kd.R_mono b1.out (fun _ hk => ⟨hk.2, hk.1⟩)), (by (with_reducible repeat (first | apply Kd.R_alloc | apply Kd.R_drewN | apply Kd.R_drew)); exact Kd.R_mono a3.out (fun _ hk => ⟨hk.1.2, hk.2⟩)), (qk_ a0), qB_⟩)
    skip
    refine Kd.R_lit_step k43 _ 43 ?hg (N := 25) ?hd (xs := ([(⟨a1_0, a1_1⟩ : S43)] : List (S43))) (inner := [.int .i64 a1_0, .int .i64 a1_1]) (ok := fun _ => True) (okp := fun _ => True) ?hr ?hp (fun _ hk => hk) trivial (Below.refl _ _) (Nat.le_refl _) (by simp) ?_; (case hd => rfl); (case hg => rfl); (case hr => first | (go_simp; done) | (go_simp; rfl)); (case hp => exact (Reps.c2 (show Kd.M k43 _ _ _ (⟨a1_0, a1_1⟩ : S43) [.int .i64 a1_0, .int .i64 a1_1] from (k43_mkM _ _ _ (⟨a1_0, a1_1⟩ : S43) )) (Reps.none _ _)))
    intro c6 w22 ho23 hb hg_ hnew_
    clear hg_ hnew_
    (first | rw [← Ny503.out] at ho23 | (simp only [Int.reduceToNat] at ho23; rw [← Ny503.out] at ho23))
    have a3 := am_ (Kd.R_lower (Kd.R_newB ho23 (qk_ a0)) (below_size qB_)); replace a0 := qbl_ a0 hb; replace HB := hs_ hb; clear hb ho23
    refine hK.out _ _ ⟨bl_ a0 0, bl_ a0 1⟩ (fun hHeld => ?_)
    clear hK K
    refine nm_ 25 ?_
    refine o1_ 3 (some 23) 12 959 (fun K hK => ?_)
    refine Kd.R_append_rows_step k43 (w0 := w) w.heap.size rfl (.const (.slice none 0 0)) (.tmp 22) 67 43 (.agg #[(.int .i64 0), (.int .i64 0)]) 16 rfl Try.underlying67 info43 rfl (by decide) (by omega) (.slice none 0 0) ([] : List (S43)) c3 _ _ _ (fun k_ => some k_ ≠ (c6 : Value).ownBlock ∧ k_ ≠ a1) (fun _ => False) rfl rfl ?aO ?aR (fun _ _ h => h) (fun _ h => h.elim) ?aF ?aB ?aS ?aL ?_
    (case aR => repeat (first | exact (Kd.C_below d2.out HB.out) | (with_reducible refine Kd.C_alloc ?_ _) | (with_reducible refine Kd.C_drewN ?_ _) | (with_reducible refine Kd.C_drew ?_)))
    (case aB => exact qB_)
    (case aF => exact (fun k_ hk => ⟨Kd.fresh' (Kd.R_lt (qR_ a3)) k_ hk, Kd.freshB (qk_ a0) k_ hk⟩))
    (case aO => exact ((Kd.R_nil _ _ _ _ (fun k_ => some k_ ≠ (c6 : Value).ownBlock ∧ k_ ≠ a1))))
    (case aS => exact (below_size qB_))
    (case aL => have := LMc12.out; omega)
    intro c9 w24 ho hb hg hat
    rw [← Ny500.out] at ho
    have b1 := am_ (ho); replace a0 := am_ (blk_grown (qk_ a0) hg (by simp [Value.ownBlock])); replace a3 := am_ (Kd.R_after (Kd.R_apart_nil (qR_ a3)) hg hat); replace HB := am_ (hb); clear ho hb hg hat
    refine hK.out _ _ ⟨bl_ a0 0, bl_ a0 1⟩ (fun hHeld => ?_)
    clear hK K
    refine nm_ 23 ?_
    exact norm_ (by simp only [putAll, Act.put, sA_, sB_, sC_]) (hCont (c9, c6) _ ⟨hHeld, (qR_ b1), (by (with_reducible repeat (first | apply Kd.R_alloc | apply Kd.R_drewN | apply Kd.R_drew)); exact Kd.R_mono a3.out (fun _ hk => ⟨hk.2, hk.1.2⟩)), (qk_ a0), qB_⟩)
   rintro ⟨c9, c6⟩ w25 ⟨hS_, h0_, h1_, h2_, h3_⟩
   have n0_ : Aside0 (Kd.R k43 43 w25 w.heap.size (fun k_ => some k_ ≠ (c6 : Value).ownBlock ∧ k_ ≠ a1) c9 b7) := ⟨h0_⟩
   have n1_ : Aside0 (Kd.R k43 43 w25 w.heap.size (fun k_ => some k_ ≠ (c9 : Value).ownBlock ∧ k_ ≠ a1) c6 b3) := ⟨h1_⟩
   have n2_ : Aside0 (w25.heap[a1]? = some (.cells #[.int .i64 a1_0, .int .i64 a1_1] 43 (0, 0))) := ⟨h2_⟩
   have n3_ : Aside0 (Below w.heap.size w w25) := ⟨h3_⟩
   clear a0; clear HB; clear h0_ h1_ h2_ h3_; have b1 := n0_; have a3 := n1_; have a0 := n2_; have HB := n3_; clear n0_ n1_ n2_ n3_
   have hHeld : w25.cell? ⟨a1, 0, none⟩ = some (.int .i64 a1_0) ∧ w25.cell? ⟨a1, 1, none⟩ = some (.int .i64 a1_1) := hS_
   obtain ⟨e2, e3, e4⟩ := Kd.R_slice a3.out
   (first | subst e4 | (injection e4 with f1_ f2_ f3_; have f4_ := f1_.symm; have f5_ := f3_.symm; clear f1_ f2_ f3_; subst f4_; subst f5_))
   refine norm_ (a' := ?_) ?_ ?_
   rotate_left
   ·simp only [putAll, Act.put, sA_, sB_, sC_]
    rfl
   refine o1_ 6 (some 26) 12 1023 (fun K hK => ?_)
   refine Kd.R_append_rows_step k43 (w0 := w) w.heap.size (by rfl) (.tmp 23) (.tmp 25) 67 43 (.agg #[(.int .i64 0), (.int .i64 0)]) 16 rfl Try.underlying67 info43 rfl (by decide) (by omega) c9 b7 b3 _ _ _ (fun k_ => some k_ ≠ (.slice e2 b3.length e3 : Value).ownBlock ∧ k_ ≠ a1) (fun _ => False) rfl rfl ?aO ?aR (fun _ _ h => h) (fun _ h => h.elim) ?aF ?aB ?aS ?aL ?_
   (case aR => repeat (first | exact (Kd.R_reads' a3.out).2.2 | (with_reducible refine Kd.C_alloc ?_ _) | (with_reducible refine Kd.C_drewN ?_ _) | (with_reducible refine Kd.C_drew ?_)))
   (case aB => exact qB_)
   (case aF => exact (fun k_ hk => ⟨Kd.fresh' (Kd.R_lt (qR_ a3)) k_ hk, Kd.freshB (qk_ a0) k_ hk⟩))
   (case aO => exact (qR_ b1))
   (case aS => exact (below_size qB_))
   (case aL => have := LMc13.out; omega)
   intro f3 w26 ho hb hg hat
   rw [← Ny506.out] at ho
   have n0_ := am_ (blk_grown (qk_ a0) hg (Kd.R_away b1.out (fun _ hk => hk.2)))
   have n1_ := am_ (Kd.R_after (ok := (fun k_ => k_ ≠ a1)) (by (with_reducible repeat (first | apply Kd.R_alloc | apply Kd.R_drewN | apply Kd.R_drew)); exact Kd.R_mono a3.out (fun _ hk => ⟨hk.2, hk.1⟩)) hg hat)
   have n2_ := am_ (hb)
   have n3_ := am_ (ho)
   clear a0; clear a3; clear HB; clear b1; have a0 := n0_; have a3 := n1_; have HB := n2_; have d3 := n3_; clear n0_ n1_ n2_ n3_; clear ho hb hg hat
   refine hK.out _ _ ⟨bl_ a0 0, bl_ a0 1⟩ (fun hHeld => ?_)
   clear hK K
   refine nm_ 26 ?_
   refine o1_ 10 (some 30) 12 2047 (fun K hK => ?_)
   refine Kd.R_append_rows_step k43 (w0 := w) w.heap.size (by rfl) (.tmp 26) (.tmp 29) 67 43 (.agg #[(.int .i64 0), (.int .i64 0)]) 16 rfl Try.underlying67 info43 rfl (by decide) (by omega) f3 a9 a7 _ _ _ (fun k_ => some k_ ≠ (.slice e2 b3.length e3 : Value).ownBlock ∧ k_ ≠ a1) (fun _ => False) rfl rfl ?aO ?aR (fun _ _ h => h) (fun _ h => h.elim) ?aF ?aB ?aS ?aL ?_
   (case aR => repeat (first | exact (Kd.C_below d5.out HB.out) | (with_reducible refine Kd.C_alloc ?_ _) | (with_reducible refine Kd.C_drewN ?_ _) | (with_reducible refine Kd.C_drew ?_)))
   (case aB => exact qB_)
   (case aF => exact (fun k_ hk => ⟨Kd.fresh' (Kd.R_lt (qR_ a3)) k_ hk, Kd.freshB (qk_ a0) k_ hk⟩))
   (case aO => exact (qR_ d3))
   (case aS => exact (below_size qB_))
   (case aL => have := LMc16.out; omega)
   intro g0 w28 ho hb hg hat
   rw [← Ny513.out] at ho
   have e5 := am_ (ho); replace a0 := am_ (blk_grown (qk_ a0) hg (Kd.R_away d3.out (fun _ hk => hk.2))); replace a3 := am_ (Kd.R_after (ok := (fun k_ => k_ ≠ a1)) (qR_ a3) hg hat); replace HB := am_ (hb); clear d3; clear ho hb hg hat
   refine hK.out _ _ ⟨bl_ a0 0, bl_ a0 1⟩ (fun hHeld => ?_)
   clear hK K
   refine nm_ 30 ?_
   refine pz_ 11 4 12 4095 ?_
   refine done_ (done_of HT_.out (by kernel_rfl)) ?_
   try go_wp2
   go_ret
   exact ⟨_, qr_, by (with_reducible repeat (first | apply Kd.R_alloc | apply Kd.R_drewN | apply Kd.R_drew)); exact Kd.R_mono e5.out (fun _ hk => trivial), qB_⟩
end Go.Proofs.Ytbkklafkoegdpaa.QFnExactWebAdd
