import Derived.Test.YtbkklafkoegdpaaQFnExactLinkx8
namespace Go.Proofs.Ytbkklafkoegdpaa.QFnExactLink
open Go.RowKit Go.Proofs.YtbkklafkoegdpaaW.PrintWords Go.Proofs.YtbkklafkoegdpaaW.PrintLast Go.Proofs.YtbkklafkoegdpaaW.PrintMore
set_option linter.unusedVariables false
set_option linter.unusedSimpArgs false
def impl_with.l0 : Nat → List Int → Int → Int → Option (List Int)
  | 0, _, _, _ => none
  | k + 1, x0, x1, x5 => if x5 < (x0.length : Int) then (if 0 ≤ x5 then (if (rd x0 x5) < x1 then (impl_with.l0 k x0 x1 (wrap64 (x5 + 1))) else (if (rd x0 x5) = x1 then (some x0) else (if x5 ≤ (x0.length : Int) then ((impl_copyInts.f (x0.take (x5 : Int).toNat)).bind fun t323 => ((some (([x1] : List Int) : List Int)).bind fun y326 => (if t323.length + y326.length < 17592186044416 then ((some (t323 ++ y326 : List Int)).bind fun y329 => ((some (x0.drop (x5 : Int).toNat : List Int)).bind fun y332 => (if y329.length + y332.length < 17592186044416 then (some (y329 ++ y332)) else (none)))) else (none)))) else (none)))) else (none)) else (if 0 ≤ x5 then (if x5 ≤ (x0.length : Int) then ((impl_copyInts.f (x0.take (x5 : Int).toNat)).bind fun t343 => ((some (([x1] : List Int) : List Int)).bind fun y346 => (if t343.length + y346.length < 17592186044416 then ((some (t343 ++ y346 : List Int)).bind fun y349 => ((some (x0.drop (x5 : Int).toNat : List Int)).bind fun y352 => (if y349.length + y352.length < 17592186044416 then (some (y349 ++ y352)) else (none)))) else (none)))) else (none)) else (none))
def impl_with.f (k : Nat) (l0 : List Int) (a1 : Int) : Option (List Int) := impl_with.l0 k l0 a1 0
theorem impl_with.mono_l : ∀ k, (∀ y0 y1 y2, LeO (impl_with.l0 k y0 y1 y2) (impl_with.l0 (k + 1) y0 y1 y2))
  | 0 => fun _ _ _ r h => by simp [impl_with.l0] at h
  | k + 1 => by
    have ih0 := impl_with.mono_l k
    · intro y0 y1 y2
      unfold impl_with.l0
      repeat' first | (with_reducible first | exact ih0 _ _ _ | exact LeO.refl _ | exact LeO.none _ | refine LeO.ite ?_ ?_ | refine LeO.bind ?_ (fun _ => ?_)) | exact LeO.none _ | refine LeO.ite ?_ ?_ | refine LeO.bind ?_ (fun _ => ?_)
theorem impl_with.mono : ∀ a0 a1 k, LeO (impl_with.f k a0 a1) (impl_with.f (k + 1) a0 a1) := by
  intro a0 a1 k
  have ih0 := impl_with.mono_l k
  unfold impl_with.f
  repeat' first | (with_reducible first | exact ih0 _ _ _ | exact LeO.refl _ | exact LeO.none _ | refine LeO.ite ?_ ?_ | refine LeO.bind ?_ (fun _ => ?_)) | exact LeO.none _ | refine LeO.ite ?_ ?_ | refine LeO.bind ?_ (fun _ => ?_)
def impl_with.T6 : Bool × List (List Nat × List Nat) := (true, [([], []), ([], []), ([0, 1], [0, 1]), ([2], [2]), ([], []), ([4], [4]), ([3, 5, 3], [3, 5]), ([], []), ([], []), ([7, 8], [7, 8]), ([6, 9, 6], [6, 9]), ([10, 10, 0, 1, 2, 3, 4, 5, 6, 7, 8, 9, 10], [10])])
def impl_with.B6 : List Nat := [0, 0, 3, 7, 0, 16, 63, 0, 0, 384, 1023, 2047]
theorem impl_with.tab6 : rtab .any (opsOf Try.f133 6) = impl_with.T6 := by kernel_rfl
theorem impl_with.bits6 : waitsOk impl_with.T6.2 impl_with.B6 = true := by kernel_rfl
set_option maxHeartbeats 8000000 in
set_option maxRecDepth 100000 in
theorem impl_with.calls (k : Nat) (P0_ : Nat → Prop) (u9000_ : Value) (l0 : List Int) (a1 : Int) (r : List Int) (w0 w : World) (hB : Below w0.heap.size w0 w) (ho0 : Kd.R (Kd.int .i64) 3 w w0.heap.size P0_ u9000_ l0) (h : impl_with.f k l0 a1 = some r) :
  Calls Try.prog 133 #[u9000_, .int .i64 a1] w fun e w' => ∃ v0_ : Value, e = .returned (v0_) ∧ Kd.R (Kd.int .i64) 3 w' w0.heap.size (fun k_ => (P0_ k_ ∨ w.heap.size ≤ k_)) v0_ r ∧ Below w0.heap.size w0 w' ∧ Kept w w' (fun k_ => P0_ k_) := by
 have f4 := am_ (show Kd.R (Kd.int .i64) 3 w w0.heap.size (fun k_ => (P0_ k_ ∨ w.heap.size ≤ k_)) u9000_ l0 from Kd.R_mono ho0 (fun k_ hk => (.inl hk)))
 have HK := am_ (Kept.refl w (fun k_ => P0_ k_))
 have HW0 := am_ hB.size
 have HB := am_ hB
 clear hB
 have H : (impl_with.l0 k l0 a1 0) = some r := h
 clear h; have H' := am_ H; clear H
 go_enter Try.func133, Try.ntmps133
 go_wp2
 go_loopg [5] k (fun kq v5 w' => ∃ (x5_1 : Int), v5 = .int .i64 x5_1 ∧ Aside0 (impl_with.l0 kq l0 a1 x5_1 = some r) ∧ Aside0 (kq ≤ k) ∧ Aside0 (Kd.R (Kd.int .i64) 3 w' w0.heap.size (fun k_ => (P0_ k_ ∨ w.heap.size ≤ k_)) u9000_ l0) ∧ Aside0 (Kept w w' (fun k_ => P0_ k_)) ∧ Aside0 (Below w0.heap.size w0 w'))
 case atStart => exact ⟨(0), qe_, H', ⟨Nat.le_refl _⟩, ⟨by (with_reducible repeat (first | apply Kd.R_alloc | apply Kd.R_drewN | apply Kd.R_drew)); first | exact f4.out | (have h_ := f4.out; simp only [own_slice] at h_ ⊢; exact h_)⟩, ⟨by repeat (first | (with_reducible first | exact HK.out | apply Kept.alloc | apply Kept.drewN | apply Kept.drew) | exact HK.out)⟩, ⟨qB_⟩⟩
 case round =>
  clear H'
  (try clear c1); (try clear p2)
  obtain ⟨x5_1, rfl, HA, HK1, a0, HK, HB⟩ := hrel
  cases gk with
  | zero => exact absurd HA.out (by simp [impl_with.l0])
  | succ k1 =>
   have H := HA.out; clear HA
   simp only [impl_with.l0] at H
   by_cases c3 : x5_1 < (l0.length : Int)
   rotate_left
   ·rw [if_neg c3] at H
    have c3b0 := decide_eq_false c3
    clear c3
    by_cases c27 : 0 ≤ x5_1
    rotate_left
    ·rw [if_neg c27] at H
     exact absurd H (by simp)
    rw [if_pos c27] at H
    have c27b0 := eq_true c27
    have c27b1 := decide_eq_true c27
    clear c27
    by_cases c28 : x5_1 ≤ (l0.length : Int)
    rotate_left
    ·rw [if_neg c28] at H
     exact absurd H (by simp)
    rw [if_pos c28] at H
    have c28b0 := eq_true c28
    have c28b1 := decide_eq_true c28
    clear c28
    obtain ⟨c8, hy339⟩ : ∃ y_ : List Int, y_ = (l0.take (x5_1 : Int).toNat) := ⟨_, rfl⟩
    replace H : ((impl_copyInts.f c8).bind fun b9 => ((some (([a1] : List Int) : List Int)).bind fun b5 => (if b9.length + b5.length < 17592186044416 then ((some (b9 ++ b5 : List Int)).bind fun b7 => ((some (l0.drop (x5_1 : Int).toNat : List Int)).bind fun b0 => (if b7.length + b0.length < 17592186044416 then (some (b7 ++ b0)) else (none)))) else (none)))) = some r := by first | (rw [hy339]; with_reducible exact H) | (have H2_ := (Option.bind_some _ _).symm.trans H; rw [hy339]; with_reducible exact H2_) | (have H2_ := (Option.bind_some _ _).symm.trans H; with_reducible exact H2_) | with_reducible exact H | (rw [hy339]; exact H) | exact H
    have Ny339 := am_ hy339
    clear hy339
    obtain ⟨b9, e2, H⟩ := Option.bind_eq_some_iff.mp H; have A29 := am_ e2; clear e2
    obtain ⟨b5, hy346⟩ : ∃ y_ : List Int, y_ = (([a1] : List Int)) := ⟨_, rfl⟩
    replace H : (if b9.length + b5.length < 17592186044416 then ((some (b9 ++ b5 : List Int)).bind fun b7 => ((some (l0.drop (x5_1 : Int).toNat : List Int)).bind fun b0 => (if b7.length + b0.length < 17592186044416 then (some (b7 ++ b0)) else (none)))) else (none)) = some r := by first | (rw [hy346]; with_reducible exact H) | (have H2_ := (Option.bind_some _ _).symm.trans H; rw [hy346]; with_reducible exact H2_) | (have H2_ := (Option.bind_some _ _).symm.trans H; with_reducible exact H2_) | with_reducible exact H | (rw [hy346]; exact H) | exact H
    have Ny346 := am_ hy346
    clear hy346
    by_cases c30 : b9.length + b5.length < 17592186044416
    rotate_left
    ·rw [if_neg c30] at H
     exact absurd H (by simp)
    rw [if_pos c30] at H
    have LMc30 := am_ c30
    clear c30
    obtain ⟨b7, hy349⟩ : ∃ y_ : List Int, y_ = (b9 ++ b5) := ⟨_, rfl⟩
    replace H : ((some (l0.drop (x5_1 : Int).toNat : List Int)).bind fun b0 => (if b7.length + b0.length < 17592186044416 then (some (b7 ++ b0)) else (none))) = some r := by first | (rw [hy349]; with_reducible exact H) | (have H2_ := (Option.bind_some _ _).symm.trans H; rw [hy349]; with_reducible exact H2_) | (have H2_ := (Option.bind_some _ _).symm.trans H; with_reducible exact H2_) | with_reducible exact H | (rw [hy349]; exact H) | exact H
    have Ny349 := am_ hy349
    clear hy349
    have c31b0 := eq_true (of_decide_eq_true qa_ : 0 ≤ x5_1)
    have c32b0 := eq_true (of_decide_eq_true qa_ : x5_1 ≤ (l0.length : Int))
    obtain ⟨b0, hy352⟩ : ∃ y_ : List Int, y_ = (l0.drop (x5_1 : Int).toNat) := ⟨_, rfl⟩
    replace H : (if b7.length + b0.length < 17592186044416 then (some (b7 ++ b0)) else (none)) = some r := by first | (rw [hy352]; with_reducible exact H) | (have H2_ := (Option.bind_some _ _).symm.trans H; rw [hy352]; with_reducible exact H2_) | (have H2_ := (Option.bind_some _ _).symm.trans H; with_reducible exact H2_) | with_reducible exact H | (rw [hy352]; exact H) | exact H
    have Ny352 := am_ hy352
    clear hy352
    by_cases c33 : b7.length + b0.length < 17592186044416
    rotate_left
    ·rw [if_neg c33] at H
     exact absurd H (by simp)
    rw [if_pos c33] at H
    have LMc33 := am_ c33
    clear c33
    obtain ⟨e8, hy356⟩ : ∃ y_ : List Int, y_ = (b7 ++ b0) := ⟨_, rfl⟩
    replace H : (some e8) = some r := by first | (rw [hy356]; with_reducible exact H) | (have H2_ := (Option.bind_some _ _).symm.trans H; rw [hy356]; with_reducible exact H2_) | (have H2_ := (Option.bind_some _ _).symm.trans H; with_reducible exact H2_) | with_reducible exact H | (rw [hy356]; exact H) | exact H
    have Ny356 := am_ hy356
    clear hy356
    obtain rfl := Option.some.inj H
    obtain ⟨b2, a6, e9⟩ := Kd.R_slice a0.out
    subst e9
    try go_wp2
    replace a0 := am_ (Kd.R_drew a0.out); replace HK := am_ (Kept.drew HK.out); replace HB := am_ (below_drew1 HB.out)
    have q36 : (x5_1 : Int) ≤ ((l0.length : Int) : Int) := of_decide_eq_true qa_
    obtain ⟨i036, hi036, _, hsz36, _⟩ := info_parts info3
    have hroom36 : l0.length ≤ a6 := (Kd.R_reads' a0.out).2.1
    have hC36 : Kd.C (Kd.int .i64) _ b2 l0.length l0 := (Kd.R_reads' a0.out).2.2
    have hcut36 := cut_to (P := Try.prog) 51 3 .i64 Try.underlying51 hi036 b2 l0.length a6 x5_1 (of_decide_eq_true qa_) q36 hroom36
    have hr36 := Kd.C_take (m := (x5_1 : Int).toNat) hC36 (by omega)
    have hy36 : c8.length = (x5_1 : Int).toNat := (by rw [Ny339.out, List.length_take]; omega)
    rw [← Ny339.out] at hr36
    rw [← hy36] at hcut36
    have a2 := am_ hr36
    have e0 := am_ (show c8.length ≤ a6 from by omega)
    clear hr36 hC36 hroom36 hi036 hsz36
    have KY36 := am_ hy36
    clear hy36
    have KL36 := am_ (show (x5_1 : Int).toNat ≤ l0.length from by omega)
    replace q36 := eq_true q36
    have q37 : (x5_1 : Int) ≤ ((l0.length : Int) : Int) := of_decide_eq_true qa_
    obtain ⟨i037, hi037, _, hsz37, _⟩ := info_parts info3
    have hroom37 : l0.length ≤ a6 := (Kd.R_reads' a0.out).2.1
    have hC37 : Kd.C (Kd.int .i64) _ b2 l0.length l0 := (Kd.R_reads' a0.out).2.2
    have q037 : (0 : Int) ≤ (x5_1 : Int) := of_decide_eq_true qa_
    have hcut37 := cut_from (P := Try.prog) 51 3 .i64 Try.underlying51 hi037 1 hsz37 b2 l0.length a6 x5_1 q037 q37
    have hr37 := Kd.C_drop (m := (x5_1 : Int).toNat) (c := a6) hC37 (by omega) hroom37
    obtain ⟨A37, hA37⟩ : ∃ A1, A1 = (if a6 = (x5_1 : Int).toNat then b2 else (b2 : Option Addr).map (·.add ((x5_1 : Int).toNat * 1))) := ⟨_, rfl⟩
    obtain ⟨c37, hc37⟩ : ∃ c1, c1 = a6 - (x5_1 : Int).toNat := ⟨_, rfl⟩
    have hy37 : b0.length = l0.length - (x5_1 : Int).toNat := (by rw [Ny352.out, List.length_drop] <;> omega)
    rw [show (l0).drop (x5_1 : Int).toNat = b0 from Ny352.out.symm] at hr37
    replace hr37 : Kd.C (Kd.int .i64) _ A37 b0.length b0 := (by rw [hA37]; exact hr37)
    rw [← hy37, ← hA37, ← hc37] at hcut37
    have a8 := am_ hr37
    have f5 := am_ (show b0.length ≤ c37 from by rw [hy37, hc37]; exact Nat.sub_le_sub_right hroom37 _)
    clear hr37 hC37 hroom37 hi037 hsz37 hc37
    have KY37 := am_ hy37
    have KA37 := am_ hA37
    clear hy37 hA37
    have KL37 := am_ (show (x5_1 : Int).toNat ≤ l0.length from by omega)
    replace q37 := eq_true q37
    refine start_ (n := 12) (S := fun w' => True) (ds := []) (bm 12 0) (by kernel_rfl) rfl (by kernel_rfl) trivial (fun hHeld => ?_); refine with_tabW impl_with.tab6 impl_with.bits6 (fun HT_ HW_ => ?_)
    generalize wr.drew = w35 at a0 HK HB a2 a8 hHeld ⊢
    refine pz_ 0 33 (bm 12 1) ?_; refine pz_ 1 34 (bm 12 3) ?_; refine pz_ 2 35 (bm 12 7) ?_; refine pz_ 4 37 (bm 12 23) ?_; refine pz_ 7 40 (bm 12 151) ?_; refine pz_ 8 41 (bm 12 407) ?_; refine pz_ 9 42 (bm 12 919) ?_
    refine join_ (σ := Value × Value) 3 #[true, true, true, true, true, true, false, true, true, true, false, false] (fun s_ => [(36, s_.1), (38, s_.2)]) (fun s_ w' => (Kd.R (Kd.int .i64) 3 w' w0.heap.size (fun k_ => (P0_ k_ ∨ w.heap.size ≤ k_) ∧ some k_ ≠ (s_.2 : Value).ownBlock ∧ some k_ ≠ (.slice b2 l0.length a6 : Value).ownBlock) s_.1 b9) ∧ (Kd.R (Kd.int .i64) 3 w' w0.heap.size (fun k_ => (P0_ k_ ∨ w.heap.size ≤ k_) ∧ some k_ ≠ (s_.1 : Value).ownBlock ∧ some k_ ≠ (.slice b2 l0.length a6 : Value).ownBlock) s_.2 b5) ∧ (Kd.R (Kd.int .i64) 3 w' w0.heap.size (fun k_ => (P0_ k_ ∨ w.heap.size ≤ k_) ∧ some k_ ≠ (s_.1 : Value).ownBlock ∧ some k_ ≠ (s_.2 : Value).ownBlock) (.slice b2 l0.length a6) l0) ∧ (Kept w w' (fun k_ => P0_ k_)) ∧ (Below w0.heap.size w0 w')) ?_ ?_
    rotate_left
    ·intro hCont
     refine two_ (i := 3) (j := 5) (Ni := some 36) (Nj := some 38) (bm 12 927) #[true, true, true, false, true, true, false, true, true, true, false, false] rfl rfl rfl rfl (two_of HT_.out (by kernel_rfl)) (by decide) (by decide) (fun K hK => ?_) (fun K hK => ?_)
     ·skip
      refine gs_ Try.func121 #[.slice b2 c8.length a6] ?_
      with_reducible refine (impl_copyInts.calls _ _ c8 b9 _ ?side1 ?side2 A29.out).mono ?_
      (case side1 => repeat (first | exact (by repeat (first | (with_reducible exact a2.out) | (with_reducible refine Kd.C_alloc ?_ _) | (with_reducible refine Kd.C_drewN ?_ _) | (with_reducible refine Kd.C_drew ?_) | exact a2.out)) | (with_reducible refine Kd.C_alloc ?_ _) | (with_reducible refine Kd.C_drewN ?_ _) | (with_reducible refine Kd.C_drew ?_)))
      (case side2 => exact e0.out)
      rintro e w38 ⟨c2, rfl, ho0, hb⟩
      refine ⟨_, rfl, ?_⟩
      have b3 := am_ (Kd.R_lower (Kd.R_new' (Kd.R_newM (M := fun k_ => (P0_ k_ ∨ w.heap.size ≤ k_)) ho0 (by first | exact HK.out.1 | exact (show Kept w _ (fun k_ => P0_ k_) from by repeat (first | (with_reducible first | exact HK.out | apply Kept.alloc | apply Kept.drewN | apply Kept.drew) | exact HK.out)).1) (fun k_ h_ => .inr h_)) (Kd.R_lt (qR_ a0))) (below_size qB_)); replace a0 := am_ (Kd.R_elder' (qR_ a0) (Kd.R_base ho0) hb); replace a2 := am_ (Kd.C_below (by repeat (first | (with_reducible exact a2.out) | (with_reducible refine Kd.C_alloc ?_ _) | (with_reducible refine Kd.C_drewN ?_ _) | (with_reducible refine Kd.C_drew ?_) | exact a2.out)) hb); replace a8 := am_ (Kd.C_below (by repeat (first | (with_reducible exact a8.out) | (with_reducible refine Kd.C_alloc ?_ _) | (with_reducible refine Kd.C_drewN ?_ _) | (with_reducible refine Kd.C_drew ?_) | exact a8.out)) hb); replace HK := am_ (Kept.below (S := (fun k_ => P0_ k_)) (by repeat (first | (with_reducible first | exact HK.out | apply Kept.alloc | apply Kept.drewN | apply Kept.drew) | exact HK.out)) hb); replace HB := am_ (below_step qB_ hb); (try clear hb); (try clear hb2); (try clear hk); (try clear hi); (try clear ho0)
      refine hK.out _ _ trivial (fun hHeld => ?_)
      clear hK K
      refine nm_ 36 ?_
      refine o1_ 5 (some 38) (bm 12 959) (fun K hK => ?_)
      refine Kd.R_lit_step (Kd.int .i64) _ 3 ?hg (N := 38) ?hd (xs := ([a1] : List Int)) (inner := [.int .i64 a1]) (ok := fun _ => True) (okp := fun _ => True) ?hr ?hp (fun _ hk => hk) trivial (Below.refl _ _) (Nat.le_refl _) (by simp) ?_; (case hd => rfl); (case hg => rfl); (case hr => first | (go_simp; done) | (go_simp; rfl)); (case hp => exact (Reps.one (show Kd.M (Kd.int .i64) _ _ _ a1 [.int .i64 a1] from rfl) (Reps.none _ _)))
      intro c9 w39 ho40 hb hg_ hnew_
      clear hg_ hnew_
      (first | rw [← Ny346.out] at ho40 | (simp only [Int.reduceToNat] at ho40; rw [← Ny346.out] at ho40))
      have a4 := am_ (Kd.R_lower (Kd.R_new' (Kd.R_new' (Kd.R_newM (M := fun k_ => (P0_ k_ ∨ w.heap.size ≤ k_)) ho40 (by first | exact HK.out.1 | exact (show Kept w _ (fun k_ => P0_ k_) from by repeat (first | (with_reducible first | exact HK.out | apply Kept.alloc | apply Kept.drewN | apply Kept.drew) | exact HK.out)).1) (fun k_ h_ => .inr h_)) (Kd.R_lt (qR_ a0))) (Kd.R_lt (qR_ b3))) (below_size qB_)); replace a0 := am_ (Kd.R_elder' (qR_ a0) (Kd.R_base ho40) hb); replace b3 := am_ (Kd.R_elder' (qR_ b3) (Kd.R_base ho40) hb); replace a2 := am_ (Kd.C_below (by repeat (first | (with_reducible exact a2.out) | (with_reducible refine Kd.C_alloc ?_ _) | (with_reducible refine Kd.C_drewN ?_ _) | (with_reducible refine Kd.C_drew ?_) | exact a2.out)) hb); replace a8 := am_ (Kd.C_below (by repeat (first | (with_reducible exact a8.out) | (with_reducible refine Kd.C_alloc ?_ _) | (with_reducible refine Kd.C_drewN ?_ _) | (with_reducible refine Kd.C_drew ?_) | exact a8.out)) hb); replace HK := am_ (Kept.below (S := (fun k_ => P0_ k_)) (by repeat (first | (with_reducible first | exact HK.out | apply Kept.alloc | apply Kept.drewN | apply Kept.drew) | exact HK.out)) hb); replace HB := am_ (below_step qB_ hb); clear hb ho40
      refine hK.out _ _ trivial (fun hHeld => ?_)
      clear hK K
      refine nm_ 38 ?_
      exact norm_ (by simp only [putAll, Act.put, sA_, sB_, sC_]) (hCont (c2, c9) _ ⟨(by (with_reducible repeat (first | apply Kd.R_alloc | apply Kd.R_drewN | apply Kd.R_drew)); exact Kd.R_mono b3.out (fun _ hk => ⟨hk.1.1.1, ⟨hk.2, hk.1.2⟩⟩)), (by (with_reducible repeat (first | apply Kd.R_alloc | apply Kd.R_drewN | apply Kd.R_drew)); exact Kd.R_mono a4.out (fun _ hk => ⟨hk.1.1.1, ⟨hk.2, hk.1.2⟩⟩)), (by (with_reducible repeat (first | apply Kd.R_alloc | apply Kd.R_drewN | apply Kd.R_drew)); exact Kd.R_mono a0.out (fun _ hk => ⟨hk.1.1, ⟨hk.1.2, hk.2⟩⟩)), (by repeat (first | (with_reducible first | exact HK.out | apply Kept.alloc | apply Kept.drewN | apply Kept.drew) | exact HK.out)), qB_⟩)
     skip
     refine Kd.R_lit_step (Kd.int .i64) _ 3 ?hg (N := 38) ?hd (xs := ([a1] : List Int)) (inner := [.int .i64 a1]) (ok := fun _ => True) (okp := fun _ => True) ?hr ?hp (fun _ hk => hk) trivial (Below.refl _ _) (Nat.le_refl _) (by simp) ?_; (case hd => rfl); (case hg => rfl); (case hr => first | (go_simp; done) | (go_simp; rfl)); (case hp => exact (Reps.one (show Kd.M (Kd.int .i64) _ _ _ a1 [.int .i64 a1] from rfl) (Reps.none _ _)))
     intro c9 w38 ho39 hb hg_ hnew_
     clear hg_ hnew_
     (first | rw [← Ny346.out] at ho39 | (simp only [Int.reduceToNat] at ho39; rw [← Ny346.out] at ho39))
     have a4 := am_ (Kd.R_lower (Kd.R_new' (Kd.R_newM (M := fun k_ => (P0_ k_ ∨ w.heap.size ≤ k_)) ho39 (by first | exact HK.out.1 | exact (show Kept w _ (fun k_ => P0_ k_) from by repeat (first | (with_reducible first | exact HK.out | apply Kept.alloc | apply Kept.drewN | apply Kept.drew) | exact HK.out)).1) (fun k_ h_ => .inr h_)) (Kd.R_lt (qR_ a0))) (below_size qB_)); replace a0 := am_ (Kd.R_elder' (qR_ a0) (Kd.R_base ho39) hb); replace a2 := am_ (Kd.C_below (by repeat (first | (with_reducible exact a2.out) | (with_reducible refine Kd.C_alloc ?_ _) | (with_reducible refine Kd.C_drewN ?_ _) | (with_reducible refine Kd.C_drew ?_) | exact a2.out)) hb); replace a8 := am_ (Kd.C_below (by repeat (first | (with_reducible exact a8.out) | (with_reducible refine Kd.C_alloc ?_ _) | (with_reducible refine Kd.C_drewN ?_ _) | (with_reducible refine Kd.C_drew ?_) | exact a8.out)) hb); replace HK := am_ (Kept.below (S := (fun k_ => P0_ k_)) (by repeat (first | (with_reducible first | exact HK.out | apply Kept.alloc | apply Kept.drewN | apply Kept.drew) | exact HK.out)) hb); replace HB := am_ (below_step qB_ hb); clear hb ho39
     refine hK.out _ _ trivial (fun hHeld => ?_)
     clear hK K
     refine nm_ 38 ?_
     refine o1_ 3 (some 36) (bm 12 959) (fun K hK => ?_)
     refine gs_ Try.func121 #[.slice b2 c8.length a6] ?_
     with_reducible refine (impl_copyInts.calls _ _ c8 b9 _ ?side1 ?side2 A29.out).mono ?_
     (case side1 => repeat (first | exact (by repeat (first | (with_reducible exact a2.out) | (with_reducible refine Kd.C_alloc ?_ _) | (with_reducible refine Kd.C_drewN ?_ _) | (with_reducible refine Kd.C_drew ?_) | exact a2.out)) | (with_reducible refine Kd.C_alloc ?_ _) | (with_reducible refine Kd.C_drewN ?_ _) | (with_reducible refine Kd.C_drew ?_)))
     (case side2 => exact e0.out)
     rintro e w40 ⟨c2, rfl, ho0, hb⟩
     refine ⟨_, rfl, ?_⟩
     have b3 := am_ (Kd.R_lower (Kd.R_new' (Kd.R_new' (Kd.R_newM (M := fun k_ => (P0_ k_ ∨ w.heap.size ≤ k_)) ho0 (by first | exact HK.out.1 | exact (show Kept w _ (fun k_ => P0_ k_) from by repeat (first | (with_reducible first | exact HK.out | apply Kept.alloc | apply Kept.drewN | apply Kept.drew) | exact HK.out)).1) (fun k_ h_ => .inr h_)) (Kd.R_lt (qR_ a0))) (Kd.R_lt (qR_ a4))) (below_size qB_)); replace a0 := am_ (Kd.R_elder' (qR_ a0) (Kd.R_base ho0) hb); replace a4 := am_ (Kd.R_elder' (qR_ a4) (Kd.R_base ho0) hb); replace a2 := am_ (Kd.C_below (by repeat (first | (with_reducible exact a2.out) | (with_reducible refine Kd.C_alloc ?_ _) | (with_reducible refine Kd.C_drewN ?_ _) | (with_reducible refine Kd.C_drew ?_) | exact a2.out)) hb); replace a8 := am_ (Kd.C_below (by repeat (first | (with_reducible exact a8.out) | (with_reducible refine Kd.C_alloc ?_ _) | (with_reducible refine Kd.C_drewN ?_ _) | (with_reducible refine Kd.C_drew ?_) | exact a8.out)) hb); replace HK := am_ (Kept.below (S := (fun k_ => P0_ k_)) (by repeat (first | (with_reducible first | exact HK.out | apply Kept.alloc | apply Kept.drewN | apply Kept.drew) | exact HK.out)) hb); replace HB := am_ (below_step qB_ hb); (try clear hb); (try clear hb2); (try clear hk); (try clear hi); (try clear ho0)
     refine hK.out _ _ trivial (fun hHeld => ?_)
     clear hK K
     refine nm_ 36 ?_
     exact norm_ (by simp only [putAll, Act.put, sA_, sB_, sC_]) (hCont (c2, c9) _ ⟨(by (with_reducible repeat (first | apply Kd.R_alloc | apply Kd.R_drewN | apply Kd.R_drew)); exact Kd.R_mono b3.out (fun _ hk => ⟨hk.1.1.1, ⟨hk.2, hk.1.2⟩⟩)), (by (with_reducible repeat (first | apply Kd.R_alloc | apply Kd.R_drewN | apply Kd.R_drew)); exact Kd.R_mono a4.out (fun _ hk => ⟨hk.1.1.1, ⟨hk.2, hk.1.2⟩⟩)), (by (with_reducible repeat (first | apply Kd.R_alloc | apply Kd.R_drewN | apply Kd.R_drew)); exact Kd.R_mono a0.out (fun _ hk => ⟨hk.1.1, ⟨hk.2, hk.1.2⟩⟩)), (by repeat (first | (with_reducible first | exact HK.out | apply Kept.alloc | apply Kept.drewN | apply Kept.drew) | exact HK.out)), qB_⟩)
    rintro ⟨c2, c9⟩ w41 ⟨h0_, h1_, h2_, h3_, h4_⟩
    have n0_ : Aside0 (Kd.R (Kd.int .i64) 3 w41 w0.heap.size (fun k_ => (P0_ k_ ∨ w.heap.size ≤ k_) ∧ some k_ ≠ (c9 : Value).ownBlock ∧ some k_ ≠ (.slice b2 l0.length a6 : Value).ownBlock) c2 b9) := ⟨h0_⟩
    have n1_ : Aside0 (Kd.R (Kd.int .i64) 3 w41 w0.heap.size (fun k_ => (P0_ k_ ∨ w.heap.size ≤ k_) ∧ some k_ ≠ (c2 : Value).ownBlock ∧ some k_ ≠ (.slice b2 l0.length a6 : Value).ownBlock) c9 b5) := ⟨h1_⟩
    have n2_ : Aside0 (Kd.R (Kd.int .i64) 3 w41 w0.heap.size (fun k_ => (P0_ k_ ∨ w.heap.size ≤ k_) ∧ some k_ ≠ (c2 : Value).ownBlock ∧ some k_ ≠ (c9 : Value).ownBlock) (.slice b2 l0.length a6) l0) := ⟨h2_⟩
    have n3_ : Aside0 (Kept w w41 (fun k_ => P0_ k_)) := ⟨h3_⟩
    have n4_ : Aside0 (Below w0.heap.size w0 w41) := ⟨h4_⟩
    clear a0; clear HK; clear HB; clear h0_ h1_ h2_ h3_ h4_; have b3 := n0_; have a4 := n1_; have a0 := n2_; have HK := n3_; have HB := n4_; clear n0_ n1_ n2_ n3_ n4_; have hHeld := trivial
    obtain ⟨d5, d6, e3⟩ := Kd.R_slice a4.out
    (first | subst e3 | (injection e3 with f1_ f2_ f3_; have f4_ := f1_.symm; have f5_ := f3_.symm; clear f1_ f2_ f3_; subst f4_; subst f5_))
    refine norm_ (a' := ?_) ?_ ?_
    rotate_left
    ·simp only [putAll, Act.put, sA_, sB_, sC_]
     rfl
    refine o1_ 6 (some 39) (bm 12 1023) (fun K hK => ?_)
    refine Kd.R_append_rows_step (Kd.int .i64) (w0 := w0) w0.heap.size (by rfl) (.tmp 36) (.tmp 38) 51 3 (.int .i64 0) 8 rfl Try.underlying51 info3 rfl (by decide) (by omega) c2 b9 b5 _ _ _ (fun k_ => (P0_ k_ ∨ w.heap.size ≤ k_) ∧ some k_ ≠ (.slice b2 l0.length a6 : Value).ownBlock ∧ some k_ ≠ (.slice d5 b5.length d6 : Value).ownBlock) (fun _ => False) rfl rfl ?aO ?aR (fun _ _ h => h) (fun _ h => h.elim) ?aF ?aB ?aS ?aL ?_
    (case aR => repeat (first | exact (Kd.R_reads' a4.out).2.2 | (with_reducible refine Kd.C_alloc ?_ _) | (with_reducible refine Kd.C_drewN ?_ _) | (with_reducible refine Kd.C_drew ?_)))
    (case aB => exact qB_)
    (case aF => exact (fun k_ hk => ⟨(.inr (Nat.le_trans (by first | exact HK.out.1 | exact (show Kept w _ (fun k_ => P0_ k_) from by repeat (first | (with_reducible first | exact HK.out | apply Kept.alloc | apply Kept.drewN | apply Kept.drew) | exact HK.out)).1) hk)), Kd.fresh' (Kd.R_lt (qR_ a0)) k_ hk, Kd.fresh' (Kd.R_lt (qR_ a4)) k_ hk⟩))
    (case aO => exact (by (with_reducible repeat (first | apply Kd.R_alloc | apply Kd.R_drewN | apply Kd.R_drew)); exact Kd.R_mono b3.out (fun _ hk => ⟨hk.1, ⟨hk.2.2, hk.2.1⟩⟩)))
    (case aS => exact (below_size qB_))
    (case aL => have := LMc30.out; omega)
    intro f0 w42 ho hb hg hat
    rw [← Ny349.out] at ho
    have n0_ := am_ (Kd.R_after (ok := (fun k_ => (P0_ k_ ∨ w.heap.size ≤ k_) ∧ some k_ ≠ (.slice d5 b5.length d6 : Value).ownBlock)) (by (with_reducible repeat (first | apply Kd.R_alloc | apply Kd.R_drewN | apply Kd.R_drew)); exact Kd.R_mono a0.out (fun _ hk => ⟨⟨hk.1, hk.2.2⟩, hk.2.1⟩)) hg hat)
    have n1_ := am_ (Kd.R_after (ok := (fun k_ => (P0_ k_ ∨ w.heap.size ≤ k_) ∧ some k_ ≠ (.slice b2 l0.length a6 : Value).ownBlock)) (by (with_reducible repeat (first | apply Kd.R_alloc | apply Kd.R_drewN | apply Kd.R_drew)); exact Kd.R_mono a4.out (fun _ hk => ⟨⟨hk.1, hk.2.2⟩, hk.2.1⟩)) hg hat)
    have n2_ := am_ (hb)
    have n3_ := am_ (Kept.of_grown (S := (fun k_ => P0_ k_)) hg (by repeat (first | (with_reducible first | exact HK.out | apply Kept.alloc | apply Kept.drewN | apply Kept.drew) | exact HK.out)) (fun k_ e_ => (b3.out.1 k_ e_).1))
    have n4_ := am_ (ho)
    clear a0; clear a4; clear HB; clear HK; clear b3; have a0 := n0_; have a4 := n1_; have HB := n2_; have HK := n3_; have d3 := n4_; clear n0_ n1_ n2_ n3_ n4_; clear ho hb hg hat
    refine hK.out _ _ trivial (fun hHeld => ?_)
    clear hK K
    refine nm_ 39 ?_
    refine o1_ 10 (some 43) (bm 12 2047) (fun K hK => ?_)
    refine Kd.R_append_rows_step (Kd.int .i64) (w0 := w0) w0.heap.size (by rfl) (.tmp 39) (.tmp 42) 51 3 (.int .i64 0) 8 rfl Try.underlying51 info3 rfl (by decide) (by omega) f0 b7 b0 _ _ _ (fun k_ => (P0_ k_ ∨ w.heap.size ≤ k_) ∧ some k_ ≠ (.slice b2 l0.length a6 : Value).ownBlock ∧ some k_ ≠ (.slice d5 b5.length d6 : Value).ownBlock) (fun _ => False) rfl rfl ?aO ?aR (fun _ _ h => h) (fun _ h => h.elim) ?aF ?aB ?aS ?aL ?_
    (case aR => rw [Ny352.out, KA37.out]; exact Kd.C_drop (m := (x5_1 : Int).toNat) (c := a6) ((Kd.R_reads' a0.out).2.2) KL37.out ((Kd.R_reads' a0.out).2.1))
    (case aB => exact qB_)
    (case aF => exact (fun k_ hk => ⟨(.inr (Nat.le_trans (by first | exact HK.out.1 | exact (show Kept w _ (fun k_ => P0_ k_) from by repeat (first | (with_reducible first | exact HK.out | apply Kept.alloc | apply Kept.drewN | apply Kept.drew) | exact HK.out)).1) hk)), Kd.fresh' (Kd.R_lt (qR_ a0)) k_ hk, Kd.fresh' (Kd.R_lt (qR_ a4)) k_ hk⟩))
    (case aO => exact (qR_ d3))
    (case aS => exact (below_size qB_))
    (case aL => have := LMc33.out; omega)
    intro f7 w44 ho hb hg hat
    rw [← Ny356.out] at ho
    have e4 := am_ (ho); replace a0 := am_ (Kd.R_after (ok := (fun k_ => (P0_ k_ ∨ w.heap.size ≤ k_) ∧ some k_ ≠ (.slice d5 b5.length d6 : Value).ownBlock)) (qR_ a0) hg hat); replace a4 := am_ (Kd.R_after (ok := (fun k_ => (P0_ k_ ∨ w.heap.size ≤ k_) ∧ some k_ ≠ (.slice b2 l0.length a6 : Value).ownBlock)) (qR_ a4) hg hat); replace HK := am_ (Kept.of_grown (S := (fun k_ => P0_ k_)) hg (by repeat (first | (with_reducible first | exact HK.out | apply Kept.alloc | apply Kept.drewN | apply Kept.drew) | exact HK.out)) (fun k_ e_ => (d3.out.1 k_ e_).1)); replace HB := am_ (hb); clear d3; clear ho hb hg hat
    refine hK.out _ _ trivial (fun hHeld => ?_)
    clear hK K
    refine nm_ 43 ?_
    refine pz_ 11 4 (bm 12 4095) ?_
    refine done_ (done_of HT_.out (by kernel_rfl)) ?_
    try go_wp2
    go_ret
    exact ⟨_, qr_, by (with_reducible repeat (first | apply Kd.R_alloc | apply Kd.R_drewN | apply Kd.R_drew)); exact Kd.R_mono e4.out (fun _ hk => hk.1), by repeat (first | (with_reducible first | exact HB.out | apply below_alloc | apply pw_below_drewN | apply below_drew1) | exact HB.out), by repeat (first | (with_reducible first | exact HK.out | apply Kept.alloc | apply Kept.drewN | apply Kept.drew) | exact HK.out)⟩
   rw [if_pos c3] at H
   have c3b0 := decide_eq_true c3
   clear c3
   by_cases c4 : 0 ≤ x5_1
   rotate_left
   ·rw [if_neg c4] at H
    exact absurd H (by simp)
   rw [if_pos c4] at H
   have c4b0 := decide_eq_true c4
   clear c4
   by_cases c5 : (rd l0 x5_1) < a1
   ·rw [if_pos c5] at H
    have c5b0 := decide_eq_true c5
    clear c5; have H' := am_ H; clear H
    obtain ⟨g2, g3, f8⟩ := Kd.R_slice a0.out
    subst f8
    have p317 := dp_ x5_1
    have q317 := dl_ x5_1 l0.length
    obtain ⟨ad317, e317, d2⟩ := Kd.at_int (Kd.R_reads' a0.out).2.2 x5_1 p317 q317
    cases e317; replace p317 := eq_true p317; replace q317 := eq_true q317
    go_wp2
    go_roundg k1
    case measure => have := HK1.out; omega
    case rel => exact ⟨(wrap64 (x5_1 + 1)), qe_, H', ⟨by have := HK1.out; omega⟩, ⟨by (with_reducible repeat (first | apply Kd.R_alloc | apply Kd.R_drewN | apply Kd.R_drew)); first | exact a0.out | (have h_ := a0.out; simp only [own_slice] at h_ ⊢; exact h_)⟩, ⟨by repeat (first | (with_reducible first | exact HK.out | apply Kept.alloc | apply Kept.drewN | apply Kept.drew) | exact HK.out)⟩, ⟨qB_⟩⟩
   rw [if_neg c5] at H
   have c5b0 := decide_eq_false c5
   clear c5
   by_cases c7 : (rd l0 x5_1) = a1
   ·rw [if_pos c7] at H
    have c7b0 : ((rd l0 x5_1) == a1) = true := beq_iff_eq.mpr c7
    have c7b1 : ((rd l0 x5_1) != a1) = false := bne_eq_false_iff_eq.mpr c7
    clear c7
    obtain rfl := Option.some.inj H
    obtain ⟨g4, g5, f9⟩ := Kd.R_slice a0.out
    subst f9
    have p317 := dp_ x5_1
    have q317 := dl_ x5_1 l0.length
    obtain ⟨ad317, e317, d2⟩ := Kd.at_int (Kd.R_reads' a0.out).2.2 x5_1 p317 q317
    cases e317; replace p317 := eq_true p317; replace q317 := eq_true q317
    have p318 := dp_ x5_1
    have q318 := dl_ x5_1 l0.length
    obtain ⟨ad318, e318, d7⟩ := Kd.at_int (Kd.R_reads' a0.out).2.2 x5_1 p318 q318
    obtain rfl : ad317 = ad318 := (by injection e318)
    replace p318 := eq_true p318; replace q318 := eq_true q318
    go_wp2
    go_ret
    exact ⟨_, qr_, by (with_reducible repeat (first | apply Kd.R_alloc | apply Kd.R_drewN | apply Kd.R_drew)); exact a0.out, by repeat (first | (with_reducible first | exact HB.out | apply below_alloc | apply pw_below_drewN | apply below_drew1) | exact HB.out), by repeat (first | (with_reducible first | exact HK.out | apply Kept.alloc | apply Kept.drewN | apply Kept.drew) | exact HK.out)⟩
   rw [if_neg c7] at H
   have c7b0 : ((rd l0 x5_1) == a1) = false := beq_eq_false_iff_ne.mpr c7
   have c7b1 : ((rd l0 x5_1) != a1) = true := bne_iff_ne.mpr c7
   have c9b0 := eq_true (of_decide_eq_true qa_ : 0 ≤ x5_1)
   by_cases c10 : x5_1 ≤ (l0.length : Int)
   rotate_left
   ·rw [if_neg c10] at H
    exact absurd H (by simp)
   rw [if_pos c10] at H
   have c10b0 := eq_true c10
   have c10b1 := decide_eq_true c10
   clear c10
   obtain ⟨d0, hy319⟩ : ∃ y_ : List Int, y_ = (l0.take (x5_1 : Int).toNat) := ⟨_, rfl⟩
   replace H : ((impl_copyInts.f d0).bind fun c0 => ((some (([a1] : List Int) : List Int)).bind fun b6 => (if c0.length + b6.length < 17592186044416 then ((some (c0 ++ b6 : List Int)).bind fun b8 => ((some (l0.drop (x5_1 : Int).toNat : List Int)).bind fun b1 => (if b8.length + b1.length < 17592186044416 then (some (b8 ++ b1)) else (none)))) else (none)))) = some r := by first | (rw [hy319]; with_reducible exact H) | (have H2_ := (Option.bind_some _ _).symm.trans H; rw [hy319]; with_reducible exact H2_) | (have H2_ := (Option.bind_some _ _).symm.trans H; with_reducible exact H2_) | with_reducible exact H | (rw [hy319]; exact H) | exact H
   have Ny319 := am_ hy319
   clear hy319
   obtain ⟨c0, e5, H⟩ := Option.bind_eq_some_iff.mp H; have A11 := am_ e5; clear e5
   obtain ⟨b6, hy326⟩ : ∃ y_ : List Int, y_ = (([a1] : List Int)) := ⟨_, rfl⟩
   replace H : (if c0.length + b6.length < 17592186044416 then ((some (c0 ++ b6 : List Int)).bind fun b8 => ((some (l0.drop (x5_1 : Int).toNat : List Int)).bind fun b1 => (if b8.length + b1.length < 17592186044416 then (some (b8 ++ b1)) else (none)))) else (none)) = some r := by first | (rw [hy326]; with_reducible exact H) | (have H2_ := (Option.bind_some _ _).symm.trans H; rw [hy326]; with_reducible exact H2_) | (have H2_ := (Option.bind_some _ _).symm.trans H; with_reducible exact H2_) | with_reducible exact H | (rw [hy326]; exact H) | exact H
   have Ny326 := am_ hy326
   clear hy326
   by_cases c12 : c0.length + b6.length < 17592186044416
   rotate_left
   ·rw [if_neg c12] at H
    exact absurd H (by simp)
   rw [if_pos c12] at H
   have LMc12 := am_ c12
   clear c12
   obtain ⟨b8, hy329⟩ : ∃ y_ : List Int, y_ = (c0 ++ b6) := ⟨_, rfl⟩
   replace H : ((some (l0.drop (x5_1 : Int).toNat : List Int)).bind fun b1 => (if b8.length + b1.length < 17592186044416 then (some (b8 ++ b1)) else (none))) = some r := by first | (rw [hy329]; with_reducible exact H) | (have H2_ := (Option.bind_some _ _).symm.trans H; rw [hy329]; with_reducible exact H2_) | (have H2_ := (Option.bind_some _ _).symm.trans H; with_reducible exact H2_) | with_reducible exact H | (rw [hy329]; exact H) | exact H
   have Ny329 := am_ hy329
   clear hy329
   have c13b0 := eq_true (of_decide_eq_true qa_ : 0 ≤ x5_1)
   have c14b0 := eq_true (of_decide_eq_true qa_ : x5_1 ≤ (l0.length : Int))
   obtain ⟨b1, hy332⟩ : ∃ y_ : List Int, y_ = (l0.drop (x5_1 : Int).toNat) := ⟨_, rfl⟩
   replace H : (if b8.length + b1.length < 17592186044416 then (some (b8 ++ b1)) else (none)) = some r := by first | (rw [hy332]; with_reducible exact H) | (have H2_ := (Option.bind_some _ _).symm.trans H; rw [hy332]; with_reducible exact H2_) | (have H2_ := (Option.bind_some _ _).symm.trans H; with_reducible exact H2_) | with_reducible exact H | (rw [hy332]; exact H) | exact H
   have Ny332 := am_ hy332
   clear hy332
   by_cases c15 : b8.length + b1.length < 17592186044416
   rotate_left
   ·rw [if_neg c15] at H
    exact absurd H (by simp)
   rw [if_pos c15] at H
   have LMc15 := am_ c15
   clear c15
   obtain ⟨f1, hy336⟩ : ∃ y_ : List Int, y_ = (b8 ++ b1) := ⟨_, rfl⟩
   replace H : (some f1) = some r := by first | (rw [hy336]; with_reducible exact H) | (have H2_ := (Option.bind_some _ _).symm.trans H; rw [hy336]; with_reducible exact H2_) | (have H2_ := (Option.bind_some _ _).symm.trans H; with_reducible exact H2_) | with_reducible exact H | (rw [hy336]; exact H) | exact H
   have Ny336 := am_ hy336
   clear hy336
   obtain rfl := Option.some.inj H
   obtain ⟨g0, a7, f2⟩ := Kd.R_slice a0.out
   subst f2
   have p317 := dp_ x5_1
   have q317 := dl_ x5_1 l0.length
   obtain ⟨ad317, e317, d2⟩ := Kd.at_int (Kd.R_reads' a0.out).2.2 x5_1 p317 q317
   cases e317; replace p317 := eq_true p317; replace q317 := eq_true q317
   have p318 := dp_ x5_1
   have q318 := dl_ x5_1 l0.length
   obtain ⟨ad318, e318, d7⟩ := Kd.at_int (Kd.R_reads' a0.out).2.2 x5_1 p318 q318
   obtain rfl : ad317 = ad318 := (by injection e318)
   replace p318 := eq_true p318; replace q318 := eq_true q318
   try go_wp2
   replace a0 := am_ (Kd.R_drew a0.out); replace HK := am_ (Kept.drew HK.out); replace HB := am_ (below_drew1 HB.out)
   have q18 : (x5_1 : Int) ≤ ((l0.length : Int) : Int) := of_decide_eq_true qa_
   obtain ⟨i018, hi018, _, hsz18, _⟩ := info_parts info3
   have hroom18 : l0.length ≤ a7 := (Kd.R_reads' a0.out).2.1
   have hC18 : Kd.C (Kd.int .i64) _ (some ad317) l0.length l0 := (Kd.R_reads' a0.out).2.2
   have hcut18 := cut_to (P := Try.prog) 51 3 .i64 Try.underlying51 hi018 (some ad317) l0.length a7 x5_1 (of_decide_eq_true qa_) q18 hroom18
   have hr18 := Kd.C_take (m := (x5_1 : Int).toNat) hC18 (by omega)
   have hy18 : d0.length = (x5_1 : Int).toNat := (by rw [Ny319.out, List.length_take]; omega)
   rw [← Ny319.out] at hr18
   rw [← hy18] at hcut18
   have a3 := am_ hr18
   have e1 := am_ (show d0.length ≤ a7 from by omega)
   clear hr18 hC18 hroom18 hi018 hsz18
   have KY18 := am_ hy18
   clear hy18
   have KL18 := am_ (show (x5_1 : Int).toNat ≤ l0.length from by omega)
   replace q18 := eq_true q18
   have q19 : (x5_1 : Int) ≤ ((l0.length : Int) : Int) := of_decide_eq_true qa_
   obtain ⟨i019, hi019, _, hsz19, _⟩ := info_parts info3
   have hroom19 : l0.length ≤ a7 := (Kd.R_reads' a0.out).2.1
   have hC19 : Kd.C (Kd.int .i64) _ (some ad317) l0.length l0 := (Kd.R_reads' a0.out).2.2
   have q019 : (0 : Int) ≤ (x5_1 : Int) := of_decide_eq_true qa_
   have hcut19 := cut_from (P := Try.prog) 51 3 .i64 Try.underlying51 hi019 1 hsz19 (some ad317) l0.length a7 x5_1 q019 q19
   have hr19 := Kd.C_drop (m := (x5_1 : Int).toNat) (c := a7) hC19 (by omega) hroom19
   obtain ⟨A19, hA19⟩ : ∃ A1, A1 = (if a7 = (x5_1 : Int).toNat then (some ad317) else ((some ad317) : Option Addr).map (·.add ((x5_1 : Int).toNat * 1))) := ⟨_, rfl⟩
   obtain ⟨c19, hc19⟩ : ∃ c1, c1 = a7 - (x5_1 : Int).toNat := ⟨_, rfl⟩
   have hy19 : b1.length = l0.length - (x5_1 : Int).toNat := (by rw [Ny332.out, List.length_drop] <;> omega)
   rw [show (l0).drop (x5_1 : Int).toNat = b1 from Ny332.out.symm] at hr19
   replace hr19 : Kd.C (Kd.int .i64) _ A19 b1.length b1 := (by rw [hA19]; exact hr19)
   rw [← hy19, ← hA19, ← hc19] at hcut19
   have a9 := am_ hr19
   have f6 := am_ (show b1.length ≤ c19 from by rw [hy19, hc19]; exact Nat.sub_le_sub_right hroom19 _)
   clear hr19 hC19 hroom19 hi019 hsz19 hc19
   have KY19 := am_ hy19
   have KA19 := am_ hA19
   clear hy19 hA19
   have KL19 := am_ (show (x5_1 : Int).toNat ≤ l0.length from by omega)
   replace q19 := eq_true q19
   refine start_ (n := 12) (S := fun w' => True) (ds := []) (bm 12 0) (by kernel_rfl) rfl (by kernel_rfl) trivial (fun hHeld => ?_); refine with_tabW impl_with.tab6 impl_with.bits6 (fun HT_ HW_ => ?_)
   generalize wr.drew = w17 at a0 HK HB a3 a9 hHeld ⊢
   refine pz_ 0 33 (bm 12 1) ?_; refine pz_ 1 34 (bm 12 3) ?_; refine pz_ 2 35 (bm 12 7) ?_; refine pz_ 4 37 (bm 12 23) ?_; refine pz_ 7 40 (bm 12 151) ?_; refine pz_ 8 41 (bm 12 407) ?_; refine pz_ 9 42 (bm 12 919) ?_
   refine join_ (σ := Value × Value) 3 #[true, true, true, true, true, true, false, true, true, true, false, false] (fun s_ => [(36, s_.1), (38, s_.2)]) (fun s_ w' => (Kd.R (Kd.int .i64) 3 w' w0.heap.size (fun k_ => (P0_ k_ ∨ w.heap.size ≤ k_) ∧ some k_ ≠ (s_.2 : Value).ownBlock ∧ some k_ ≠ (.slice (some ad317) l0.length a7 : Value).ownBlock) s_.1 c0) ∧ (Kd.R (Kd.int .i64) 3 w' w0.heap.size (fun k_ => (P0_ k_ ∨ w.heap.size ≤ k_) ∧ some k_ ≠ (s_.1 : Value).ownBlock ∧ some k_ ≠ (.slice (some ad317) l0.length a7 : Value).ownBlock) s_.2 b6) ∧ (Kd.R (Kd.int .i64) 3 w' w0.heap.size (fun k_ => (P0_ k_ ∨ w.heap.size ≤ k_) ∧ some k_ ≠ (s_.1 : Value).ownBlock ∧ some k_ ≠ (s_.2 : Value).ownBlock) (.slice (some ad317) l0.length a7) l0) ∧ (Kept w w' (fun k_ => P0_ k_)) ∧ (Below w0.heap.size w0 w')) ?_ ?_
   rotate_left
   ·intro hCont
    refine two_ (i := 3) (j := 5) (Ni := some 36) (Nj := some 38) (bm 12 927) #[true, true, true, false, true, true, false, true, true, true, false, false] rfl rfl rfl rfl (two_of HT_.out (by kernel_rfl)) (by decide) (by decide) (fun K hK => ?_) (fun K hK => ?_)
    ·skip
     refine gs_ Try.func121 #[.slice (some ad317) d0.length a7] ?_
     with_reducible refine (impl_copyInts.calls _ _ d0 c0 _ ?side1 ?side2 A11.out).mono ?_
     (case side1 => repeat (first | exact (by repeat (first | (with_reducible exact a3.out) | (with_reducible refine Kd.C_alloc ?_ _) | (with_reducible refine Kd.C_drewN ?_ _) | (with_reducible refine Kd.C_drew ?_) | exact a3.out)) | (with_reducible refine Kd.C_alloc ?_ _) | (with_reducible refine Kd.C_drewN ?_ _) | (with_reducible refine Kd.C_drew ?_)))
     (case side2 => exact e1.out)
     rintro e w20 ⟨c6, rfl, ho0, hb⟩
     refine ⟨_, rfl, ?_⟩
     have b4 := am_ (Kd.R_lower (Kd.R_new' (Kd.R_newM (M := fun k_ => (P0_ k_ ∨ w.heap.size ≤ k_)) ho0 (by first | exact HK.out.1 | exact (show Kept w _ (fun k_ => P0_ k_) from by repeat (first | (with_reducible first | exact HK.out | apply Kept.alloc | apply Kept.drewN | apply Kept.drew) | exact HK.out)).1) (fun k_ h_ => .inr h_)) (Kd.R_lt (qR_ a0))) (below_size qB_)); replace a0 := am_ (Kd.R_elder' (qR_ a0) (Kd.R_base ho0) hb); replace a3 := am_ (Kd.C_below (by repeat (first | (with_reducible exact a3.out) | (with_reducible refine Kd.C_alloc ?_ _) | (with_reducible refine Kd.C_drewN ?_ _) | (with_reducible refine Kd.C_drew ?_) | exact a3.out)) hb); replace a9 := am_ (Kd.C_below (by repeat (first | (with_reducible exact a9.out) | (with_reducible refine Kd.C_alloc ?_ _) | (with_reducible refine Kd.C_drewN ?_ _) | (with_reducible refine Kd.C_drew ?_) | exact a9.out)) hb); replace HK := am_ (Kept.below (S := (fun k_ => P0_ k_)) (by repeat (first | (with_reducible first | exact HK.out | apply Kept.alloc | apply Kept.drewN | apply Kept.drew) | exact HK.out)) hb); replace HB := am_ (below_step qB_ hb); (try clear hb); (try clear hb2); (try clear hk); (try clear hi); (try clear ho0)
     refine hK.out _ _ trivial (fun hHeld => ?_)
     clear hK K
     refine nm_ 36 ?_
     refine o1_ 5 (some 38) (bm 12 959) (fun K hK => ?_)
     refine Kd.R_lit_step (Kd.int .i64) _ 3 ?hg (N := 38) ?hd (xs := ([a1] : List Int)) (inner := [.int .i64 a1]) (ok := fun _ => True) (okp := fun _ => True) ?hr ?hp (fun _ hk => hk) trivial (Below.refl _ _) (Nat.le_refl _) (by simp) ?_; (case hd => rfl); (case hg => rfl); (case hr => first | (go_simp; done) | (go_simp; rfl)); (case hp => exact (Reps.one (show Kd.M (Kd.int .i64) _ _ _ a1 [.int .i64 a1] from rfl) (Reps.none _ _)))
     intro d1 w21 ho22 hb hg_ hnew_
     clear hg_ hnew_
     (first | rw [← Ny326.out] at ho22 | (simp only [Int.reduceToNat] at ho22; rw [← Ny326.out] at ho22))
     have a5 := am_ (Kd.R_lower (Kd.R_new' (Kd.R_new' (Kd.R_newM (M := fun k_ => (P0_ k_ ∨ w.heap.size ≤ k_)) ho22 (by first | exact HK.out.1 | exact (show Kept w _ (fun k_ => P0_ k_) from by repeat (first | (with_reducible first | exact HK.out | apply Kept.alloc | apply Kept.drewN | apply Kept.drew) | exact HK.out)).1) (fun k_ h_ => .inr h_)) (Kd.R_lt (qR_ a0))) (Kd.R_lt (qR_ b4))) (below_size qB_)); replace a0 := am_ (Kd.R_elder' (qR_ a0) (Kd.R_base ho22) hb); replace b4 := am_ (Kd.R_elder' (qR_ b4) (Kd.R_base ho22) hb); replace a3 := am_ (Kd.C_below (by repeat (first | (with_reducible exact a3.out) | (with_reducible refine Kd.C_alloc ?_ _) | (with_reducible refine Kd.C_drewN ?_ _) | (with_reducible refine Kd.C_drew ?_) | exact a3.out)) hb); replace a9 := am_ (Kd.C_below (by repeat (first | (with_reducible exact a9.out) | (with_reducible refine Kd.C_alloc ?_ _) | (with_reducible refine Kd.C_drewN ?_ _) | (with_reducible refine Kd.C_drew ?_) | exact a9.out)) hb); replace HK := am_ (Kept.below (S := (fun k_ => P0_ k_)) (by repeat (first | (with_reducible first | exact HK.out | apply Kept.alloc | apply Kept.drewN | apply Kept.drew) | exact HK.out)) hb); replace HB := am_ (below_step qB_ hb); clear hb ho22
     refine hK.out _ _ trivial (fun hHeld => ?_)
     clear hK K
     refine nm_ 38 ?_
     exact norm_ (by simp only [putAll, Act.put, sA_, sB_, sC_]) (hCont (c6, d1) _ ⟨(by (with_reducible repeat (first | apply Kd.R_alloc | apply Kd.R_drewN | apply Kd.R_drew)); exact Kd.R_mono b4.out (fun _ hk => ⟨hk.1.1.1, ⟨hk.2, hk.1.2⟩⟩)), (by (with_reducible repeat (first | apply Kd.R_alloc | apply Kd.R_drewN | apply Kd.R_drew)); exact Kd.R_mono a5.out (fun _ hk => ⟨hk.1.1.1, ⟨hk.2, hk.1.2⟩⟩)), (by (with_reducible repeat (first | apply Kd.R_alloc | apply Kd.R_drewN | apply Kd.R_drew)); exact Kd.R_mono a0.out (fun _ hk => ⟨hk.1.1, ⟨hk.1.2, hk.2⟩⟩)), (by repeat (first | (with_reducible first | exact HK.out | apply Kept.alloc | apply Kept.drewN | apply Kept.drew) | exact HK.out)), qB_⟩)
    skip
    refine Kd.R_lit_step (Kd.int .i64) _ 3 ?hg (N := 38) ?hd (xs := ([a1] : List Int)) (inner := [.int .i64 a1]) (ok := fun _ => True) (okp := fun _ => True) ?hr ?hp (fun _ hk => hk) trivial (Below.refl _ _) (Nat.le_refl _) (by simp) ?_; (case hd => rfl); (case hg => rfl); (case hr => first | (go_simp; done) | (go_simp; rfl)); (case hp => exact (Reps.one (show Kd.M (Kd.int .i64) _ _ _ a1 [.int .i64 a1] from rfl) (Reps.none _ _)))
    intro d1 w20 ho21 hb hg_ hnew_
    clear hg_ hnew_
    (first | rw [← Ny326.out] at ho21 | (simp only [Int.reduceToNat] at ho21; rw [← Ny326.out] at ho21))
    have a5 := am_ (Kd.R_lower (Kd.R_new' (Kd.R_newM (M := fun k_ => (P0_ k_ ∨ w.heap.size ≤ k_)) ho21 (by first | exact HK.out.1 | exact (show Kept w _ (fun k_ => P0_ k_) from by repeat (first | (with_reducible first | exact HK.out | apply Kept.alloc | apply Kept.drewN | apply Kept.drew) | exact HK.out)).1) (fun k_ h_ => .inr h_)) (Kd.R_lt (qR_ a0))) (below_size qB_)); replace a0 := am_ (Kd.R_elder' (qR_ a0) (Kd.R_base ho21) hb); replace a3 := am_ (Kd.C_below (by repeat (first | (with_reducible exact a3.out) | (with_reducible refine Kd.C_alloc ?_ _) | (with_reducible refine Kd.C_drewN ?_ _) | (with_reducible refine Kd.C_drew ?_) | exact a3.out)) hb); replace a9 := am_ (Kd.C_below (by repeat (first | (with_reducible exact a9.out) | (with_reducible refine Kd.C_alloc ?_ _) | (with_reducible refine Kd.C_drewN ?_ _) | (with_reducible refine Kd.C_drew ?_) | exact a9.out)) hb); replace HK := am_ (Kept.below (S := (fun k_ => P0_ k_)) (by repeat (first | (with_reducible first | exact HK.out | apply Kept.alloc | apply Kept.drewN | apply Kept.drew) | exact HK.out)) hb); replace HB := am_ (below_step qB_ hb); clear hb ho21
    refine hK.out _ _ trivial (fun hHeld => ?_)
    clear hK K
    refine nm_ 38 ?_
    refine o1_ 3 (some 36) (bm 12 959) (fun K hK => ?_)
    refine gs_ Try.func121 #[.slice (some ad317) d0.length a7] ?_
    with_reducible refine (impl_copyInts.calls _ _ d0 c0 _ ?side1 ?side2 A11.out).mono ?_
    (case side1 => repeat (first | exact (by repeat (first | (with_reducible exact a3.out) | (with_reducible refine Kd.C_alloc ?_ _) | (with_reducible refine Kd.C_drewN ?_ _) | (with_reducible refine Kd.C_drew ?_) | exact a3.out)) | (with_reducible refine Kd.C_alloc ?_ _) | (with_reducible refine Kd.C_drewN ?_ _) | (with_reducible refine Kd.C_drew ?_)))
    (case side2 => exact e1.out)
    rintro e w22 ⟨c6, rfl, ho0, hb⟩
    refine ⟨_, rfl, ?_⟩
    have b4 := am_ (Kd.R_lower (Kd.R_new' (Kd.R_new' (Kd.R_newM (M := fun k_ => (P0_ k_ ∨ w.heap.size ≤ k_)) ho0 (by first | exact HK.out.1 | exact (show Kept w _ (fun k_ => P0_ k_) from by repeat (first | (with_reducible first | exact HK.out | apply Kept.alloc | apply Kept.drewN | apply Kept.drew) | exact HK.out)).1) (fun k_ h_ => .inr h_)) (Kd.R_lt (qR_ a0))) (Kd.R_lt (qR_ a5))) (below_size qB_)); replace a0 := am_ (Kd.R_elder' (qR_ a0) (Kd.R_base ho0) hb); replace a5 := am_ (Kd.R_elder' (qR_ a5) (Kd.R_base ho0) hb); replace a3 := am_ (Kd.C_below (by repeat (first | (with_reducible exact a3.out) | (with_reducible refine Kd.C_alloc ?_ _) | (with_reducible refine Kd.C_drewN ?_ _) | (with_reducible refine Kd.C_drew ?_) | exact a3.out)) hb); replace a9 := am_ (Kd.C_below (by repeat (first | (with_reducible exact a9.out) | (with_reducible refine Kd.C_alloc ?_ _) | (with_reducible refine Kd.C_drewN ?_ _) | (with_reducible refine Kd.C_drew ?_) | exact a9.out)) hb); replace HK := am_ (Kept.below (S := (fun k_ => P0_ k_)) (by repeat (first | (with_reducible first | exact HK.out | apply Kept.alloc | apply Kept.drewN | apply Kept.drew) | exact HK.out)) hb); replace HB := am_ (below_step qB_ hb); (try clear hb); (try clear hb2); (try clear hk); (try clear hi); (try clear ho0)
    refine hK.out _ _ trivial (fun hHeld => ?_)
    clear hK K
    refine nm_ 36 ?_
    exact norm_ (by simp only [putAll, Act.put, sA_, sB_, sC_]) (hCont (c6, d1) _ ⟨(by (with_reducible repeat (first | apply Kd.R_alloc | apply Kd.R_drewN | apply Kd.R_drew)); exact Kd.R_mono b4.out (fun _ hk => ⟨hk.1.1.1, ⟨hk.2, hk.1.2⟩⟩)), (by (with_reducible repeat (first | apply Kd.R_alloc | apply Kd.R_drewN | apply Kd.R_drew)); exact Kd.R_mono a5.out (fun _ hk => ⟨hk.1.1.1, ⟨hk.2, hk.1.2⟩⟩)), (by (with_reducible repeat (first | apply Kd.R_alloc | apply Kd.R_drewN | apply Kd.R_drew)); exact Kd.R_mono a0.out (fun _ hk => ⟨hk.1.1, ⟨hk.2, hk.1.2⟩⟩)), (by repeat (first | (with_reducible first | exact HK.out | apply Kept.alloc | apply Kept.drewN | apply Kept.drew) | exact HK.out)), qB_⟩)
   rintro ⟨c6, d1⟩ w23 ⟨h0_, h1_, h2_, h3_, h4_⟩
   have n0_ : Aside0 (Kd.R (Kd.int .i64) 3 w23 w0.heap.size (fun k_ => (P0_ k_ ∨ w.heap.size ≤ k_) ∧ some k_ ≠ (d1 : Value).ownBlock ∧ some k_ ≠ (.slice (some ad317) l0.length a7 : Value).ownBlock) c6 c0) := ⟨h0_⟩
   have n1_ : Aside0 (Kd.R (Kd.int .i64) 3 w23 w0.heap.size (fun k_ => (P0_ k_ ∨ w.heap.size ≤ k_) ∧ some k_ ≠ (c6 : Value).ownBlock ∧ some k_ ≠ (.slice (some ad317) l0.length a7 : Value).ownBlock) d1 b6) := ⟨h1_⟩
   have n2_ : Aside0 (Kd.R (Kd.int .i64) 3 w23 w0.heap.size (fun k_ => (P0_ k_ ∨ w.heap.size ≤ k_) ∧ some k_ ≠ (c6 : Value).ownBlock ∧ some k_ ≠ (d1 : Value).ownBlock) (.slice (some ad317) l0.length a7) l0) := ⟨h2_⟩
   have n3_ : Aside0 (Kept w w23 (fun k_ => P0_ k_)) := ⟨h3_⟩
   have n4_ : Aside0 (Below w0.heap.size w0 w23) := ⟨h4_⟩
   clear a0; clear HK; clear HB; clear h0_ h1_ h2_ h3_ h4_; have b4 := n0_; have a5 := n1_; have a0 := n2_; have HK := n3_; have HB := n4_; clear n0_ n1_ n2_ n3_ n4_; have hHeld := trivial
   obtain ⟨d8, d9, e6⟩ := Kd.R_slice a5.out
   (first | subst e6 | (injection e6 with f1_ f2_ f3_; have f4_ := f1_.symm; have f5_ := f3_.symm; clear f1_ f2_ f3_; subst f4_; subst f5_))
   refine norm_ (a' := ?_) ?_ ?_
   rotate_left
   ·simp only [putAll, Act.put, sA_, sB_, sC_]
    rfl
   refine o1_ 6 (some 39) (bm 12 1023) (fun K hK => ?_)
   refine Kd.R_append_rows_step (Kd.int .i64) (w0 := w0) w0.heap.size (by rfl) (.tmp 36) (.tmp 38) 51 3 (.int .i64 0) 8 rfl Try.underlying51 info3 rfl (by decide) (by omega) c6 c0 b6 _ _ _ (fun k_ => (P0_ k_ ∨ w.heap.size ≤ k_) ∧ some k_ ≠ (.slice (some ad317) l0.length a7 : Value).ownBlock ∧ some k_ ≠ (.slice d8 b6.length d9 : Value).ownBlock) (fun _ => False) rfl rfl ?aO ?aR (fun _ _ h => h) (fun _ h => h.elim) ?aF ?aB ?aS ?aL ?_
   (case aR => repeat (first | exact (Kd.R_reads' a5.out).2.2 | (with_reducible refine Kd.C_alloc ?_ _) | (with_reducible refine Kd.C_drewN ?_ _) | (with_reducible refine Kd.C_drew ?_)))
   (case aB => exact qB_)
   (case aF => exact (fun k_ hk => ⟨(.inr (Nat.le_trans (by first | exact HK.out.1 | exact (show Kept w _ (fun k_ => P0_ k_) from by repeat (first | (with_reducible first | exact HK.out | apply Kept.alloc | apply Kept.drewN | apply Kept.drew) | exact HK.out)).1) hk)), Kd.fresh' (Kd.R_lt (qR_ a0)) k_ hk, Kd.fresh' (Kd.R_lt (qR_ a5)) k_ hk⟩))
   (case aO => exact (by (with_reducible repeat (first | apply Kd.R_alloc | apply Kd.R_drewN | apply Kd.R_drew)); exact Kd.R_mono b4.out (fun _ hk => ⟨hk.1, ⟨hk.2.2, hk.2.1⟩⟩)))
   (case aS => exact (below_size qB_))
   (case aL => have := LMc12.out; omega)
   intro f3 w24 ho hb hg hat
   rw [← Ny329.out] at ho
   have n0_ := am_ (Kd.R_after (ok := (fun k_ => (P0_ k_ ∨ w.heap.size ≤ k_) ∧ some k_ ≠ (.slice d8 b6.length d9 : Value).ownBlock)) (by (with_reducible repeat (first | apply Kd.R_alloc | apply Kd.R_drewN | apply Kd.R_drew)); exact Kd.R_mono a0.out (fun _ hk => ⟨⟨hk.1, hk.2.2⟩, hk.2.1⟩)) hg hat)
   have n1_ := am_ (Kd.R_after (ok := (fun k_ => (P0_ k_ ∨ w.heap.size ≤ k_) ∧ some k_ ≠ (.slice (some ad317) l0.length a7 : Value).ownBlock)) (by (with_reducible repeat (first | apply Kd.R_alloc | apply Kd.R_drewN | apply Kd.R_drew)); exact Kd.R_mono a5.out (fun _ hk => ⟨⟨hk.1, hk.2.2⟩, hk.2.1⟩)) hg hat)
   have n2_ := am_ (hb)
   have n3_ := am_ (Kept.of_grown (S := (fun k_ => P0_ k_)) hg (by repeat (first | (with_reducible first | exact HK.out | apply Kept.alloc | apply Kept.drewN | apply Kept.drew) | exact HK.out)) (fun k_ e_ => (b4.out.1 k_ e_).1))
   have n4_ := am_ (ho)
   clear a0; clear a5; clear HB; clear HK; clear b4; have a0 := n0_; have a5 := n1_; have HB := n2_; have HK := n3_; have d4 := n4_; clear n0_ n1_ n2_ n3_ n4_; clear ho hb hg hat
   refine hK.out _ _ trivial (fun hHeld => ?_)
   clear hK K
   refine nm_ 39 ?_
   refine o1_ 10 (some 43) (bm 12 2047) (fun K hK => ?_)
   refine Kd.R_append_rows_step (Kd.int .i64) (w0 := w0) w0.heap.size (by rfl) (.tmp 39) (.tmp 42) 51 3 (.int .i64 0) 8 rfl Try.underlying51 info3 rfl (by decide) (by omega) f3 b8 b1 _ _ _ (fun k_ => (P0_ k_ ∨ w.heap.size ≤ k_) ∧ some k_ ≠ (.slice (some ad317) l0.length a7 : Value).ownBlock ∧ some k_ ≠ (.slice d8 b6.length d9 : Value).ownBlock) (fun _ => False) rfl rfl ?aO ?aR (fun _ _ h => h) (fun _ h => h.elim) ?aF ?aB ?aS ?aL ?_
   (case aR => rw [Ny332.out, KA19.out]; exact Kd.C_drop (m := (x5_1 : Int).toNat) (c := a7) ((Kd.R_reads' a0.out).2.2) KL19.out ((Kd.R_reads' a0.out).2.1))
   (case aB => exact qB_)
   (case aF => exact (fun k_ hk => ⟨(.inr (Nat.le_trans (by first | exact HK.out.1 | exact (show Kept w _ (fun k_ => P0_ k_) from by repeat (first | (with_reducible first | exact HK.out | apply Kept.alloc | apply Kept.drewN | apply Kept.drew) | exact HK.out)).1) hk)), Kd.fresh' (Kd.R_lt (qR_ a0)) k_ hk, Kd.fresh' (Kd.R_lt (qR_ a5)) k_ hk⟩))
   (case aO => exact (qR_ d4))
   (case aS => exact (below_size qB_))
   (case aL => have := LMc15.out; omega)
   intro g1 w26 ho hb hg hat
   rw [← Ny336.out] at ho
   have e7 := am_ (ho); replace a0 := am_ (Kd.R_after (ok := (fun k_ => (P0_ k_ ∨ w.heap.size ≤ k_) ∧ some k_ ≠ (.slice d8 b6.length d9 : Value).ownBlock)) (qR_ a0) hg hat); replace a5 := am_ (Kd.R_after (ok := (fun k_ => (P0_ k_ ∨ w.heap.size ≤ k_) ∧ some k_ ≠ (.slice (some ad317) l0.length a7 : Value).ownBlock)) (qR_ a5) hg hat); replace HK := am_ (Kept.of_grown (S := (fun k_ => P0_ k_)) hg (by repeat (first | (with_reducible first | exact HK.out | apply Kept.alloc | apply Kept.drewN | apply Kept.drew) | exact HK.out)) (fun k_ e_ => (d4.out.1 k_ e_).1)); replace HB := am_ (hb); clear d4; clear ho hb hg hat
   refine hK.out _ _ trivial (fun hHeld => ?_)
   clear hK K
   refine nm_ 43 ?_
   refine pz_ 11 4 (bm 12 4095) ?_
   refine done_ (done_of HT_.out (by kernel_rfl)) ?_
   try go_wp2
   go_ret
   exact ⟨_, qr_, by (with_reducible repeat (first | apply Kd.R_alloc | apply Kd.R_drewN | apply Kd.R_drew)); exact Kd.R_mono e7.out (fun _ hk => hk.1), by repeat (first | (with_reducible first | exact HB.out | apply below_alloc | apply pw_below_drewN | apply below_drew1) | exact HB.out), by repeat (first | (with_reducible first | exact HK.out | apply Kept.alloc | apply Kept.drewN | apply Kept.drew) | exact HK.out)⟩
end Go.Proofs.Ytbkklafkoegdpaa.QFnExactLink
