import Derived.Test.YtacnlodcbbhahaaQFnActsx18
import Derived.Test.YtacnlodcbbhahaaQFnActsx19
import Derived.Test.YtacnlodcbbhahaaQFnActsx21
import Derived.Test.YtacnlodcbbhahaaQFnActsx23
namespace Go.Proofs.Ytacnlodcbbhahaa.QFnActs
open Go.RowKit Go.Proofs.YtacnlodcbbhahaaW.PrintWords Go.Proofs.YtacnlodcbbhahaaW.PrintLast Go.Proofs.YtacnlodcbbhahaaW.PrintMore
set_option maxHeartbeats 8000000
set_option maxRecDepth 100000
set_option linter.unusedVariables false
set_option linter.unusedSimpArgs false
mutual
def laws_FnActs.j0 : Nat → List (S60) → Int → List Int → Int → Bool → List (S99) → List (S99) → Option (Bool)
  | 0, _, _, _, _, _, _, _ => none
  | k + 1, x4, x5, x6, x8, x52, x554000, x559000 => if x52 = true then (some false) else (laws_FnActs.l0 k x4 x5 x6 x8 0 x554000 x559000 x554000)
def laws_FnActs.l0 : Nat → List (S60) → Int → List Int → Int → Int → List (S99) → List (S99) → List (S99) → Option (Bool)
  | 0, _, _, _, _, _, _, _, _ => none
  | k + 1, x4, x5, x6, x8, x12, x554000, x559000, x566000 => if x12 < x8 then (if 0 ≤ x12 then (if x12 < (x4.length : Int) then ((impl_DoAct.f k x566000 ((rd_T60 x4 x12).f0) ((rd_T60 x4 x12).f1) ((rd_T60 x4 x12).f2) ((rd_T60 x4 x12).f3)).bind fun bt567 => (if bt567.2 = true then ((impl_FileAt.f k x566000 ((rd_T60 x4 x12).f1)).bind fun bt573 => ((impl_FileAt.f k bt567.1 ((rd_T60 x4 x12).f1)).bind fun bt576 => (if ((rd_T60 x4 x12).f0) = 1 then (if bt576.2 = true then (if bt573.1.size + ((rd_T60 x4 x12).f2).size ≤ 9223372036854775807 then (if bt576.1.toList = (bt573.1 ++ ((rd_T60 x4 x12).f2)).toList then (if ((rd_T60 x4 x12).f0) = 4 then (some false) else (laws_FnActs.l0 k x4 x5 x6 x8 (wrap64 (x12 + 1)) x554000 x559000 bt567.1)) else (some false)) else (none)) else (some false)) else (if ((rd_T60 x4 x12).f0) = 4 then (if bt576.2 = true then (some false) else (laws_FnActs.l0 k x4 x5 x6 x8 (wrap64 (x12 + 1)) x554000 x559000 bt567.1)) else (laws_FnActs.l0 k x4 x5 x6 x8 (wrap64 (x12 + 1)) x554000 x559000 bt567.1))))) else (some false))) else (none)) else (none)) else ((impl_CutActs.f k x554000 x4 x5 x6).bind fun bt582 => ((spec_CutActs.f k x554000 x4 x5 x6).bind fun bt587 => (if (bt582.2 == bt587.2) = true then ((laws_sameDisk.f k bt582.1 bt587.1).bind fun t592 => (if t592 = true then (if x8 = 0 then (some true) else ((laws_sameDisk.f k x566000 x559000).bind fun t593 => (some t593))) else (some false))) else (some false))))
end
def laws_FnActs.f (k : Nat) (l0 : List Int) : Option (Bool) := (laws_big.f l0).bind fun t542 => (if t542 = true then (some true) else ((spec_DrawCutActs.f k l0).bind fun bt543 => ((impl_DoActs.f k bt543.1 bt543.2.1).bind fun bt554 => ((spec_DoActs.f k bt543.1 bt543.2.1).bind fun bt559 => (if bt554.2 = bt559.2 then ((laws_sameDisk.f k bt554.1 bt559.1).bind fun t564 => (laws_FnActs.j0 k bt543.2.1 bt543.2.2.1 bt543.2.2.2 bt554.2 (!t564) bt543.1 bt554.1)) else (laws_FnActs.j0 k bt543.2.1 bt543.2.2.1 bt543.2.2.2 bt554.2 true bt543.1 bt554.1))))))
def laws_FnActs.T12 : Bool × List (List Nat × List Nat) := (true, [([], []), ([], []), ([], []), ([1, 2], [1, 2]), ([3], [3]), ([0, 4], [0, 4]), ([5], [5]), ([6], [6]), ([6], [6]), ([], []), ([9, 7, 5, 0, 1, 2, 3, 4, 5, 6, 7, 9], [7, 9]), ([8, 10, 0, 1, 2, 3, 4, 5, 6, 7, 8, 9, 10], [8])])
def laws_FnActs.B12 : List Nat := [0, 0, 0, 6, 14, 31, 63, 127, 127, 0, 767, 2047]
theorem laws_FnActs.tab12 : rtab .any (opsOf Try.f11 12) = laws_FnActs.T12 := by kernel_rfl
theorem laws_FnActs.bits12 : waitsOk laws_FnActs.T12.2 laws_FnActs.B12 = true := by kernel_rfl
def laws_FnActs.T15 : Bool × List (List Nat × List Nat) := (true, [([], []), ([], []), ([], []), ([1, 2], [1, 2]), ([3], [3]), ([4], [4]), ([0, 5], [0, 5]), ([6], [6]), ([7], [7]), ([7], [7]), ([8, 6, 0, 1, 2, 3, 4, 5, 6, 7, 8], [8]), ([9, 10, 0, 1, 2, 3, 4, 5, 6, 7, 8, 9, 10], [9])])
def laws_FnActs.B15 : List Nat := [0, 0, 0, 6, 14, 30, 63, 127, 255, 255, 511, 2047]
theorem laws_FnActs.tab15 : rtab .any (opsOf Try.f11 15) = laws_FnActs.T15 := by kernel_rfl
theorem laws_FnActs.bits15 : waitsOk laws_FnActs.T15.2 laws_FnActs.B15 = true := by kernel_rfl
def laws_FnActs.T16 : Bool × List (List Nat × List Nat) := (true, [([], []), ([], []), ([], []), ([1, 2], [1, 2]), ([3], [3]), ([4], [4]), ([0, 5], [0, 5]), ([6], [6]), ([7], [7]), ([7], [7]), ([8, 6, 0, 1, 2, 3, 4, 5, 6, 7, 8], [8]), ([9, 10, 0, 1, 2, 3, 4, 5, 6, 7, 8, 9, 10], [9])])
def laws_FnActs.B16 : List Nat := [0, 0, 0, 6, 14, 30, 63, 127, 255, 255, 511, 2047]
theorem laws_FnActs.tab16 : rtab .any (opsOf Try.f11 16) = laws_FnActs.T16 := by kernel_rfl
theorem laws_FnActs.bits16 : waitsOk laws_FnActs.T16.2 laws_FnActs.B16 = true := by kernel_rfl
theorem laws_FnActs.calls (k : Nat) (p8 : Option Addr) (p9 : Nat) (l0 : List Int) (w : World) (hr0 : Kd.C (Kd.int .u8) w p8 l0.length l0) (hc0 : l0.length ≤ p9) (h : laws_FnActs.f k l0 = some true) :
  Calls Try.prog 11 #[.slice p8 l0.length p9] w fun e w' => e = .returned (.bool true) ∧ Below w.heap.size w w' := by
 have hu44 := Try.underlying44; have hu60 := Try.underlying60
 have s2 := am_ hr0
 have s3 := am_ hc0
 clear hr0 hc0
 have HB := am_ (Below.refl w.heap.size w)
 have H : ((laws_big.f l0).bind fun s4 => (if s4 = true then (some true) else ((spec_DrawCutActs.f k l0).bind fun k3 => ((impl_DoActs.f k k3.1 k3.2.1).bind fun p5 => ((spec_DoActs.f k k3.1 k3.2.1).bind fun y1 => (if p5.2 = y1.2 then ((laws_sameDisk.f k p5.1 y1.1).bind fun r7 => (laws_FnActs.j0 k k3.2.1 k3.2.2.1 k3.2.2.2 p5.2 (!r7) k3.1 p5.1)) else (laws_FnActs.j0 k k3.2.1 k3.2.2.1 k3.2.2.2 p5.2 true k3.1 p5.1))))))) = some true := h
 clear h
 obtain ⟨s4, y2, H⟩ := bs_ H
 by_cases p6 : s4 = true
 ·subst p6
  have y3 : (some true : Option Bool) = some true := rfl
  clear H; have H := y3; clear y3 H
  go_enter Try.func11, Try.ntmps11
  go_wp2_with (first | ((with_reducible refine gc_ 53 ?_); refine gl_ (some 24) Try.func53 #[.slice p8 l0.length p9] ?_; (with_reducible refine (laws_big.calls _ _ l0 true _ ?_ ?_ y2.out).mono ?_); exact qD_ s2.out; exact s3.out; rintro e w' ⟨rfl, ⟨nd, rfl⟩⟩; refine ⟨_, rfl, ?_⟩))
  go_ret
  exact ⟨qr_, qB_⟩
 replace p6 := Bool.eq_false_iff.mpr p6
 subst p6
 rw [if_neg ff_] at H
 obtain ⟨⟨F, l, k6, d1⟩, E0, H⟩ := bs_ H; dsimp only at H
 obtain ⟨⟨L, k7⟩, E1, H⟩ := bs_ H; dsimp only at H
 obtain ⟨⟨M, q0⟩, E2, H⟩ := bs_ H; dsimp only at H
 have s5 := am_ H
 clear H
 go_enter Try.func11, Try.ntmps11
 go_upto_region 6 with (first | ((with_reducible refine gc_ 53 ?_); refine gl_ (some 24) Try.func53 #[.slice p8 l0.length p9] ?_; (with_reducible refine (laws_big.calls _ _ l0 false _ ?_ ?_ y2.out).mono ?_); exact qD_ s2.out; exact s3.out; rintro e w' ⟨rfl, ⟨nd, rfl⟩⟩; refine ⟨_, rfl, ?_⟩) | ((with_reducible refine gc_ 54 ?_); refine gl_ (some 27) Try.func54 #[.slice p8 l0.length p9] ?_; (with_reducible refine (spec_DrawCutActs.calls k _ _ l0 F l k6 d1 _ ?_ ?_ E0.out).mono ?_); exact qD_ s2.out; exact s3.out; rintro e J7 ⟨J8, J9, k8, rfl, ho0, ho1, ho2, hb⟩; refine ⟨_, rfl, ?_⟩; have e4 := am_ (Kd.R_lower ho0 (below_size qB_)); have f5 := am_ (Kd.R_lower ho1 (below_size qB_)); have j6 := am_ (Kd.R_lower ho2 (below_size qB_)); replace HB := hs_ hb; clear hb; (try clear hb2); clear ho0 ho1 ho2) | ((with_reducible refine gd_ 3 ?_); refine by_ 3 (cs := #[.slice none 0 0]) (t := 44) ?_; intro c5 hg K0 q hb; have K1 := gw_ hg; replace e4 := kb_ e4 hb; replace f5 := kb_ f5 hb; replace j6 := kb_ j6 hb; replace HB := hs_ hb; clear hb hg; obtain ⟨Z, U, E3⟩ := Kd.R_slice e4.out; subst E3; obtain ⟨y4, y5⟩ := bc1_ q; obtain ⟨n1, e5, E4⟩ := Kd.R_slice f5.out; subst E4) | ((with_reducible refine gc_ 50 ?_); refine gl_ (some 35) Try.func50 #[.agg #[.slice Z F.length U], .slice n1 l.length e5] ?_; (with_reducible refine (impl_DoActs.calls k _ _ F _ _ l L k7 _ ?side1 ?side2 ?side3 ?side4 E1.out).mono ?_); (case side1 => refine (Kd.R_reads' (e := 99) (base := w.heap.size) (ok := fun k_ => True) (n := F.length) (c := U) ?_).2.2; exact (by (with_reducible repeat (first | apply Kd.R_alloc | apply Kd.R_drewN | apply Kd.R_drew)); exact (Kd.R_mono (Kd.R_far (p := ⟨c5, 0, none⟩) (Kd.R_types e4.out q.out (by decide)) (fun _ hk => hk.2) (.slice Z F.length U)) (fun _ h_ => h_.1)))); (case side2 => exact (Kd.R_reads' e4.out).2.1); (case side3 => refine (Kd.R_reads' (e := 60) (base := w.heap.size) (ok := fun k_ => True) (n := l.length) (c := e5) ?_).2.2; exact (by (with_reducible repeat (first | apply Kd.R_alloc | apply Kd.R_drewN | apply Kd.R_drew)); exact (Kd.R_mono (Kd.R_far (p := ⟨c5, 0, none⟩) (Kd.R_types f5.out q.out (by decide)) (fun _ hk => hk.2) (.slice Z F.length U)) (fun _ h_ => h_.1)))); (case side4 => exact (Kd.R_reads' f5.out).2.1); rintro e E5 ⟨K2, rfl, ho0, hb⟩; refine ⟨_, rfl, ?_⟩; have j7 := am_ (Kd.R_lower (Kd.R_new' ho0 (Kd.R_lt (by (with_reducible repeat (first | apply Kd.R_alloc | apply Kd.R_drewN | apply Kd.R_drew)); exact (Kd.R_mono (Kd.R_far (p := ⟨c5, 0, none⟩) (Kd.R_types e4.out q.out (by decide)) (fun _ hk => hk.2) (.slice Z F.length U)) (fun _ h_ => h_.1))))) (below_size qB_)); replace e4 := am_ (Kd.R_elder' (by (with_reducible repeat (first | apply Kd.R_alloc | apply Kd.R_drewN | apply Kd.R_drew)); exact (Kd.R_mono (Kd.R_far (p := ⟨c5, 0, none⟩) (Kd.R_types e4.out q.out (by decide)) (fun _ hk => hk.2) (.slice Z F.length U)) (fun _ h_ => h_.1))) (Kd.R_base ho0) hb); replace f5 := am_ (Kd.R_below (by (with_reducible repeat (first | apply Kd.R_alloc | apply Kd.R_drewN | apply Kd.R_drew)); exact (Kd.R_mono (Kd.R_far (p := ⟨c5, 0, none⟩) (Kd.R_types f5.out q.out (by decide)) (fun _ hk => hk.2) (.slice Z F.length U)) (fun _ h_ => h_.1))) hb); replace j6 := am_ (Kd.R_below (by (with_reducible repeat (first | apply Kd.R_alloc | apply Kd.R_drewN | apply Kd.R_drew)); exact (Kd.R_mono (Kd.R_far (p := ⟨c5, 0, none⟩) (Kd.R_types j6.out q.out (by decide)) (fun _ hk => hk.2) (.slice Z F.length U)) (fun _ h_ => h_.1))) hb); replace q := am_ (blk_below (g := c5) (o := .cells #[.slice Z F.length U] 44 (0, 0)) (qp_ q) hb); replace HB := hs_ hb; clear hb ho0) | ((with_reducible refine gd_ 7 ?_); refine by_ 7 (cs := #[.slice none 0 0]) (t := 44) ?_; intro c3 hg E6 s hb; have K3 := gw_ hg; obtain ⟨s6, y6⟩ := qn_ q hg; replace e4 := kb_ e4 hb; replace f5 := kb_ f5 hb; replace j6 := kb_ j6 hb; replace j7 := kb_ j7 hb; replace q := qbl_ q hb; replace HB := hs_ hb; clear hb hg; obtain ⟨Y, X, E7⟩ := Kd.R_slice j7.out; subst E7; obtain ⟨K4, K5⟩ := nn_ y6; obtain ⟨y7, y8⟩ := bc1_ s; obtain ⟨y9, z0⟩ := bc1_ q) | ((with_reducible refine gc_ 48 ?_); refine gl_ (some 41) Try.func48 #[.agg #[.slice Z F.length U], .slice n1 l.length e5] ?_; (with_reducible refine (spec_DoActs.calls k _ _ F _ _ l M q0 _ ?side1 ?side2 ?side3 ?side4 E2.out).mono ?_); (case side1 => refine (Kd.R_reads' (e := 99) (base := w.heap.size) (ok := fun k_ => (True ∧ some k_ ≠ (.slice Y L.length X : Value).ownBlock)) (n := F.length) (c := U) ?_).2.2; exact (by (with_reducible repeat (first | apply Kd.R_alloc | apply Kd.R_drewN | apply Kd.R_drew)); exact (Kd.R_mono (Kd.R_far (p := ⟨c3, 0, none⟩) (Kd.R_types e4.out s.out (by decide)) (fun _ hk => hk.2) (.slice Y L.length X)) (fun _ h_ => h_.1)))); (case side2 => exact (Kd.R_reads' e4.out).2.1); (case side3 => refine (Kd.R_reads' (e := 60) (base := w.heap.size) (ok := fun k_ => True) (n := l.length) (c := e5) ?_).2.2; exact (by (with_reducible repeat (first | apply Kd.R_alloc | apply Kd.R_drewN | apply Kd.R_drew)); exact (Kd.R_mono (Kd.R_far (p := ⟨c3, 0, none⟩) (Kd.R_types f5.out s.out (by decide)) (fun _ hk => hk.2) (.slice Y L.length X)) (fun _ h_ => h_.1)))); (case side4 => exact (Kd.R_reads' f5.out).2.1); rintro e E8 ⟨K6, rfl, ho0, hb⟩; refine ⟨_, rfl, ?_⟩; have m0 := am_ (Kd.R_lower (Kd.R_new' (Kd.R_new' ho0 (Kd.R_lt (by (with_reducible repeat (first | apply Kd.R_alloc | apply Kd.R_drewN | apply Kd.R_drew)); exact (Kd.R_mono (Kd.R_far (p := ⟨c3, 0, none⟩) (Kd.R_types e4.out s.out (by decide)) (fun _ hk => hk.2) (.slice Y L.length X)) (fun _ h_ => h_.1))))) (Kd.R_lt (by (with_reducible repeat (first | apply Kd.R_alloc | apply Kd.R_drewN | apply Kd.R_drew)); exact (Kd.R_mono (Kd.R_far (p := ⟨c3, 0, none⟩) (Kd.R_types j7.out s.out (by decide)) (fun _ hk => hk.2) (.slice Y L.length X)) (fun _ h_ => h_.1))))) (below_size qB_)); replace e4 := am_ (Kd.R_elder' (by (with_reducible repeat (first | apply Kd.R_alloc | apply Kd.R_drewN | apply Kd.R_drew)); exact (Kd.R_mono (Kd.R_far (p := ⟨c3, 0, none⟩) (Kd.R_types e4.out s.out (by decide)) (fun _ hk => hk.2) (.slice Y L.length X)) (fun _ h_ => h_.1))) (Kd.R_base ho0) hb); replace f5 := am_ (Kd.R_below (by (with_reducible repeat (first | apply Kd.R_alloc | apply Kd.R_drewN | apply Kd.R_drew)); exact (Kd.R_mono (Kd.R_far (p := ⟨c3, 0, none⟩) (Kd.R_types f5.out s.out (by decide)) (fun _ hk => hk.2) (.slice Y L.length X)) (fun _ h_ => h_.1))) hb); replace j6 := am_ (Kd.R_below (by (with_reducible repeat (first | apply Kd.R_alloc | apply Kd.R_drewN | apply Kd.R_drew)); exact (Kd.R_mono (Kd.R_far (p := ⟨c3, 0, none⟩) (Kd.R_types j6.out s.out (by decide)) (fun _ hk => hk.2) (.slice Y L.length X)) (fun _ h_ => h_.1))) hb); replace j7 := am_ (Kd.R_elder' (by (with_reducible repeat (first | apply Kd.R_alloc | apply Kd.R_drewN | apply Kd.R_drew)); exact (Kd.R_mono (Kd.R_far (p := ⟨c3, 0, none⟩) (Kd.R_types j7.out s.out (by decide)) (fun _ hk => hk.2) (.slice Y L.length X)) (fun _ h_ => h_.1))) (Kd.R_base ho0) hb); replace q := qbl_ q hb; replace s := am_ (blk_below (g := c3) (o := .cells #[.slice Y L.length X] 44 (0, 0)) (qp_ s) hb); replace HB := hs_ hb; clear hb ho0) | ((with_reducible refine gd_ 9 ?_); refine by_ 9 (cs := #[.slice none 0 0]) (t := 44) ?_; intro b5 hg E9 u hb; have K7 := gw_ hg; obtain ⟨s7, z1⟩ := qn_ q hg; obtain ⟨z2, F0⟩ := qn_ s hg; replace e4 := kb_ e4 hb; replace f5 := kb_ f5 hb; replace j6 := kb_ j6 hb; replace j7 := kb_ j7 hb; replace m0 := kb_ m0 hb; replace q := qbl_ q hb; replace s := qbl_ s hb; replace HB := hs_ hb; clear hb hg; obtain ⟨V, T, F1⟩ := Kd.R_slice m0.out; subst F1; obtain ⟨K8, K9⟩ := nn_ z1; obtain ⟨L0, L1⟩ := nn_ F0; obtain ⟨z3, z4⟩ := bc1_ u))
 go_cut [52] (fun v52 wc => ∃ (kq : Nat) (j3 : Bool), v52 = .bool j3 ∧ Aside0 (laws_FnActs.j0 kq l k6 d1 k7 j3 F L = some true) ∧ Aside0 (kq ≤ k) ∧ Aside0 (Kd.R k60 60 wc w.heap.size (fun _ => True) (.slice n1 l.length e5) l) ∧ Aside0 (Kd.R (Kd.int .i64) 3 wc w.heap.size (fun _ => True) k8 d1) ∧ Aside0 (Kd.R k99 99 wc w.heap.size (fun k_ => some k_ ≠ ((.slice Y L.length X) : Value).ownBlock ∧ some k_ ≠ ((.slice V M.length T) : Value).ownBlock) (.slice Z F.length U) F) ∧ Aside0 (Kd.R k99 99 wc w.heap.size (fun k_ => some k_ ≠ ((.slice Z F.length U) : Value).ownBlock ∧ some k_ ≠ ((.slice V M.length T) : Value).ownBlock) (.slice Y L.length X) L) ∧ Aside0 (Kd.R k99 99 wc w.heap.size (fun k_ => some k_ ≠ ((.slice Z F.length U) : Value).ownBlock ∧ some k_ ≠ ((.slice Y L.length X) : Value).ownBlock) (.slice V M.length T) M) ∧ Aside0 (wc.heap[c5]? = some (.cells #[(.slice Z F.length U)] 44 (0, 0))) ∧ Aside0 (wc.heap[c3]? = some (.cells #[(.slice Y L.length X)] 44 (0, 0))) ∧ Aside0 (wc.heap[b5]? = some (.cells #[(.slice V M.length T)] 44 (0, 0))) ∧ Aside0 (Below w.heap.size w wc))
 case first =>
  have H := s5.out; clear s5
  refine jb_ H ?_ ?_ <;> clear H <;> intro j4 H
  ·have c4 : (k7 == q0) = false := beq_eq_false_iff_ne.mpr j4
   have d2 : (k7 != q0) = true := bne_iff_ne.mpr j4
   (first | rw [c4] | rw [d2] | (simp only [i64_w, i32_w]; rw [c4]) | skip)
   have H' := am_ H; clear H
   go_wp2
   go_meet
   case rel => exact ⟨_, (true), qe_, H', ⟨qo_⟩, ⟨by (with_reducible repeat (first | apply Kd.R_alloc | apply Kd.R_drewN | apply Kd.R_drew)); exact Kd.R_mono (Kd.R_far (p := ⟨b5, 0, none⟩) (Kd.R_types f5.out u.out (by decide)) (fun _ hk => hk.2) (.slice V M.length T)) (fun _ hk => trivial)⟩, ⟨by (with_reducible repeat (first | apply Kd.R_alloc | apply Kd.R_drewN | apply Kd.R_drew)); exact Kd.R_mono (Kd.R_far (p := ⟨b5, 0, none⟩) (Kd.R_types j6.out u.out (by decide)) (fun _ hk => hk.2) (.slice V M.length T)) (fun _ hk => trivial)⟩, ⟨by (with_reducible repeat (first | apply Kd.R_alloc | apply Kd.R_drewN | apply Kd.R_drew)); exact Kd.R_mono (Kd.R_far (p := ⟨b5, 0, none⟩) (Kd.R_types e4.out u.out (by decide)) (fun _ hk => hk.2) (.slice V M.length T)) (fun _ hk => ⟨hk.1.1.2, hk.1.2⟩)⟩, ⟨by (with_reducible repeat (first | apply Kd.R_alloc | apply Kd.R_drewN | apply Kd.R_drew)); exact Kd.R_mono (Kd.R_far (p := ⟨b5, 0, none⟩) (Kd.R_types j7.out u.out (by decide)) (fun _ hk => hk.2) (.slice V M.length T)) (fun _ hk => ⟨hk.1.1.2, hk.1.2⟩)⟩, ⟨by (with_reducible repeat (first | apply Kd.R_alloc | apply Kd.R_drewN | apply Kd.R_drew)); exact Kd.R_mono (Kd.R_far (p := ⟨b5, 0, none⟩) (Kd.R_types m0.out u.out (by decide)) (fun _ hk => hk.2) (.slice V M.length T)) (fun _ hk => ⟨hk.1.1.2, hk.1.2⟩)⟩, ⟨qf_ q⟩, ⟨qf_ s⟩, ⟨qp_ u⟩, ⟨qB_⟩⟩
  have c4 : (k7 == q0) = true := beq_iff_eq.mpr j4
  have d2 : (k7 != q0) = false := bne_eq_false_iff_eq.mpr j4
  clear j4
  (first | rw [c4] | rw [d2] | (simp only [i64_w, i32_w]; rw [c4]) | skip)
  obtain ⟨r7, s8, H⟩ := bs_ H
  have H' := am_ H; clear H; obtain ⟨L2, L3⟩ := nn_ y6; obtain ⟨L4, L5⟩ := nn_ z2
  obtain ⟨z5, z6⟩ := bc1_ s
  obtain ⟨L6, L7⟩ := nn_ z1
  obtain ⟨z7, z8⟩ := bc1_ u
  go_wp2_with (first | (go_at_call 55; (with_reducible refine (laws_sameDisk.calls k _ _ L _ _ M r7 _ ?side1 ?side2 ?side3 ?side4 s8.out).mono ?_); (case side1 => refine (Kd.R_reads' (e := 99) (base := w.heap.size) (ok := fun k_ => ((True ∧ some k_ ≠ (.slice Z F.length U : Value).ownBlock) ∧ some k_ ≠ (.slice V M.length T : Value).ownBlock)) (n := L.length) (c := X) ?_).2.2; exact (by (with_reducible repeat (first | apply Kd.R_alloc | apply Kd.R_drewN | apply Kd.R_drew)); exact (Kd.R_mono (Kd.R_far (p := ⟨b5, 0, none⟩) (Kd.R_types j7.out u.out (by decide)) (fun _ hk => hk.2) (.slice V M.length T)) (fun _ h_ => h_.1)))); (case side2 => exact (Kd.R_reads' j7.out).2.1); (case side3 => refine (Kd.R_reads' (e := 99) (base := w.heap.size) (ok := fun k_ => ((True ∧ some k_ ≠ (.slice Z F.length U : Value).ownBlock) ∧ some k_ ≠ (.slice Y L.length X : Value).ownBlock)) (n := M.length) (c := T) ?_).2.2; exact (by (with_reducible repeat (first | apply Kd.R_alloc | apply Kd.R_drewN | apply Kd.R_drew)); exact (Kd.R_mono (Kd.R_far (p := ⟨b5, 0, none⟩) (Kd.R_types m0.out u.out (by decide)) (fun _ hk => hk.2) (.slice V M.length T)) (fun _ h_ => h_.1)))); (case side4 => exact (Kd.R_reads' m0.out).2.1); rintro e F2 ⟨rfl, hb⟩; replace e4 := am_ (Kd.R_below (by (with_reducible repeat (first | apply Kd.R_alloc | apply Kd.R_drewN | apply Kd.R_drew)); exact (Kd.R_mono (Kd.R_far (p := ⟨b5, 0, none⟩) (Kd.R_types e4.out u.out (by decide)) (fun _ hk => hk.2) (.slice V M.length T)) (fun _ h_ => h_.1))) hb); replace f5 := am_ (Kd.R_below (by (with_reducible repeat (first | apply Kd.R_alloc | apply Kd.R_drewN | apply Kd.R_drew)); exact (Kd.R_mono (Kd.R_far (p := ⟨b5, 0, none⟩) (Kd.R_types f5.out u.out (by decide)) (fun _ hk => hk.2) (.slice V M.length T)) (fun _ h_ => h_.1))) hb); replace j6 := am_ (Kd.R_below (by (with_reducible repeat (first | apply Kd.R_alloc | apply Kd.R_drewN | apply Kd.R_drew)); exact (Kd.R_mono (Kd.R_far (p := ⟨b5, 0, none⟩) (Kd.R_types j6.out u.out (by decide)) (fun _ hk => hk.2) (.slice V M.length T)) (fun _ h_ => h_.1))) hb); replace j7 := am_ (Kd.R_below (by (with_reducible repeat (first | apply Kd.R_alloc | apply Kd.R_drewN | apply Kd.R_drew)); exact (Kd.R_mono (Kd.R_far (p := ⟨b5, 0, none⟩) (Kd.R_types j7.out u.out (by decide)) (fun _ hk => hk.2) (.slice V M.length T)) (fun _ h_ => h_.1))) hb); replace m0 := am_ (Kd.R_below (by (with_reducible repeat (first | apply Kd.R_alloc | apply Kd.R_drewN | apply Kd.R_drew)); exact (Kd.R_mono (Kd.R_far (p := ⟨b5, 0, none⟩) (Kd.R_types m0.out u.out (by decide)) (fun _ hk => hk.2) (.slice V M.length T)) (fun _ h_ => h_.1))) hb); replace q := qbl_ q hb; replace s := qbl_ s hb; replace u := am_ (blk_below (g := b5) (o := .cells #[.slice V M.length T] 44 (0, 0)) (qp_ u) hb); replace HB := hs_ hb; clear hb))
  go_meet
  case rel => exact ⟨_, (!r7), qe_, H', ⟨qo_⟩, ⟨ra_ f5⟩, ⟨ra_ j6⟩, ⟨by (with_reducible repeat (first | apply Kd.R_alloc | apply Kd.R_drewN | apply Kd.R_drew)); exact Kd.R_mono e4.out (fun _ hk => ⟨hk.1.2, hk.2⟩)⟩, ⟨by (with_reducible repeat (first | apply Kd.R_alloc | apply Kd.R_drewN | apply Kd.R_drew)); exact Kd.R_mono j7.out (fun _ hk => ⟨hk.1.2, hk.2⟩)⟩, ⟨by (with_reducible repeat (first | apply Kd.R_alloc | apply Kd.R_drewN | apply Kd.R_drew)); exact Kd.R_mono m0.out (fun _ hk => ⟨hk.1.2, hk.2⟩)⟩, ⟨qk_ q⟩, ⟨qk_ s⟩, ⟨qk_ u⟩, ⟨qB_⟩⟩
 case rest =>
  clear s5 y4 y7 y9 z3 y5 y8 z0 z4
  obtain ⟨kq, j3, rfl, HA, p7, v, D, z, B, E, q, s, u, HB⟩ := hcut
  cases kq with
  | zero => exact absurd HA.out (by simp [laws_FnActs.j0])
  | succ kj6 =>
   have H := HA.out; clear HA
   simp only [laws_FnActs.j0] at H
   refine ie_ H ?_ ?_ <;> clear H <;> rintro rfl H
   ·exact absurd (oi_ H) (by decide)
   have H' := am_ H; clear H; obtain ⟨L8, L9⟩ := nn_ s6; obtain ⟨M0, M1⟩ := nn_ s7
   obtain ⟨F7, F8⟩ := bc1_ q
   go_wp2_with (first | ((with_reducible refine gd_ 11 ?_); refine by_ 11 (cs := #[.slice none 0 0]) (t := 44) ?_; intro a2 hg F9 m hb; have M2 := gw_ hg; obtain ⟨A0, r8⟩ := qn_ q hg; obtain ⟨M3, q1⟩ := qn_ s hg; obtain ⟨M4, q2⟩ := qn_ u hg; replace v := kb_ v hb; replace D := kb_ D hb; replace z := kb_ z hb; replace B := kb_ B hb; replace E := kb_ E hb; replace q := qbl_ q hb; replace s := qbl_ s hb; replace u := qbl_ u hb; replace HB := hs_ hb; clear hb hg; obtain ⟨M5, M6⟩ := nn_ r8; obtain ⟨M7, M8⟩ := nn_ q1; obtain ⟨M9, N0⟩ := nn_ q2; obtain ⟨G0, G1⟩ := bc1_ m))
   go_loopg [12] kj6 (fun kq v12 w' => ∃ (a : Int) (O : List (S99)) (m1 : Value), v12 = .int .i64 a ∧ Aside0 (laws_FnActs.l0 kq l k6 d1 k7 a F L O = some true) ∧ Aside0 (kq ≤ kj6) ∧ Aside0 (Kd.R k60 60 w' w.heap.size (fun _ => True) (.slice n1 l.length e5) l) ∧ Aside0 (Kd.R (Kd.int .i64) 3 w' w.heap.size (fun _ => True) k8 d1) ∧ Aside0 (Kd.R k99 99 w' w.heap.size (fun k_ => some k_ ≠ ((.slice Y L.length X) : Value).ownBlock ∧ some k_ ≠ ((.slice V M.length T) : Value).ownBlock) (.slice Z F.length U) F) ∧ Aside0 (Kd.R k99 99 w' w.heap.size (fun k_ => some k_ ≠ ((.slice Z F.length U) : Value).ownBlock ∧ some k_ ≠ ((.slice V M.length T) : Value).ownBlock ∧ some k_ ≠ (m1 : Value).ownBlock) (.slice Y L.length X) L) ∧ Aside0 (Kd.R k99 99 w' w.heap.size (fun k_ => some k_ ≠ ((.slice Z F.length U) : Value).ownBlock ∧ some k_ ≠ ((.slice Y L.length X) : Value).ownBlock ∧ some k_ ≠ (m1 : Value).ownBlock) (.slice V M.length T) M) ∧ Aside0 (Kd.R k99 99 w' w.heap.size (fun k_ => some k_ ≠ ((.slice Y L.length X) : Value).ownBlock ∧ some k_ ≠ ((.slice V M.length T) : Value).ownBlock) m1 O) ∧ Aside0 (w'.heap[c5]? = some (.cells #[(.slice Z F.length U)] 44 (0, 0))) ∧ Aside0 (w'.heap[c3]? = some (.cells #[(.slice Y L.length X)] 44 (0, 0))) ∧ Aside0 (w'.heap[b5]? = some (.cells #[(.slice V M.length T)] 44 (0, 0))) ∧ Aside0 (w'.heap[a2]? = some (.cells #[m1] 44 (0, 0))) ∧ Aside0 (Below w.heap.size w w'))
   case atStart => exact ⟨(0), (F), (.slice Z F.length U), qe_, H', ⟨Nat.le_refl _⟩, ⟨by (with_reducible repeat (first | apply Kd.R_alloc | apply Kd.R_drewN | apply Kd.R_drew)); exact Kd.R_mono (Kd.R_far (p := ⟨a2, 0, none⟩) (Kd.R_types v.out m.out (by decide)) (fun _ hk => hk.2) (.slice Z F.length U)) (fun _ hk => trivial)⟩, ⟨by (with_reducible repeat (first | apply Kd.R_alloc | apply Kd.R_drewN | apply Kd.R_drew)); exact Kd.R_mono (Kd.R_far (p := ⟨a2, 0, none⟩) (Kd.R_types D.out m.out (by decide)) (fun _ hk => hk.2) (.slice Z F.length U)) (fun _ hk => trivial)⟩, ⟨by (with_reducible repeat (first | apply Kd.R_alloc | apply Kd.R_drewN | apply Kd.R_drew)); exact Kd.R_mono (Kd.R_far (p := ⟨a2, 0, none⟩) (Kd.R_types z.out m.out (by decide)) (fun _ hk => hk.2) (.slice Z F.length U)) (fun _ hk => ⟨hk.1.1, hk.1.2⟩)⟩, ⟨by (with_reducible repeat (first | apply Kd.R_alloc | apply Kd.R_drewN | apply Kd.R_drew)); exact Kd.R_mono (Kd.R_far (p := ⟨a2, 0, none⟩) (Kd.R_types B.out m.out (by decide)) (fun _ hk => hk.2) (.slice Z F.length U)) (fun _ hk => ⟨hk.1.1, ⟨hk.1.2, hk.1.1⟩⟩)⟩, ⟨by (with_reducible repeat (first | apply Kd.R_alloc | apply Kd.R_drewN | apply Kd.R_drew)); exact Kd.R_mono (Kd.R_far (p := ⟨a2, 0, none⟩) (Kd.R_types E.out m.out (by decide)) (fun _ hk => hk.2) (.slice Z F.length U)) (fun _ hk => ⟨hk.1.1, ⟨hk.1.2, hk.1.1⟩⟩)⟩, ⟨by (with_reducible repeat (first | apply Kd.R_alloc | apply Kd.R_drewN | apply Kd.R_drew)); exact Kd.R_mono (Kd.R_far (p := ⟨a2, 0, none⟩) (Kd.R_types z.out m.out (by decide)) (fun _ hk => hk.2) (.slice Z F.length U)) (fun _ hk => ⟨hk.1.1, hk.1.2⟩)⟩, ⟨qf_ q⟩, ⟨qf_ s⟩, ⟨qf_ u⟩, ⟨qp_ m⟩, ⟨qB_⟩⟩
   case round =>
    clear H' F7 G0 F8 G1
    obtain ⟨a, O, m1, rfl, HA, HK2, v, D, z, B, E, x, q, s, u, m, HB⟩ := hrel
    cases gk with
    | zero => exact absurd HA.out (by simp [laws_FnActs.l0])
    | succ d7 =>
     have H := HA.out; clear HA
     simp only [laws_FnActs.l0] at H
     refine ib_ H ?_ ?_ <;> clear H <;> intro t6 H
     ·obtain ⟨⟨a4, m2⟩, A1, H⟩ := bs_ H; dsimp only at H
      obtain ⟨⟨c6, m3⟩, A2, H⟩ := bs_ H; dsimp only at H
      refine jb_ H ?_ ?_ <;> clear H <;> intro c7 H
      ·have m4 : (m2 == m3) = false := by simpa using c7
       (have m5 : decide (m2 = m3) = false := by simpa using c7)
       (have m6 : (m2 == m3) = false := by simpa using c7)
       (have r9 : ¬ (m2 = m3) := by simpa using c7)
       clear c7
       exact absurd (oi_ H) (by decide)
      have m4 : (m2 == m3) = true := c7
      (have m5 : decide (m2 = m3) = true := by simpa using c7)
      (have m6 : (m2 == m3) = true := by simpa using c7)
      clear c7
      obtain ⟨N1, A3, H⟩ := bs_ H
      refine id_ H ?_ ?_ <;> clear H <;> rintro rfl H
      ·exact absurd (oi_ H) (by decide)
      refine jc_ H ?_ ?_ <;> clear H <;> intro g0 H
      ·have m7 : (k7 == 0) = true := beq_iff_eq.mpr g0
       have m8 : (k7 != 0) = false := bne_eq_false_iff_eq.mpr g0
       clear g0 H; obtain ⟨N2, N3⟩ := nn_ s6; obtain ⟨N4, N5⟩ := nn_ s7; obtain ⟨N6, N7⟩ := nn_ A0
       obtain ⟨N8, N9⟩ := bc1_ q
       obtain ⟨A4, t7, u0⟩ := Kd.R_slice D.out
       subst u0
       go_wp2_with (first | ((with_reducible refine gc_ 57 ?_); refine gl_ (some 128) Try.func57 #[.agg #[.slice Z F.length U], .slice n1 l.length e5, .int .i64 k6, .slice A4 d1.length t7] ?_; (with_reducible refine (impl_CutActs.calls d7 _ _ F _ _ l k6 _ _ d1 a4 m2 _ ?_ ?_ ?_ ?_ ?_ ?_ A1.out).mono ?_); exact qD_ (Kd.R_reads' z.out).2.2; exact (Kd.R_reads' z.out).2.1; exact qD_ (Kd.R_reads' v.out).2.2; exact (Kd.R_reads' v.out).2.1; exact qD_ (Kd.R_reads' D.out).2.2; exact (Kd.R_reads' D.out).2.1; rintro e A5 ⟨G8, rfl, ho0, hb⟩; refine ⟨_, rfl, ?_⟩; have d0 := am_ (Kd.R_lower (Kd.R_new' (Kd.R_new' (Kd.R_new' (Kd.R_new' ho0 (Kd.R_lt (qR_ z))) (Kd.R_lt (qR_ B))) (Kd.R_lt (qR_ E))) (Kd.R_lt (qR_ x))) (below_size qB_)); replace v := kb_ v hb; replace D := kb_ D hb; replace z := ke_ z ho0 hb; replace B := ke_ B ho0 hb; replace E := ke_ E ho0 hb; replace x := ke_ x ho0 hb; replace q := qbl_ q hb; replace s := qbl_ s hb; replace u := qbl_ u hb; replace m := qbl_ m hb; replace HB := hs_ hb; clear hb ho0) | ((with_reducible refine gd_ 19 ?_); refine by_ 19 (cs := #[.slice none 0 0]) (t := 44) ?_; intro c2 hg A6 a3 hb; have G9 := gw_ hg; obtain ⟨H0, l1⟩ := qn_ q hg; obtain ⟨H1, t8⟩ := qn_ s hg; obtain ⟨H2, t9⟩ := qn_ u hg; obtain ⟨H3, w0⟩ := qn_ m hg; replace v := kb_ v hb; replace D := kb_ D hb; replace z := kb_ z hb; replace B := kb_ B hb; replace E := kb_ E hb; replace x := kb_ x hb; replace d0 := kb_ d0 hb; replace q := qbl_ q hb; replace s := qbl_ s hb; replace u := qbl_ u hb; replace m := qbl_ m hb; replace HB := hs_ hb; clear hb hg; obtain ⟨f8, f6, u2⟩ := Kd.R_slice d0.out; subst u2; obtain ⟨O0, O1⟩ := nn_ l1; obtain ⟨O2, O3⟩ := nn_ t8; obtain ⟨O4, O5⟩ := nn_ t9; obtain ⟨O6, O7⟩ := nn_ w0; obtain ⟨u3, u4⟩ := bc1_ a3; obtain ⟨u5, u6⟩ := bc1_ q) | ((with_reducible refine gc_ 58 ?_); refine gl_ (some 136) Try.func58 #[.agg #[.slice Z F.length U], .slice n1 l.length e5, .int .i64 k6, .slice A4 d1.length t7] ?_; (with_reducible refine (spec_CutActs.calls d7 _ _ F _ _ l k6 _ _ d1 c6 m3 _ ?side1 ?side2 ?side3 ?side4 ?side5 ?side6 A2.out).mono ?_); (case side1 => refine (Kd.R_reads' (e := 99) (base := w.heap.size) (ok := fun k_ => ((some k_ ≠ (.slice Y L.length X : Value).ownBlock ∧ some k_ ≠ (.slice V M.length T : Value).ownBlock) ∧ some k_ ≠ (.slice f8 a4.length f6 : Value).ownBlock)) (n := F.length) (c := U) ?_).2.2; exact (by (with_reducible repeat (first | apply Kd.R_alloc | apply Kd.R_drewN | apply Kd.R_drew)); exact (Kd.R_mono (Kd.R_far (p := ⟨c2, 0, none⟩) (Kd.R_types z.out a3.out (by decide)) (fun _ hk => hk.2) (.slice f8 a4.length f6)) (fun _ h_ => h_.1)))); (case side2 => exact (Kd.R_reads' z.out).2.1); (case side3 => refine (Kd.R_reads' (e := 60) (base := w.heap.size) (ok := fun k_ => True) (n := l.length) (c := e5) ?_).2.2; exact (by (with_reducible repeat (first | apply Kd.R_alloc | apply Kd.R_drewN | apply Kd.R_drew)); exact (Kd.R_mono (Kd.R_far (p := ⟨c2, 0, none⟩) (Kd.R_types v.out a3.out (by decide)) (fun _ hk => hk.2) (.slice f8 a4.length f6)) (fun _ h_ => h_.1)))); (case side4 => exact (Kd.R_reads' v.out).2.1); (case side5 => refine (Kd.R_reads' (e := 3) (base := w.heap.size) (ok := fun k_ => True) (n := d1.length) (c := t7) ?_).2.2; exact (by (with_reducible repeat (first | apply Kd.R_alloc | apply Kd.R_drewN | apply Kd.R_drew)); exact (Kd.R_mono (Kd.R_far (p := ⟨c2, 0, none⟩) (Kd.R_types D.out a3.out (by decide)) (fun _ hk => hk.2) (.slice f8 a4.length f6)) (fun _ h_ => h_.1)))); (case side6 => exact (Kd.R_reads' D.out).2.1); rintro e A7 ⟨H4, rfl, ho0, hb⟩; refine ⟨_, rfl, ?_⟩; have g1 := am_ (Kd.R_lower (Kd.R_new' (Kd.R_new' (Kd.R_new' (Kd.R_new' (Kd.R_new' ho0 (Kd.R_lt (by (with_reducible repeat (first | apply Kd.R_alloc | apply Kd.R_drewN | apply Kd.R_drew)); exact (Kd.R_mono (Kd.R_far (p := ⟨c2, 0, none⟩) (Kd.R_types z.out a3.out (by decide)) (fun _ hk => hk.2) (.slice f8 a4.length f6)) (fun _ h_ => h_.1))))) (Kd.R_lt (by (with_reducible repeat (first | apply Kd.R_alloc | apply Kd.R_drewN | apply Kd.R_drew)); exact (Kd.R_mono (Kd.R_far (p := ⟨c2, 0, none⟩) (Kd.R_types B.out a3.out (by decide)) (fun _ hk => hk.2) (.slice f8 a4.length f6)) (fun _ h_ => h_.1))))) (Kd.R_lt (by (with_reducible repeat (first | apply Kd.R_alloc | apply Kd.R_drewN | apply Kd.R_drew)); exact (Kd.R_mono (Kd.R_far (p := ⟨c2, 0, none⟩) (Kd.R_types E.out a3.out (by decide)) (fun _ hk => hk.2) (.slice f8 a4.length f6)) (fun _ h_ => h_.1))))) (Kd.R_lt (by (with_reducible repeat (first | apply Kd.R_alloc | apply Kd.R_drewN | apply Kd.R_drew)); exact (Kd.R_mono (Kd.R_far (p := ⟨c2, 0, none⟩) (Kd.R_types x.out a3.out (by decide)) (fun _ hk => hk.2) (.slice f8 a4.length f6)) (fun _ h_ => h_.1))))) (Kd.R_lt (by (with_reducible repeat (first | apply Kd.R_alloc | apply Kd.R_drewN | apply Kd.R_drew)); exact (Kd.R_mono (Kd.R_far (p := ⟨c2, 0, none⟩) (Kd.R_types d0.out a3.out (by decide)) (fun _ hk => hk.2) (.slice f8 a4.length f6)) (fun _ h_ => h_.1))))) (below_size qB_)); replace v := am_ (Kd.R_below (by (with_reducible repeat (first | apply Kd.R_alloc | apply Kd.R_drewN | apply Kd.R_drew)); exact (Kd.R_mono (Kd.R_far (p := ⟨c2, 0, none⟩) (Kd.R_types v.out a3.out (by decide)) (fun _ hk => hk.2) (.slice f8 a4.length f6)) (fun _ h_ => h_.1))) hb); replace D := am_ (Kd.R_below (by (with_reducible repeat (first | apply Kd.R_alloc | apply Kd.R_drewN | apply Kd.R_drew)); exact (Kd.R_mono (Kd.R_far (p := ⟨c2, 0, none⟩) (Kd.R_types D.out a3.out (by decide)) (fun _ hk => hk.2) (.slice f8 a4.length f6)) (fun _ h_ => h_.1))) hb); replace z := am_ (Kd.R_elder' (by (with_reducible repeat (first | apply Kd.R_alloc | apply Kd.R_drewN | apply Kd.R_drew)); exact (Kd.R_mono (Kd.R_far (p := ⟨c2, 0, none⟩) (Kd.R_types z.out a3.out (by decide)) (fun _ hk => hk.2) (.slice f8 a4.length f6)) (fun _ h_ => h_.1))) (Kd.R_base ho0) hb); replace B := am_ (Kd.R_elder' (by (with_reducible repeat (first | apply Kd.R_alloc | apply Kd.R_drewN | apply Kd.R_drew)); exact (Kd.R_mono (Kd.R_far (p := ⟨c2, 0, none⟩) (Kd.R_types B.out a3.out (by decide)) (fun _ hk => hk.2) (.slice f8 a4.length f6)) (fun _ h_ => h_.1))) (Kd.R_base ho0) hb); replace E := am_ (Kd.R_elder' (by (with_reducible repeat (first | apply Kd.R_alloc | apply Kd.R_drewN | apply Kd.R_drew)); exact (Kd.R_mono (Kd.R_far (p := ⟨c2, 0, none⟩) (Kd.R_types E.out a3.out (by decide)) (fun _ hk => hk.2) (.slice f8 a4.length f6)) (fun _ h_ => h_.1))) (Kd.R_base ho0) hb); replace x := am_ (Kd.R_elder' (by (with_reducible repeat (first | apply Kd.R_alloc | apply Kd.R_drewN | apply Kd.R_drew)); exact (Kd.R_mono (Kd.R_far (p := ⟨c2, 0, none⟩) (Kd.R_types x.out a3.out (by decide)) (fun _ hk => hk.2) (.slice f8 a4.length f6)) (fun _ h_ => h_.1))) (Kd.R_base ho0) hb); replace d0 := am_ (Kd.R_elder' (by (with_reducible repeat (first | apply Kd.R_alloc | apply Kd.R_drewN | apply Kd.R_drew)); exact (Kd.R_mono (Kd.R_far (p := ⟨c2, 0, none⟩) (Kd.R_types d0.out a3.out (by decide)) (fun _ hk => hk.2) (.slice f8 a4.length f6)) (fun _ h_ => h_.1))) (Kd.R_base ho0) hb); replace q := qbl_ q hb; replace s := qbl_ s hb; replace u := qbl_ u hb; replace m := qbl_ m hb; replace a3 := am_ (blk_below (g := c2) (o := .cells #[.slice f8 a4.length f6] 44 (0, 0)) (qp_ a3) hb); replace HB := hs_ hb; clear hb ho0) | ((with_reducible refine gd_ 21 ?_); refine by_ 21 (cs := #[.slice none 0 0]) (t := 44) ?_; intro d3 hg A8 c8 hb; have H5 := gw_ hg; obtain ⟨H6, w2⟩ := qn_ q hg; obtain ⟨H7, w3⟩ := qn_ s hg; obtain ⟨H8, w4⟩ := qn_ u hg; obtain ⟨H9, w5⟩ := qn_ m hg; obtain ⟨I0, w6⟩ := qn_ a3 hg; replace v := kb_ v hb; replace D := kb_ D hb; replace z := kb_ z hb; replace B := kb_ B hb; replace E := kb_ E hb; replace x := kb_ x hb; replace d0 := kb_ d0 hb; replace g1 := kb_ g1 hb; replace q := qbl_ q hb; replace s := qbl_ s hb; replace u := qbl_ u hb; replace m := qbl_ m hb; replace a3 := qbl_ a3 hb; replace HB := hs_ hb; clear hb hg; obtain ⟨k4, k0, u9⟩ := Kd.R_slice g1.out; subst u9; obtain ⟨O8, O9⟩ := nn_ w2; obtain ⟨P0, P1⟩ := nn_ w3; obtain ⟨P2, P3⟩ := nn_ w4; obtain ⟨P4, P5⟩ := nn_ w5; obtain ⟨P6, P7⟩ := nn_ w6; obtain ⟨v0, v1⟩ := bc1_ c8; obtain ⟨v2, v3⟩ := bc1_ a3) | (go_at_call 55; (with_reducible refine (laws_sameDisk.calls d7 _ _ a4 _ _ c6 true _ ?side1 ?side2 ?side3 ?side4 A3.out).mono ?_); (case side1 => refine (Kd.R_reads' (e := 99) (base := w.heap.size) (ok := fun k_ => (((((True ∧ some k_ ≠ (.slice Z F.length U : Value).ownBlock) ∧ some k_ ≠ (.slice Y L.length X : Value).ownBlock) ∧ some k_ ≠ (.slice V M.length T : Value).ownBlock) ∧ some k_ ≠ (m1 : Value).ownBlock) ∧ some k_ ≠ (.slice k4 c6.length k0 : Value).ownBlock)) (n := a4.length) (c := f6) ?_).2.2; exact (by (with_reducible repeat (first | apply Kd.R_alloc | apply Kd.R_drewN | apply Kd.R_drew)); exact (Kd.R_mono (Kd.R_far (p := ⟨d3, 0, none⟩) (Kd.R_types d0.out c8.out (by decide)) (fun _ hk => hk.2) (.slice k4 c6.length k0)) (fun _ h_ => h_.1)))); (case side2 => exact (Kd.R_reads' d0.out).2.1); (case side3 => refine (Kd.R_reads' (e := 99) (base := w.heap.size) (ok := fun k_ => (((((True ∧ some k_ ≠ (.slice Z F.length U : Value).ownBlock) ∧ some k_ ≠ (.slice Y L.length X : Value).ownBlock) ∧ some k_ ≠ (.slice V M.length T : Value).ownBlock) ∧ some k_ ≠ (m1 : Value).ownBlock) ∧ some k_ ≠ (.slice f8 a4.length f6 : Value).ownBlock)) (n := c6.length) (c := k0) ?_).2.2; exact (by (with_reducible repeat (first | apply Kd.R_alloc | apply Kd.R_drewN | apply Kd.R_drew)); exact (Kd.R_mono (Kd.R_far (p := ⟨d3, 0, none⟩) (Kd.R_types g1.out c8.out (by decide)) (fun _ hk => hk.2) (.slice k4 c6.length k0)) (fun _ h_ => h_.1)))); (case side4 => exact (Kd.R_reads' g1.out).2.1); rintro e A9 ⟨rfl, hb⟩; replace v := am_ (Kd.R_below (by (with_reducible repeat (first | apply Kd.R_alloc | apply Kd.R_drewN | apply Kd.R_drew)); exact (Kd.R_mono (Kd.R_far (p := ⟨d3, 0, none⟩) (Kd.R_types v.out c8.out (by decide)) (fun _ hk => hk.2) (.slice k4 c6.length k0)) (fun _ h_ => h_.1))) hb); replace D := am_ (Kd.R_below (by (with_reducible repeat (first | apply Kd.R_alloc | apply Kd.R_drewN | apply Kd.R_drew)); exact (Kd.R_mono (Kd.R_far (p := ⟨d3, 0, none⟩) (Kd.R_types D.out c8.out (by decide)) (fun _ hk => hk.2) (.slice k4 c6.length k0)) (fun _ h_ => h_.1))) hb); replace z := am_ (Kd.R_below (by (with_reducible repeat (first | apply Kd.R_alloc | apply Kd.R_drewN | apply Kd.R_drew)); exact (Kd.R_mono (Kd.R_far (p := ⟨d3, 0, none⟩) (Kd.R_types z.out c8.out (by decide)) (fun _ hk => hk.2) (.slice k4 c6.length k0)) (fun _ h_ => h_.1))) hb); replace B := am_ (Kd.R_below (by (with_reducible repeat (first | apply Kd.R_alloc | apply Kd.R_drewN | apply Kd.R_drew)); exact (Kd.R_mono (Kd.R_far (p := ⟨d3, 0, none⟩) (Kd.R_types B.out c8.out (by decide)) (fun _ hk => hk.2) (.slice k4 c6.length k0)) (fun _ h_ => h_.1))) hb); replace E := am_ (Kd.R_below (by (with_reducible repeat (first | apply Kd.R_alloc | apply Kd.R_drewN | apply Kd.R_drew)); exact (Kd.R_mono (Kd.R_far (p := ⟨d3, 0, none⟩) (Kd.R_types E.out c8.out (by decide)) (fun _ hk => hk.2) (.slice k4 c6.length k0)) (fun _ h_ => h_.1))) hb); replace x := am_ (Kd.R_below (by (with_reducible repeat (first | apply Kd.R_alloc | apply Kd.R_drewN | apply Kd.R_drew)); exact (Kd.R_mono (Kd.R_far (p := ⟨d3, 0, none⟩) (Kd.R_types x.out c8.out (by decide)) (fun _ hk => hk.2) (.slice k4 c6.length k0)) (fun _ h_ => h_.1))) hb); replace d0 := am_ (Kd.R_below (by (with_reducible repeat (first | apply Kd.R_alloc | apply Kd.R_drewN | apply Kd.R_drew)); exact (Kd.R_mono (Kd.R_far (p := ⟨d3, 0, none⟩) (Kd.R_types d0.out c8.out (by decide)) (fun _ hk => hk.2) (.slice k4 c6.length k0)) (fun _ h_ => h_.1))) hb); replace g1 := am_ (Kd.R_below (by (with_reducible repeat (first | apply Kd.R_alloc | apply Kd.R_drewN | apply Kd.R_drew)); exact (Kd.R_mono (Kd.R_far (p := ⟨d3, 0, none⟩) (Kd.R_types g1.out c8.out (by decide)) (fun _ hk => hk.2) (.slice k4 c6.length k0)) (fun _ h_ => h_.1))) hb); replace q := qbl_ q hb; replace s := qbl_ s hb; replace u := qbl_ u hb; replace m := qbl_ m hb; replace a3 := qbl_ a3 hb; replace c8 := am_ (blk_below (g := d3) (o := .cells #[.slice k4 c6.length k0] 44 (0, 0)) (qp_ c8) hb); replace HB := hs_ hb; clear hb))
       go_ret
       exact ⟨qr_, qB_⟩
      have m7 : (k7 == 0) = false := beq_eq_false_iff_ne.mpr g0
      have m8 : (k7 != 0) = true := bne_iff_ne.mpr g0
      obtain ⟨I1, I2, H⟩ := bs_ H
      obtain rfl := oi_ H
      obtain ⟨P8, P9⟩ := nn_ s6; obtain ⟨Q0, Q1⟩ := nn_ s7; obtain ⟨Q2, Q3⟩ := nn_ A0
      obtain ⟨v4, v5⟩ := bc1_ q
      obtain ⟨B1, w7, v6⟩ := Kd.R_slice D.out
      subst v6
      go_wp2_with (first | ((with_reducible refine gc_ 57 ?_); refine gl_ (some 128) Try.func57 #[.agg #[.slice Z F.length U], .slice n1 l.length e5, .int .i64 k6, .slice B1 d1.length w7] ?_; (with_reducible refine (impl_CutActs.calls d7 _ _ F _ _ l k6 _ _ d1 a4 m2 _ ?_ ?_ ?_ ?_ ?_ ?_ A1.out).mono ?_); exact qD_ (Kd.R_reads' z.out).2.2; exact (Kd.R_reads' z.out).2.1; exact qD_ (Kd.R_reads' v.out).2.2; exact (Kd.R_reads' v.out).2.1; exact qD_ (Kd.R_reads' D.out).2.2; exact (Kd.R_reads' D.out).2.1; rintro e B8 ⟨G8, rfl, ho0, hb⟩; refine ⟨_, rfl, ?_⟩; have d0 := am_ (Kd.R_lower (Kd.R_new' (Kd.R_new' (Kd.R_new' (Kd.R_new' ho0 (Kd.R_lt (qR_ z))) (Kd.R_lt (qR_ B))) (Kd.R_lt (qR_ E))) (Kd.R_lt (qR_ x))) (below_size qB_)); replace v := kb_ v hb; replace D := kb_ D hb; replace z := ke_ z ho0 hb; replace B := ke_ B ho0 hb; replace E := ke_ E ho0 hb; replace x := ke_ x ho0 hb; replace q := qbl_ q hb; replace s := qbl_ s hb; replace u := qbl_ u hb; replace m := qbl_ m hb; replace HB := hs_ hb; clear hb ho0) | ((with_reducible refine gd_ 19 ?_); refine by_ 19 (cs := #[.slice none 0 0]) (t := 44) ?_; intro c2 hg B9 a3 hb; have G9 := gw_ hg; obtain ⟨H0, l1⟩ := qn_ q hg; obtain ⟨H1, t8⟩ := qn_ s hg; obtain ⟨H2, t9⟩ := qn_ u hg; obtain ⟨H3, w0⟩ := qn_ m hg; replace v := kb_ v hb; replace D := kb_ D hb; replace z := kb_ z hb; replace B := kb_ B hb; replace E := kb_ E hb; replace x := kb_ x hb; replace d0 := kb_ d0 hb; replace q := qbl_ q hb; replace s := qbl_ s hb; replace u := qbl_ u hb; replace m := qbl_ m hb; replace HB := hs_ hb; clear hb hg; obtain ⟨f9, f7, v7⟩ := Kd.R_slice d0.out; subst v7; obtain ⟨Q4, Q5⟩ := nn_ l1; obtain ⟨Q6, Q7⟩ := nn_ t8; obtain ⟨Q8, Q9⟩ := nn_ t9; obtain ⟨R0, R1⟩ := nn_ w0; obtain ⟨v8, v9⟩ := bc1_ a3; obtain ⟨R2, R3⟩ := bc1_ q) | ((with_reducible refine gc_ 58 ?_); refine gl_ (some 136) Try.func58 #[.agg #[.slice Z F.length U], .slice n1 l.length e5, .int .i64 k6, .slice B1 d1.length w7] ?_; (with_reducible refine (spec_CutActs.calls d7 _ _ F _ _ l k6 _ _ d1 c6 m3 _ ?side1 ?side2 ?side3 ?side4 ?side5 ?side6 A2.out).mono ?_); (case side1 => refine (Kd.R_reads' (e := 99) (base := w.heap.size) (ok := fun k_ => ((some k_ ≠ (.slice Y L.length X : Value).ownBlock ∧ some k_ ≠ (.slice V M.length T : Value).ownBlock) ∧ some k_ ≠ (.slice f9 a4.length f7 : Value).ownBlock)) (n := F.length) (c := U) ?_).2.2; exact (by (with_reducible repeat (first | apply Kd.R_alloc | apply Kd.R_drewN | apply Kd.R_drew)); exact (Kd.R_mono (Kd.R_far (p := ⟨c2, 0, none⟩) (Kd.R_types z.out a3.out (by decide)) (fun _ hk => hk.2) (.slice f9 a4.length f7)) (fun _ h_ => h_.1)))); (case side2 => exact (Kd.R_reads' z.out).2.1); (case side3 => refine (Kd.R_reads' (e := 60) (base := w.heap.size) (ok := fun k_ => True) (n := l.length) (c := e5) ?_).2.2; exact (by (with_reducible repeat (first | apply Kd.R_alloc | apply Kd.R_drewN | apply Kd.R_drew)); exact (Kd.R_mono (Kd.R_far (p := ⟨c2, 0, none⟩) (Kd.R_types v.out a3.out (by decide)) (fun _ hk => hk.2) (.slice f9 a4.length f7)) (fun _ h_ => h_.1)))); (case side4 => exact (Kd.R_reads' v.out).2.1); (case side5 => refine (Kd.R_reads' (e := 3) (base := w.heap.size) (ok := fun k_ => True) (n := d1.length) (c := w7) ?_).2.2; exact (by (with_reducible repeat (first | apply Kd.R_alloc | apply Kd.R_drewN | apply Kd.R_drew)); exact (Kd.R_mono (Kd.R_far (p := ⟨c2, 0, none⟩) (Kd.R_types D.out a3.out (by decide)) (fun _ hk => hk.2) (.slice f9 a4.length f7)) (fun _ h_ => h_.1)))); (case side6 => exact (Kd.R_reads' D.out).2.1); rintro e C0 ⟨H4, rfl, ho0, hb⟩; refine ⟨_, rfl, ?_⟩; have g1 := am_ (Kd.R_lower (Kd.R_new' (Kd.R_new' (Kd.R_new' (Kd.R_new' (Kd.R_new' ho0 (Kd.R_lt (by (with_reducible repeat (first | apply Kd.R_alloc | apply Kd.R_drewN | apply Kd.R_drew)); exact (Kd.R_mono (Kd.R_far (p := ⟨c2, 0, none⟩) (Kd.R_types z.out a3.out (by decide)) (fun _ hk => hk.2) (.slice f9 a4.length f7)) (fun _ h_ => h_.1))))) (Kd.R_lt (by (with_reducible repeat (first | apply Kd.R_alloc | apply Kd.R_drewN | apply Kd.R_drew)); exact (Kd.R_mono (Kd.R_far (p := ⟨c2, 0, none⟩) (Kd.R_types B.out a3.out (by decide)) (fun _ hk => hk.2) (.slice f9 a4.length f7)) (fun _ h_ => h_.1))))) (Kd.R_lt (by (with_reducible repeat (first | apply Kd.R_alloc | apply Kd.R_drewN | apply Kd.R_drew)); exact (Kd.R_mono (Kd.R_far (p := ⟨c2, 0, none⟩) (Kd.R_types E.out a3.out (by decide)) (fun _ hk => hk.2) (.slice f9 a4.length f7)) (fun _ h_ => h_.1))))) (Kd.R_lt (by (with_reducible repeat (first | apply Kd.R_alloc | apply Kd.R_drewN | apply Kd.R_drew)); exact (Kd.R_mono (Kd.R_far (p := ⟨c2, 0, none⟩) (Kd.R_types x.out a3.out (by decide)) (fun _ hk => hk.2) (.slice f9 a4.length f7)) (fun _ h_ => h_.1))))) (Kd.R_lt (by (with_reducible repeat (first | apply Kd.R_alloc | apply Kd.R_drewN | apply Kd.R_drew)); exact (Kd.R_mono (Kd.R_far (p := ⟨c2, 0, none⟩) (Kd.R_types d0.out a3.out (by decide)) (fun _ hk => hk.2) (.slice f9 a4.length f7)) (fun _ h_ => h_.1))))) (below_size qB_)); replace v := am_ (Kd.R_below (by (with_reducible repeat (first | apply Kd.R_alloc | apply Kd.R_drewN | apply Kd.R_drew)); exact (Kd.R_mono (Kd.R_far (p := ⟨c2, 0, none⟩) (Kd.R_types v.out a3.out (by decide)) (fun _ hk => hk.2) (.slice f9 a4.length f7)) (fun _ h_ => h_.1))) hb); replace D := am_ (Kd.R_below (by (with_reducible repeat (first | apply Kd.R_alloc | apply Kd.R_drewN | apply Kd.R_drew)); exact (Kd.R_mono (Kd.R_far (p := ⟨c2, 0, none⟩) (Kd.R_types D.out a3.out (by decide)) (fun _ hk => hk.2) (.slice f9 a4.length f7)) (fun _ h_ => h_.1))) hb); replace z := am_ (Kd.R_elder' (by (with_reducible repeat (first | apply Kd.R_alloc | apply Kd.R_drewN | apply Kd.R_drew)); exact (Kd.R_mono (Kd.R_far (p := ⟨c2, 0, none⟩) (Kd.R_types z.out a3.out (by decide)) (fun _ hk => hk.2) (.slice f9 a4.length f7)) (fun _ h_ => h_.1))) (Kd.R_base ho0) hb); replace B := am_ (Kd.R_elder' (by (with_reducible repeat (first | apply Kd.R_alloc | apply Kd.R_drewN | apply Kd.R_drew)); exact (Kd.R_mono (Kd.R_far (p := ⟨c2, 0, none⟩) (Kd.R_types B.out a3.out (by decide)) (fun _ hk => hk.2) (.slice f9 a4.length f7)) (fun _ h_ => h_.1))) (Kd.R_base ho0) hb); replace E := am_ (Kd.R_elder' (by (with_reducible repeat (first | apply Kd.R_alloc | apply Kd.R_drewN | apply Kd.R_drew)); exact (Kd.R_mono (Kd.R_far (p := ⟨c2, 0, none⟩) (Kd.R_types E.out a3.out (by decide)) (fun _ hk => hk.2) (.slice f9 a4.length f7)) (fun _ h_ => h_.1))) (Kd.R_base ho0) hb); replace x := am_ (Kd.R_elder' (by (with_reducible repeat (first | apply Kd.R_alloc | apply Kd.R_drewN | apply Kd.R_drew)); exact (Kd.R_mono (Kd.R_far (p := ⟨c2, 0, none⟩) (Kd.R_types x.out a3.out (by decide)) (fun _ hk => hk.2) (.slice f9 a4.length f7)) (fun _ h_ => h_.1))) (Kd.R_base ho0) hb); replace d0 := am_ (Kd.R_elder' (by (with_reducible repeat (first | apply Kd.R_alloc | apply Kd.R_drewN | apply Kd.R_drew)); exact (Kd.R_mono (Kd.R_far (p := ⟨c2, 0, none⟩) (Kd.R_types d0.out a3.out (by decide)) (fun _ hk => hk.2) (.slice f9 a4.length f7)) (fun _ h_ => h_.1))) (Kd.R_base ho0) hb); replace q := qbl_ q hb; replace s := qbl_ s hb; replace u := qbl_ u hb; replace m := qbl_ m hb; replace a3 := am_ (blk_below (g := c2) (o := .cells #[.slice f9 a4.length f7] 44 (0, 0)) (qp_ a3) hb); replace HB := hs_ hb; clear hb ho0) | ((with_reducible refine gd_ 21 ?_); refine by_ 21 (cs := #[.slice none 0 0]) (t := 44) ?_; intro d3 hg C1 c8 hb; have H5 := gw_ hg; obtain ⟨H6, w2⟩ := qn_ q hg; obtain ⟨H7, w3⟩ := qn_ s hg; obtain ⟨H8, w4⟩ := qn_ u hg; obtain ⟨H9, w5⟩ := qn_ m hg; obtain ⟨I0, w6⟩ := qn_ a3 hg; replace v := kb_ v hb; replace D := kb_ D hb; replace z := kb_ z hb; replace B := kb_ B hb; replace E := kb_ E hb; replace x := kb_ x hb; replace d0 := kb_ d0 hb; replace g1 := kb_ g1 hb; replace q := qbl_ q hb; replace s := qbl_ s hb; replace u := qbl_ u hb; replace m := qbl_ m hb; replace a3 := qbl_ a3 hb; replace HB := hs_ hb; clear hb hg; obtain ⟨k5, k1, I3⟩ := Kd.R_slice g1.out; subst I3; obtain ⟨R4, R5⟩ := nn_ w2; obtain ⟨R6, R7⟩ := nn_ w3; obtain ⟨R8, R9⟩ := nn_ w4; obtain ⟨S0, S1⟩ := nn_ w5; obtain ⟨S2, S3⟩ := nn_ w6; obtain ⟨S4, S5⟩ := bc1_ c8; obtain ⟨S6, S7⟩ := bc1_ a3) | (go_at_call 55; (with_reducible refine (laws_sameDisk.calls d7 _ _ a4 _ _ c6 true _ ?side1 ?side2 ?side3 ?side4 A3.out).mono ?_); (case side1 => refine (Kd.R_reads' (e := 99) (base := w.heap.size) (ok := fun k_ => (((((True ∧ some k_ ≠ (.slice Z F.length U : Value).ownBlock) ∧ some k_ ≠ (.slice Y L.length X : Value).ownBlock) ∧ some k_ ≠ (.slice V M.length T : Value).ownBlock) ∧ some k_ ≠ (m1 : Value).ownBlock) ∧ some k_ ≠ (.slice k5 c6.length k1 : Value).ownBlock)) (n := a4.length) (c := f7) ?_).2.2; exact (by (with_reducible repeat (first | apply Kd.R_alloc | apply Kd.R_drewN | apply Kd.R_drew)); exact (Kd.R_mono (Kd.R_far (p := ⟨d3, 0, none⟩) (Kd.R_types d0.out c8.out (by decide)) (fun _ hk => hk.2) (.slice k5 c6.length k1)) (fun _ h_ => h_.1)))); (case side2 => exact (Kd.R_reads' d0.out).2.1); (case side3 => refine (Kd.R_reads' (e := 99) (base := w.heap.size) (ok := fun k_ => (((((True ∧ some k_ ≠ (.slice Z F.length U : Value).ownBlock) ∧ some k_ ≠ (.slice Y L.length X : Value).ownBlock) ∧ some k_ ≠ (.slice V M.length T : Value).ownBlock) ∧ some k_ ≠ (m1 : Value).ownBlock) ∧ some k_ ≠ (.slice f9 a4.length f7 : Value).ownBlock)) (n := c6.length) (c := k1) ?_).2.2; exact (by (with_reducible repeat (first | apply Kd.R_alloc | apply Kd.R_drewN | apply Kd.R_drew)); exact (Kd.R_mono (Kd.R_far (p := ⟨d3, 0, none⟩) (Kd.R_types g1.out c8.out (by decide)) (fun _ hk => hk.2) (.slice k5 c6.length k1)) (fun _ h_ => h_.1)))); (case side4 => exact (Kd.R_reads' g1.out).2.1); rintro e C2 ⟨rfl, hb⟩; replace v := am_ (Kd.R_below (by (with_reducible repeat (first | apply Kd.R_alloc | apply Kd.R_drewN | apply Kd.R_drew)); exact (Kd.R_mono (Kd.R_far (p := ⟨d3, 0, none⟩) (Kd.R_types v.out c8.out (by decide)) (fun _ hk => hk.2) (.slice k5 c6.length k1)) (fun _ h_ => h_.1))) hb); replace D := am_ (Kd.R_below (by (with_reducible repeat (first | apply Kd.R_alloc | apply Kd.R_drewN | apply Kd.R_drew)); exact (Kd.R_mono (Kd.R_far (p := ⟨d3, 0, none⟩) (Kd.R_types D.out c8.out (by decide)) (fun _ hk => hk.2) (.slice k5 c6.length k1)) (fun _ h_ => h_.1))) hb); replace z := am_ (Kd.R_below (by (with_reducible repeat (first | apply Kd.R_alloc | apply Kd.R_drewN | apply Kd.R_drew)); exact (Kd.R_mono (Kd.R_far (p := ⟨d3, 0, none⟩) (Kd.R_types z.out c8.out (by decide)) (fun _ hk => hk.2) (.slice k5 c6.length k1)) (fun _ h_ => h_.1))) hb); replace B := am_ (Kd.R_below (by (with_reducible repeat (first | apply Kd.R_alloc | apply Kd.R_drewN | apply Kd.R_drew)); exact (Kd.R_mono (Kd.R_far (p := ⟨d3, 0, none⟩) (Kd.R_types B.out c8.out (by decide)) (fun _ hk => hk.2) (.slice k5 c6.length k1)) (fun _ h_ => h_.1))) hb); replace E := am_ (Kd.R_below (by (with_reducible repeat (first | apply Kd.R_alloc | apply Kd.R_drewN | apply Kd.R_drew)); exact (Kd.R_mono (Kd.R_far (p := ⟨d3, 0, none⟩) (Kd.R_types E.out c8.out (by decide)) (fun _ hk => hk.2) (.slice k5 c6.length k1)) (fun _ h_ => h_.1))) hb); replace x := am_ (Kd.R_below (by (with_reducible repeat (first | apply Kd.R_alloc | apply Kd.R_drewN | apply Kd.R_drew)); exact (Kd.R_mono (Kd.R_far (p := ⟨d3, 0, none⟩) (Kd.R_types x.out c8.out (by decide)) (fun _ hk => hk.2) (.slice k5 c6.length k1)) (fun _ h_ => h_.1))) hb); replace d0 := am_ (Kd.R_below (by (with_reducible repeat (first | apply Kd.R_alloc | apply Kd.R_drewN | apply Kd.R_drew)); exact (Kd.R_mono (Kd.R_far (p := ⟨d3, 0, none⟩) (Kd.R_types d0.out c8.out (by decide)) (fun _ hk => hk.2) (.slice k5 c6.length k1)) (fun _ h_ => h_.1))) hb); replace g1 := am_ (Kd.R_below (by (with_reducible repeat (first | apply Kd.R_alloc | apply Kd.R_drewN | apply Kd.R_drew)); exact (Kd.R_mono (Kd.R_far (p := ⟨d3, 0, none⟩) (Kd.R_types g1.out c8.out (by decide)) (fun _ hk => hk.2) (.slice k5 c6.length k1)) (fun _ h_ => h_.1))) hb); replace q := qbl_ q hb; replace s := qbl_ s hb; replace u := qbl_ u hb; replace m := qbl_ m hb; replace a3 := qbl_ a3 hb; replace c8 := am_ (blk_below (g := d3) (o := .cells #[.slice k5 c6.length k1] 44 (0, 0)) (qp_ c8) hb); replace HB := hs_ hb; clear hb; obtain ⟨S8, S9⟩ := nn_ q1; obtain ⟨T1, T8⟩ := nn_ q2; obtain ⟨T9, U0⟩ := bc1_ m; obtain ⟨U1, U2⟩ := nn_ z2; obtain ⟨U3, U4⟩ := bc1_ s; obtain ⟨U5, U6, I4⟩ := Kd.R_slice x.out; subst I4) | (go_at_call 55; (with_reducible refine (laws_sameDisk.calls d7 _ _ O _ _ L true _ ?_ ?_ ?_ ?_ I2.out).mono ?_); exact qD_ (Kd.R_reads' x.out).2.2; exact (Kd.R_reads' x.out).2.1; exact qD_ (Kd.R_reads' B.out).2.2; exact (Kd.R_reads' B.out).2.1; rintro e C3 ⟨rfl, hb⟩; replace v := kb_ v hb; replace D := kb_ D hb; replace z := kb_ z hb; replace B := kb_ B hb; replace E := kb_ E hb; replace x := kb_ x hb; replace d0 := kb_ d0 hb; replace g1 := kb_ g1 hb; replace q := qbl_ q hb; replace s := qbl_ s hb; replace u := qbl_ u hb; replace m := qbl_ m hb; replace a3 := qbl_ a3 hb; replace c8 := qbl_ c8 hb; replace HB := hs_ hb; clear hb))
      go_ret
      exact ⟨qr_, qB_⟩
     refine ig_ H ?_; clear H; intro w8 H
     refine ig_ H ?_; clear H; intro w9 H
     obtain ⟨⟨A, U7⟩, k2, H⟩ := bs_ H; dsimp only at H
     refine id_ H ?_ ?_ <;> clear H <;> rintro rfl H
     ·exact absurd (oi_ H) (by decide)
     obtain ⟨⟨n2, x0⟩, o3, H⟩ := bs_ H; dsimp only at H
     obtain ⟨⟨o4, I5⟩, o5, H⟩ := bs_ H; dsimp only at H
     refine jc_ H ?_ ?_ <;> clear H <;> intro k9 H
     ·have o6 : (((rd_T60 l a).f0) == 1) = true := beq_iff_eq.mpr k9
      have o7 : (((rd_T60 l a).f0) != 1) = false := bne_eq_false_iff_eq.mpr k9
      clear k9
      refine id_ H ?_ ?_ <;> clear H <;> rintro rfl H
      ·exact absurd (oi_ H) (by decide)
      refine jg_ H ?_; clear H; intro o8 H
      have x1 := eq_true o8
      have x2 := decide_eq_true o8
      try have x3 : (9223372036854775807 < n2.size + ((rd_T60 l a).f2).size) = False := eq_false (Nat.not_lt.2 o8)
      refine jb_ H ?_ ?_ <;> clear H <;> intro l2 H
      ·have o9 : (o4.toList == (n2 ++ ((rd_T60 l a).f2)).toList) = false := beq_eq_false_iff_ne.mpr l2
       have p0 : (o4.toList != (n2 ++ ((rd_T60 l a).f2)).toList) = true := bne_iff_ne.mpr l2
       exact absurd (oi_ H) (by decide)
      have o9 : (o4.toList == (n2 ++ ((rd_T60 l a).f2)).toList) = true := beq_iff_eq.mpr l2
      have p0 : (o4.toList != (n2 ++ ((rd_T60 l a).f2)).toList) = false := bne_eq_false_iff_eq.mpr l2
      clear l2
      refine jc_ H ?_ ?_ <;> clear H <;> intro l3 H
      ·have p1 : (((rd_T60 l a).f0) == 4) = true := beq_iff_eq.mpr l3
       have p2 : (((rd_T60 l a).f0) != 4) = false := bne_eq_false_iff_eq.mpr l3
       clear l3
       exact absurd (oi_ H) (by decide)
      have p1 : (((rd_T60 l a).f0) == 4) = false := beq_eq_false_iff_ne.mpr l3
      have p2 : (((rd_T60 l a).f0) != 4) = true := bne_iff_ne.mpr l3
      have H' := am_ H; clear H
      obtain ⟨d8, d9, I6⟩ := Kd.R_slice x.out
      subst I6
      try go_wp2
      replace v := rd_ v; replace D := rd_ D; replace z := rd_ z; replace B := rd_ B; replace E := rd_ E; replace x := rd_ x; replace q := bd_ q; replace s := bd_ s; replace u := bd_ u; replace m := bd_ m; replace HB := hd_ HB
      have g2 := dt_ a
      have g3 := du_ a l.length
      obtain ⟨d, g4, n3, n4, n5, n6⟩ := at_T60 (Kd.R_reads' v.out).2.2 a (ot_ g2) (ot_ g3)
      cases g4
      refine start_ (n := 12) (S := fun w' => w'.cell? ⟨a2, 0, none⟩ = some (.slice d8 O.length d9) ∧ w'.cell? (d.add ((a).toNat * 4)) = some (.int .i64 ((rd_T60 l a).f0)) ∧ w'.cell? ⟨(d.add ((a).toNat * 4)).block, (d.add ((a).toNat * 4)).off + 1, none⟩ = some (.string ((rd_T60 l a).f1)) ∧ w'.cell? ⟨(d.add ((a).toNat * 4)).block, (d.add ((a).toNat * 4)).off + 2, none⟩ = some (.string ((rd_T60 l a).f2)) ∧ w'.cell? ⟨(d.add ((a).toNat * 4)).block, (d.add ((a).toNat * 4)).off + 3, none⟩ = some (.string ((rd_T60 l a).f3))) (ds := []) (bm 12 0) (by kernel_rfl) rfl (by kernel_rfl) ⟨bl_ m 0, n3, n4, n5, n6⟩ (fun hHeld => ?_); refine with_tabW laws_FnActs.tab12 laws_FnActs.bits12 (fun HT_ HW_ => ?_)
      generalize wr.drew = I7 at v D z B E x q s u m HB n3 n4 n5 n6 hHeld ⊢
      refine pz_ 1 61 12 2 ?_; refine pz_ 2 62 12 6 ?_; refine pz_ 3 63 12 14 ?_; refine tz5_ 0 60 12 15 ?_; refine tz5_ 4 64 12 31 ?_
      refine join_ (σ := Value × Nat) 2 #[true, true, true, true, true, true, true, true, true, true, false, false] (fun s_ => [(65, .tuple #[.agg #[s_.1], .bool true]), (13, .pointer (some ⟨s_.2, 0, none⟩)), (59, .tuple #[.agg #[s_.1], .bool true]), (66, .agg #[s_.1]), (67, .bool true)]) (fun s_ w' => (w'.cell? ⟨a2, 0, none⟩ = some (.slice d8 O.length d9) ∧ w'.cell? (d.add ((a).toNat * 4)) = some (.int .i64 ((rd_T60 l a).f0)) ∧ w'.cell? ⟨(d.add ((a).toNat * 4)).block, (d.add ((a).toNat * 4)).off + 1, none⟩ = some (.string ((rd_T60 l a).f1)) ∧ w'.cell? ⟨(d.add ((a).toNat * 4)).block, (d.add ((a).toNat * 4)).off + 2, none⟩ = some (.string ((rd_T60 l a).f2)) ∧ w'.cell? ⟨(d.add ((a).toNat * 4)).block, (d.add ((a).toNat * 4)).off + 3, none⟩ = some (.string ((rd_T60 l a).f3))) ∧ (Kd.R k99 99 w' w.heap.size (fun k_ => some k_ ≠ (.slice Z F.length U : Value).ownBlock ∧ some k_ ≠ (.slice Y L.length X : Value).ownBlock ∧ some k_ ≠ (.slice V M.length T : Value).ownBlock ∧ some k_ ≠ (.slice d8 O.length d9 : Value).ownBlock) s_.1 A) ∧ (Kd.R k60 60 w' w.heap.size (fun _ => True) (.slice (some d) l.length e5) l) ∧ (Kd.R k99 99 w' w.heap.size (fun k_ => some k_ ≠ (s_.1 : Value).ownBlock ∧ some k_ ≠ (.slice Y L.length X : Value).ownBlock ∧ some k_ ≠ (.slice V M.length T : Value).ownBlock) (.slice Z F.length U) F) ∧ (Kd.R k99 99 w' w.heap.size (fun k_ => some k_ ≠ (s_.1 : Value).ownBlock ∧ some k_ ≠ (.slice Z F.length U : Value).ownBlock ∧ some k_ ≠ (.slice V M.length T : Value).ownBlock ∧ some k_ ≠ (.slice d8 O.length d9 : Value).ownBlock) (.slice Y L.length X) L) ∧ (Kd.R k99 99 w' w.heap.size (fun k_ => some k_ ≠ (s_.1 : Value).ownBlock ∧ some k_ ≠ (.slice Z F.length U : Value).ownBlock ∧ some k_ ≠ (.slice Y L.length X : Value).ownBlock ∧ some k_ ≠ (.slice d8 O.length d9 : Value).ownBlock) (.slice V M.length T) M) ∧ (Kd.R k99 99 w' w.heap.size (fun k_ => some k_ ≠ (s_.1 : Value).ownBlock ∧ some k_ ≠ (.slice Y L.length X : Value).ownBlock ∧ some k_ ≠ (.slice V M.length T : Value).ownBlock) (.slice d8 O.length d9) O) ∧ (Kd.R (Kd.int .i64) 3 w' w.heap.size (fun _ => True) k8 d1) ∧ (w'.heap[c5]? = some (.cells #[.slice Z F.length U] 44 (0, 0))) ∧ (w'.heap[c3]? = some (.cells #[.slice Y L.length X] 44 (0, 0))) ∧ (w'.heap[b5]? = some (.cells #[.slice V M.length T] 44 (0, 0))) ∧ (w'.heap[a2]? = some (.cells #[.slice d8 O.length d9] 44 (0, 0))) ∧ (w'.heap[s_.2]? = some (.cells #[.slice none 0 0] 44 (0, 0))) ∧ (w.heap.size ≤ s_.2) ∧ (w.heap.size ≤ s_.2) ∧ (c5 ≠ s_.2) ∧ (s_.2 ≠ c5) ∧ (c3 ≠ s_.2) ∧ (s_.2 ≠ c3) ∧ (b5 ≠ s_.2) ∧ (s_.2 ≠ b5) ∧ (a2 ≠ s_.2) ∧ (s_.2 ≠ a2) ∧ (Below w.heap.size w w')) ?_ ?_
      rotate_left
      ·intro hCont
       refine two_ (i := 5) (j := 9) (Ni := some 65) (Nj := some 13) (bm 12 63) #[true, true, true, true, true, false, false, false, false, true, false, false] rfl rfl rfl rfl (two_of HT_.out (by kernel_rfl)) (by decide) (by decide) (fun K hK => ?_) (fun K hK => ?_)
       ·skip
        refine gs_ Try.func40 #[.agg #[.slice d8 O.length d9], .agg #[.int .i64 ((rd_T60 l a).f0), .string ((rd_T60 l a).f1), .string ((rd_T60 l a).f2), .string ((rd_T60 l a).f3)]] ?_
        with_reducible refine (impl_DoAct.calls d7 _ _ O ((rd_T60 l a).f0) ((rd_T60 l a).f1) ((rd_T60 l a).f2) ((rd_T60 l a).f3) A true _ ?side1 ?side2 k2.out).mono ?_
        (case side1 => exact qD_ (Kd.R_reads' x.out).2.2)
        (case side2 => exact (Kd.R_reads' x.out).2.1)
        rintro e x4 ⟨c9, rfl, ho0, hb⟩
        have HS1_ := (hb.cell (World.block_lt_of_cell? _ _ (hHeld.2.1))).trans (hHeld.2.1)
        have HS2_ := (hb.cell (World.block_lt_of_cell? _ _ (hHeld.2.2.1))).trans (hHeld.2.2.1)
        have HS3_ := (hb.cell (World.block_lt_of_cell? _ _ (hHeld.2.2.2.1))).trans (hHeld.2.2.2.1)
        have HS4_ := (hb.cell (World.block_lt_of_cell? _ _ (hHeld.2.2.2.2))).trans (hHeld.2.2.2.2)
        refine ⟨_, rfl, ?_⟩
        have a0 := am_ (Kd.R_lower (Kd.R_new' (Kd.R_new' (Kd.R_new' (Kd.R_new' ho0 (Kd.R_lt (qR_ z))) (Kd.R_lt (qR_ B))) (Kd.R_lt (qR_ E))) (Kd.R_lt (qR_ x))) (below_size qB_)); replace v := kb_ v hb; replace D := kb_ D hb; replace z := ke_ z ho0 hb; replace B := ke_ B ho0 hb; replace E := ke_ E ho0 hb; replace x := ke_ x ho0 hb; replace q := qbl_ q hb; replace s := qbl_ s hb; replace u := qbl_ u hb; replace m := qbl_ m hb; replace HB := hs_ hb; clear hb ho0
        refine hK.out _ _ ⟨bl_ m 0, HS1_, HS2_, HS3_, HS4_⟩ (fun hHeld => ?_)
        clear hK K
        refine nm_ 65 ?_
        refine pz_ 6 59 12 127 ?_; refine pz_ 7 66 12 255 ?_; refine pz_ 8 67 12 511 ?_
        refine o1_ 9 (some 13) 12 1023 (fun K hK => ?_)
        refine box_step ?hg (N := 13) ?hd (cs := #[.slice none 0 0]) (t := 44) ?hr ?_; (case hd => rfl); (case hg => rfl); (case hr => first | (go_simp; done) | (go_simp; rfl))
        intro y hg x5 hbox hb
        have HS1_ := (hb.cell (World.block_lt_of_cell? _ _ (hHeld.2.1))).trans (hHeld.2.1)
        have HS2_ := (hb.cell (World.block_lt_of_cell? _ _ (hHeld.2.2.1))).trans (hHeld.2.2.1)
        have HS3_ := (hb.cell (World.block_lt_of_cell? _ _ (hHeld.2.2.2.1))).trans (hHeld.2.2.2.1)
        have HS4_ := (hb.cell (World.block_lt_of_cell? _ _ (hHeld.2.2.2.2))).trans (hHeld.2.2.2.2)
        have J := am_ (hbox); have j8 := gw_ hg; have j9 := gw_ hg; have g5 := (qn_ q hg).1; have e6 := (qn_ q hg).2; have g6 := (qn_ s hg).1; have e7 := (qn_ s hg).2; have g7 := (qn_ u hg).1; have e8 := (qn_ u hg).2; have e9 := (qn_ m hg).1; have f4 := (qn_ m hg).2; replace v := kb_ v hb; replace D := kb_ D hb; replace z := kb_ z hb; replace B := kb_ B hb; replace E := kb_ E hb; replace x := kb_ x hb; replace a0 := kb_ a0 hb; replace q := qbl_ q hb; replace s := qbl_ s hb; replace u := qbl_ u hb; replace m := qbl_ m hb; replace HB := hs_ hb; clear hb hbox hg
        refine hK.out _ _ ⟨bl_ m 0, HS1_, HS2_, HS3_, HS4_⟩ (fun hHeld => ?_)
        clear hK K
        refine nm_ 13 ?_
        exact norm_ (by simp only [putAll, Act.put, sA_, sB_, sC_]) (hCont (c9, y) _ ⟨hHeld, (by (with_reducible repeat (first | apply Kd.R_alloc | apply Kd.R_drewN | apply Kd.R_drew)); exact Kd.R_mono a0.out (fun _ hk => ⟨hk.1.1.1.2, ⟨hk.1.1.2, ⟨hk.1.2, hk.2⟩⟩⟩)), (qR_ v), (by (with_reducible repeat (first | apply Kd.R_alloc | apply Kd.R_drewN | apply Kd.R_drew)); exact Kd.R_mono z.out (fun _ hk => ⟨hk.2, ⟨hk.1.1, hk.1.2⟩⟩)), (by (with_reducible repeat (first | apply Kd.R_alloc | apply Kd.R_drewN | apply Kd.R_drew)); exact Kd.R_mono B.out (fun _ hk => ⟨hk.2, ⟨hk.1.1, ⟨hk.1.2.1, hk.1.2.2⟩⟩⟩)), (by (with_reducible repeat (first | apply Kd.R_alloc | apply Kd.R_drewN | apply Kd.R_drew)); exact Kd.R_mono E.out (fun _ hk => ⟨hk.2, ⟨hk.1.1, ⟨hk.1.2.1, hk.1.2.2⟩⟩⟩)), (by (with_reducible repeat (first | apply Kd.R_alloc | apply Kd.R_drewN | apply Kd.R_drew)); exact Kd.R_mono x.out (fun _ hk => ⟨hk.2, ⟨hk.1.1, hk.1.2⟩⟩)), (qR_ D), (qk_ q), (qk_ s), (qk_ u), (qk_ m), (qk_ J), j8.out, j9.out, g5.out, e6.out, g6.out, e7.out, g7.out, e8.out, e9.out, f4.out, qB_⟩)
       skip
       refine box_step ?hg (N := 13) ?hd (cs := #[.slice none 0 0]) (t := 44) ?hr ?_; (case hd => rfl); (case hg => rfl); (case hr => first | (go_simp; done) | (go_simp; rfl))
       intro y hg x4 hbox hb
       have HS1_ := (hb.cell (World.block_lt_of_cell? _ _ (hHeld.2.1))).trans (hHeld.2.1)
       have HS2_ := (hb.cell (World.block_lt_of_cell? _ _ (hHeld.2.2.1))).trans (hHeld.2.2.1)
       have HS3_ := (hb.cell (World.block_lt_of_cell? _ _ (hHeld.2.2.2.1))).trans (hHeld.2.2.2.1)
       have HS4_ := (hb.cell (World.block_lt_of_cell? _ _ (hHeld.2.2.2.2))).trans (hHeld.2.2.2.2)
       have J := am_ (hbox); have j8 := gw_ hg; have j9 := gw_ hg; have g5 := (qn_ q hg).1; have e6 := (qn_ q hg).2; have g6 := (qn_ s hg).1; have e7 := (qn_ s hg).2; have g7 := (qn_ u hg).1; have e8 := (qn_ u hg).2; have e9 := (qn_ m hg).1; have f4 := (qn_ m hg).2; replace v := kb_ v hb; replace D := kb_ D hb; replace z := kb_ z hb; replace B := kb_ B hb; replace E := kb_ E hb; replace x := kb_ x hb; replace q := qbl_ q hb; replace s := qbl_ s hb; replace u := qbl_ u hb; replace m := qbl_ m hb; replace HB := hs_ hb; clear hb hbox hg
       refine hK.out _ _ ⟨bl_ m 0, HS1_, HS2_, HS3_, HS4_⟩ (fun hHeld => ?_)
       clear hK K
       refine nm_ 13 ?_
       refine o1_ 5 (some 65) 12 575 (fun K hK => ?_)
       refine gs_ Try.func40 #[.agg #[.slice d8 O.length d9], .agg #[.int .i64 ((rd_T60 l a).f0), .string ((rd_T60 l a).f1), .string ((rd_T60 l a).f2), .string ((rd_T60 l a).f3)]] ?_
       with_reducible refine (impl_DoAct.calls d7 _ _ O ((rd_T60 l a).f0) ((rd_T60 l a).f1) ((rd_T60 l a).f2) ((rd_T60 l a).f3) A true _ ?side1 ?side2 k2.out).mono ?_
       (case side1 => exact qD_ (Kd.R_reads' x.out).2.2)
       (case side2 => exact (Kd.R_reads' x.out).2.1)
       rintro e x5 ⟨c9, rfl, ho0, hb⟩
       have HS1_ := (hb.cell (World.block_lt_of_cell? _ _ (hHeld.2.1))).trans (hHeld.2.1)
       have HS2_ := (hb.cell (World.block_lt_of_cell? _ _ (hHeld.2.2.1))).trans (hHeld.2.2.1)
       have HS3_ := (hb.cell (World.block_lt_of_cell? _ _ (hHeld.2.2.2.1))).trans (hHeld.2.2.2.1)
       have HS4_ := (hb.cell (World.block_lt_of_cell? _ _ (hHeld.2.2.2.2))).trans (hHeld.2.2.2.2)
       refine ⟨_, rfl, ?_⟩
       have a0 := am_ (Kd.R_lower (Kd.R_new' (Kd.R_new' (Kd.R_new' (Kd.R_new' ho0 (Kd.R_lt (qR_ z))) (Kd.R_lt (qR_ B))) (Kd.R_lt (qR_ E))) (Kd.R_lt (qR_ x))) (below_size qB_)); replace v := kb_ v hb; replace D := kb_ D hb; replace z := ke_ z ho0 hb; replace B := ke_ B ho0 hb; replace E := ke_ E ho0 hb; replace x := ke_ x ho0 hb; replace q := qbl_ q hb; replace s := qbl_ s hb; replace u := qbl_ u hb; replace m := qbl_ m hb; replace J := qbl_ J hb; replace HB := hs_ hb; clear hb ho0
       refine hK.out _ _ ⟨bl_ m 0, HS1_, HS2_, HS3_, HS4_⟩ (fun hHeld => ?_)
       clear hK K
       refine nm_ 65 ?_
       refine pz_ 6 59 12 639 ?_; refine pz_ 7 66 12 767 ?_; refine pz_ 8 67 12 1023 ?_
       exact norm_ (by simp only [putAll, Act.put, sA_, sB_, sC_]) (hCont (c9, y) _ ⟨hHeld, (by (with_reducible repeat (first | apply Kd.R_alloc | apply Kd.R_drewN | apply Kd.R_drew)); exact Kd.R_mono a0.out (fun _ hk => ⟨hk.1.1.1.2, ⟨hk.1.1.2, ⟨hk.1.2, hk.2⟩⟩⟩)), (qR_ v), (by (with_reducible repeat (first | apply Kd.R_alloc | apply Kd.R_drewN | apply Kd.R_drew)); exact Kd.R_mono z.out (fun _ hk => ⟨hk.2, ⟨hk.1.1, hk.1.2⟩⟩)), (by (with_reducible repeat (first | apply Kd.R_alloc | apply Kd.R_drewN | apply Kd.R_drew)); exact Kd.R_mono B.out (fun _ hk => ⟨hk.2, ⟨hk.1.1, ⟨hk.1.2.1, hk.1.2.2⟩⟩⟩)), (by (with_reducible repeat (first | apply Kd.R_alloc | apply Kd.R_drewN | apply Kd.R_drew)); exact Kd.R_mono E.out (fun _ hk => ⟨hk.2, ⟨hk.1.1, ⟨hk.1.2.1, hk.1.2.2⟩⟩⟩)), (by (with_reducible repeat (first | apply Kd.R_alloc | apply Kd.R_drewN | apply Kd.R_drew)); exact Kd.R_mono x.out (fun _ hk => ⟨hk.2, ⟨hk.1.1, hk.1.2⟩⟩)), (qR_ D), (qk_ q), (qk_ s), (qk_ u), (qk_ m), (qk_ J), j8.out, j9.out, g5.out, e6.out, g6.out, e7.out, g7.out, e8.out, e9.out, f4.out, qB_⟩)
      rintro ⟨c9, y⟩ a1 ⟨hS_, g8, g9, h0, h1, h2, h3, h4, h5, h6, h7, h10_, h11_, h12_, h13_, h14_, h15_, h16_, h17_, h18_, h19_, h20_, h21_, h22_⟩
      have a5 : Aside0 (Kd.R k99 99 a1 w.heap.size (fun k_ => some k_ ≠ (.slice Z F.length U : Value).ownBlock ∧ some k_ ≠ (.slice Y L.length X : Value).ownBlock ∧ some k_ ≠ (.slice V M.length T : Value).ownBlock ∧ some k_ ≠ (.slice d8 O.length d9 : Value).ownBlock) c9 A) := ⟨g8⟩
      have a6 : Aside0 (Kd.R k60 60 a1 w.heap.size (fun _ => True) (.slice (some d) l.length e5) l) := ⟨g9⟩
      have a7 : Aside0 (Kd.R k99 99 a1 w.heap.size (fun k_ => some k_ ≠ (c9 : Value).ownBlock ∧ some k_ ≠ (.slice Y L.length X : Value).ownBlock ∧ some k_ ≠ (.slice V M.length T : Value).ownBlock) (.slice Z F.length U) F) := ⟨h0⟩
      have a8 : Aside0 (Kd.R k99 99 a1 w.heap.size (fun k_ => some k_ ≠ (c9 : Value).ownBlock ∧ some k_ ≠ (.slice Z F.length U : Value).ownBlock ∧ some k_ ≠ (.slice V M.length T : Value).ownBlock ∧ some k_ ≠ (.slice d8 O.length d9 : Value).ownBlock) (.slice Y L.length X) L) := ⟨h1⟩
      have a9 : Aside0 (Kd.R k99 99 a1 w.heap.size (fun k_ => some k_ ≠ (c9 : Value).ownBlock ∧ some k_ ≠ (.slice Z F.length U : Value).ownBlock ∧ some k_ ≠ (.slice Y L.length X : Value).ownBlock ∧ some k_ ≠ (.slice d8 O.length d9 : Value).ownBlock) (.slice V M.length T) M) := ⟨h2⟩
      have b0 : Aside0 (Kd.R k99 99 a1 w.heap.size (fun k_ => some k_ ≠ (c9 : Value).ownBlock ∧ some k_ ≠ (.slice Y L.length X : Value).ownBlock ∧ some k_ ≠ (.slice V M.length T : Value).ownBlock) (.slice d8 O.length d9) O) := ⟨h3⟩
      have b1 : Aside0 (Kd.R (Kd.int .i64) 3 a1 w.heap.size (fun _ => True) k8 d1) := ⟨h4⟩
      have b2 : Aside0 (a1.heap[c5]? = some (.cells #[.slice Z F.length U] 44 (0, 0))) := ⟨h5⟩
      have b3 : Aside0 (a1.heap[c3]? = some (.cells #[.slice Y L.length X] 44 (0, 0))) := ⟨h6⟩
      have b4 : Aside0 (a1.heap[b5]? = some (.cells #[.slice V M.length T] 44 (0, 0))) := ⟨h7⟩
      have n10_ : Aside0 (a1.heap[a2]? = some (.cells #[.slice d8 O.length d9] 44 (0, 0))) := ⟨h10_⟩
      have n11_ : Aside0 (a1.heap[y]? = some (.cells #[.slice none 0 0] 44 (0, 0))) := ⟨h11_⟩
      have n12_ : Aside0 (w.heap.size ≤ y) := ⟨h12_⟩
      have n13_ : Aside0 (w.heap.size ≤ y) := ⟨h13_⟩
      have n14_ : Aside0 (c5 ≠ y) := ⟨h14_⟩
      have n15_ : Aside0 (y ≠ c5) := ⟨h15_⟩
      have n16_ : Aside0 (c3 ≠ y) := ⟨h16_⟩
      have n17_ : Aside0 (y ≠ c3) := ⟨h17_⟩
      have n18_ : Aside0 (b5 ≠ y) := ⟨h18_⟩
      have n19_ : Aside0 (y ≠ b5) := ⟨h19_⟩
      have n20_ : Aside0 (a2 ≠ y) := ⟨h20_⟩
      have n21_ : Aside0 (y ≠ a2) := ⟨h21_⟩
      have n22_ : Aside0 (Below w.heap.size w a1) := ⟨h22_⟩
      clear v D z B E x q s u m HB g8 g9 h0 h1 h2 h3 h4 h5 h6 h7 h10_ h11_ h12_ h13_ h14_ h15_ h16_ h17_ h18_ h19_ h20_ h21_ h22_; have a0 := a5; have v := a6; have z := a7; have B := a8; have E := a9; have x := b0; have D := b1; have q := b2; have s := b3; have u := b4; have m := n10_; have J := n11_; have j8 := n12_; have j9 := n13_; have g5 := n14_; have e6 := n15_; have g6 := n16_; have e7 := n17_; have g7 := n18_; have e8 := n19_; have e9 := n20_; have f4 := n21_; have HB := n22_; clear a5 a6 a7 a8 a9 b0 b1 b2 b3 b4 n10_ n11_ n12_ n13_ n14_ n15_ n16_ n17_ n18_ n19_ n20_ n21_ n22_
      have hHeld : a1.cell? ⟨a2, 0, none⟩ = some (.slice d8 O.length d9) ∧ a1.cell? (d.add ((a).toNat * 4)) = some (.int .i64 ((rd_T60 l a).f0)) ∧ a1.cell? ⟨(d.add ((a).toNat * 4)).block, (d.add ((a).toNat * 4)).off + 1, none⟩ = some (.string ((rd_T60 l a).f1)) ∧ a1.cell? ⟨(d.add ((a).toNat * 4)).block, (d.add ((a).toNat * 4)).off + 2, none⟩ = some (.string ((rd_T60 l a).f2)) ∧ a1.cell? ⟨(d.add ((a).toNat * 4)).block, (d.add ((a).toNat * 4)).off + 3, none⟩ = some (.string ((rd_T60 l a).f3)) := hS_
      obtain ⟨b6, b7, C4⟩ := Kd.R_slice a0.out
      (first | subst C4 | (injection C4 with h8 l4 h9; have l5 := h8.symm; have l6 := h9.symm; clear h8 l4 h9; subst l5; subst l6))
      refine norm_ (a' := ?_) ?_ ?_
      rotate_left
      ·simp only [putAll, Act.put, sA_, sB_, sC_]
       rfl
      refine o1_ 10 none 12 2047 (fun K hK => ?_)
      have C5 : a1.cell? ⟨y, 0, none⟩ = some (.slice none 0 0) := bl_ J 0
      have x6 := blk_frozen J.out 0
      have U8 := g5.out; have B2 := g6.out; have B3 := g7.out; have B4 := e9.out; have B5 := e6.out; have B6 := e7.out; have B7 := e8.out; have U9 := f4.out
      refine skip_ (w1 := ?_) (by rfl) rfl ?_ ?_
      rotate_left
      ·go_simp
       rfl
      have nb_ := Kd.own_blk (Kd.R_ne v.out J.out (by decide))
      refine hK.out _ _ ⟨((cell_far (p := ⟨y, _, none⟩) e9.out _).trans (hHeld.1)), ((cell_far (p := ⟨y, _, none⟩) (nx_ nb_) _).trans (hHeld.2.1)), ((cell_far (p := ⟨y, _, none⟩) (nx_ nb_) _).trans (hHeld.2.2.1)), ((cell_far (p := ⟨y, _, none⟩) (nx_ nb_) _).trans (hHeld.2.2.2.1)), ((cell_far (p := ⟨y, _, none⟩) (nx_ nb_) _).trans (hHeld.2.2.2.2))⟩ (fun hHeld => ?_)
      clear hK K; refine pz_ 11 14 12 4095 ?_
      refine done_ (done_of HT_.out (by kernel_rfl)) ?_
      try go_wp2
      have a5 : Aside0 (Kd.R k60 60 (a1.setCell ⟨y, 0, none⟩ (.slice b6 A.length b7)) w.heap.size (fun _ => True) (.slice (some d) l.length e5) l) := ⟨by (with_reducible repeat (first | apply Kd.R_alloc | apply Kd.R_drewN | apply Kd.R_drew)); exact Kd.R_mono (Kd.R_far (p := ⟨y, 0, none⟩) (Kd.R_types v.out J.out (by decide)) (fun _ hk => hk.2) (.slice b6 A.length b7)) (fun _ hk => trivial)⟩
      have a6 : Aside0 (Kd.R (Kd.int .i64) 3 (a1.setCell ⟨y, 0, none⟩ (.slice b6 A.length b7)) w.heap.size (fun _ => True) k8 d1) := ⟨by (with_reducible repeat (first | apply Kd.R_alloc | apply Kd.R_drewN | apply Kd.R_drew)); exact Kd.R_mono (Kd.R_far (p := ⟨y, 0, none⟩) (Kd.R_types D.out J.out (by decide)) (fun _ hk => hk.2) (.slice b6 A.length b7)) (fun _ hk => trivial)⟩
      have a7 : Aside0 (Kd.R k99 99 (a1.setCell ⟨y, 0, none⟩ (.slice b6 A.length b7)) w.heap.size (fun k_ => some k_ ≠ (.slice Y L.length X : Value).ownBlock ∧ some k_ ≠ (.slice V M.length T : Value).ownBlock ∧ some k_ ≠ (.slice b6 A.length b7 : Value).ownBlock) (.slice Z F.length U) F) := ⟨by (with_reducible repeat (first | apply Kd.R_alloc | apply Kd.R_drewN | apply Kd.R_drew)); exact Kd.R_mono (Kd.R_far (p := ⟨y, 0, none⟩) (Kd.R_types z.out J.out (by decide)) (fun _ hk => hk.2) (.slice b6 A.length b7)) (fun _ hk => ⟨hk.1.2.1, ⟨hk.1.2.2, hk.1.1⟩⟩)⟩
      have a8 : Aside0 (Kd.R k99 99 (a1.setCell ⟨y, 0, none⟩ (.slice b6 A.length b7)) w.heap.size (fun k_ => some k_ ≠ (.slice Z F.length U : Value).ownBlock ∧ some k_ ≠ (.slice V M.length T : Value).ownBlock ∧ some k_ ≠ (.slice d8 O.length d9 : Value).ownBlock ∧ some k_ ≠ (.slice b6 A.length b7 : Value).ownBlock) (.slice Y L.length X) L) := ⟨by (with_reducible repeat (first | apply Kd.R_alloc | apply Kd.R_drewN | apply Kd.R_drew)); exact Kd.R_mono (Kd.R_far (p := ⟨y, 0, none⟩) (Kd.R_types B.out J.out (by decide)) (fun _ hk => hk.2) (.slice b6 A.length b7)) (fun _ hk => ⟨hk.1.2.1, ⟨hk.1.2.2.1, ⟨hk.1.2.2.2, hk.1.1⟩⟩⟩)⟩
      have a9 : Aside0 (Kd.R k99 99 (a1.setCell ⟨y, 0, none⟩ (.slice b6 A.length b7)) w.heap.size (fun k_ => some k_ ≠ (.slice Z F.length U : Value).ownBlock ∧ some k_ ≠ (.slice Y L.length X : Value).ownBlock ∧ some k_ ≠ (.slice d8 O.length d9 : Value).ownBlock ∧ some k_ ≠ (.slice b6 A.length b7 : Value).ownBlock) (.slice V M.length T) M) := ⟨by (with_reducible repeat (first | apply Kd.R_alloc | apply Kd.R_drewN | apply Kd.R_drew)); exact Kd.R_mono (Kd.R_far (p := ⟨y, 0, none⟩) (Kd.R_types E.out J.out (by decide)) (fun _ hk => hk.2) (.slice b6 A.length b7)) (fun _ hk => ⟨hk.1.2.1, ⟨hk.1.2.2.1, ⟨hk.1.2.2.2, hk.1.1⟩⟩⟩)⟩
      have b0 : Aside0 (Kd.R k99 99 (a1.setCell ⟨y, 0, none⟩ (.slice b6 A.length b7)) w.heap.size (fun k_ => some k_ ≠ (.slice Y L.length X : Value).ownBlock ∧ some k_ ≠ (.slice V M.length T : Value).ownBlock ∧ some k_ ≠ (.slice b6 A.length b7 : Value).ownBlock) (.slice d8 O.length d9) O) := ⟨by (with_reducible repeat (first | apply Kd.R_alloc | apply Kd.R_drewN | apply Kd.R_drew)); exact Kd.R_mono (Kd.R_far (p := ⟨y, 0, none⟩) (Kd.R_types x.out J.out (by decide)) (fun _ hk => hk.2) (.slice b6 A.length b7)) (fun _ hk => ⟨hk.1.2.1, ⟨hk.1.2.2, hk.1.1⟩⟩)⟩
      have b1 : Aside0 (Kd.R k99 99 (a1.setCell ⟨y, 0, none⟩ (.slice b6 A.length b7)) w.heap.size (fun k_ => some k_ ≠ (.slice Z F.length U : Value).ownBlock ∧ some k_ ≠ (.slice Y L.length X : Value).ownBlock ∧ some k_ ≠ (.slice V M.length T : Value).ownBlock ∧ some k_ ≠ (.slice d8 O.length d9 : Value).ownBlock) (.slice b6 A.length b7) A) := ⟨by (with_reducible repeat (first | apply Kd.R_alloc | apply Kd.R_drewN | apply Kd.R_drew)); exact Kd.R_mono (Kd.R_far (p := ⟨y, 0, none⟩) (Kd.R_types a0.out J.out (by decide)) (fun _ hk => hk.2) (.slice b6 A.length b7)) (fun _ hk => ⟨hk.1.1, ⟨hk.1.2.1, ⟨hk.1.2.2.1, hk.1.2.2.2⟩⟩⟩)⟩
      have b2 : Aside0 ((a1.setCell ⟨y, 0, none⟩ (.slice b6 A.length b7)).heap[c5]? = some (.cells #[.slice Z F.length U] 44 (0, 0))) := ⟨qf_ q⟩
      have b3 : Aside0 ((a1.setCell ⟨y, 0, none⟩ (.slice b6 A.length b7)).heap[c3]? = some (.cells #[.slice Y L.length X] 44 (0, 0))) := ⟨qf_ s⟩
      have b4 : Aside0 ((a1.setCell ⟨y, 0, none⟩ (.slice b6 A.length b7)).heap[b5]? = some (.cells #[.slice V M.length T] 44 (0, 0))) := ⟨qf_ u⟩
      have n10_ : Aside0 ((a1.setCell ⟨y, 0, none⟩ (.slice b6 A.length b7)).heap[a2]? = some (.cells #[.slice d8 O.length d9] 44 (0, 0))) := ⟨qf_ m⟩
      have n11_ : Aside0 ((a1.setCell ⟨y, 0, none⟩ (.slice b6 A.length b7)).heap[y]? = some (.cells #[.slice b6 A.length b7] 44 (0, 0))) := ⟨qp_ J⟩
      have n12_ : Aside0 (Below w.heap.size w (a1.setCell ⟨y, 0, none⟩ (.slice b6 A.length b7))) := ⟨qB_⟩
      clear v D z B E x a0 q s u m J HB
      generalize (a1.setCell ⟨y, 0, none⟩ (.slice b6 A.length b7)) = x7 at a5 a6 a7 a8 a9 b0 b1 b2 b3 b4 n10_ n11_ n12_ ⊢
      have v := a5; have D := a6; have z := a7; have B := a8; have E := a9; have x := b0; have a0 := b1; have q := b2; have s := b3; have u := b4; have m := n10_; have J := n11_; have HB := n12_; clear a5 a6 a7 a8 a9 b0 b1 b2 b3 b4 n10_ n11_ n12_
      replace v := rd_ v; replace D := rd_ D; replace z := rd_ z; replace B := rd_ B; replace E := rd_ E; replace x := rd_ x; replace a0 := rd_ a0; replace q := bd_ q; replace s := bd_ s; replace u := bd_ u; replace m := bd_ m; replace J := bd_ J; replace HB := hd_ HB
      have i0 := dt_ a
      have i1 := du_ a l.length
      obtain ⟨d4, i2, n7, n8, n9, o0⟩ := at_T60 (Kd.R_reads' v.out).2.2 a (ot_ i0) (ot_ i1)
      obtain rfl : d = d4 := (by injection i2)
      refine start_ (n := 12) (S := fun w' => w'.cell? ⟨a2, 0, none⟩ = some (.slice d8 O.length d9) ∧ w'.cell? (d.add ((a).toNat * 4)) = some (.int .i64 ((rd_T60 l a).f0)) ∧ w'.cell? ⟨(d.add ((a).toNat * 4)).block, (d.add ((a).toNat * 4)).off + 1, none⟩ = some (.string ((rd_T60 l a).f1)) ∧ w'.cell? ⟨(d.add ((a).toNat * 4)).block, (d.add ((a).toNat * 4)).off + 2, none⟩ = some (.string ((rd_T60 l a).f2)) ∧ w'.cell? ⟨(d.add ((a).toNat * 4)).block, (d.add ((a).toNat * 4)).off + 3, none⟩ = some (.string ((rd_T60 l a).f3))) (ds := []) (bm 12 0) (by kernel_rfl) rfl (by kernel_rfl) ⟨bl_ m 0, n7, n8, n9, o0⟩ (fun hHeld => ?_); refine with_tabW laws_FnActs.tab15 laws_FnActs.bits15 (fun HT_ HW_ => ?_)
      generalize x7.drew = I8 at v D z B E x a0 q s u m J HB n7 n8 n9 o0 hHeld ⊢
      refine pz_ 1 72 12 2 ?_; refine pz_ 2 73 12 6 ?_; refine pz_ 3 74 12 14 ?_; refine pz_ 4 75 12 30 ?_; refine tz5_ 0 71 12 31 ?_; refine tz5_ 5 76 12 63 ?_
      refine o1_ 6 (some 77) 12 127 (fun K hK => ?_)
      refine gs_ Try.func56 #[.agg #[.slice d8 O.length d9], .string ((rd_T60 l a).f1)] ?_
      with_reducible refine (impl_FileAt.calls d7 _ _ O ((rd_T60 l a).f1) n2 x0 _ ?side1 ?side2 o3.out).mono ?_
      (case side1 => exact qD_ (Kd.R_reads' x.out).2.2)
      (case side2 => exact (Kd.R_reads' x.out).2.1)
      rintro e x8 ⟨rfl, hb⟩
      have HS1_ := (hb.cell (World.block_lt_of_cell? _ _ (hHeld.2.1))).trans (hHeld.2.1)
      have HS2_ := (hb.cell (World.block_lt_of_cell? _ _ (hHeld.2.2.1))).trans (hHeld.2.2.1)
      have HS3_ := (hb.cell (World.block_lt_of_cell? _ _ (hHeld.2.2.2.1))).trans (hHeld.2.2.2.1)
      have HS4_ := (hb.cell (World.block_lt_of_cell? _ _ (hHeld.2.2.2.2))).trans (hHeld.2.2.2.2)
      refine ⟨_, rfl, ?_⟩
      replace v := kb_ v hb; replace D := kb_ D hb; replace z := kb_ z hb; replace B := kb_ B hb; replace E := kb_ E hb; replace x := kb_ x hb; replace a0 := kb_ a0 hb; replace q := qbl_ q hb; replace s := qbl_ s hb; replace u := qbl_ u hb; replace m := qbl_ m hb; replace J := qbl_ J hb; replace HB := hs_ hb; clear hb
      refine hK.out _ _ ⟨bl_ m 0, HS1_, HS2_, HS3_, HS4_⟩ (fun hHeld => ?_)
      clear hK K
      refine nm_ 77 ?_
      refine pz_ 7 70 12 255 ?_; refine pz_ 8 78 12 511 ?_; refine pz_ 9 79 12 1023 ?_; refine pz_ 10 15 12 2047 ?_; refine pz_ 11 16 12 4095 ?_
      refine done_ (done_of HT_.out (by kernel_rfl)) ?_
      try go_wp2
      replace v := rd_ v; replace D := rd_ D; replace z := rd_ z; replace B := rd_ B; replace E := rd_ E; replace x := rd_ x; replace a0 := rd_ a0; replace q := bd_ q; replace s := bd_ s; replace u := bd_ u; replace m := bd_ m; replace J := bd_ J; replace HB := hd_ HB
      have i3 := dt_ a
      have i4 := du_ a l.length
      obtain ⟨d5, i5, j1, j2, o1, o2⟩ := at_T60 (Kd.R_reads' v.out).2.2 a (ot_ i3) (ot_ i4)
      obtain rfl : d = d5 := (by injection i5)
      refine start_ (n := 12) (S := fun w' => w'.cell? ⟨y, 0, none⟩ = some (.slice b6 A.length b7) ∧ w'.cell? (d.add ((a).toNat * 4)) = some (.int .i64 ((rd_T60 l a).f0)) ∧ w'.cell? ⟨(d.add ((a).toNat * 4)).block, (d.add ((a).toNat * 4)).off + 1, none⟩ = some (.string ((rd_T60 l a).f1)) ∧ w'.cell? ⟨(d.add ((a).toNat * 4)).block, (d.add ((a).toNat * 4)).off + 2, none⟩ = some (.string ((rd_T60 l a).f2)) ∧ w'.cell? ⟨(d.add ((a).toNat * 4)).block, (d.add ((a).toNat * 4)).off + 3, none⟩ = some (.string ((rd_T60 l a).f3))) (ds := []) (bm 12 0) (by kernel_rfl) rfl (by kernel_rfl) ⟨bl_ J 0, j1, j2, o1, o2⟩ (fun hHeld => ?_); refine with_tabW laws_FnActs.tab16 laws_FnActs.bits16 (fun HT_ HW_ => ?_)
      generalize x8.drew = I9 at v D z B E x a0 q s u m J HB j1 j2 o1 o2 hHeld ⊢
      refine pz_ 1 82 12 2 ?_; refine pz_ 2 83 12 6 ?_; refine pz_ 3 84 12 14 ?_; refine pz_ 4 85 12 30 ?_; refine tz5_ 0 81 12 31 ?_; refine tz5_ 5 86 12 63 ?_
      refine o1_ 6 (some 87) 12 127 (fun K hK => ?_)
      refine gs_ Try.func56 #[.agg #[.slice b6 A.length b7], .string ((rd_T60 l a).f1)] ?_
      with_reducible refine (impl_FileAt.calls d7 _ _ A ((rd_T60 l a).f1) o4 true _ ?side1 ?side2 o5.out).mono ?_
      (case side1 => exact qD_ (Kd.R_reads' a0.out).2.2)
      (case side2 => exact (Kd.R_reads' a0.out).2.1)
      rintro e J0 ⟨rfl, hb⟩
      have HS1_ := (hb.cell (World.block_lt_of_cell? _ _ (hHeld.2.1))).trans (hHeld.2.1)
      have HS2_ := (hb.cell (World.block_lt_of_cell? _ _ (hHeld.2.2.1))).trans (hHeld.2.2.1)
      have HS3_ := (hb.cell (World.block_lt_of_cell? _ _ (hHeld.2.2.2.1))).trans (hHeld.2.2.2.1)
      have HS4_ := (hb.cell (World.block_lt_of_cell? _ _ (hHeld.2.2.2.2))).trans (hHeld.2.2.2.2)
      refine ⟨_, rfl, ?_⟩
      replace v := kb_ v hb; replace D := kb_ D hb; replace z := kb_ z hb; replace B := kb_ B hb; replace E := kb_ E hb; replace x := kb_ x hb; replace a0 := kb_ a0 hb; replace q := qbl_ q hb; replace s := qbl_ s hb; replace u := qbl_ u hb; replace m := qbl_ m hb; replace J := qbl_ J hb; replace HB := hs_ hb; clear hb
      refine hK.out _ _ ⟨bl_ J 0, HS1_, HS2_, HS3_, HS4_⟩ (fun hHeld => ?_)
      clear hK K
      refine nm_ 87 ?_
      refine pz_ 7 80 12 255 ?_; refine pz_ 8 88 12 511 ?_; refine pz_ 9 89 12 1023 ?_; refine pz_ 10 17 12 2047 ?_; refine pz_ 11 18 12 4095 ?_
      refine done_ (done_of HT_.out (by kernel_rfl)) ?_
      have i6 := dt_ a
      have i7 := du_ a l.length
      obtain ⟨d6, i8, C6, C7, C8, C9⟩ := at_T60 (Kd.R_reads' v.out).2.2 a (ot_ i6) (ot_ i7)
      obtain rfl : d = d6 := (by injection i8)
      have q3 := dt_ a
      have q4 := du_ a l.length
      obtain ⟨p3, q5, V0, V1, V2, V3⟩ := at_T60 (Kd.R_reads' v.out).2.2 a (ot_ q3) (ot_ q4)
      obtain rfl : d = p3 := (by injection q5)
      have q6 := dt_ a
      have q7 := du_ a l.length
      obtain ⟨p4, q8, V4, V5, V6, V7⟩ := at_T60 (Kd.R_reads' v.out).2.2 a (ot_ q6) (ot_ q7)
      obtain rfl : d = p4 := (by injection q8)
      obtain ⟨V8, V9⟩ := nn_ e6; obtain ⟨W0, W1⟩ := nn_ e7; obtain ⟨W2, W3⟩ := nn_ e8; obtain ⟨W4, W5⟩ := nn_ f4
      obtain ⟨W6, W7⟩ := bc1_ J
      obtain ⟨W8, W9⟩ := nn_ r8; obtain ⟨X0, X1⟩ := nn_ q1; obtain ⟨X2, X3⟩ := nn_ q2
      obtain ⟨X4, X5⟩ := bc1_ m
      try go_wp2
      go_roundg d7
      case measure => have := p7.out; have := HK2.out; omega
      case rel => exact ⟨(wrap64 (a + 1)), (A), (.slice b6 A.length b7), qe_, H', ⟨by have := p7.out; have := HK2.out; omega⟩, ⟨by (with_reducible repeat (first | apply Kd.R_alloc | apply Kd.R_drewN | apply Kd.R_drew)); exact Kd.R_mono (Kd.R_far (p := ⟨a2, 0, none⟩) (Kd.R_types v.out m.out (by decide)) (fun _ hk => hk.2) (.slice b6 A.length b7)) (fun _ hk => trivial)⟩, ⟨by (with_reducible repeat (first | apply Kd.R_alloc | apply Kd.R_drewN | apply Kd.R_drew)); exact Kd.R_mono (Kd.R_far (p := ⟨a2, 0, none⟩) (Kd.R_types D.out m.out (by decide)) (fun _ hk => hk.2) (.slice b6 A.length b7)) (fun _ hk => trivial)⟩, ⟨by (with_reducible repeat (first | apply Kd.R_alloc | apply Kd.R_drewN | apply Kd.R_drew)); exact Kd.R_mono (Kd.R_far (p := ⟨a2, 0, none⟩) (Kd.R_types z.out m.out (by decide)) (fun _ hk => hk.2) (.slice b6 A.length b7)) (fun _ hk => ⟨hk.1.1, hk.1.2.1⟩)⟩, ⟨by (with_reducible repeat (first | apply Kd.R_alloc | apply Kd.R_drewN | apply Kd.R_drew)); exact Kd.R_mono (Kd.R_far (p := ⟨a2, 0, none⟩) (Kd.R_types B.out m.out (by decide)) (fun _ hk => hk.2) (.slice b6 A.length b7)) (fun _ hk => ⟨hk.1.1, ⟨hk.1.2.1, hk.1.2.2.2⟩⟩)⟩, ⟨by (with_reducible repeat (first | apply Kd.R_alloc | apply Kd.R_drewN | apply Kd.R_drew)); exact Kd.R_mono (Kd.R_far (p := ⟨a2, 0, none⟩) (Kd.R_types E.out m.out (by decide)) (fun _ hk => hk.2) (.slice b6 A.length b7)) (fun _ hk => ⟨hk.1.1, ⟨hk.1.2.1, hk.1.2.2.2⟩⟩)⟩, ⟨by (with_reducible repeat (first | apply Kd.R_alloc | apply Kd.R_drewN | apply Kd.R_drew)); exact Kd.R_mono (Kd.R_far (p := ⟨a2, 0, none⟩) (Kd.R_types a0.out m.out (by decide)) (fun _ hk => hk.2) (.slice b6 A.length b7)) (fun _ hk => ⟨hk.1.2.1, hk.1.2.2.1⟩)⟩, ⟨qf_ q⟩, ⟨qf_ s⟩, ⟨qf_ u⟩, ⟨qp_ m⟩, ⟨qB_⟩⟩
     have o6 : (((rd_T60 l a).f0) == 1) = false := beq_eq_false_iff_ne.mpr k9
     have o7 : (((rd_T60 l a).f0) != 1) = true := bne_iff_ne.mpr k9
     refine jb_ H ?_ ?_ <;> clear H <;> intro i9 H
     ·have m9 : (((rd_T60 l a).f0) == 4) = false := beq_eq_false_iff_ne.mpr i9
      have n0 : (((rd_T60 l a).f0) != 4) = true := bne_iff_ne.mpr i9
      have H' := am_ H; clear H
      obtain ⟨e0, e1, J1⟩ := Kd.R_slice x.out
      subst J1
      try go_wp2
      replace v := rd_ v; replace D := rd_ D; replace z := rd_ z; replace B := rd_ B; replace E := rd_ E; replace x := rd_ x; replace q := bd_ q; replace s := bd_ s; replace u := bd_ u; replace m := bd_ m; replace HB := hd_ HB
      have g2 := dt_ a
      have g3 := du_ a l.length
      obtain ⟨d, g4, n3, n4, n5, n6⟩ := at_T60 (Kd.R_reads' v.out).2.2 a (ot_ g2) (ot_ g3)
      cases g4
      refine start_ (n := 12) (S := fun w' => w'.cell? ⟨a2, 0, none⟩ = some (.slice e0 O.length e1) ∧ w'.cell? (d.add ((a).toNat * 4)) = some (.int .i64 ((rd_T60 l a).f0)) ∧ w'.cell? ⟨(d.add ((a).toNat * 4)).block, (d.add ((a).toNat * 4)).off + 1, none⟩ = some (.string ((rd_T60 l a).f1)) ∧ w'.cell? ⟨(d.add ((a).toNat * 4)).block, (d.add ((a).toNat * 4)).off + 2, none⟩ = some (.string ((rd_T60 l a).f2)) ∧ w'.cell? ⟨(d.add ((a).toNat * 4)).block, (d.add ((a).toNat * 4)).off + 3, none⟩ = some (.string ((rd_T60 l a).f3))) (ds := []) (bm 12 0) (by kernel_rfl) rfl (by kernel_rfl) ⟨bl_ m 0, n3, n4, n5, n6⟩ (fun hHeld => ?_); refine with_tabW laws_FnActs.tab12 laws_FnActs.bits12 (fun HT_ HW_ => ?_)
      generalize wr.drew = D0 at v D z B E x q s u m HB n3 n4 n5 n6 hHeld ⊢
      refine pz_ 1 61 12 2 ?_; refine pz_ 2 62 12 6 ?_; refine pz_ 3 63 12 14 ?_; refine tz5_ 0 60 12 15 ?_; refine tz5_ 4 64 12 31 ?_
      refine join_ (σ := Value × Nat) 2 #[true, true, true, true, true, true, true, true, true, true, false, false] (fun s_ => [(65, .tuple #[.agg #[s_.1], .bool true]), (13, .pointer (some ⟨s_.2, 0, none⟩)), (59, .tuple #[.agg #[s_.1], .bool true]), (66, .agg #[s_.1]), (67, .bool true)]) (fun s_ w' => (w'.cell? ⟨a2, 0, none⟩ = some (.slice e0 O.length e1) ∧ w'.cell? (d.add ((a).toNat * 4)) = some (.int .i64 ((rd_T60 l a).f0)) ∧ w'.cell? ⟨(d.add ((a).toNat * 4)).block, (d.add ((a).toNat * 4)).off + 1, none⟩ = some (.string ((rd_T60 l a).f1)) ∧ w'.cell? ⟨(d.add ((a).toNat * 4)).block, (d.add ((a).toNat * 4)).off + 2, none⟩ = some (.string ((rd_T60 l a).f2)) ∧ w'.cell? ⟨(d.add ((a).toNat * 4)).block, (d.add ((a).toNat * 4)).off + 3, none⟩ = some (.string ((rd_T60 l a).f3))) ∧ (Kd.R k99 99 w' w.heap.size (fun k_ => some k_ ≠ (.slice Z F.length U : Value).ownBlock ∧ some k_ ≠ (.slice Y L.length X : Value).ownBlock ∧ some k_ ≠ (.slice V M.length T : Value).ownBlock ∧ some k_ ≠ (.slice e0 O.length e1 : Value).ownBlock) s_.1 A) ∧ (Kd.R k60 60 w' w.heap.size (fun _ => True) (.slice (some d) l.length e5) l) ∧ (Kd.R k99 99 w' w.heap.size (fun k_ => some k_ ≠ (s_.1 : Value).ownBlock ∧ some k_ ≠ (.slice Y L.length X : Value).ownBlock ∧ some k_ ≠ (.slice V M.length T : Value).ownBlock) (.slice Z F.length U) F) ∧ (Kd.R k99 99 w' w.heap.size (fun k_ => some k_ ≠ (s_.1 : Value).ownBlock ∧ some k_ ≠ (.slice Z F.length U : Value).ownBlock ∧ some k_ ≠ (.slice V M.length T : Value).ownBlock ∧ some k_ ≠ (.slice e0 O.length e1 : Value).ownBlock) (.slice Y L.length X) L) ∧ (Kd.R k99 99 w' w.heap.size (fun k_ => some k_ ≠ (s_.1 : Value).ownBlock ∧ some k_ ≠ (.slice Z F.length U : Value).ownBlock ∧ some k_ ≠ (.slice Y L.length X : Value).ownBlock ∧ some k_ ≠ (.slice e0 O.length e1 : Value).ownBlock) (.slice V M.length T) M) ∧ (Kd.R k99 99 w' w.heap.size (fun k_ => some k_ ≠ (s_.1 : Value).ownBlock ∧ some k_ ≠ (.slice Y L.length X : Value).ownBlock ∧ some k_ ≠ (.slice V M.length T : Value).ownBlock) (.slice e0 O.length e1) O) ∧ (Kd.R (Kd.int .i64) 3 w' w.heap.size (fun _ => True) k8 d1) ∧ (w'.heap[c5]? = some (.cells #[.slice Z F.length U] 44 (0, 0))) ∧ (w'.heap[c3]? = some (.cells #[.slice Y L.length X] 44 (0, 0))) ∧ (w'.heap[b5]? = some (.cells #[.slice V M.length T] 44 (0, 0))) ∧ (w'.heap[a2]? = some (.cells #[.slice e0 O.length e1] 44 (0, 0))) ∧ (w'.heap[s_.2]? = some (.cells #[.slice none 0 0] 44 (0, 0))) ∧ (w.heap.size ≤ s_.2) ∧ (w.heap.size ≤ s_.2) ∧ (c5 ≠ s_.2) ∧ (s_.2 ≠ c5) ∧ (c3 ≠ s_.2) ∧ (s_.2 ≠ c3) ∧ (b5 ≠ s_.2) ∧ (s_.2 ≠ b5) ∧ (a2 ≠ s_.2) ∧ (s_.2 ≠ a2) ∧ (Below w.heap.size w w')) ?_ ?_
      rotate_left
      ·intro hCont
       refine two_ (i := 5) (j := 9) (Ni := some 65) (Nj := some 13) (bm 12 63) #[true, true, true, true, true, false, false, false, false, true, false, false] rfl rfl rfl rfl (two_of HT_.out (by kernel_rfl)) (by decide) (by decide) (fun K hK => ?_) (fun K hK => ?_)
       ·skip
        refine gs_ Try.func40 #[.agg #[.slice e0 O.length e1], .agg #[.int .i64 ((rd_T60 l a).f0), .string ((rd_T60 l a).f1), .string ((rd_T60 l a).f2), .string ((rd_T60 l a).f3)]] ?_
        with_reducible refine (impl_DoAct.calls d7 _ _ O ((rd_T60 l a).f0) ((rd_T60 l a).f1) ((rd_T60 l a).f2) ((rd_T60 l a).f3) A true _ ?side1 ?side2 k2.out).mono ?_
        (case side1 => exact qD_ (Kd.R_reads' x.out).2.2)
        (case side2 => exact (Kd.R_reads' x.out).2.1)
        rintro e q9 ⟨c9, rfl, ho0, hb⟩
        have HS1_ := (hb.cell (World.block_lt_of_cell? _ _ (hHeld.2.1))).trans (hHeld.2.1)
        have HS2_ := (hb.cell (World.block_lt_of_cell? _ _ (hHeld.2.2.1))).trans (hHeld.2.2.1)
        have HS3_ := (hb.cell (World.block_lt_of_cell? _ _ (hHeld.2.2.2.1))).trans (hHeld.2.2.2.1)
        have HS4_ := (hb.cell (World.block_lt_of_cell? _ _ (hHeld.2.2.2.2))).trans (hHeld.2.2.2.2)
        refine ⟨_, rfl, ?_⟩
        have a0 := am_ (Kd.R_lower (Kd.R_new' (Kd.R_new' (Kd.R_new' (Kd.R_new' ho0 (Kd.R_lt (qR_ z))) (Kd.R_lt (qR_ B))) (Kd.R_lt (qR_ E))) (Kd.R_lt (qR_ x))) (below_size qB_)); replace v := kb_ v hb; replace D := kb_ D hb; replace z := ke_ z ho0 hb; replace B := ke_ B ho0 hb; replace E := ke_ E ho0 hb; replace x := ke_ x ho0 hb; replace q := qbl_ q hb; replace s := qbl_ s hb; replace u := qbl_ u hb; replace m := qbl_ m hb; replace HB := hs_ hb; clear hb ho0
        refine hK.out _ _ ⟨bl_ m 0, HS1_, HS2_, HS3_, HS4_⟩ (fun hHeld => ?_)
        clear hK K
        refine nm_ 65 ?_
        refine pz_ 6 59 12 127 ?_; refine pz_ 7 66 12 255 ?_; refine pz_ 8 67 12 511 ?_
        refine o1_ 9 (some 13) 12 1023 (fun K hK => ?_)
        refine box_step ?hg (N := 13) ?hd (cs := #[.slice none 0 0]) (t := 44) ?hr ?_; (case hd => rfl); (case hg => rfl); (case hr => first | (go_simp; done) | (go_simp; rfl))
        intro y hg r0 hbox hb
        have HS1_ := (hb.cell (World.block_lt_of_cell? _ _ (hHeld.2.1))).trans (hHeld.2.1)
        have HS2_ := (hb.cell (World.block_lt_of_cell? _ _ (hHeld.2.2.1))).trans (hHeld.2.2.1)
        have HS3_ := (hb.cell (World.block_lt_of_cell? _ _ (hHeld.2.2.2.1))).trans (hHeld.2.2.2.1)
        have HS4_ := (hb.cell (World.block_lt_of_cell? _ _ (hHeld.2.2.2.2))).trans (hHeld.2.2.2.2)
        have J := am_ (hbox); have j8 := gw_ hg; have j9 := gw_ hg; have g5 := (qn_ q hg).1; have e6 := (qn_ q hg).2; have g6 := (qn_ s hg).1; have e7 := (qn_ s hg).2; have g7 := (qn_ u hg).1; have e8 := (qn_ u hg).2; have e9 := (qn_ m hg).1; have f4 := (qn_ m hg).2; replace v := kb_ v hb; replace D := kb_ D hb; replace z := kb_ z hb; replace B := kb_ B hb; replace E := kb_ E hb; replace x := kb_ x hb; replace a0 := kb_ a0 hb; replace q := qbl_ q hb; replace s := qbl_ s hb; replace u := qbl_ u hb; replace m := qbl_ m hb; replace HB := hs_ hb; clear hb hbox hg
        refine hK.out _ _ ⟨bl_ m 0, HS1_, HS2_, HS3_, HS4_⟩ (fun hHeld => ?_)
        clear hK K
        refine nm_ 13 ?_
        exact norm_ (by simp only [putAll, Act.put, sA_, sB_, sC_]) (hCont (c9, y) _ ⟨hHeld, (by (with_reducible repeat (first | apply Kd.R_alloc | apply Kd.R_drewN | apply Kd.R_drew)); exact Kd.R_mono a0.out (fun _ hk => ⟨hk.1.1.1.2, ⟨hk.1.1.2, ⟨hk.1.2, hk.2⟩⟩⟩)), (qR_ v), (by (with_reducible repeat (first | apply Kd.R_alloc | apply Kd.R_drewN | apply Kd.R_drew)); exact Kd.R_mono z.out (fun _ hk => ⟨hk.2, ⟨hk.1.1, hk.1.2⟩⟩)), (by (with_reducible repeat (first | apply Kd.R_alloc | apply Kd.R_drewN | apply Kd.R_drew)); exact Kd.R_mono B.out (fun _ hk => ⟨hk.2, ⟨hk.1.1, ⟨hk.1.2.1, hk.1.2.2⟩⟩⟩)), (by (with_reducible repeat (first | apply Kd.R_alloc | apply Kd.R_drewN | apply Kd.R_drew)); exact Kd.R_mono E.out (fun _ hk => ⟨hk.2, ⟨hk.1.1, ⟨hk.1.2.1, hk.1.2.2⟩⟩⟩)), (by (with_reducible repeat (first | apply Kd.R_alloc | apply Kd.R_drewN | apply Kd.R_drew)); exact Kd.R_mono x.out (fun _ hk => ⟨hk.2, ⟨hk.1.1, hk.1.2⟩⟩)), (qR_ D), (qk_ q), (qk_ s), (qk_ u), (qk_ m), (qk_ J), j8.out, j9.out, g5.out, e6.out, g6.out, e7.out, g7.out, e8.out, e9.out, f4.out, qB_⟩)
       skip
       refine box_step ?hg (N := 13) ?hd (cs := #[.slice none 0 0]) (t := 44) ?hr ?_; (case hd => rfl); (case hg => rfl); (case hr => first | (go_simp; done) | (go_simp; rfl))
       intro y hg q9 hbox hb
       have HS1_ := (hb.cell (World.block_lt_of_cell? _ _ (hHeld.2.1))).trans (hHeld.2.1)
       have HS2_ := (hb.cell (World.block_lt_of_cell? _ _ (hHeld.2.2.1))).trans (hHeld.2.2.1)
       have HS3_ := (hb.cell (World.block_lt_of_cell? _ _ (hHeld.2.2.2.1))).trans (hHeld.2.2.2.1)
       have HS4_ := (hb.cell (World.block_lt_of_cell? _ _ (hHeld.2.2.2.2))).trans (hHeld.2.2.2.2)
       have J := am_ (hbox); have j8 := gw_ hg; have j9 := gw_ hg; have g5 := (qn_ q hg).1; have e6 := (qn_ q hg).2; have g6 := (qn_ s hg).1; have e7 := (qn_ s hg).2; have g7 := (qn_ u hg).1; have e8 := (qn_ u hg).2; have e9 := (qn_ m hg).1; have f4 := (qn_ m hg).2; replace v := kb_ v hb; replace D := kb_ D hb; replace z := kb_ z hb; replace B := kb_ B hb; replace E := kb_ E hb; replace x := kb_ x hb; replace q := qbl_ q hb; replace s := qbl_ s hb; replace u := qbl_ u hb; replace m := qbl_ m hb; replace HB := hs_ hb; clear hb hbox hg
       refine hK.out _ _ ⟨bl_ m 0, HS1_, HS2_, HS3_, HS4_⟩ (fun hHeld => ?_)
       clear hK K
       refine nm_ 13 ?_
       refine o1_ 5 (some 65) 12 575 (fun K hK => ?_)
       refine gs_ Try.func40 #[.agg #[.slice e0 O.length e1], .agg #[.int .i64 ((rd_T60 l a).f0), .string ((rd_T60 l a).f1), .string ((rd_T60 l a).f2), .string ((rd_T60 l a).f3)]] ?_
       with_reducible refine (impl_DoAct.calls d7 _ _ O ((rd_T60 l a).f0) ((rd_T60 l a).f1) ((rd_T60 l a).f2) ((rd_T60 l a).f3) A true _ ?side1 ?side2 k2.out).mono ?_
       (case side1 => exact qD_ (Kd.R_reads' x.out).2.2)
       (case side2 => exact (Kd.R_reads' x.out).2.1)
       rintro e r0 ⟨c9, rfl, ho0, hb⟩
       have HS1_ := (hb.cell (World.block_lt_of_cell? _ _ (hHeld.2.1))).trans (hHeld.2.1)
       have HS2_ := (hb.cell (World.block_lt_of_cell? _ _ (hHeld.2.2.1))).trans (hHeld.2.2.1)
       have HS3_ := (hb.cell (World.block_lt_of_cell? _ _ (hHeld.2.2.2.1))).trans (hHeld.2.2.2.1)
       have HS4_ := (hb.cell (World.block_lt_of_cell? _ _ (hHeld.2.2.2.2))).trans (hHeld.2.2.2.2)
       refine ⟨_, rfl, ?_⟩
       have a0 := am_ (Kd.R_lower (Kd.R_new' (Kd.R_new' (Kd.R_new' (Kd.R_new' ho0 (Kd.R_lt (qR_ z))) (Kd.R_lt (qR_ B))) (Kd.R_lt (qR_ E))) (Kd.R_lt (qR_ x))) (below_size qB_)); replace v := kb_ v hb; replace D := kb_ D hb; replace z := ke_ z ho0 hb; replace B := ke_ B ho0 hb; replace E := ke_ E ho0 hb; replace x := ke_ x ho0 hb; replace q := qbl_ q hb; replace s := qbl_ s hb; replace u := qbl_ u hb; replace m := qbl_ m hb; replace J := qbl_ J hb; replace HB := hs_ hb; clear hb ho0
       refine hK.out _ _ ⟨bl_ m 0, HS1_, HS2_, HS3_, HS4_⟩ (fun hHeld => ?_)
       clear hK K
       refine nm_ 65 ?_
       refine pz_ 6 59 12 639 ?_; refine pz_ 7 66 12 767 ?_; refine pz_ 8 67 12 1023 ?_
       exact norm_ (by simp only [putAll, Act.put, sA_, sB_, sC_]) (hCont (c9, y) _ ⟨hHeld, (by (with_reducible repeat (first | apply Kd.R_alloc | apply Kd.R_drewN | apply Kd.R_drew)); exact Kd.R_mono a0.out (fun _ hk => ⟨hk.1.1.1.2, ⟨hk.1.1.2, ⟨hk.1.2, hk.2⟩⟩⟩)), (qR_ v), (by (with_reducible repeat (first | apply Kd.R_alloc | apply Kd.R_drewN | apply Kd.R_drew)); exact Kd.R_mono z.out (fun _ hk => ⟨hk.2, ⟨hk.1.1, hk.1.2⟩⟩)), (by (with_reducible repeat (first | apply Kd.R_alloc | apply Kd.R_drewN | apply Kd.R_drew)); exact Kd.R_mono B.out (fun _ hk => ⟨hk.2, ⟨hk.1.1, ⟨hk.1.2.1, hk.1.2.2⟩⟩⟩)), (by (with_reducible repeat (first | apply Kd.R_alloc | apply Kd.R_drewN | apply Kd.R_drew)); exact Kd.R_mono E.out (fun _ hk => ⟨hk.2, ⟨hk.1.1, ⟨hk.1.2.1, hk.1.2.2⟩⟩⟩)), (by (with_reducible repeat (first | apply Kd.R_alloc | apply Kd.R_drewN | apply Kd.R_drew)); exact Kd.R_mono x.out (fun _ hk => ⟨hk.2, ⟨hk.1.1, hk.1.2⟩⟩)), (qR_ D), (qk_ q), (qk_ s), (qk_ u), (qk_ m), (qk_ J), j8.out, j9.out, g5.out, e6.out, g6.out, e7.out, g7.out, e8.out, e9.out, f4.out, qB_⟩)
      rintro ⟨c9, y⟩ G ⟨hS_, g8, g9, h0, h1, h2, h3, h4, h5, h6, h7, h10_, h11_, h12_, h13_, h14_, h15_, h16_, h17_, h18_, h19_, h20_, h21_, h22_⟩
      have a5 : Aside0 (Kd.R k99 99 G w.heap.size (fun k_ => some k_ ≠ (.slice Z F.length U : Value).ownBlock ∧ some k_ ≠ (.slice Y L.length X : Value).ownBlock ∧ some k_ ≠ (.slice V M.length T : Value).ownBlock ∧ some k_ ≠ (.slice e0 O.length e1 : Value).ownBlock) c9 A) := ⟨g8⟩
      have a6 : Aside0 (Kd.R k60 60 G w.heap.size (fun _ => True) (.slice (some d) l.length e5) l) := ⟨g9⟩
      have a7 : Aside0 (Kd.R k99 99 G w.heap.size (fun k_ => some k_ ≠ (c9 : Value).ownBlock ∧ some k_ ≠ (.slice Y L.length X : Value).ownBlock ∧ some k_ ≠ (.slice V M.length T : Value).ownBlock) (.slice Z F.length U) F) := ⟨h0⟩
      have a8 : Aside0 (Kd.R k99 99 G w.heap.size (fun k_ => some k_ ≠ (c9 : Value).ownBlock ∧ some k_ ≠ (.slice Z F.length U : Value).ownBlock ∧ some k_ ≠ (.slice V M.length T : Value).ownBlock ∧ some k_ ≠ (.slice e0 O.length e1 : Value).ownBlock) (.slice Y L.length X) L) := ⟨h1⟩
      have a9 : Aside0 (Kd.R k99 99 G w.heap.size (fun k_ => some k_ ≠ (c9 : Value).ownBlock ∧ some k_ ≠ (.slice Z F.length U : Value).ownBlock ∧ some k_ ≠ (.slice Y L.length X : Value).ownBlock ∧ some k_ ≠ (.slice e0 O.length e1 : Value).ownBlock) (.slice V M.length T) M) := ⟨h2⟩
      have b0 : Aside0 (Kd.R k99 99 G w.heap.size (fun k_ => some k_ ≠ (c9 : Value).ownBlock ∧ some k_ ≠ (.slice Y L.length X : Value).ownBlock ∧ some k_ ≠ (.slice V M.length T : Value).ownBlock) (.slice e0 O.length e1) O) := ⟨h3⟩
      have b1 : Aside0 (Kd.R (Kd.int .i64) 3 G w.heap.size (fun _ => True) k8 d1) := ⟨h4⟩
      have b2 : Aside0 (G.heap[c5]? = some (.cells #[.slice Z F.length U] 44 (0, 0))) := ⟨h5⟩
      have b3 : Aside0 (G.heap[c3]? = some (.cells #[.slice Y L.length X] 44 (0, 0))) := ⟨h6⟩
      have b4 : Aside0 (G.heap[b5]? = some (.cells #[.slice V M.length T] 44 (0, 0))) := ⟨h7⟩
      have n10_ : Aside0 (G.heap[a2]? = some (.cells #[.slice e0 O.length e1] 44 (0, 0))) := ⟨h10_⟩
      have n11_ : Aside0 (G.heap[y]? = some (.cells #[.slice none 0 0] 44 (0, 0))) := ⟨h11_⟩
      have n12_ : Aside0 (w.heap.size ≤ y) := ⟨h12_⟩
      have n13_ : Aside0 (w.heap.size ≤ y) := ⟨h13_⟩
      have n14_ : Aside0 (c5 ≠ y) := ⟨h14_⟩
      have n15_ : Aside0 (y ≠ c5) := ⟨h15_⟩
      have n16_ : Aside0 (c3 ≠ y) := ⟨h16_⟩
      have n17_ : Aside0 (y ≠ c3) := ⟨h17_⟩
      have n18_ : Aside0 (b5 ≠ y) := ⟨h18_⟩
      have n19_ : Aside0 (y ≠ b5) := ⟨h19_⟩
      have n20_ : Aside0 (a2 ≠ y) := ⟨h20_⟩
      have n21_ : Aside0 (y ≠ a2) := ⟨h21_⟩
      have n22_ : Aside0 (Below w.heap.size w G) := ⟨h22_⟩
      clear v D z B E x q s u m HB g8 g9 h0 h1 h2 h3 h4 h5 h6 h7 h10_ h11_ h12_ h13_ h14_ h15_ h16_ h17_ h18_ h19_ h20_ h21_ h22_; have a0 := a5; have v := a6; have z := a7; have B := a8; have E := a9; have x := b0; have D := b1; have q := b2; have s := b3; have u := b4; have m := n10_; have J := n11_; have j8 := n12_; have j9 := n13_; have g5 := n14_; have e6 := n15_; have g6 := n16_; have e7 := n17_; have g7 := n18_; have e8 := n19_; have e9 := n20_; have f4 := n21_; have HB := n22_; clear a5 a6 a7 a8 a9 b0 b1 b2 b3 b4 n10_ n11_ n12_ n13_ n14_ n15_ n16_ n17_ n18_ n19_ n20_ n21_ n22_
      have hHeld : G.cell? ⟨a2, 0, none⟩ = some (.slice e0 O.length e1) ∧ G.cell? (d.add ((a).toNat * 4)) = some (.int .i64 ((rd_T60 l a).f0)) ∧ G.cell? ⟨(d.add ((a).toNat * 4)).block, (d.add ((a).toNat * 4)).off + 1, none⟩ = some (.string ((rd_T60 l a).f1)) ∧ G.cell? ⟨(d.add ((a).toNat * 4)).block, (d.add ((a).toNat * 4)).off + 2, none⟩ = some (.string ((rd_T60 l a).f2)) ∧ G.cell? ⟨(d.add ((a).toNat * 4)).block, (d.add ((a).toNat * 4)).off + 3, none⟩ = some (.string ((rd_T60 l a).f3)) := hS_
      obtain ⟨b8, b9, D1⟩ := Kd.R_slice a0.out
      (first | subst D1 | (injection D1 with h8 l4 h9; have l5 := h8.symm; have l6 := h9.symm; clear h8 l4 h9; subst l5; subst l6))
      refine norm_ (a' := ?_) ?_ ?_
      rotate_left
      ·simp only [putAll, Act.put, sA_, sB_, sC_]
       rfl
      refine o1_ 10 none 12 2047 (fun K hK => ?_)
      have x9 : G.cell? ⟨y, 0, none⟩ = some (.slice none 0 0) := bl_ J 0
      have s0 := blk_frozen J.out 0
      have X6 := g5.out; have X7 := g6.out; have X8 := g7.out; have X9 := e9.out; have Y0 := e6.out; have Y1 := e7.out; have Y2 := e8.out; have Y3 := f4.out
      refine skip_ (w1 := ?_) (by rfl) rfl ?_ ?_
      rotate_left
      ·go_simp
       rfl
      have nb_ := Kd.own_blk (Kd.R_ne v.out J.out (by decide))
      refine hK.out _ _ ⟨((cell_far (p := ⟨y, _, none⟩) e9.out _).trans (hHeld.1)), ((cell_far (p := ⟨y, _, none⟩) (nx_ nb_) _).trans (hHeld.2.1)), ((cell_far (p := ⟨y, _, none⟩) (nx_ nb_) _).trans (hHeld.2.2.1)), ((cell_far (p := ⟨y, _, none⟩) (nx_ nb_) _).trans (hHeld.2.2.2.1)), ((cell_far (p := ⟨y, _, none⟩) (nx_ nb_) _).trans (hHeld.2.2.2.2))⟩ (fun hHeld => ?_)
      clear hK K; refine pz_ 11 14 12 4095 ?_
      refine done_ (done_of HT_.out (by kernel_rfl)) ?_
      try go_wp2
      have a5 : Aside0 (Kd.R k60 60 (G.setCell ⟨y, 0, none⟩ (.slice b8 A.length b9)) w.heap.size (fun _ => True) (.slice (some d) l.length e5) l) := ⟨by (with_reducible repeat (first | apply Kd.R_alloc | apply Kd.R_drewN | apply Kd.R_drew)); exact Kd.R_mono (Kd.R_far (p := ⟨y, 0, none⟩) (Kd.R_types v.out J.out (by decide)) (fun _ hk => hk.2) (.slice b8 A.length b9)) (fun _ hk => trivial)⟩
      have a6 : Aside0 (Kd.R (Kd.int .i64) 3 (G.setCell ⟨y, 0, none⟩ (.slice b8 A.length b9)) w.heap.size (fun _ => True) k8 d1) := ⟨by (with_reducible repeat (first | apply Kd.R_alloc | apply Kd.R_drewN | apply Kd.R_drew)); exact Kd.R_mono (Kd.R_far (p := ⟨y, 0, none⟩) (Kd.R_types D.out J.out (by decide)) (fun _ hk => hk.2) (.slice b8 A.length b9)) (fun _ hk => trivial)⟩
      have a7 : Aside0 (Kd.R k99 99 (G.setCell ⟨y, 0, none⟩ (.slice b8 A.length b9)) w.heap.size (fun k_ => some k_ ≠ (.slice Y L.length X : Value).ownBlock ∧ some k_ ≠ (.slice V M.length T : Value).ownBlock ∧ some k_ ≠ (.slice b8 A.length b9 : Value).ownBlock) (.slice Z F.length U) F) := ⟨by (with_reducible repeat (first | apply Kd.R_alloc | apply Kd.R_drewN | apply Kd.R_drew)); exact Kd.R_mono (Kd.R_far (p := ⟨y, 0, none⟩) (Kd.R_types z.out J.out (by decide)) (fun _ hk => hk.2) (.slice b8 A.length b9)) (fun _ hk => ⟨hk.1.2.1, ⟨hk.1.2.2, hk.1.1⟩⟩)⟩
      have a8 : Aside0 (Kd.R k99 99 (G.setCell ⟨y, 0, none⟩ (.slice b8 A.length b9)) w.heap.size (fun k_ => some k_ ≠ (.slice Z F.length U : Value).ownBlock ∧ some k_ ≠ (.slice V M.length T : Value).ownBlock ∧ some k_ ≠ (.slice e0 O.length e1 : Value).ownBlock ∧ some k_ ≠ (.slice b8 A.length b9 : Value).ownBlock) (.slice Y L.length X) L) := ⟨by (with_reducible repeat (first | apply Kd.R_alloc | apply Kd.R_drewN | apply Kd.R_drew)); exact Kd.R_mono (Kd.R_far (p := ⟨y, 0, none⟩) (Kd.R_types B.out J.out (by decide)) (fun _ hk => hk.2) (.slice b8 A.length b9)) (fun _ hk => ⟨hk.1.2.1, ⟨hk.1.2.2.1, ⟨hk.1.2.2.2, hk.1.1⟩⟩⟩)⟩
      have a9 : Aside0 (Kd.R k99 99 (G.setCell ⟨y, 0, none⟩ (.slice b8 A.length b9)) w.heap.size (fun k_ => some k_ ≠ (.slice Z F.length U : Value).ownBlock ∧ some k_ ≠ (.slice Y L.length X : Value).ownBlock ∧ some k_ ≠ (.slice e0 O.length e1 : Value).ownBlock ∧ some k_ ≠ (.slice b8 A.length b9 : Value).ownBlock) (.slice V M.length T) M) := ⟨by (with_reducible repeat (first | apply Kd.R_alloc | apply Kd.R_drewN | apply Kd.R_drew)); exact Kd.R_mono (Kd.R_far (p := ⟨y, 0, none⟩) (Kd.R_types E.out J.out (by decide)) (fun _ hk => hk.2) (.slice b8 A.length b9)) (fun _ hk => ⟨hk.1.2.1, ⟨hk.1.2.2.1, ⟨hk.1.2.2.2, hk.1.1⟩⟩⟩)⟩
      have b0 : Aside0 (Kd.R k99 99 (G.setCell ⟨y, 0, none⟩ (.slice b8 A.length b9)) w.heap.size (fun k_ => some k_ ≠ (.slice Y L.length X : Value).ownBlock ∧ some k_ ≠ (.slice V M.length T : Value).ownBlock ∧ some k_ ≠ (.slice b8 A.length b9 : Value).ownBlock) (.slice e0 O.length e1) O) := ⟨by (with_reducible repeat (first | apply Kd.R_alloc | apply Kd.R_drewN | apply Kd.R_drew)); exact Kd.R_mono (Kd.R_far (p := ⟨y, 0, none⟩) (Kd.R_types x.out J.out (by decide)) (fun _ hk => hk.2) (.slice b8 A.length b9)) (fun _ hk => ⟨hk.1.2.1, ⟨hk.1.2.2, hk.1.1⟩⟩)⟩
      have b1 : Aside0 (Kd.R k99 99 (G.setCell ⟨y, 0, none⟩ (.slice b8 A.length b9)) w.heap.size (fun k_ => some k_ ≠ (.slice Z F.length U : Value).ownBlock ∧ some k_ ≠ (.slice Y L.length X : Value).ownBlock ∧ some k_ ≠ (.slice V M.length T : Value).ownBlock ∧ some k_ ≠ (.slice e0 O.length e1 : Value).ownBlock) (.slice b8 A.length b9) A) := ⟨by (with_reducible repeat (first | apply Kd.R_alloc | apply Kd.R_drewN | apply Kd.R_drew)); exact Kd.R_mono (Kd.R_far (p := ⟨y, 0, none⟩) (Kd.R_types a0.out J.out (by decide)) (fun _ hk => hk.2) (.slice b8 A.length b9)) (fun _ hk => ⟨hk.1.1, ⟨hk.1.2.1, ⟨hk.1.2.2.1, hk.1.2.2.2⟩⟩⟩)⟩
      have b2 : Aside0 ((G.setCell ⟨y, 0, none⟩ (.slice b8 A.length b9)).heap[c5]? = some (.cells #[.slice Z F.length U] 44 (0, 0))) := ⟨qf_ q⟩
      have b3 : Aside0 ((G.setCell ⟨y, 0, none⟩ (.slice b8 A.length b9)).heap[c3]? = some (.cells #[.slice Y L.length X] 44 (0, 0))) := ⟨qf_ s⟩
      have b4 : Aside0 ((G.setCell ⟨y, 0, none⟩ (.slice b8 A.length b9)).heap[b5]? = some (.cells #[.slice V M.length T] 44 (0, 0))) := ⟨qf_ u⟩
      have n10_ : Aside0 ((G.setCell ⟨y, 0, none⟩ (.slice b8 A.length b9)).heap[a2]? = some (.cells #[.slice e0 O.length e1] 44 (0, 0))) := ⟨qf_ m⟩
      have n11_ : Aside0 ((G.setCell ⟨y, 0, none⟩ (.slice b8 A.length b9)).heap[y]? = some (.cells #[.slice b8 A.length b9] 44 (0, 0))) := ⟨qp_ J⟩
      have n12_ : Aside0 (Below w.heap.size w (G.setCell ⟨y, 0, none⟩ (.slice b8 A.length b9))) := ⟨qB_⟩
      clear v D z B E x a0 q s u m J HB
      generalize (G.setCell ⟨y, 0, none⟩ (.slice b8 A.length b9)) = r1 at a5 a6 a7 a8 a9 b0 b1 b2 b3 b4 n10_ n11_ n12_ ⊢
      have v := a5; have D := a6; have z := a7; have B := a8; have E := a9; have x := b0; have a0 := b1; have q := b2; have s := b3; have u := b4; have m := n10_; have J := n11_; have HB := n12_; clear a5 a6 a7 a8 a9 b0 b1 b2 b3 b4 n10_ n11_ n12_
      replace v := rd_ v; replace D := rd_ D; replace z := rd_ z; replace B := rd_ B; replace E := rd_ E; replace x := rd_ x; replace a0 := rd_ a0; replace q := bd_ q; replace s := bd_ s; replace u := bd_ u; replace m := bd_ m; replace J := bd_ J; replace HB := hd_ HB
      have i0 := dt_ a
      have i1 := du_ a l.length
      obtain ⟨d4, i2, n7, n8, n9, o0⟩ := at_T60 (Kd.R_reads' v.out).2.2 a (ot_ i0) (ot_ i1)
      obtain rfl : d = d4 := (by injection i2)
      refine start_ (n := 12) (S := fun w' => w'.cell? ⟨a2, 0, none⟩ = some (.slice e0 O.length e1) ∧ w'.cell? (d.add ((a).toNat * 4)) = some (.int .i64 ((rd_T60 l a).f0)) ∧ w'.cell? ⟨(d.add ((a).toNat * 4)).block, (d.add ((a).toNat * 4)).off + 1, none⟩ = some (.string ((rd_T60 l a).f1)) ∧ w'.cell? ⟨(d.add ((a).toNat * 4)).block, (d.add ((a).toNat * 4)).off + 2, none⟩ = some (.string ((rd_T60 l a).f2)) ∧ w'.cell? ⟨(d.add ((a).toNat * 4)).block, (d.add ((a).toNat * 4)).off + 3, none⟩ = some (.string ((rd_T60 l a).f3))) (ds := []) (bm 12 0) (by kernel_rfl) rfl (by kernel_rfl) ⟨bl_ m 0, n7, n8, n9, o0⟩ (fun hHeld => ?_); refine with_tabW laws_FnActs.tab15 laws_FnActs.bits15 (fun HT_ HW_ => ?_)
      generalize r1.drew = D2 at v D z B E x a0 q s u m J HB n7 n8 n9 o0 hHeld ⊢
      refine pz_ 1 72 12 2 ?_; refine pz_ 2 73 12 6 ?_; refine pz_ 3 74 12 14 ?_; refine pz_ 4 75 12 30 ?_; refine tz5_ 0 71 12 31 ?_; refine tz5_ 5 76 12 63 ?_
      refine o1_ 6 (some 77) 12 127 (fun K hK => ?_)
      refine gs_ Try.func56 #[.agg #[.slice e0 O.length e1], .string ((rd_T60 l a).f1)] ?_
      with_reducible refine (impl_FileAt.calls d7 _ _ O ((rd_T60 l a).f1) n2 x0 _ ?side1 ?side2 o3.out).mono ?_
      (case side1 => exact qD_ (Kd.R_reads' x.out).2.2)
      (case side2 => exact (Kd.R_reads' x.out).2.1)
      rintro e r2 ⟨rfl, hb⟩
      have HS1_ := (hb.cell (World.block_lt_of_cell? _ _ (hHeld.2.1))).trans (hHeld.2.1)
      have HS2_ := (hb.cell (World.block_lt_of_cell? _ _ (hHeld.2.2.1))).trans (hHeld.2.2.1)
      have HS3_ := (hb.cell (World.block_lt_of_cell? _ _ (hHeld.2.2.2.1))).trans (hHeld.2.2.2.1)
      have HS4_ := (hb.cell (World.block_lt_of_cell? _ _ (hHeld.2.2.2.2))).trans (hHeld.2.2.2.2)
      refine ⟨_, rfl, ?_⟩
      replace v := kb_ v hb; replace D := kb_ D hb; replace z := kb_ z hb; replace B := kb_ B hb; replace E := kb_ E hb; replace x := kb_ x hb; replace a0 := kb_ a0 hb; replace q := qbl_ q hb; replace s := qbl_ s hb; replace u := qbl_ u hb; replace m := qbl_ m hb; replace J := qbl_ J hb; replace HB := hs_ hb; clear hb
      refine hK.out _ _ ⟨bl_ m 0, HS1_, HS2_, HS3_, HS4_⟩ (fun hHeld => ?_)
      clear hK K
      refine nm_ 77 ?_
      refine pz_ 7 70 12 255 ?_; refine pz_ 8 78 12 511 ?_; refine pz_ 9 79 12 1023 ?_; refine pz_ 10 15 12 2047 ?_; refine pz_ 11 16 12 4095 ?_
      refine done_ (done_of HT_.out (by kernel_rfl)) ?_
      try go_wp2
      replace v := rd_ v; replace D := rd_ D; replace z := rd_ z; replace B := rd_ B; replace E := rd_ E; replace x := rd_ x; replace a0 := rd_ a0; replace q := bd_ q; replace s := bd_ s; replace u := bd_ u; replace m := bd_ m; replace J := bd_ J; replace HB := hd_ HB
      have i3 := dt_ a
      have i4 := du_ a l.length
      obtain ⟨d5, i5, j1, j2, o1, o2⟩ := at_T60 (Kd.R_reads' v.out).2.2 a (ot_ i3) (ot_ i4)
      obtain rfl : d = d5 := (by injection i5)
      refine start_ (n := 12) (S := fun w' => w'.cell? ⟨y, 0, none⟩ = some (.slice b8 A.length b9) ∧ w'.cell? (d.add ((a).toNat * 4)) = some (.int .i64 ((rd_T60 l a).f0)) ∧ w'.cell? ⟨(d.add ((a).toNat * 4)).block, (d.add ((a).toNat * 4)).off + 1, none⟩ = some (.string ((rd_T60 l a).f1)) ∧ w'.cell? ⟨(d.add ((a).toNat * 4)).block, (d.add ((a).toNat * 4)).off + 2, none⟩ = some (.string ((rd_T60 l a).f2)) ∧ w'.cell? ⟨(d.add ((a).toNat * 4)).block, (d.add ((a).toNat * 4)).off + 3, none⟩ = some (.string ((rd_T60 l a).f3))) (ds := []) (bm 12 0) (by kernel_rfl) rfl (by kernel_rfl) ⟨bl_ J 0, j1, j2, o1, o2⟩ (fun hHeld => ?_); refine with_tabW laws_FnActs.tab16 laws_FnActs.bits16 (fun HT_ HW_ => ?_)
      generalize r2.drew = D3 at v D z B E x a0 q s u m J HB j1 j2 o1 o2 hHeld ⊢
      refine pz_ 1 82 12 2 ?_; refine pz_ 2 83 12 6 ?_; refine pz_ 3 84 12 14 ?_; refine pz_ 4 85 12 30 ?_; refine tz5_ 0 81 12 31 ?_; refine tz5_ 5 86 12 63 ?_
      refine o1_ 6 (some 87) 12 127 (fun K hK => ?_)
      refine gs_ Try.func56 #[.agg #[.slice b8 A.length b9], .string ((rd_T60 l a).f1)] ?_
      with_reducible refine (impl_FileAt.calls d7 _ _ A ((rd_T60 l a).f1) o4 I5 _ ?side1 ?side2 o5.out).mono ?_
      (case side1 => exact qD_ (Kd.R_reads' a0.out).2.2)
      (case side2 => exact (Kd.R_reads' a0.out).2.1)
      rintro e D4 ⟨rfl, hb⟩
      have HS1_ := (hb.cell (World.block_lt_of_cell? _ _ (hHeld.2.1))).trans (hHeld.2.1)
      have HS2_ := (hb.cell (World.block_lt_of_cell? _ _ (hHeld.2.2.1))).trans (hHeld.2.2.1)
      have HS3_ := (hb.cell (World.block_lt_of_cell? _ _ (hHeld.2.2.2.1))).trans (hHeld.2.2.2.1)
      have HS4_ := (hb.cell (World.block_lt_of_cell? _ _ (hHeld.2.2.2.2))).trans (hHeld.2.2.2.2)
      refine ⟨_, rfl, ?_⟩
      replace v := kb_ v hb; replace D := kb_ D hb; replace z := kb_ z hb; replace B := kb_ B hb; replace E := kb_ E hb; replace x := kb_ x hb; replace a0 := kb_ a0 hb; replace q := qbl_ q hb; replace s := qbl_ s hb; replace u := qbl_ u hb; replace m := qbl_ m hb; replace J := qbl_ J hb; replace HB := hs_ hb; clear hb
      refine hK.out _ _ ⟨bl_ J 0, HS1_, HS2_, HS3_, HS4_⟩ (fun hHeld => ?_)
      clear hK K
      refine nm_ 87 ?_
      refine pz_ 7 80 12 255 ?_; refine pz_ 8 88 12 511 ?_; refine pz_ 9 89 12 1023 ?_; refine pz_ 10 17 12 2047 ?_; refine pz_ 11 18 12 4095 ?_
      refine done_ (done_of HT_.out (by kernel_rfl)) ?_
      have i6 := dt_ a
      have i7 := du_ a l.length
      obtain ⟨d6, i8, C6, C7, C8, C9⟩ := at_T60 (Kd.R_reads' v.out).2.2 a (ot_ i6) (ot_ i7)
      obtain rfl : d = d6 := (by injection i8)
      have l7 := dt_ a
      have l8 := du_ a l.length
      obtain ⟨j5, l9, J2, J3, J4, J5⟩ := at_T60 (Kd.R_reads' v.out).2.2 a (ot_ l7) (ot_ l8)
      obtain rfl : d = j5 := (by injection l9)
      obtain ⟨Y4, Y5⟩ := nn_ e6; obtain ⟨Y6, Y7⟩ := nn_ e7; obtain ⟨Y8, Y9⟩ := nn_ e8; obtain ⟨Z0, Z1⟩ := nn_ f4
      obtain ⟨Z2, Z3⟩ := bc1_ J
      obtain ⟨Z4, Z5⟩ := nn_ r8; obtain ⟨Z6, Z7⟩ := nn_ q1; obtain ⟨Z8, Z9⟩ := nn_ q2
      obtain ⟨aa, ab⟩ := bc1_ m
      try go_wp2
      go_roundg d7
      case measure => have := p7.out; have := HK2.out; omega
      case rel => exact ⟨(wrap64 (a + 1)), (A), (.slice b8 A.length b9), qe_, H', ⟨by have := p7.out; have := HK2.out; omega⟩, ⟨by (with_reducible repeat (first | apply Kd.R_alloc | apply Kd.R_drewN | apply Kd.R_drew)); exact Kd.R_mono (Kd.R_far (p := ⟨a2, 0, none⟩) (Kd.R_types v.out m.out (by decide)) (fun _ hk => hk.2) (.slice b8 A.length b9)) (fun _ hk => trivial)⟩, ⟨by (with_reducible repeat (first | apply Kd.R_alloc | apply Kd.R_drewN | apply Kd.R_drew)); exact Kd.R_mono (Kd.R_far (p := ⟨a2, 0, none⟩) (Kd.R_types D.out m.out (by decide)) (fun _ hk => hk.2) (.slice b8 A.length b9)) (fun _ hk => trivial)⟩, ⟨by (with_reducible repeat (first | apply Kd.R_alloc | apply Kd.R_drewN | apply Kd.R_drew)); exact Kd.R_mono (Kd.R_far (p := ⟨a2, 0, none⟩) (Kd.R_types z.out m.out (by decide)) (fun _ hk => hk.2) (.slice b8 A.length b9)) (fun _ hk => ⟨hk.1.1, hk.1.2.1⟩)⟩, ⟨by (with_reducible repeat (first | apply Kd.R_alloc | apply Kd.R_drewN | apply Kd.R_drew)); exact Kd.R_mono (Kd.R_far (p := ⟨a2, 0, none⟩) (Kd.R_types B.out m.out (by decide)) (fun _ hk => hk.2) (.slice b8 A.length b9)) (fun _ hk => ⟨hk.1.1, ⟨hk.1.2.1, hk.1.2.2.2⟩⟩)⟩, ⟨by (with_reducible repeat (first | apply Kd.R_alloc | apply Kd.R_drewN | apply Kd.R_drew)); exact Kd.R_mono (Kd.R_far (p := ⟨a2, 0, none⟩) (Kd.R_types E.out m.out (by decide)) (fun _ hk => hk.2) (.slice b8 A.length b9)) (fun _ hk => ⟨hk.1.1, ⟨hk.1.2.1, hk.1.2.2.2⟩⟩)⟩, ⟨by (with_reducible repeat (first | apply Kd.R_alloc | apply Kd.R_drewN | apply Kd.R_drew)); exact Kd.R_mono (Kd.R_far (p := ⟨a2, 0, none⟩) (Kd.R_types a0.out m.out (by decide)) (fun _ hk => hk.2) (.slice b8 A.length b9)) (fun _ hk => ⟨hk.1.2.1, hk.1.2.2.1⟩)⟩, ⟨qf_ q⟩, ⟨qf_ s⟩, ⟨qf_ u⟩, ⟨qp_ m⟩, ⟨qB_⟩⟩
     have m9 : (((rd_T60 l a).f0) == 4) = true := beq_iff_eq.mpr i9
     have n0 : (((rd_T60 l a).f0) != 4) = false := bne_eq_false_iff_eq.mpr i9
     clear i9
     refine ie_ H ?_ ?_ <;> clear H <;> rintro rfl H
     ·exact absurd (oi_ H) (by decide)
     have H' := am_ H; clear H
     obtain ⟨e2, e3, J6⟩ := Kd.R_slice x.out
     subst J6
     try go_wp2
     replace v := rd_ v; replace D := rd_ D; replace z := rd_ z; replace B := rd_ B; replace E := rd_ E; replace x := rd_ x; replace q := bd_ q; replace s := bd_ s; replace u := bd_ u; replace m := bd_ m; replace HB := hd_ HB
     have g2 := dt_ a
     have g3 := du_ a l.length
     obtain ⟨d, g4, n3, n4, n5, n6⟩ := at_T60 (Kd.R_reads' v.out).2.2 a (ot_ g2) (ot_ g3)
     cases g4
     refine start_ (n := 12) (S := fun w' => w'.cell? ⟨a2, 0, none⟩ = some (.slice e2 O.length e3) ∧ w'.cell? (d.add ((a).toNat * 4)) = some (.int .i64 ((rd_T60 l a).f0)) ∧ w'.cell? ⟨(d.add ((a).toNat * 4)).block, (d.add ((a).toNat * 4)).off + 1, none⟩ = some (.string ((rd_T60 l a).f1)) ∧ w'.cell? ⟨(d.add ((a).toNat * 4)).block, (d.add ((a).toNat * 4)).off + 2, none⟩ = some (.string ((rd_T60 l a).f2)) ∧ w'.cell? ⟨(d.add ((a).toNat * 4)).block, (d.add ((a).toNat * 4)).off + 3, none⟩ = some (.string ((rd_T60 l a).f3))) (ds := []) (bm 12 0) (by kernel_rfl) rfl (by kernel_rfl) ⟨bl_ m 0, n3, n4, n5, n6⟩ (fun hHeld => ?_); refine with_tabW laws_FnActs.tab12 laws_FnActs.bits12 (fun HT_ HW_ => ?_)
     generalize wr.drew = D5 at v D z B E x q s u m HB n3 n4 n5 n6 hHeld ⊢
     refine pz_ 1 61 12 2 ?_; refine pz_ 2 62 12 6 ?_; refine pz_ 3 63 12 14 ?_; refine tz5_ 0 60 12 15 ?_; refine tz5_ 4 64 12 31 ?_
     refine join_ (σ := Value × Nat) 2 #[true, true, true, true, true, true, true, true, true, true, false, false] (fun s_ => [(65, .tuple #[.agg #[s_.1], .bool true]), (13, .pointer (some ⟨s_.2, 0, none⟩)), (59, .tuple #[.agg #[s_.1], .bool true]), (66, .agg #[s_.1]), (67, .bool true)]) (fun s_ w' => (w'.cell? ⟨a2, 0, none⟩ = some (.slice e2 O.length e3) ∧ w'.cell? (d.add ((a).toNat * 4)) = some (.int .i64 ((rd_T60 l a).f0)) ∧ w'.cell? ⟨(d.add ((a).toNat * 4)).block, (d.add ((a).toNat * 4)).off + 1, none⟩ = some (.string ((rd_T60 l a).f1)) ∧ w'.cell? ⟨(d.add ((a).toNat * 4)).block, (d.add ((a).toNat * 4)).off + 2, none⟩ = some (.string ((rd_T60 l a).f2)) ∧ w'.cell? ⟨(d.add ((a).toNat * 4)).block, (d.add ((a).toNat * 4)).off + 3, none⟩ = some (.string ((rd_T60 l a).f3))) ∧ (Kd.R k99 99 w' w.heap.size (fun k_ => some k_ ≠ (.slice Z F.length U : Value).ownBlock ∧ some k_ ≠ (.slice Y L.length X : Value).ownBlock ∧ some k_ ≠ (.slice V M.length T : Value).ownBlock ∧ some k_ ≠ (.slice e2 O.length e3 : Value).ownBlock) s_.1 A) ∧ (Kd.R k60 60 w' w.heap.size (fun _ => True) (.slice (some d) l.length e5) l) ∧ (Kd.R k99 99 w' w.heap.size (fun k_ => some k_ ≠ (s_.1 : Value).ownBlock ∧ some k_ ≠ (.slice Y L.length X : Value).ownBlock ∧ some k_ ≠ (.slice V M.length T : Value).ownBlock) (.slice Z F.length U) F) ∧ (Kd.R k99 99 w' w.heap.size (fun k_ => some k_ ≠ (s_.1 : Value).ownBlock ∧ some k_ ≠ (.slice Z F.length U : Value).ownBlock ∧ some k_ ≠ (.slice V M.length T : Value).ownBlock ∧ some k_ ≠ (.slice e2 O.length e3 : Value).ownBlock) (.slice Y L.length X) L) ∧ (Kd.R k99 99 w' w.heap.size (fun k_ => some k_ ≠ (s_.1 : Value).ownBlock ∧ some k_ ≠ (.slice Z F.length U : Value).ownBlock ∧ some k_ ≠ (.slice Y L.length X : Value).ownBlock ∧ some k_ ≠ (.slice e2 O.length e3 : Value).ownBlock) (.slice V M.length T) M) ∧ (Kd.R k99 99 w' w.heap.size (fun k_ => some k_ ≠ (s_.1 : Value).ownBlock ∧ some k_ ≠ (.slice Y L.length X : Value).ownBlock ∧ some k_ ≠ (.slice V M.length T : Value).ownBlock) (.slice e2 O.length e3) O) ∧ (Kd.R (Kd.int .i64) 3 w' w.heap.size (fun _ => True) k8 d1) ∧ (w'.heap[c5]? = some (.cells #[.slice Z F.length U] 44 (0, 0))) ∧ (w'.heap[c3]? = some (.cells #[.slice Y L.length X] 44 (0, 0))) ∧ (w'.heap[b5]? = some (.cells #[.slice V M.length T] 44 (0, 0))) ∧ (w'.heap[a2]? = some (.cells #[.slice e2 O.length e3] 44 (0, 0))) ∧ (w'.heap[s_.2]? = some (.cells #[.slice none 0 0] 44 (0, 0))) ∧ (w.heap.size ≤ s_.2) ∧ (w.heap.size ≤ s_.2) ∧ (c5 ≠ s_.2) ∧ (s_.2 ≠ c5) ∧ (c3 ≠ s_.2) ∧ (s_.2 ≠ c3) ∧ (b5 ≠ s_.2) ∧ (s_.2 ≠ b5) ∧ (a2 ≠ s_.2) ∧ (s_.2 ≠ a2) ∧ (Below w.heap.size w w')) ?_ ?_
     rotate_left
     ·intro hCont
      refine two_ (i := 5) (j := 9) (Ni := some 65) (Nj := some 13) (bm 12 63) #[true, true, true, true, true, false, false, false, false, true, false, false] rfl rfl rfl rfl (two_of HT_.out (by kernel_rfl)) (by decide) (by decide) (fun K hK => ?_) (fun K hK => ?_)
      ·skip
       refine gs_ Try.func40 #[.agg #[.slice e2 O.length e3], .agg #[.int .i64 ((rd_T60 l a).f0), .string ((rd_T60 l a).f1), .string ((rd_T60 l a).f2), .string ((rd_T60 l a).f3)]] ?_
       with_reducible refine (impl_DoAct.calls d7 _ _ O ((rd_T60 l a).f0) ((rd_T60 l a).f1) ((rd_T60 l a).f2) ((rd_T60 l a).f3) A true _ ?side1 ?side2 k2.out).mono ?_
       (case side1 => exact qD_ (Kd.R_reads' x.out).2.2)
       (case side2 => exact (Kd.R_reads' x.out).2.1)
       rintro e r3 ⟨c9, rfl, ho0, hb⟩
       have HS1_ := (hb.cell (World.block_lt_of_cell? _ _ (hHeld.2.1))).trans (hHeld.2.1)
       have HS2_ := (hb.cell (World.block_lt_of_cell? _ _ (hHeld.2.2.1))).trans (hHeld.2.2.1)
       have HS3_ := (hb.cell (World.block_lt_of_cell? _ _ (hHeld.2.2.2.1))).trans (hHeld.2.2.2.1)
       have HS4_ := (hb.cell (World.block_lt_of_cell? _ _ (hHeld.2.2.2.2))).trans (hHeld.2.2.2.2)
       refine ⟨_, rfl, ?_⟩
       have a0 := am_ (Kd.R_lower (Kd.R_new' (Kd.R_new' (Kd.R_new' (Kd.R_new' ho0 (Kd.R_lt (qR_ z))) (Kd.R_lt (qR_ B))) (Kd.R_lt (qR_ E))) (Kd.R_lt (qR_ x))) (below_size qB_)); replace v := kb_ v hb; replace D := kb_ D hb; replace z := ke_ z ho0 hb; replace B := ke_ B ho0 hb; replace E := ke_ E ho0 hb; replace x := ke_ x ho0 hb; replace q := qbl_ q hb; replace s := qbl_ s hb; replace u := qbl_ u hb; replace m := qbl_ m hb; replace HB := hs_ hb; clear hb ho0
       refine hK.out _ _ ⟨bl_ m 0, HS1_, HS2_, HS3_, HS4_⟩ (fun hHeld => ?_)
       clear hK K
       refine nm_ 65 ?_
       refine pz_ 6 59 12 127 ?_; refine pz_ 7 66 12 255 ?_; refine pz_ 8 67 12 511 ?_
       refine o1_ 9 (some 13) 12 1023 (fun K hK => ?_)
       refine box_step ?hg (N := 13) ?hd (cs := #[.slice none 0 0]) (t := 44) ?hr ?_; (case hd => rfl); (case hg => rfl); (case hr => first | (go_simp; done) | (go_simp; rfl))
       intro y hg r4 hbox hb
       have HS1_ := (hb.cell (World.block_lt_of_cell? _ _ (hHeld.2.1))).trans (hHeld.2.1)
       have HS2_ := (hb.cell (World.block_lt_of_cell? _ _ (hHeld.2.2.1))).trans (hHeld.2.2.1)
       have HS3_ := (hb.cell (World.block_lt_of_cell? _ _ (hHeld.2.2.2.1))).trans (hHeld.2.2.2.1)
       have HS4_ := (hb.cell (World.block_lt_of_cell? _ _ (hHeld.2.2.2.2))).trans (hHeld.2.2.2.2)
       have J := am_ (hbox); have j8 := gw_ hg; have j9 := gw_ hg; have g5 := (qn_ q hg).1; have e6 := (qn_ q hg).2; have g6 := (qn_ s hg).1; have e7 := (qn_ s hg).2; have g7 := (qn_ u hg).1; have e8 := (qn_ u hg).2; have e9 := (qn_ m hg).1; have f4 := (qn_ m hg).2; replace v := kb_ v hb; replace D := kb_ D hb; replace z := kb_ z hb; replace B := kb_ B hb; replace E := kb_ E hb; replace x := kb_ x hb; replace a0 := kb_ a0 hb; replace q := qbl_ q hb; replace s := qbl_ s hb; replace u := qbl_ u hb; replace m := qbl_ m hb; replace HB := hs_ hb; clear hb hbox hg
       refine hK.out _ _ ⟨bl_ m 0, HS1_, HS2_, HS3_, HS4_⟩ (fun hHeld => ?_)
       clear hK K
       refine nm_ 13 ?_
       exact norm_ (by simp only [putAll, Act.put, sA_, sB_, sC_]) (hCont (c9, y) _ ⟨hHeld, (by (with_reducible repeat (first | apply Kd.R_alloc | apply Kd.R_drewN | apply Kd.R_drew)); exact Kd.R_mono a0.out (fun _ hk => ⟨hk.1.1.1.2, ⟨hk.1.1.2, ⟨hk.1.2, hk.2⟩⟩⟩)), (qR_ v), (by (with_reducible repeat (first | apply Kd.R_alloc | apply Kd.R_drewN | apply Kd.R_drew)); exact Kd.R_mono z.out (fun _ hk => ⟨hk.2, ⟨hk.1.1, hk.1.2⟩⟩)), (by (with_reducible repeat (first | apply Kd.R_alloc | apply Kd.R_drewN | apply Kd.R_drew)); exact Kd.R_mono B.out (fun _ hk => ⟨hk.2, ⟨hk.1.1, ⟨hk.1.2.1, hk.1.2.2⟩⟩⟩)), (by (with_reducible repeat (first | apply Kd.R_alloc | apply Kd.R_drewN | apply Kd.R_drew)); exact Kd.R_mono E.out (fun _ hk => ⟨hk.2, ⟨hk.1.1, ⟨hk.1.2.1, hk.1.2.2⟩⟩⟩)), (by (with_reducible repeat (first | apply Kd.R_alloc | apply Kd.R_drewN | apply Kd.R_drew)); exact Kd.R_mono x.out (fun _ hk => ⟨hk.2, ⟨hk.1.1, hk.1.2⟩⟩)), (qR_ D), (qk_ q), (qk_ s), (qk_ u), (qk_ m), (qk_ J), j8.out, j9.out, g5.out, e6.out, g6.out, e7.out, g7.out, e8.out, e9.out, f4.out, qB_⟩)
      skip
      refine box_step ?hg (N := 13) ?hd (cs := #[.slice none 0 0]) (t := 44) ?hr ?_; (case hd => rfl); (case hg => rfl); (case hr => first | (go_simp; done) | (go_simp; rfl))
      intro y hg r3 hbox hb
      have HS1_ := (hb.cell (World.block_lt_of_cell? _ _ (hHeld.2.1))).trans (hHeld.2.1)
      have HS2_ := (hb.cell (World.block_lt_of_cell? _ _ (hHeld.2.2.1))).trans (hHeld.2.2.1)
      have HS3_ := (hb.cell (World.block_lt_of_cell? _ _ (hHeld.2.2.2.1))).trans (hHeld.2.2.2.1)
      have HS4_ := (hb.cell (World.block_lt_of_cell? _ _ (hHeld.2.2.2.2))).trans (hHeld.2.2.2.2)
      have J := am_ (hbox); have j8 := gw_ hg; have j9 := gw_ hg; have g5 := (qn_ q hg).1; have e6 := (qn_ q hg).2; have g6 := (qn_ s hg).1; have e7 := (qn_ s hg).2; have g7 := (qn_ u hg).1; have e8 := (qn_ u hg).2; have e9 := (qn_ m hg).1; have f4 := (qn_ m hg).2; replace v := kb_ v hb; replace D := kb_ D hb; replace z := kb_ z hb; replace B := kb_ B hb; replace E := kb_ E hb; replace x := kb_ x hb; replace q := qbl_ q hb; replace s := qbl_ s hb; replace u := qbl_ u hb; replace m := qbl_ m hb; replace HB := hs_ hb; clear hb hbox hg
      refine hK.out _ _ ⟨bl_ m 0, HS1_, HS2_, HS3_, HS4_⟩ (fun hHeld => ?_)
      clear hK K
      refine nm_ 13 ?_
      refine o1_ 5 (some 65) 12 575 (fun K hK => ?_)
      refine gs_ Try.func40 #[.agg #[.slice e2 O.length e3], .agg #[.int .i64 ((rd_T60 l a).f0), .string ((rd_T60 l a).f1), .string ((rd_T60 l a).f2), .string ((rd_T60 l a).f3)]] ?_
      with_reducible refine (impl_DoAct.calls d7 _ _ O ((rd_T60 l a).f0) ((rd_T60 l a).f1) ((rd_T60 l a).f2) ((rd_T60 l a).f3) A true _ ?side1 ?side2 k2.out).mono ?_
      (case side1 => exact qD_ (Kd.R_reads' x.out).2.2)
      (case side2 => exact (Kd.R_reads' x.out).2.1)
      rintro e r4 ⟨c9, rfl, ho0, hb⟩
      have HS1_ := (hb.cell (World.block_lt_of_cell? _ _ (hHeld.2.1))).trans (hHeld.2.1)
      have HS2_ := (hb.cell (World.block_lt_of_cell? _ _ (hHeld.2.2.1))).trans (hHeld.2.2.1)
      have HS3_ := (hb.cell (World.block_lt_of_cell? _ _ (hHeld.2.2.2.1))).trans (hHeld.2.2.2.1)
      have HS4_ := (hb.cell (World.block_lt_of_cell? _ _ (hHeld.2.2.2.2))).trans (hHeld.2.2.2.2)
      refine ⟨_, rfl, ?_⟩
      have a0 := am_ (Kd.R_lower (Kd.R_new' (Kd.R_new' (Kd.R_new' (Kd.R_new' ho0 (Kd.R_lt (qR_ z))) (Kd.R_lt (qR_ B))) (Kd.R_lt (qR_ E))) (Kd.R_lt (qR_ x))) (below_size qB_)); replace v := kb_ v hb; replace D := kb_ D hb; replace z := ke_ z ho0 hb; replace B := ke_ B ho0 hb; replace E := ke_ E ho0 hb; replace x := ke_ x ho0 hb; replace q := qbl_ q hb; replace s := qbl_ s hb; replace u := qbl_ u hb; replace m := qbl_ m hb; replace J := qbl_ J hb; replace HB := hs_ hb; clear hb ho0
      refine hK.out _ _ ⟨bl_ m 0, HS1_, HS2_, HS3_, HS4_⟩ (fun hHeld => ?_)
      clear hK K
      refine nm_ 65 ?_
      refine pz_ 6 59 12 639 ?_; refine pz_ 7 66 12 767 ?_; refine pz_ 8 67 12 1023 ?_
      exact norm_ (by simp only [putAll, Act.put, sA_, sB_, sC_]) (hCont (c9, y) _ ⟨hHeld, (by (with_reducible repeat (first | apply Kd.R_alloc | apply Kd.R_drewN | apply Kd.R_drew)); exact Kd.R_mono a0.out (fun _ hk => ⟨hk.1.1.1.2, ⟨hk.1.1.2, ⟨hk.1.2, hk.2⟩⟩⟩)), (qR_ v), (by (with_reducible repeat (first | apply Kd.R_alloc | apply Kd.R_drewN | apply Kd.R_drew)); exact Kd.R_mono z.out (fun _ hk => ⟨hk.2, ⟨hk.1.1, hk.1.2⟩⟩)), (by (with_reducible repeat (first | apply Kd.R_alloc | apply Kd.R_drewN | apply Kd.R_drew)); exact Kd.R_mono B.out (fun _ hk => ⟨hk.2, ⟨hk.1.1, ⟨hk.1.2.1, hk.1.2.2⟩⟩⟩)), (by (with_reducible repeat (first | apply Kd.R_alloc | apply Kd.R_drewN | apply Kd.R_drew)); exact Kd.R_mono E.out (fun _ hk => ⟨hk.2, ⟨hk.1.1, ⟨hk.1.2.1, hk.1.2.2⟩⟩⟩)), (by (with_reducible repeat (first | apply Kd.R_alloc | apply Kd.R_drewN | apply Kd.R_drew)); exact Kd.R_mono x.out (fun _ hk => ⟨hk.2, ⟨hk.1.1, hk.1.2⟩⟩)), (qR_ D), (qk_ q), (qk_ s), (qk_ u), (qk_ m), (qk_ J), j8.out, j9.out, g5.out, e6.out, g6.out, e7.out, g7.out, e8.out, e9.out, f4.out, qB_⟩)
     rintro ⟨c9, y⟩ I ⟨hS_, g8, g9, h0, h1, h2, h3, h4, h5, h6, h7, h10_, h11_, h12_, h13_, h14_, h15_, h16_, h17_, h18_, h19_, h20_, h21_, h22_⟩
     have a5 : Aside0 (Kd.R k99 99 I w.heap.size (fun k_ => some k_ ≠ (.slice Z F.length U : Value).ownBlock ∧ some k_ ≠ (.slice Y L.length X : Value).ownBlock ∧ some k_ ≠ (.slice V M.length T : Value).ownBlock ∧ some k_ ≠ (.slice e2 O.length e3 : Value).ownBlock) c9 A) := ⟨g8⟩
     have a6 : Aside0 (Kd.R k60 60 I w.heap.size (fun _ => True) (.slice (some d) l.length e5) l) := ⟨g9⟩
     have a7 : Aside0 (Kd.R k99 99 I w.heap.size (fun k_ => some k_ ≠ (c9 : Value).ownBlock ∧ some k_ ≠ (.slice Y L.length X : Value).ownBlock ∧ some k_ ≠ (.slice V M.length T : Value).ownBlock) (.slice Z F.length U) F) := ⟨h0⟩
     have a8 : Aside0 (Kd.R k99 99 I w.heap.size (fun k_ => some k_ ≠ (c9 : Value).ownBlock ∧ some k_ ≠ (.slice Z F.length U : Value).ownBlock ∧ some k_ ≠ (.slice V M.length T : Value).ownBlock ∧ some k_ ≠ (.slice e2 O.length e3 : Value).ownBlock) (.slice Y L.length X) L) := ⟨h1⟩
     have a9 : Aside0 (Kd.R k99 99 I w.heap.size (fun k_ => some k_ ≠ (c9 : Value).ownBlock ∧ some k_ ≠ (.slice Z F.length U : Value).ownBlock ∧ some k_ ≠ (.slice Y L.length X : Value).ownBlock ∧ some k_ ≠ (.slice e2 O.length e3 : Value).ownBlock) (.slice V M.length T) M) := ⟨h2⟩
     have b0 : Aside0 (Kd.R k99 99 I w.heap.size (fun k_ => some k_ ≠ (c9 : Value).ownBlock ∧ some k_ ≠ (.slice Y L.length X : Value).ownBlock ∧ some k_ ≠ (.slice V M.length T : Value).ownBlock) (.slice e2 O.length e3) O) := ⟨h3⟩
     have b1 : Aside0 (Kd.R (Kd.int .i64) 3 I w.heap.size (fun _ => True) k8 d1) := ⟨h4⟩
     have b2 : Aside0 (I.heap[c5]? = some (.cells #[.slice Z F.length U] 44 (0, 0))) := ⟨h5⟩
     have b3 : Aside0 (I.heap[c3]? = some (.cells #[.slice Y L.length X] 44 (0, 0))) := ⟨h6⟩
     have b4 : Aside0 (I.heap[b5]? = some (.cells #[.slice V M.length T] 44 (0, 0))) := ⟨h7⟩
     have n10_ : Aside0 (I.heap[a2]? = some (.cells #[.slice e2 O.length e3] 44 (0, 0))) := ⟨h10_⟩
     have n11_ : Aside0 (I.heap[y]? = some (.cells #[.slice none 0 0] 44 (0, 0))) := ⟨h11_⟩
     have n12_ : Aside0 (w.heap.size ≤ y) := ⟨h12_⟩
     have n13_ : Aside0 (w.heap.size ≤ y) := ⟨h13_⟩
     have n14_ : Aside0 (c5 ≠ y) := ⟨h14_⟩
     have n15_ : Aside0 (y ≠ c5) := ⟨h15_⟩
     have n16_ : Aside0 (c3 ≠ y) := ⟨h16_⟩
     have n17_ : Aside0 (y ≠ c3) := ⟨h17_⟩
     have n18_ : Aside0 (b5 ≠ y) := ⟨h18_⟩
     have n19_ : Aside0 (y ≠ b5) := ⟨h19_⟩
     have n20_ : Aside0 (a2 ≠ y) := ⟨h20_⟩
     have n21_ : Aside0 (y ≠ a2) := ⟨h21_⟩
     have n22_ : Aside0 (Below w.heap.size w I) := ⟨h22_⟩
     clear v D z B E x q s u m HB g8 g9 h0 h1 h2 h3 h4 h5 h6 h7 h10_ h11_ h12_ h13_ h14_ h15_ h16_ h17_ h18_ h19_ h20_ h21_ h22_; have a0 := a5; have v := a6; have z := a7; have B := a8; have E := a9; have x := b0; have D := b1; have q := b2; have s := b3; have u := b4; have m := n10_; have J := n11_; have j8 := n12_; have j9 := n13_; have g5 := n14_; have e6 := n15_; have g6 := n16_; have e7 := n17_; have g7 := n18_; have e8 := n19_; have e9 := n20_; have f4 := n21_; have HB := n22_; clear a5 a6 a7 a8 a9 b0 b1 b2 b3 b4 n10_ n11_ n12_ n13_ n14_ n15_ n16_ n17_ n18_ n19_ n20_ n21_ n22_
     have hHeld : I.cell? ⟨a2, 0, none⟩ = some (.slice e2 O.length e3) ∧ I.cell? (d.add ((a).toNat * 4)) = some (.int .i64 ((rd_T60 l a).f0)) ∧ I.cell? ⟨(d.add ((a).toNat * 4)).block, (d.add ((a).toNat * 4)).off + 1, none⟩ = some (.string ((rd_T60 l a).f1)) ∧ I.cell? ⟨(d.add ((a).toNat * 4)).block, (d.add ((a).toNat * 4)).off + 2, none⟩ = some (.string ((rd_T60 l a).f2)) ∧ I.cell? ⟨(d.add ((a).toNat * 4)).block, (d.add ((a).toNat * 4)).off + 3, none⟩ = some (.string ((rd_T60 l a).f3)) := hS_
     obtain ⟨c0, c1, D6⟩ := Kd.R_slice a0.out
     (first | subst D6 | (injection D6 with h8 l4 h9; have l5 := h8.symm; have l6 := h9.symm; clear h8 l4 h9; subst l5; subst l6))
     refine norm_ (a' := ?_) ?_ ?_
     rotate_left
     ·simp only [putAll, Act.put, sA_, sB_, sC_]
      rfl
     refine o1_ 10 none 12 2047 (fun K hK => ?_)
     have y0 : I.cell? ⟨y, 0, none⟩ = some (.slice none 0 0) := bl_ J 0
     have s1 := blk_frozen J.out 0
     have ac := g5.out; have ad := g6.out; have ae := g7.out; have af := e9.out; have ag := e6.out; have ah := e7.out; have ai := e8.out; have aj := f4.out
     refine skip_ (w1 := ?_) (by rfl) rfl ?_ ?_
     rotate_left
     ·go_simp
      rfl
     have nb_ := Kd.own_blk (Kd.R_ne v.out J.out (by decide))
     refine hK.out _ _ ⟨((cell_far (p := ⟨y, _, none⟩) e9.out _).trans (hHeld.1)), ((cell_far (p := ⟨y, _, none⟩) (nx_ nb_) _).trans (hHeld.2.1)), ((cell_far (p := ⟨y, _, none⟩) (nx_ nb_) _).trans (hHeld.2.2.1)), ((cell_far (p := ⟨y, _, none⟩) (nx_ nb_) _).trans (hHeld.2.2.2.1)), ((cell_far (p := ⟨y, _, none⟩) (nx_ nb_) _).trans (hHeld.2.2.2.2))⟩ (fun hHeld => ?_)
     clear hK K; refine pz_ 11 14 12 4095 ?_
     refine done_ (done_of HT_.out (by kernel_rfl)) ?_
     try go_wp2
     have a5 : Aside0 (Kd.R k60 60 (I.setCell ⟨y, 0, none⟩ (.slice c0 A.length c1)) w.heap.size (fun _ => True) (.slice (some d) l.length e5) l) := ⟨by (with_reducible repeat (first | apply Kd.R_alloc | apply Kd.R_drewN | apply Kd.R_drew)); exact Kd.R_mono (Kd.R_far (p := ⟨y, 0, none⟩) (Kd.R_types v.out J.out (by decide)) (fun _ hk => hk.2) (.slice c0 A.length c1)) (fun _ hk => trivial)⟩
     have a6 : Aside0 (Kd.R (Kd.int .i64) 3 (I.setCell ⟨y, 0, none⟩ (.slice c0 A.length c1)) w.heap.size (fun _ => True) k8 d1) := ⟨by (with_reducible repeat (first | apply Kd.R_alloc | apply Kd.R_drewN | apply Kd.R_drew)); exact Kd.R_mono (Kd.R_far (p := ⟨y, 0, none⟩) (Kd.R_types D.out J.out (by decide)) (fun _ hk => hk.2) (.slice c0 A.length c1)) (fun _ hk => trivial)⟩
     have a7 : Aside0 (Kd.R k99 99 (I.setCell ⟨y, 0, none⟩ (.slice c0 A.length c1)) w.heap.size (fun k_ => some k_ ≠ (.slice Y L.length X : Value).ownBlock ∧ some k_ ≠ (.slice V M.length T : Value).ownBlock ∧ some k_ ≠ (.slice c0 A.length c1 : Value).ownBlock) (.slice Z F.length U) F) := ⟨by (with_reducible repeat (first | apply Kd.R_alloc | apply Kd.R_drewN | apply Kd.R_drew)); exact Kd.R_mono (Kd.R_far (p := ⟨y, 0, none⟩) (Kd.R_types z.out J.out (by decide)) (fun _ hk => hk.2) (.slice c0 A.length c1)) (fun _ hk => ⟨hk.1.2.1, ⟨hk.1.2.2, hk.1.1⟩⟩)⟩
     have a8 : Aside0 (Kd.R k99 99 (I.setCell ⟨y, 0, none⟩ (.slice c0 A.length c1)) w.heap.size (fun k_ => some k_ ≠ (.slice Z F.length U : Value).ownBlock ∧ some k_ ≠ (.slice V M.length T : Value).ownBlock ∧ some k_ ≠ (.slice e2 O.length e3 : Value).ownBlock ∧ some k_ ≠ (.slice c0 A.length c1 : Value).ownBlock) (.slice Y L.length X) L) := ⟨by (with_reducible repeat (first | apply Kd.R_alloc | apply Kd.R_drewN | apply Kd.R_drew)); exact Kd.R_mono (Kd.R_far (p := ⟨y, 0, none⟩) (Kd.R_types B.out J.out (by decide)) (fun _ hk => hk.2) (.slice c0 A.length c1)) (fun _ hk => ⟨hk.1.2.1, ⟨hk.1.2.2.1, ⟨hk.1.2.2.2, hk.1.1⟩⟩⟩)⟩
     have a9 : Aside0 (Kd.R k99 99 (I.setCell ⟨y, 0, none⟩ (.slice c0 A.length c1)) w.heap.size (fun k_ => some k_ ≠ (.slice Z F.length U : Value).ownBlock ∧ some k_ ≠ (.slice Y L.length X : Value).ownBlock ∧ some k_ ≠ (.slice e2 O.length e3 : Value).ownBlock ∧ some k_ ≠ (.slice c0 A.length c1 : Value).ownBlock) (.slice V M.length T) M) := ⟨by (with_reducible repeat (first | apply Kd.R_alloc | apply Kd.R_drewN | apply Kd.R_drew)); exact Kd.R_mono (Kd.R_far (p := ⟨y, 0, none⟩) (Kd.R_types E.out J.out (by decide)) (fun _ hk => hk.2) (.slice c0 A.length c1)) (fun _ hk => ⟨hk.1.2.1, ⟨hk.1.2.2.1, ⟨hk.1.2.2.2, hk.1.1⟩⟩⟩)⟩
     have b0 : Aside0 (Kd.R k99 99 (I.setCell ⟨y, 0, none⟩ (.slice c0 A.length c1)) w.heap.size (fun k_ => some k_ ≠ (.slice Y L.length X : Value).ownBlock ∧ some k_ ≠ (.slice V M.length T : Value).ownBlock ∧ some k_ ≠ (.slice c0 A.length c1 : Value).ownBlock) (.slice e2 O.length e3) O) := ⟨by (with_reducible repeat (first | apply Kd.R_alloc | apply Kd.R_drewN | apply Kd.R_drew)); exact Kd.R_mono (Kd.R_far (p := ⟨y, 0, none⟩) (Kd.R_types x.out J.out (by decide)) (fun _ hk => hk.2) (.slice c0 A.length c1)) (fun _ hk => ⟨hk.1.2.1, ⟨hk.1.2.2, hk.1.1⟩⟩)⟩
     have b1 : Aside0 (Kd.R k99 99 (I.setCell ⟨y, 0, none⟩ (.slice c0 A.length c1)) w.heap.size (fun k_ => some k_ ≠ (.slice Z F.length U : Value).ownBlock ∧ some k_ ≠ (.slice Y L.length X : Value).ownBlock ∧ some k_ ≠ (.slice V M.length T : Value).ownBlock ∧ some k_ ≠ (.slice e2 O.length e3 : Value).ownBlock) (.slice c0 A.length c1) A) := ⟨by (with_reducible repeat (first | apply Kd.R_alloc | apply Kd.R_drewN | apply Kd.R_drew)); exact Kd.R_mono (Kd.R_far (p := ⟨y, 0, none⟩) (Kd.R_types a0.out J.out (by decide)) (fun _ hk => hk.2) (.slice c0 A.length c1)) (fun _ hk => ⟨hk.1.1, ⟨hk.1.2.1, ⟨hk.1.2.2.1, hk.1.2.2.2⟩⟩⟩)⟩
     have b2 : Aside0 ((I.setCell ⟨y, 0, none⟩ (.slice c0 A.length c1)).heap[c5]? = some (.cells #[.slice Z F.length U] 44 (0, 0))) := ⟨qf_ q⟩
     have b3 : Aside0 ((I.setCell ⟨y, 0, none⟩ (.slice c0 A.length c1)).heap[c3]? = some (.cells #[.slice Y L.length X] 44 (0, 0))) := ⟨qf_ s⟩
     have b4 : Aside0 ((I.setCell ⟨y, 0, none⟩ (.slice c0 A.length c1)).heap[b5]? = some (.cells #[.slice V M.length T] 44 (0, 0))) := ⟨qf_ u⟩
     have n10_ : Aside0 ((I.setCell ⟨y, 0, none⟩ (.slice c0 A.length c1)).heap[a2]? = some (.cells #[.slice e2 O.length e3] 44 (0, 0))) := ⟨qf_ m⟩
     have n11_ : Aside0 ((I.setCell ⟨y, 0, none⟩ (.slice c0 A.length c1)).heap[y]? = some (.cells #[.slice c0 A.length c1] 44 (0, 0))) := ⟨qp_ J⟩
     have n12_ : Aside0 (Below w.heap.size w (I.setCell ⟨y, 0, none⟩ (.slice c0 A.length c1))) := ⟨qB_⟩
     clear v D z B E x a0 q s u m J HB
     generalize (I.setCell ⟨y, 0, none⟩ (.slice c0 A.length c1)) = r5 at a5 a6 a7 a8 a9 b0 b1 b2 b3 b4 n10_ n11_ n12_ ⊢
     have v := a5; have D := a6; have z := a7; have B := a8; have E := a9; have x := b0; have a0 := b1; have q := b2; have s := b3; have u := b4; have m := n10_; have J := n11_; have HB := n12_; clear a5 a6 a7 a8 a9 b0 b1 b2 b3 b4 n10_ n11_ n12_
     replace v := rd_ v; replace D := rd_ D; replace z := rd_ z; replace B := rd_ B; replace E := rd_ E; replace x := rd_ x; replace a0 := rd_ a0; replace q := bd_ q; replace s := bd_ s; replace u := bd_ u; replace m := bd_ m; replace J := bd_ J; replace HB := hd_ HB
     have i0 := dt_ a
     have i1 := du_ a l.length
     obtain ⟨d4, i2, n7, n8, n9, o0⟩ := at_T60 (Kd.R_reads' v.out).2.2 a (ot_ i0) (ot_ i1)
     obtain rfl : d = d4 := (by injection i2)
     refine start_ (n := 12) (S := fun w' => w'.cell? ⟨a2, 0, none⟩ = some (.slice e2 O.length e3) ∧ w'.cell? (d.add ((a).toNat * 4)) = some (.int .i64 ((rd_T60 l a).f0)) ∧ w'.cell? ⟨(d.add ((a).toNat * 4)).block, (d.add ((a).toNat * 4)).off + 1, none⟩ = some (.string ((rd_T60 l a).f1)) ∧ w'.cell? ⟨(d.add ((a).toNat * 4)).block, (d.add ((a).toNat * 4)).off + 2, none⟩ = some (.string ((rd_T60 l a).f2)) ∧ w'.cell? ⟨(d.add ((a).toNat * 4)).block, (d.add ((a).toNat * 4)).off + 3, none⟩ = some (.string ((rd_T60 l a).f3))) (ds := []) (bm 12 0) (by kernel_rfl) rfl (by kernel_rfl) ⟨bl_ m 0, n7, n8, n9, o0⟩ (fun hHeld => ?_); refine with_tabW laws_FnActs.tab15 laws_FnActs.bits15 (fun HT_ HW_ => ?_)
     generalize r5.drew = D7 at v D z B E x a0 q s u m J HB n7 n8 n9 o0 hHeld ⊢
     refine pz_ 1 72 12 2 ?_; refine pz_ 2 73 12 6 ?_; refine pz_ 3 74 12 14 ?_; refine pz_ 4 75 12 30 ?_; refine tz5_ 0 71 12 31 ?_; refine tz5_ 5 76 12 63 ?_
     refine o1_ 6 (some 77) 12 127 (fun K hK => ?_)
     refine gs_ Try.func56 #[.agg #[.slice e2 O.length e3], .string ((rd_T60 l a).f1)] ?_
     with_reducible refine (impl_FileAt.calls d7 _ _ O ((rd_T60 l a).f1) n2 x0 _ ?side1 ?side2 o3.out).mono ?_
     (case side1 => exact qD_ (Kd.R_reads' x.out).2.2)
     (case side2 => exact (Kd.R_reads' x.out).2.1)
     rintro e r6 ⟨rfl, hb⟩
     have HS1_ := (hb.cell (World.block_lt_of_cell? _ _ (hHeld.2.1))).trans (hHeld.2.1)
     have HS2_ := (hb.cell (World.block_lt_of_cell? _ _ (hHeld.2.2.1))).trans (hHeld.2.2.1)
     have HS3_ := (hb.cell (World.block_lt_of_cell? _ _ (hHeld.2.2.2.1))).trans (hHeld.2.2.2.1)
     have HS4_ := (hb.cell (World.block_lt_of_cell? _ _ (hHeld.2.2.2.2))).trans (hHeld.2.2.2.2)
     refine ⟨_, rfl, ?_⟩
     replace v := kb_ v hb; replace D := kb_ D hb; replace z := kb_ z hb; replace B := kb_ B hb; replace E := kb_ E hb; replace x := kb_ x hb; replace a0 := kb_ a0 hb; replace q := qbl_ q hb; replace s := qbl_ s hb; replace u := qbl_ u hb; replace m := qbl_ m hb; replace J := qbl_ J hb; replace HB := hs_ hb; clear hb
     refine hK.out _ _ ⟨bl_ m 0, HS1_, HS2_, HS3_, HS4_⟩ (fun hHeld => ?_)
     clear hK K
     refine nm_ 77 ?_
     refine pz_ 7 70 12 255 ?_; refine pz_ 8 78 12 511 ?_; refine pz_ 9 79 12 1023 ?_; refine pz_ 10 15 12 2047 ?_; refine pz_ 11 16 12 4095 ?_
     refine done_ (done_of HT_.out (by kernel_rfl)) ?_
     try go_wp2
     replace v := rd_ v; replace D := rd_ D; replace z := rd_ z; replace B := rd_ B; replace E := rd_ E; replace x := rd_ x; replace a0 := rd_ a0; replace q := bd_ q; replace s := bd_ s; replace u := bd_ u; replace m := bd_ m; replace J := bd_ J; replace HB := hd_ HB
     have i3 := dt_ a
     have i4 := du_ a l.length
     obtain ⟨d5, i5, j1, j2, o1, o2⟩ := at_T60 (Kd.R_reads' v.out).2.2 a (ot_ i3) (ot_ i4)
     obtain rfl : d = d5 := (by injection i5)
     refine start_ (n := 12) (S := fun w' => w'.cell? ⟨y, 0, none⟩ = some (.slice c0 A.length c1) ∧ w'.cell? (d.add ((a).toNat * 4)) = some (.int .i64 ((rd_T60 l a).f0)) ∧ w'.cell? ⟨(d.add ((a).toNat * 4)).block, (d.add ((a).toNat * 4)).off + 1, none⟩ = some (.string ((rd_T60 l a).f1)) ∧ w'.cell? ⟨(d.add ((a).toNat * 4)).block, (d.add ((a).toNat * 4)).off + 2, none⟩ = some (.string ((rd_T60 l a).f2)) ∧ w'.cell? ⟨(d.add ((a).toNat * 4)).block, (d.add ((a).toNat * 4)).off + 3, none⟩ = some (.string ((rd_T60 l a).f3))) (ds := []) (bm 12 0) (by kernel_rfl) rfl (by kernel_rfl) ⟨bl_ J 0, j1, j2, o1, o2⟩ (fun hHeld => ?_); refine with_tabW laws_FnActs.tab16 laws_FnActs.bits16 (fun HT_ HW_ => ?_)
     generalize r6.drew = D8 at v D z B E x a0 q s u m J HB j1 j2 o1 o2 hHeld ⊢
     refine pz_ 1 82 12 2 ?_; refine pz_ 2 83 12 6 ?_; refine pz_ 3 84 12 14 ?_; refine pz_ 4 85 12 30 ?_; refine tz5_ 0 81 12 31 ?_; refine tz5_ 5 86 12 63 ?_
     refine o1_ 6 (some 87) 12 127 (fun K hK => ?_)
     refine gs_ Try.func56 #[.agg #[.slice c0 A.length c1], .string ((rd_T60 l a).f1)] ?_
     with_reducible refine (impl_FileAt.calls d7 _ _ A ((rd_T60 l a).f1) o4 false _ ?side1 ?side2 o5.out).mono ?_
     (case side1 => exact qD_ (Kd.R_reads' a0.out).2.2)
     (case side2 => exact (Kd.R_reads' a0.out).2.1)
     rintro e D9 ⟨rfl, hb⟩
     have HS1_ := (hb.cell (World.block_lt_of_cell? _ _ (hHeld.2.1))).trans (hHeld.2.1)
     have HS2_ := (hb.cell (World.block_lt_of_cell? _ _ (hHeld.2.2.1))).trans (hHeld.2.2.1)
     have HS3_ := (hb.cell (World.block_lt_of_cell? _ _ (hHeld.2.2.2.1))).trans (hHeld.2.2.2.1)
     have HS4_ := (hb.cell (World.block_lt_of_cell? _ _ (hHeld.2.2.2.2))).trans (hHeld.2.2.2.2)
     refine ⟨_, rfl, ?_⟩
     replace v := kb_ v hb; replace D := kb_ D hb; replace z := kb_ z hb; replace B := kb_ B hb; replace E := kb_ E hb; replace x := kb_ x hb; replace a0 := kb_ a0 hb; replace q := qbl_ q hb; replace s := qbl_ s hb; replace u := qbl_ u hb; replace m := qbl_ m hb; replace J := qbl_ J hb; replace HB := hs_ hb; clear hb
     refine hK.out _ _ ⟨bl_ J 0, HS1_, HS2_, HS3_, HS4_⟩ (fun hHeld => ?_)
     clear hK K
     refine nm_ 87 ?_
     refine pz_ 7 80 12 255 ?_; refine pz_ 8 88 12 511 ?_; refine pz_ 9 89 12 1023 ?_; refine pz_ 10 17 12 2047 ?_; refine pz_ 11 18 12 4095 ?_
     refine done_ (done_of HT_.out (by kernel_rfl)) ?_
     have i6 := dt_ a
     have i7 := du_ a l.length
     obtain ⟨d6, i8, C6, C7, C8, C9⟩ := at_T60 (Kd.R_reads' v.out).2.2 a (ot_ i6) (ot_ i7)
     obtain rfl : d = d6 := (by injection i8)
     have l7 := dt_ a
     have l8 := du_ a l.length
     obtain ⟨j5, l9, J2, J3, J4, J5⟩ := at_T60 (Kd.R_reads' v.out).2.2 a (ot_ l7) (ot_ l8)
     obtain rfl : d = j5 := (by injection l9)
     obtain ⟨ak, al⟩ := nn_ e6; obtain ⟨am, an⟩ := nn_ e7; obtain ⟨ao, ap⟩ := nn_ e8; obtain ⟨aq, ar⟩ := nn_ f4
     obtain ⟨au, av⟩ := bc1_ J
     obtain ⟨aw, ax⟩ := nn_ r8; obtain ⟨ay, az⟩ := nn_ q1; obtain ⟨aA, aB⟩ := nn_ q2
     obtain ⟨aC, B0⟩ := bc1_ m
     try go_wp2
     go_roundg d7
     case measure => have := p7.out; have := HK2.out; omega
     case rel => exact ⟨(wrap64 (a + 1)), (A), (.slice c0 A.length c1), qe_, H', ⟨by have := p7.out; have := HK2.out; omega⟩, ⟨by (with_reducible repeat (first | apply Kd.R_alloc | apply Kd.R_drewN | apply Kd.R_drew)); exact Kd.R_mono (Kd.R_far (p := ⟨a2, 0, none⟩) (Kd.R_types v.out m.out (by decide)) (fun _ hk => hk.2) (.slice c0 A.length c1)) (fun _ hk => trivial)⟩, ⟨by (with_reducible repeat (first | apply Kd.R_alloc | apply Kd.R_drewN | apply Kd.R_drew)); exact Kd.R_mono (Kd.R_far (p := ⟨a2, 0, none⟩) (Kd.R_types D.out m.out (by decide)) (fun _ hk => hk.2) (.slice c0 A.length c1)) (fun _ hk => trivial)⟩, ⟨by (with_reducible repeat (first | apply Kd.R_alloc | apply Kd.R_drewN | apply Kd.R_drew)); exact Kd.R_mono (Kd.R_far (p := ⟨a2, 0, none⟩) (Kd.R_types z.out m.out (by decide)) (fun _ hk => hk.2) (.slice c0 A.length c1)) (fun _ hk => ⟨hk.1.1, hk.1.2.1⟩)⟩, ⟨by (with_reducible repeat (first | apply Kd.R_alloc | apply Kd.R_drewN | apply Kd.R_drew)); exact Kd.R_mono (Kd.R_far (p := ⟨a2, 0, none⟩) (Kd.R_types B.out m.out (by decide)) (fun _ hk => hk.2) (.slice c0 A.length c1)) (fun _ hk => ⟨hk.1.1, ⟨hk.1.2.1, hk.1.2.2.2⟩⟩)⟩, ⟨by (with_reducible repeat (first | apply Kd.R_alloc | apply Kd.R_drewN | apply Kd.R_drew)); exact Kd.R_mono (Kd.R_far (p := ⟨a2, 0, none⟩) (Kd.R_types E.out m.out (by decide)) (fun _ hk => hk.2) (.slice c0 A.length c1)) (fun _ hk => ⟨hk.1.1, ⟨hk.1.2.1, hk.1.2.2.2⟩⟩)⟩, ⟨by (with_reducible repeat (first | apply Kd.R_alloc | apply Kd.R_drewN | apply Kd.R_drew)); exact Kd.R_mono (Kd.R_far (p := ⟨a2, 0, none⟩) (Kd.R_types a0.out m.out (by decide)) (fun _ hk => hk.2) (.slice c0 A.length c1)) (fun _ hk => ⟨hk.1.2.1, hk.1.2.2.1⟩)⟩, ⟨qf_ q⟩, ⟨qf_ s⟩, ⟨qf_ u⟩, ⟨qp_ m⟩, ⟨qB_⟩⟩
/-- THE ONE PURE STATEMENT of laws_FnActs: yours. -/
def laws_FnActs.Pure : Prop := ∀ (l0 : List Int), l0.length ≤ maxLen → l0.length * 1 ≤ 140737488351232 → (∀ x ∈ l0, (Lit.int .u8 x).wf = true) → ∃ k, laws_FnActs.f k l0 = some true
theorem laws_FnActs.walk (P : laws_FnActs.Pure) (a0 : Option Addr) (len0 cap0 : Nat) (z0 : List Int) (w : World) (w0 : (a0 = none ∧ len0 = 0 ∧ cap0 = 0 ∧ z0 = []) ∨ ∃ x, a0 = some x ∧ len0 ≤ cap0 ∧ cap0 ≤ maxLen ∧ z0.length = cap0 ∧ (∀ i, i < z0.length → w.cell? (x.add i) = some (.int .u8 (z0.getD i 0))) ∧ ∀ n ∈ z0, (Lit.int .u8 n).wf = true) (y0 : len0 * 1 ≤ 140737488351232) :
    Calls Try.prog 11 #[.slice a0 len0 cap0] w fun e w' => e = .returned (.bool true) ∧ Below w.heap.size w w' := by
  obtain ⟨l0, rfl, hr0, hm0, hw0, hc0⟩ := ReadsInt.ofRowC w0
  obtain ⟨k, h⟩ := P l0 hm0 y0 hw0
  refine (laws_FnActs.calls k _ _ l0 w (Kd.C_of_reads (d := (0 : Int)) (h1 := fun _ => rfl) hr0) hc0 h).mono ?_
  rintro e w' ⟨rfl, hd⟩
  exact ⟨rfl, hd⟩
end Go.Proofs.Ytacnlodcbbhahaa.QFnActs
