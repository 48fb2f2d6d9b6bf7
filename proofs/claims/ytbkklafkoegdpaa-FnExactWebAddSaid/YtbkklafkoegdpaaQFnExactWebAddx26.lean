import Derived.Test.YtbkklafkoegdpaaQFnExactWebAddx2
import Derived.Test.YtbkklafkoegdpaaQFnExactWebAddx15
import Derived.Test.YtbkklafkoegdpaaQFnExactWebAddx24
import Derived.Test.YtbkklafkoegdpaaQFnExactWebAddx25
namespace Go.Proofs.Ytbkklafkoegdpaa.QFnExactWebAdd
open Go.RowKit Go.Proofs.YtbkklafkoegdpaaW.PrintWords Go.Proofs.YtbkklafkoegdpaaW.PrintLast Go.Proofs.YtbkklafkoegdpaaW.PrintMore
set_option maxHeartbeats 8000000
set_option maxRecDepth 100000
set_option linter.unusedVariables false
set_option linter.unusedSimpArgs false
mutual
def laws_FnExactWebAdd.j0 : Nat → Bool → Bool → Bool → Int → List (S120) → Int → Int → Int → List (S72) → Int → List (S72) → Int → List (S72) → Option (Bool)
  | 0, _, _, _, _, _, _, _, _, _, _, _, _, _ => none
  | k + 1, x7, x10, x46, x619000, x619001, x620000, x620001, x633000, x633001, x638000, x638001, x646000, x646001 => if x46 = true then (some false) else ((laws_toWeb.f k x619000 x619001).bind fun bt647 => ((laws_eqWeb.f k x638000 x638001 bt647.1 bt647.2).bind fun t651 => (if t651 = true then ((laws_markWeb.f k x638000 x638001 1).bind fun bt652 => (if bt652.1 < 0 then (laws_FnExactWebAdd.j1 k x7 true x619000 x619001 x620000 x620001 x633000 x633001 x646000 x646001) else ((laws_eqWeb.f k x646000 x646001 x633000 x633001).bind fun t654 => (if t654 = true then (laws_FnExactWebAdd.j1 k x7 (x10 != x7) x619000 x619001 x620000 x620001 x633000 x633001 x646000 x646001) else (laws_FnExactWebAdd.j1 k x7 true x619000 x619001 x620000 x620001 x633000 x633001 x646000 x646001))))) else (some false))))
def laws_FnExactWebAdd.j1 : Nat → Bool → Bool → Int → List (S120) → Int → Int → Int → List (S72) → Int → List (S72) → Option (Bool)
  | 0, _, _, _, _, _, _, _, _, _, _ => none
  | k + 1, x7, x67, x619000, x619001, x620000, x620001, x633000, x633001, x646000, x646001 => if x67 = true then (some false) else ((laws_markWeb.f k x646000 x646001 1).bind fun bt655 => ((laws_heldWeb.f k x646000 bt655.2 1).bind fun t657 => (if t657 < 0 then (some false) else (if t657 = bt655.1 then ((laws_toWeb.f k x619000 x619001).bind fun bt658 => ((laws_toEdge.f x620000 x620001).bind fun bt662 => ((impl_WebAdd.f k bt658.1 bt658.2 bt662.1 bt662.2).bind fun bt664 => ((laws_eqWeb.f k bt664.1 bt664.2.1 x633000 x633001).bind fun t670 => (if t670 = true then (laws_FnExactWebAdd.j2 k bt655.1 (bt664.2.2 != x7) x646000 bt655.2) else (laws_FnExactWebAdd.j2 k bt655.1 true x646000 bt655.2)))))) else (some false)))))
def laws_FnExactWebAdd.j2 : Nat → Int → Bool → Int → List (S72) → Option (Bool)
  | 0, _, _, _, _ => none
  | k + 1, x12, x95, x646000, x646001 => if x95 = true then (some false) else ((laws_heldWeb.f k x646000 x646001 1).bind fun t671 => (if t671 < 0 then (some false) else (if t671 = x12 then (some true) else (some false))))
end
def laws_FnExactWebAdd.f (k : Nat) (a0_0 : Int) (l0_1 : List (S120)) (a1_0 : Int) (a1_1 : Int) : Option (Bool) := (laws_szWeb.f a0_0 l0_1 1048576).bind fun t620 => (if t620 < 0 then (some true) else ((laws_toWeb.f k a0_0 l0_1).bind fun bt621 => ((laws_toEdge.f a1_0 a1_1).bind fun bt625 => ((spec_WebAdd.f k bt621.1 bt621.2 bt625.1 bt625.2).bind fun bt627 => ((laws_toWeb.f k a0_0 l0_1).bind fun bt633 => ((laws_toEdge.f a1_0 a1_1).bind fun bt638 => ((impl_WebAdd.f k bt633.1 bt633.2 bt638.1 bt638.2).bind fun bt640 => ((laws_eqWeb.f k bt640.1 bt640.2.1 bt627.1 bt627.2.1).bind fun t646 => (if t646 = true then (laws_FnExactWebAdd.j0 k bt627.2.2 bt640.2.2 (bt640.2.2 != bt627.2.2) a0_0 l0_1 a1_0 a1_1 bt627.1 bt627.2.1 bt633.1 bt633.2 bt640.1 bt640.2.1) else (laws_FnExactWebAdd.j0 k bt627.2.2 bt640.2.2 true a0_0 l0_1 a1_0 a1_1 bt627.1 bt627.2.1 bt633.1 bt633.2 bt640.1 bt640.2.1))))))))))
theorem laws_FnExactWebAdd.mono_l : ∀ k, (∀ y0 y1 y2 y3 y4 y5 y6 y7 y8 y9 y10 y11 y12, LeO (laws_FnExactWebAdd.j0 k y0 y1 y2 y3 y4 y5 y6 y7 y8 y9 y10 y11 y12) (laws_FnExactWebAdd.j0 (k + 1) y0 y1 y2 y3 y4 y5 y6 y7 y8 y9 y10 y11 y12)) ∧ (∀ y0 y1 y2 y3 y4 y5 y6 y7 y8 y9, LeO (laws_FnExactWebAdd.j1 k y0 y1 y2 y3 y4 y5 y6 y7 y8 y9) (laws_FnExactWebAdd.j1 (k + 1) y0 y1 y2 y3 y4 y5 y6 y7 y8 y9)) ∧ (∀ y0 y1 y2 y3, LeO (laws_FnExactWebAdd.j2 k y0 y1 y2 y3) (laws_FnExactWebAdd.j2 (k + 1) y0 y1 y2 y3))
  | 0 => ⟨fun _ _ _ _ _ _ _ _ _ _ _ _ _ r h => by simp [laws_FnExactWebAdd.j0] at h, fun _ _ _ _ _ _ _ _ _ _ r h => by simp [laws_FnExactWebAdd.j1] at h, fun _ _ _ _ r h => by simp [laws_FnExactWebAdd.j2] at h⟩
  | k + 1 => by
    obtain ⟨ih0, ih1, ih2⟩ := laws_FnExactWebAdd.mono_l k
    have m0 := @impl_WebAdd.mono; have m1 := @laws_eqWeb.mono; have m2 := @laws_heldWeb.mono; have m3 := @laws_markWeb.mono; have m4 := @laws_toWeb.mono; have m5 := @spec_WebAdd.mono
    refine ⟨?_, ?_, ?_⟩ <;> (intros; first | unfold laws_FnExactWebAdd.j0 | unfold laws_FnExactWebAdd.j1 | unfold laws_FnExactWebAdd.j2) <;> exact lo_
theorem laws_FnExactWebAdd.mono : ∀ a0 a1 a2 a3 k, LeO (laws_FnExactWebAdd.f k a0 a1 a2 a3) (laws_FnExactWebAdd.f (k + 1) a0 a1 a2 a3) := by
  intro a0 a1 a2 a3 k
  obtain ⟨ih0, ih1, ih2⟩ := laws_FnExactWebAdd.mono_l k
  have m0 := @impl_WebAdd.mono; have m1 := @laws_eqWeb.mono; have m2 := @laws_heldWeb.mono; have m3 := @laws_markWeb.mono; have m4 := @laws_toWeb.mono; have m5 := @spec_WebAdd.mono
  unfold laws_FnExactWebAdd.f
  exact lo_
def laws_FnExactWebAdd.T5 : Bool × List (List Nat × List Nat) := (true, [([], []), ([0], [0]), ([], []), ([2, 1], [2]), ([1, 3, 3], [1, 3]), ([4], [4]), ([5], [5]), ([5], [5]), ([], []), ([8, 6, 4, 0, 1, 2, 3, 4, 5, 6, 8], [6, 8]), ([7, 9, 0, 1, 2, 3, 4, 5, 6, 7, 8, 9], [7])])
def laws_FnExactWebAdd.B5 : List Nat := [0, 1, 0, 7, 15, 31, 63, 63, 0, 383, 1023]
theorem laws_FnExactWebAdd.tab5 : rtab .any (opsOf Try.f9 5) = laws_FnExactWebAdd.T5 := by kernel_rfl
theorem laws_FnExactWebAdd.bits5 : waitsOk laws_FnExactWebAdd.T5.2 laws_FnExactWebAdd.B5 = true := by kernel_rfl
def laws_FnExactWebAdd.T7 : Bool × List (List Nat × List Nat) := (true, [([], []), ([], []), ([1], [1]), ([0, 2, 2], [0, 2]), ([3], [3]), ([4], [4]), ([4], [4]), ([], []), ([7, 5, 3, 0, 1, 2, 3, 4, 5, 7], [5, 7]), ([6, 8, 0, 1, 2, 3, 4, 5, 6, 7, 8], [6])])
def laws_FnExactWebAdd.B7 : List Nat := [0, 0, 2, 7, 15, 31, 31, 0, 191, 511]
theorem laws_FnExactWebAdd.tab7 : rtab .any (opsOf Try.f9 7) = laws_FnExactWebAdd.T7 := by kernel_rfl
theorem laws_FnExactWebAdd.bits7 : waitsOk laws_FnExactWebAdd.T7.2 laws_FnExactWebAdd.B7 = true := by kernel_rfl
def laws_FnExactWebAdd.T24 : Bool × List (List Nat × List Nat) := (true, [([], []), ([0], [0]), ([], []), ([2, 1], [2]), ([1, 3, 3], [1, 3]), ([4], [4]), ([5], [5]), ([5], [5]), ([], []), ([8, 6, 4, 0, 1, 2, 3, 4, 5, 6, 8], [6, 8]), ([7, 9, 0, 1, 2, 3, 4, 5, 6, 7, 8, 9], [7])])
def laws_FnExactWebAdd.B24 : List Nat := [0, 1, 0, 7, 15, 31, 63, 63, 0, 383, 1023]
theorem laws_FnExactWebAdd.tab24 : rtab .any (opsOf Try.f9 24) = laws_FnExactWebAdd.T24 := by kernel_rfl
theorem laws_FnExactWebAdd.bits24 : waitsOk laws_FnExactWebAdd.T24.2 laws_FnExactWebAdd.B24 = true := by kernel_rfl
theorem laws_FnExactWebAdd.calls (k : Nat) (a0_0 : Int) (A0_1 : Option Addr) (c0_1 : Nat) (l0_1 : List (S120)) (a1_0 : Int) (a1_1 : Int) (w : World) (hr0_1 : Kd.C k120 w A0_1 l0_1.length l0_1) (hc0_1 : l0_1.length ≤ c0_1) (h : laws_FnExactWebAdd.f k a0_0 l0_1 a1_0 a1_1 = some true) :
  Calls Try.prog 9 #[.agg #[.int .i64 a0_0, .slice A0_1 l0_1.length c0_1], .agg #[.int .i64 a1_0, .int .i64 a1_1]] w fun e w' => e = .returned (.bool true) ∧ Below w.heap.size w w' := by
 have hu24 := Try.underlying24; have hu37 := Try.underlying37; have hu29 := Try.underlying29
 have HR0_1 := am_ hr0_1
 have HC0_1 := am_ hc0_1
 clear hr0_1 hc0_1
 have HB := am_ (Below.refl w.heap.size w)
 have H : ((laws_szWeb.f a0_0 l0_1 1048576).bind fun o0 => (if o0 < 0 then (some true) else ((laws_toWeb.f k a0_0 l0_1).bind fun t1 => ((laws_toEdge.f a1_0 a1_1).bind fun l6 => ((spec_WebAdd.f k t1.1 t1.2 l6.1 l6.2).bind fun f8 => ((laws_toWeb.f k a0_0 l0_1).bind fun f9 => ((laws_toEdge.f a1_0 a1_1).bind fun h4 => ((impl_WebAdd.f k f9.1 f9.2 h4.1 h4.2).bind fun b2 => ((laws_eqWeb.f k b2.1 b2.2.1 f8.1 f8.2.1).bind fun i3 => (if i3 = true then (laws_FnExactWebAdd.j0 k f8.2.2 b2.2.2 (b2.2.2 != f8.2.2) a0_0 l0_1 a1_0 a1_1 f8.1 f8.2.1 f9.1 f9.2 b2.1 b2.2.1) else (laws_FnExactWebAdd.j0 k f8.2.2 b2.2.2 true a0_0 l0_1 a1_0 a1_1 f8.1 f8.2.1 f9.1 f9.2 b2.1 b2.2.1))))))))))) = some true := h
 clear h
 obtain ⟨o0, A3, H⟩ := bs_ H
 refine ic_ H ?_ ?_ <;> clear H <;> intro c4b0 H
 ·clear H
  go_enter Try.func9, Try.ntmps9
  go_wp2_with (first | ((with_reducible refine gd_ 2 ?_); refine by_ 2 (cs := #[.int .i64 a0_0, .slice A0_1 l0_1.length c0_1]) (t := 24) ?_; intro d9 hg w5 a1 hb; have o1 := gw_ hg; replace HB := hs_ hb; clear hb hg) | ((with_reducible refine gd_ 3 ?_); refine by_ 3 (cs := #[.int .i64 a1_0, .int .i64 a1_1]) (t := 37) ?_; intro d2 hg w6 a0 hb; have o3 := gw_ hg; obtain ⟨i5, n8⟩ := qn_ a1 hg; replace a1 := qbl_ a1 hb; replace HB := hs_ hb; clear hb hg; obtain ⟨S6, S7⟩ := nn_ i5; obtain ⟨E9, F0, F1, F2⟩ := bc2_ a1) | ((with_reducible refine gc_ 13 ?_); refine gl_ (some 18) Try.func13 #[.agg #[.int .i64 a0_0, .slice A0_1 l0_1.length c0_1], .int .i64 1048576] ?_; (with_reducible refine (laws_szWeb.calls a0_0 _ _ l0_1 1048576 o0 _ ?_ ?_ A3.out).mono ?_); exact qC_ HR0_1 HB; exact HC0_1.out; rintro e w9 ⟨rfl, hb⟩; refine ⟨_, rfl, ?_⟩; replace a1 := qbl_ a1 hb; replace a0 := qbl_ a0 hb; replace HB := hs_ hb; (try clear hb); (try clear hb2); (try clear hk); (try clear hi)))
  go_ret
  exact ⟨qr_, qB_⟩
 replace H := Option.bind_eq_some_iff.mp H
 obtain ⟨⟨i6, h5⟩, v4, H⟩ := H
 replace H : ((laws_toEdge.f a1_0 a1_1).bind fun l6 => ((spec_WebAdd.f k i6 h5 l6.1 l6.2).bind fun f8 => ((laws_toWeb.f k a0_0 l0_1).bind fun f9 => ((laws_toEdge.f a1_0 a1_1).bind fun h4 => ((impl_WebAdd.f k f9.1 f9.2 h4.1 h4.2).bind fun b2 => ((laws_eqWeb.f k b2.1 b2.2.1 f8.1 f8.2.1).bind fun i3 => (if i3 = true then (laws_FnExactWebAdd.j0 k f8.2.2 b2.2.2 (b2.2.2 != f8.2.2) a0_0 l0_1 a1_0 a1_1 f8.1 f8.2.1 f9.1 f9.2 b2.1 b2.2.1) else (laws_FnExactWebAdd.j0 k f8.2.2 b2.2.2 true a0_0 l0_1 a1_0 a1_1 f8.1 f8.2.1 f9.1 f9.2 b2.1 b2.2.1)))))))) = some true := H
 have A10 := am_ v4
 clear v4
 replace H := Option.bind_eq_some_iff.mp H
 obtain ⟨⟨i7, i8⟩, v5, H⟩ := H
 replace H : ((spec_WebAdd.f k i6 h5 i7 i8).bind fun f8 => ((laws_toWeb.f k a0_0 l0_1).bind fun f9 => ((laws_toEdge.f a1_0 a1_1).bind fun h4 => ((impl_WebAdd.f k f9.1 f9.2 h4.1 h4.2).bind fun b2 => ((laws_eqWeb.f k b2.1 b2.2.1 f8.1 f8.2.1).bind fun i3 => (if i3 = true then (laws_FnExactWebAdd.j0 k f8.2.2 b2.2.2 (b2.2.2 != f8.2.2) a0_0 l0_1 a1_0 a1_1 f8.1 f8.2.1 f9.1 f9.2 b2.1 b2.2.1) else (laws_FnExactWebAdd.j0 k f8.2.2 b2.2.2 true a0_0 l0_1 a1_0 a1_1 f8.1 f8.2.1 f9.1 f9.2 b2.1 b2.2.1))))))) = some true := H
 have A11 := am_ v5
 clear v5
 replace H := Option.bind_eq_some_iff.mp H
 obtain ⟨⟨d8, a9, g7⟩, v6, H⟩ := H
 replace H : ((laws_toWeb.f k a0_0 l0_1).bind fun f9 => ((laws_toEdge.f a1_0 a1_1).bind fun h4 => ((impl_WebAdd.f k f9.1 f9.2 h4.1 h4.2).bind fun b2 => ((laws_eqWeb.f k b2.1 b2.2.1 d8 a9).bind fun i3 => (if i3 = true then (laws_FnExactWebAdd.j0 k g7 b2.2.2 (b2.2.2 != g7) a0_0 l0_1 a1_0 a1_1 d8 a9 f9.1 f9.2 b2.1 b2.2.1) else (laws_FnExactWebAdd.j0 k g7 b2.2.2 true a0_0 l0_1 a1_0 a1_1 d8 a9 f9.1 f9.2 b2.1 b2.2.1)))))) = some true := H
 have A12 := am_ v6
 clear v6
 replace H := Option.bind_eq_some_iff.mp H
 obtain ⟨⟨f1, b9⟩, v7, H⟩ := H
 replace H : ((laws_toEdge.f a1_0 a1_1).bind fun h4 => ((impl_WebAdd.f k f1 b9 h4.1 h4.2).bind fun b2 => ((laws_eqWeb.f k b2.1 b2.2.1 d8 a9).bind fun i3 => (if i3 = true then (laws_FnExactWebAdd.j0 k g7 b2.2.2 (b2.2.2 != g7) a0_0 l0_1 a1_0 a1_1 d8 a9 f1 b9 b2.1 b2.2.1) else (laws_FnExactWebAdd.j0 k g7 b2.2.2 true a0_0 l0_1 a1_0 a1_1 d8 a9 f1 b9 b2.1 b2.2.1))))) = some true := H
 have A13 := am_ v7
 clear v7
 replace H := Option.bind_eq_some_iff.mp H
 obtain ⟨⟨k5, k6⟩, v8, H⟩ := H
 replace H : ((impl_WebAdd.f k f1 b9 k5 k6).bind fun b2 => ((laws_eqWeb.f k b2.1 b2.2.1 d8 a9).bind fun i3 => (if i3 = true then (laws_FnExactWebAdd.j0 k g7 b2.2.2 (b2.2.2 != g7) a0_0 l0_1 a1_0 a1_1 d8 a9 f1 b9 b2.1 b2.2.1) else (laws_FnExactWebAdd.j0 k g7 b2.2.2 true a0_0 l0_1 a1_0 a1_1 d8 a9 f1 b9 b2.1 b2.2.1)))) = some true := H
 have A14 := am_ v8
 clear v8
 replace H := Option.bind_eq_some_iff.mp H
 obtain ⟨⟨d3, b4, i4⟩, v9, H⟩ := H
 replace H : ((laws_eqWeb.f k d3 b4 d8 a9).bind fun i3 => (if i3 = true then (laws_FnExactWebAdd.j0 k g7 i4 (i4 != g7) a0_0 l0_1 a1_0 a1_1 d8 a9 f1 b9 d3 b4) else (laws_FnExactWebAdd.j0 k g7 i4 true a0_0 l0_1 a1_0 a1_1 d8 a9 f1 b9 d3 b4))) = some true := H
 have A15 := am_ v9
 clear v9
 have u5 := am_ H
 clear H
 go_enter Try.func9, Try.ntmps9
 try go_wp2_with (first | ((with_reducible refine gd_ 2 ?_); refine by_ 2 (cs := #[.int .i64 a0_0, .slice A0_1 l0_1.length c0_1]) (t := 24) ?_; intro d9 hg w17 a1 hb; have o1 := gw_ hg; replace HB := hs_ hb; clear hb hg) | ((with_reducible refine gd_ 3 ?_); refine by_ 3 (cs := #[.int .i64 a1_0, .int .i64 a1_1]) (t := 37) ?_; intro d2 hg w18 a0 hb; have o3 := gw_ hg; obtain ⟨i5, n8⟩ := qn_ a1 hg; replace a1 := qbl_ a1 hb; replace HB := hs_ hb; clear hb hg; obtain ⟨M5, M6⟩ := nn_ i5; obtain ⟨B3, B4, B5, B6⟩ := bc2_ a1) | ((with_reducible refine gc_ 13 ?_); refine gl_ (some 18) Try.func13 #[.agg #[.int .i64 a0_0, .slice A0_1 l0_1.length c0_1], .int .i64 1048576] ?_; (with_reducible refine (laws_szWeb.calls a0_0 _ _ l0_1 1048576 o0 _ ?_ ?_ A3.out).mono ?_); exact qC_ HR0_1 HB; exact HC0_1.out; rintro e w21 ⟨rfl, hb⟩; refine ⟨_, rfl, ?_⟩; replace a1 := qbl_ a1 hb; replace a0 := qbl_ a0 hb; replace HB := hs_ hb; (try clear hb); (try clear hb2); (try clear hk); (try clear hi)))
 replace a1 := am_ (blk_drew a1.out); replace a0 := am_ (blk_drew a0.out); replace HB := am_ (below_drew1 HB.out)
 refine start_ (n := 11) (S := fun w' => w'.cell? ⟨d9, 0, none⟩ = some (.int .i64 a0_0) ∧ w'.cell? ⟨d9, 1, none⟩ = some (.slice A0_1 l0_1.length c0_1) ∧ w'.cell? ⟨d2, 0, none⟩ = some (.int .i64 a1_0) ∧ w'.cell? ⟨d2, 1, none⟩ = some (.int .i64 a1_1)) (ds := []) (bm 11 0) (by kernel_rfl) rfl (by kernel_rfl) ⟨bl_ a1 0, bl_ a1 1, bl_ a0 0, bl_ a0 1⟩ (fun hHeld => ?_); refine with_tabW laws_FnExactWebAdd.tab5 laws_FnExactWebAdd.bits5 (fun HT_ HW_ => ?_)
 generalize w21.drew = w22 at a1 a0 HB hHeld ⊢
 refine tz4_ 0 22 11 1 ?_; refine tz4_ 2 24 11 5 ?_
 refine join_ (σ := Value × Value × Nat) 2 #[true, true, true, true, true, true, true, true, true, false, false] (fun s_ => [(23, .agg #[.int .i64 i6, s_.1]), (25, .agg #[.int .i64 i7, .int .i64 i8]), (26, .tuple #[.agg #[.int .i64 d8, s_.2.1], .bool g7]), (6, .pointer (some ⟨s_.2.2, 0, none⟩)), (21, .tuple #[.agg #[.int .i64 d8, s_.2.1], .bool g7]), (27, .agg #[.int .i64 d8, s_.2.1]), (28, .bool g7)]) (fun s_ w' => (w'.cell? ⟨d9, 0, none⟩ = some (.int .i64 a0_0) ∧ w'.cell? ⟨d9, 1, none⟩ = some (.slice A0_1 l0_1.length c0_1) ∧ w'.cell? ⟨d2, 0, none⟩ = some (.int .i64 a1_0) ∧ w'.cell? ⟨d2, 1, none⟩ = some (.int .i64 a1_1)) ∧ (Kd.R k72 72 w' w.heap.size (fun k_ => some k_ ≠ (s_.2.1 : Value).ownBlock) s_.1 h5) ∧ (Kd.R k72 72 w' w.heap.size (fun k_ => some k_ ≠ (s_.1 : Value).ownBlock) s_.2.1 a9) ∧ (w'.heap[d9]? = some (.cells #[.int .i64 a0_0, .slice A0_1 l0_1.length c0_1] 24 (0, 0))) ∧ (w'.heap[d2]? = some (.cells #[.int .i64 a1_0, .int .i64 a1_1] 37 (0, 0))) ∧ (w'.heap[s_.2.2]? = some (.cells #[.int .i64 0, .slice none 0 0] 29 (0, 0))) ∧ (w.heap.size ≤ s_.2.2) ∧ (w.heap.size ≤ s_.2.2) ∧ (d9 ≠ s_.2.2) ∧ (s_.2.2 ≠ d9) ∧ (d2 ≠ s_.2.2) ∧ (s_.2.2 ≠ d2) ∧ (Below w.heap.size w w')) ?_ ?_
 rotate_left
 ·intro hCont
  refine two_ (i := 1) (j := 8) (Ni := some 23) (Nj := some 6) (bm 11 7) #[true, false, true, false, false, false, false, false, true, false, false] rfl rfl rfl rfl (two_of HT_.out (by kernel_rfl)) (by decide) (by decide) (fun K hK => ?_) (fun K hK => ?_)
  ·skip
   refine gs_ Try.func15 #[.agg #[.int .i64 a0_0, .slice A0_1 l0_1.length c0_1]] ?_
   with_reducible refine (laws_toWeb.calls k a0_0 _ _ l0_1 i6 h5 _ ?side1 ?side2 A10.out).mono ?_
   (case side1 => exact qC_ HR0_1 HB)
   (case side2 => exact HC0_1.out)
   rintro e w23 ⟨h8, rfl, ho0, hb⟩
   refine ⟨_, rfl, ?_⟩
   have a8 := am_ (Kd.R_lower ho0 (below_size qB_)); replace a1 := qbl_ a1 hb; replace a0 := qbl_ a0 hb; replace HB := hs_ hb; (try clear hb); (try clear hb2); (try clear hk); (try clear hi); (try clear ho0)
   refine hK.out _ _ ⟨bl_ a1 0, bl_ a1 1, bl_ a0 0, bl_ a0 1⟩ (fun hHeld => ?_)
   clear hK K
   refine nm_ 23 ?_
   refine two_ (i := 3) (j := 8) (Ni := some 25) (Nj := some 6) (bm 11 15) #[true, true, true, false, false, false, false, false, true, false, false] rfl rfl rfl rfl (two_of HT_.out (by kernel_rfl)) (by decide) (by decide) (fun K hK => ?_) (fun K hK => ?_)
   ·skip
    refine gs_ Try.func21 #[.agg #[.int .i64 a1_0, .int .i64 a1_1]] ?_
    with_reducible refine (laws_toEdge.calls a1_0 a1_1 i7 i8 _ A11.out).mono ?_
    rintro e w24 ⟨rfl, hb⟩
    refine ⟨_, rfl, ?_⟩
    replace a8 := kb_ a8 hb; replace a1 := qbl_ a1 hb; replace a0 := qbl_ a0 hb; replace HB := hs_ hb; (try clear hb); (try clear hb2); (try clear hk); (try clear hi)
    obtain ⟨w0, w2, w3⟩ := Kd.R_slice a8.out
    (first | subst w3 | (injection w3 with f1_ f2_ f3_; have f4_ := f1_.symm; have f5_ := f3_.symm; clear f1_ f2_ f3_; subst f4_; subst f5_))
    refine hK.out _ _ ⟨bl_ a1 0, bl_ a1 1, bl_ a0 0, bl_ a0 1⟩ (fun hHeld => ?_)
    clear hK K
    refine nm_ 25 ?_
    refine two_ (i := 4) (j := 8) (Ni := some 26) (Nj := some 6) (bm 11 31) #[true, true, true, true, false, false, false, false, true, false, false] rfl rfl rfl rfl (two_of HT_.out (by kernel_rfl)) (by decide) (by decide) (fun K hK => ?_) (fun K hK => ?_)
    ·skip
     refine gs_ Try.func38 #[.agg #[.int .i64 i6, .slice w0 h5.length w2], .agg #[.int .i64 i7, .int .i64 i8]] ?_
     with_reducible refine (spec_WebAdd.calls k i6 _ _ h5 i7 i8 d8 a9 g7 _ ?side1 ?side2 A12.out).mono ?_
     (case side1 => exact qD_ (Kd.R_reads' a8.out).2.2)
     (case side2 => exact (Kd.R_reads' a8.out).2.1)
     rintro e w26 ⟨k7, rfl, ho0, hb⟩
     refine ⟨_, rfl, ?_⟩
     have b3 := am_ (Kd.R_lower (Kd.R_new' ho0 (Kd.R_lt (qR_ a8))) (below_size qB_)); replace a8 := ke_ a8 ho0 hb; replace a1 := qbl_ a1 hb; replace a0 := qbl_ a0 hb; replace HB := hs_ hb; (try clear hb); (try clear hb2); (try clear hk); (try clear hi); (try clear ho0)
     refine hK.out _ _ ⟨bl_ a1 0, bl_ a1 1, bl_ a0 0, bl_ a0 1⟩ (fun hHeld => ?_)
     clear hK K
     refine nm_ 26 ?_
     refine pz_ 5 21 11 63 ?_; refine pz_ 6 27 11 127 ?_; refine pz_ 7 28 11 255 ?_
     refine o1_ 8 (some 6) 11 511 (fun K hK => ?_)
     refine box_step ?hg (N := 6) ?hd (cs := #[.int .i64 0, .slice none 0 0]) (t := 29) ?hr ?_; (case hd => rfl); (case hg => rfl); (case hr => first | (go_simp; done) | (go_simp; rfl))
     intro b5 hg w27 hbox hb
     have a5 := am_ (hbox); have j7 := gw_ hg; have i2 := gw_ hg; have e1 := (qn_ a1 hg).1; have d5 := (qn_ a1 hg).2; have e3 := (qn_ a0 hg).1; have d6 := (qn_ a0 hg).2; replace a8 := kb_ a8 hb; replace b3 := kb_ b3 hb; replace a1 := qbl_ a1 hb; replace a0 := qbl_ a0 hb; replace HB := hs_ hb; clear hb hbox hg
     refine hK.out _ _ ⟨bl_ a1 0, bl_ a1 1, bl_ a0 0, bl_ a0 1⟩ (fun hHeld => ?_)
     clear hK K
     refine nm_ 6 ?_
     exact norm_ (by simp only [putAll, Act.put, sA_, sB_, sC_]) (hCont (.slice w0 h5.length w2, k7, b5) _ ⟨hHeld, (by (with_reducible repeat (first | apply Kd.R_alloc | apply Kd.R_drewN | apply Kd.R_drew)); exact Kd.R_mono a8.out (fun _ hk => hk.2)), (by (with_reducible repeat (first | apply Kd.R_alloc | apply Kd.R_drewN | apply Kd.R_drew)); exact Kd.R_mono b3.out (fun _ hk => hk.2)), (qk_ a1), (qk_ a0), (qk_ a5), j7.out, i2.out, e1.out, d5.out, e3.out, d6.out, qB_⟩)
    skip
    refine box_step ?hg (N := 6) ?hd (cs := #[.int .i64 0, .slice none 0 0]) (t := 29) ?hr ?_; (case hd => rfl); (case hg => rfl); (case hr => first | (go_simp; done) | (go_simp; rfl))
    intro b5 hg w25 hbox hb
    have a5 := am_ (hbox); have j7 := gw_ hg; have i2 := gw_ hg; have e1 := (qn_ a1 hg).1; have d5 := (qn_ a1 hg).2; have e3 := (qn_ a0 hg).1; have d6 := (qn_ a0 hg).2; replace a8 := kb_ a8 hb; replace a1 := qbl_ a1 hb; replace a0 := qbl_ a0 hb; replace HB := hs_ hb; clear hb hbox hg
    obtain ⟨l7, l8, l9⟩ := Kd.R_slice a8.out
    (first | subst l9 | (injection l9 with f1_ f2_ f3_; have f4_ := f1_.symm; have f5_ := f3_.symm; clear f1_ f2_ f3_; subst f4_; subst f5_))
    refine hK.out _ _ ⟨bl_ a1 0, bl_ a1 1, bl_ a0 0, bl_ a0 1⟩ (fun hHeld => ?_)
    clear hK K
    refine nm_ 6 ?_
    refine o1_ 4 (some 26) 11 287 (fun K hK => ?_)
    refine gs_ Try.func38 #[.agg #[.int .i64 i6, .slice l7 h5.length l8], .agg #[.int .i64 i7, .int .i64 i8]] ?_
    with_reducible refine (spec_WebAdd.calls k i6 _ _ h5 i7 i8 d8 a9 g7 _ ?side1 ?side2 A12.out).mono ?_
    (case side1 => exact qD_ (Kd.R_reads' a8.out).2.2)
    (case side2 => exact (Kd.R_reads' a8.out).2.1)
    rintro e w27 ⟨k7, rfl, ho0, hb⟩
    refine ⟨_, rfl, ?_⟩
    have b3 := am_ (Kd.R_lower (Kd.R_new' ho0 (Kd.R_lt (qR_ a8))) (below_size qB_)); replace a8 := ke_ a8 ho0 hb; replace a1 := qbl_ a1 hb; replace a0 := qbl_ a0 hb; replace a5 := qbl_ a5 hb; replace HB := hs_ hb; (try clear hb); (try clear hb2); (try clear hk); (try clear hi); (try clear ho0)
    refine hK.out _ _ ⟨bl_ a1 0, bl_ a1 1, bl_ a0 0, bl_ a0 1⟩ (fun hHeld => ?_)
    clear hK K
    refine nm_ 26 ?_
    refine pz_ 5 21 11 319 ?_; refine pz_ 6 27 11 383 ?_; refine pz_ 7 28 11 511 ?_
    exact norm_ (by simp only [putAll, Act.put, sA_, sB_, sC_]) (hCont (.slice l7 h5.length l8, k7, b5) _ ⟨hHeld, (by (with_reducible repeat (first | apply Kd.R_alloc | apply Kd.R_drewN | apply Kd.R_drew)); exact Kd.R_mono a8.out (fun _ hk => hk.2)), (by (with_reducible repeat (first | apply Kd.R_alloc | apply Kd.R_drewN | apply Kd.R_drew)); exact Kd.R_mono b3.out (fun _ hk => hk.2)), (qk_ a1), (qk_ a0), (qk_ a5), j7.out, i2.out, e1.out, d5.out, e3.out, d6.out, qB_⟩)
   skip
   refine box_step ?hg (N := 6) ?hd (cs := #[.int .i64 0, .slice none 0 0]) (t := 29) ?hr ?_; (case hd => rfl); (case hg => rfl); (case hr => first | (go_simp; done) | (go_simp; rfl))
   intro b5 hg w24 hbox hb
   have a5 := am_ (hbox); have j7 := gw_ hg; have i2 := gw_ hg; have e1 := (qn_ a1 hg).1; have d5 := (qn_ a1 hg).2; have e3 := (qn_ a0 hg).1; have d6 := (qn_ a0 hg).2; replace a8 := kb_ a8 hb; replace a1 := qbl_ a1 hb; replace a0 := qbl_ a0 hb; replace HB := hs_ hb; clear hb hbox hg
   refine hK.out _ _ ⟨bl_ a1 0, bl_ a1 1, bl_ a0 0, bl_ a0 1⟩ (fun hHeld => ?_)
   clear hK K
   refine nm_ 6 ?_
   refine o1_ 3 (some 25) 11 271 (fun K hK => ?_)
   refine gs_ Try.func21 #[.agg #[.int .i64 a1_0, .int .i64 a1_1]] ?_
   with_reducible refine (laws_toEdge.calls a1_0 a1_1 i7 i8 _ A11.out).mono ?_
   rintro e w25 ⟨rfl, hb⟩
   refine ⟨_, rfl, ?_⟩
   replace a8 := kb_ a8 hb; replace a1 := qbl_ a1 hb; replace a0 := qbl_ a0 hb; replace a5 := qbl_ a5 hb; replace HB := hs_ hb; (try clear hb); (try clear hb2); (try clear hk); (try clear hi)
   obtain ⟨l7, l8, l9⟩ := Kd.R_slice a8.out
   (first | subst l9 | (injection l9 with f1_ f2_ f3_; have f4_ := f1_.symm; have f5_ := f3_.symm; clear f1_ f2_ f3_; subst f4_; subst f5_))
   refine hK.out _ _ ⟨bl_ a1 0, bl_ a1 1, bl_ a0 0, bl_ a0 1⟩ (fun hHeld => ?_)
   clear hK K
   refine nm_ 25 ?_
   refine o1_ 4 (some 26) 11 287 (fun K hK => ?_)
   refine gs_ Try.func38 #[.agg #[.int .i64 i6, .slice l7 h5.length l8], .agg #[.int .i64 i7, .int .i64 i8]] ?_
   with_reducible refine (spec_WebAdd.calls k i6 _ _ h5 i7 i8 d8 a9 g7 _ ?side1 ?side2 A12.out).mono ?_
   (case side1 => exact qD_ (Kd.R_reads' a8.out).2.2)
   (case side2 => exact (Kd.R_reads' a8.out).2.1)
   rintro e w27 ⟨k7, rfl, ho0, hb⟩
   refine ⟨_, rfl, ?_⟩
   have b3 := am_ (Kd.R_lower (Kd.R_new' ho0 (Kd.R_lt (qR_ a8))) (below_size qB_)); replace a8 := ke_ a8 ho0 hb; replace a1 := qbl_ a1 hb; replace a0 := qbl_ a0 hb; replace a5 := qbl_ a5 hb; replace HB := hs_ hb; (try clear hb); (try clear hb2); (try clear hk); (try clear hi); (try clear ho0)
   refine hK.out _ _ ⟨bl_ a1 0, bl_ a1 1, bl_ a0 0, bl_ a0 1⟩ (fun hHeld => ?_)
   clear hK K
   refine nm_ 26 ?_
   refine pz_ 5 21 11 319 ?_; refine pz_ 6 27 11 383 ?_; refine pz_ 7 28 11 511 ?_
   exact norm_ (by simp only [putAll, Act.put, sA_, sB_, sC_]) (hCont (.slice l7 h5.length l8, k7, b5) _ ⟨hHeld, (by (with_reducible repeat (first | apply Kd.R_alloc | apply Kd.R_drewN | apply Kd.R_drew)); exact Kd.R_mono a8.out (fun _ hk => hk.2)), (by (with_reducible repeat (first | apply Kd.R_alloc | apply Kd.R_drewN | apply Kd.R_drew)); exact Kd.R_mono b3.out (fun _ hk => hk.2)), (qk_ a1), (qk_ a0), (qk_ a5), j7.out, i2.out, e1.out, d5.out, e3.out, d6.out, qB_⟩)
  skip
  refine box_step ?hg (N := 6) ?hd (cs := #[.int .i64 0, .slice none 0 0]) (t := 29) ?hr ?_; (case hd => rfl); (case hg => rfl); (case hr => first | (go_simp; done) | (go_simp; rfl))
  intro b5 hg w23 hbox hb
  have a5 := am_ (hbox); have j7 := gw_ hg; have i2 := gw_ hg; have e1 := (qn_ a1 hg).1; have d5 := (qn_ a1 hg).2; have e3 := (qn_ a0 hg).1; have d6 := (qn_ a0 hg).2; replace a1 := qbl_ a1 hb; replace a0 := qbl_ a0 hb; replace HB := hs_ hb; clear hb hbox hg
  refine hK.out _ _ ⟨bl_ a1 0, bl_ a1 1, bl_ a0 0, bl_ a0 1⟩ (fun hHeld => ?_)
  clear hK K
  refine nm_ 6 ?_
  refine o1_ 1 (some 23) 11 263 (fun K hK => ?_)
  refine gs_ Try.func15 #[.agg #[.int .i64 a0_0, .slice A0_1 l0_1.length c0_1]] ?_
  with_reducible refine (laws_toWeb.calls k a0_0 _ _ l0_1 i6 h5 _ ?side1 ?side2 A10.out).mono ?_
  (case side1 => exact qC_ HR0_1 HB)
  (case side2 => exact HC0_1.out)
  rintro e w24 ⟨h8, rfl, ho0, hb⟩
  refine ⟨_, rfl, ?_⟩
  have a8 := am_ (Kd.R_lower ho0 (below_size qB_)); replace a1 := qbl_ a1 hb; replace a0 := qbl_ a0 hb; replace a5 := qbl_ a5 hb; replace HB := hs_ hb; (try clear hb); (try clear hb2); (try clear hk); (try clear hi); (try clear ho0)
  refine hK.out _ _ ⟨bl_ a1 0, bl_ a1 1, bl_ a0 0, bl_ a0 1⟩ (fun hHeld => ?_)
  clear hK K
  refine nm_ 23 ?_
  refine o1_ 3 (some 25) 11 271 (fun K hK => ?_)
  refine gs_ Try.func21 #[.agg #[.int .i64 a1_0, .int .i64 a1_1]] ?_
  with_reducible refine (laws_toEdge.calls a1_0 a1_1 i7 i8 _ A11.out).mono ?_
  rintro e w25 ⟨rfl, hb⟩
  refine ⟨_, rfl, ?_⟩
  replace a8 := kb_ a8 hb; replace a1 := qbl_ a1 hb; replace a0 := qbl_ a0 hb; replace a5 := qbl_ a5 hb; replace HB := hs_ hb; (try clear hb); (try clear hb2); (try clear hk); (try clear hi)
  obtain ⟨l7, l8, l9⟩ := Kd.R_slice a8.out
  (first | subst l9 | (injection l9 with f1_ f2_ f3_; have f4_ := f1_.symm; have f5_ := f3_.symm; clear f1_ f2_ f3_; subst f4_; subst f5_))
  refine hK.out _ _ ⟨bl_ a1 0, bl_ a1 1, bl_ a0 0, bl_ a0 1⟩ (fun hHeld => ?_)
  clear hK K
  refine nm_ 25 ?_
  refine o1_ 4 (some 26) 11 287 (fun K hK => ?_)
  refine gs_ Try.func38 #[.agg #[.int .i64 i6, .slice l7 h5.length l8], .agg #[.int .i64 i7, .int .i64 i8]] ?_
  with_reducible refine (spec_WebAdd.calls k i6 _ _ h5 i7 i8 d8 a9 g7 _ ?side1 ?side2 A12.out).mono ?_
  (case side1 => exact qD_ (Kd.R_reads' a8.out).2.2)
  (case side2 => exact (Kd.R_reads' a8.out).2.1)
  rintro e w27 ⟨k7, rfl, ho0, hb⟩
  refine ⟨_, rfl, ?_⟩
  have b3 := am_ (Kd.R_lower (Kd.R_new' ho0 (Kd.R_lt (qR_ a8))) (below_size qB_)); replace a8 := ke_ a8 ho0 hb; replace a1 := qbl_ a1 hb; replace a0 := qbl_ a0 hb; replace a5 := qbl_ a5 hb; replace HB := hs_ hb; (try clear hb); (try clear hb2); (try clear hk); (try clear hi); (try clear ho0)
  refine hK.out _ _ ⟨bl_ a1 0, bl_ a1 1, bl_ a0 0, bl_ a0 1⟩ (fun hHeld => ?_)
  clear hK K
  refine nm_ 26 ?_
  refine pz_ 5 21 11 319 ?_; refine pz_ 6 27 11 383 ?_; refine pz_ 7 28 11 511 ?_
  exact norm_ (by simp only [putAll, Act.put, sA_, sB_, sC_]) (hCont (.slice l7 h5.length l8, k7, b5) _ ⟨hHeld, (by (with_reducible repeat (first | apply Kd.R_alloc | apply Kd.R_drewN | apply Kd.R_drew)); exact Kd.R_mono a8.out (fun _ hk => hk.2)), (by (with_reducible repeat (first | apply Kd.R_alloc | apply Kd.R_drewN | apply Kd.R_drew)); exact Kd.R_mono b3.out (fun _ hk => hk.2)), (qk_ a1), (qk_ a0), (qk_ a5), j7.out, i2.out, e1.out, d5.out, e3.out, d6.out, qB_⟩)
 rintro ⟨h8, k7, b5⟩ w28 ⟨hS_, h0_, h1_, h2_, h3_, h4_, h5_, h6_, h7_, h8_, h9_, h10_, h11_⟩
 have n0_ : Aside0 (Kd.R k72 72 w28 w.heap.size (fun k_ => some k_ ≠ (k7 : Value).ownBlock) h8 h5) := ⟨h0_⟩
 have n1_ : Aside0 (Kd.R k72 72 w28 w.heap.size (fun k_ => some k_ ≠ (h8 : Value).ownBlock) k7 a9) := ⟨h1_⟩
 have n2_ : Aside0 (w28.heap[d9]? = some (.cells #[.int .i64 a0_0, .slice A0_1 l0_1.length c0_1] 24 (0, 0))) := ⟨h2_⟩
 have n3_ : Aside0 (w28.heap[d2]? = some (.cells #[.int .i64 a1_0, .int .i64 a1_1] 37 (0, 0))) := ⟨h3_⟩
 have n4_ : Aside0 (w28.heap[b5]? = some (.cells #[.int .i64 0, .slice none 0 0] 29 (0, 0))) := ⟨h4_⟩
 have n5_ : Aside0 (w.heap.size ≤ b5) := ⟨h5_⟩
 have n6_ : Aside0 (w.heap.size ≤ b5) := ⟨h6_⟩
 have n7_ : Aside0 (d9 ≠ b5) := ⟨h7_⟩
 have n8_ : Aside0 (b5 ≠ d9) := ⟨h8_⟩
 have n9_ : Aside0 (d2 ≠ b5) := ⟨h9_⟩
 have n10_ : Aside0 (b5 ≠ d2) := ⟨h10_⟩
 have n11_ : Aside0 (Below w.heap.size w w28) := ⟨h11_⟩
 clear a1; clear a0; clear HB; clear h0_ h1_ h2_ h3_ h4_ h5_ h6_ h7_ h8_ h9_ h10_ h11_; have a8 := n0_; have b3 := n1_; have a1 := n2_; have a0 := n3_; have a5 := n4_; have j7 := n5_; have i2 := n6_; have e1 := n7_; have d5 := n8_; have e3 := n9_; have d6 := n10_; have HB := n11_; clear n0_ n1_ n2_ n3_ n4_ n5_ n6_ n7_ n8_ n9_ n10_ n11_
 have hHeld : w28.cell? ⟨d9, 0, none⟩ = some (.int .i64 a0_0) ∧ w28.cell? ⟨d9, 1, none⟩ = some (.slice A0_1 l0_1.length c0_1) ∧ w28.cell? ⟨d2, 0, none⟩ = some (.int .i64 a1_0) ∧ w28.cell? ⟨d2, 1, none⟩ = some (.int .i64 a1_1) := hS_
 obtain ⟨e2, d4, w4⟩ := Kd.R_slice b3.out
 (first | subst w4 | (injection w4 with f1_ f2_ f3_; have f4_ := f1_.symm; have f5_ := f3_.symm; clear f1_ f2_ f3_; subst f4_; subst f5_))
 refine norm_ (a' := ?_) ?_ ?_
 rotate_left
 ·simp only [putAll, Act.put, sA_, sB_, sC_]
  rfl
 refine o1_ 9 none 11 1023 (fun K hK => ?_)
 have hs29 : w28.cell? ⟨b5, 0, none⟩ = some (.int .i64 0) := bl_ a5 0
 have hfs29 := blk_frozen a5.out 0
 have B7 := e1.out; have B8 := e3.out; have B9 := d5.out; have C0 := d6.out
 have hs31 : w28.cell? ⟨b5, 1, none⟩ = some (.slice none 0 0) := bl_ a5 1
 have hfs31 := blk_frozen a5.out 1
 have C1 := e1.out; have C2 := e3.out; have C3 := d5.out; have C4 := d6.out
 refine skip_ (w1 := ?_) (by rfl) rfl ?_ ?_
 rotate_left
 ·go_simp
  rfl
 refine hK.out _ _ ⟨((cell_far (p := ⟨b5, _, none⟩) e1.out _).trans (((cell_far (p := ⟨b5, _, none⟩) e1.out _).trans (hHeld.1)))), ((cell_far (p := ⟨b5, _, none⟩) e1.out _).trans (((cell_far (p := ⟨b5, _, none⟩) e1.out _).trans (hHeld.2.1)))), ((cell_far (p := ⟨b5, _, none⟩) e3.out _).trans (((cell_far (p := ⟨b5, _, none⟩) e3.out _).trans (hHeld.2.2.1)))), ((cell_far (p := ⟨b5, _, none⟩) e3.out _).trans (((cell_far (p := ⟨b5, _, none⟩) e3.out _).trans (hHeld.2.2.2))))⟩ (fun hHeld => ?_)
 clear hK K; refine pz_ 10 7 11 2047 ?_
 refine done_ (done_of HT_.out (by kernel_rfl)) ?_
 obtain ⟨M7, M8⟩ := nn_ e1
 obtain ⟨C5, C6, C7, C8⟩ := bc2_ a1
 try go_wp2_with (first | ((with_reducible refine gc_ 15 ?_); refine gl_ (some 30) Try.func15 #[.agg #[.int .i64 a0_0, .slice A0_1 l0_1.length c0_1]] ?_; (with_reducible refine (laws_toWeb.calls k a0_0 _ _ l0_1 f1 b9 _ ?_ ?_ A13.out).mono ?_); exact Kd.C_below HR0_1.out qB_; exact HC0_1.out; rintro e w34 ⟨S8, rfl, ho0, hb⟩; refine ⟨_, rfl, ?_⟩; have d1 := am_ (Kd.R_lower (Kd.R_new' (Kd.R_new' ho0 (Kd.R_lt (by (with_reducible repeat (first | apply Kd.R_alloc | apply Kd.R_drewN | apply Kd.R_drew)); exact (Kd.R_mono (Kd.R_far (p := ⟨b5, 1, none⟩) (Kd.R_far (p := ⟨b5, 0, none⟩) (Kd.R_types a8.out a5.out (by decide)) (fun _ hk => hk.2) (.int .i64 d8)) (fun _ hk => hk.2) (.slice e2 a9.length d4)) (fun _ h_ => h_.1))))) (Kd.R_lt (by (with_reducible repeat (first | apply Kd.R_alloc | apply Kd.R_drewN | apply Kd.R_drew)); exact (Kd.R_mono (Kd.R_far (p := ⟨b5, 1, none⟩) (Kd.R_far (p := ⟨b5, 0, none⟩) (Kd.R_types b3.out a5.out (by decide)) (fun _ hk => hk.2) (.int .i64 d8)) (fun _ hk => hk.2) (.slice e2 a9.length d4)) (fun _ h_ => h_.1))))) (below_size qB_)); replace a8 := am_ (Kd.R_elder' (by (with_reducible repeat (first | apply Kd.R_alloc | apply Kd.R_drewN | apply Kd.R_drew)); exact (Kd.R_mono (Kd.R_far (p := ⟨b5, 1, none⟩) (Kd.R_far (p := ⟨b5, 0, none⟩) (Kd.R_types a8.out a5.out (by decide)) (fun _ hk => hk.2) (.int .i64 d8)) (fun _ hk => hk.2) (.slice e2 a9.length d4)) (fun _ h_ => h_.1))) (Kd.R_base ho0) hb); replace b3 := am_ (Kd.R_elder' (by (with_reducible repeat (first | apply Kd.R_alloc | apply Kd.R_drewN | apply Kd.R_drew)); exact (Kd.R_mono (Kd.R_far (p := ⟨b5, 1, none⟩) (Kd.R_far (p := ⟨b5, 0, none⟩) (Kd.R_types b3.out a5.out (by decide)) (fun _ hk => hk.2) (.int .i64 d8)) (fun _ hk => hk.2) (.slice e2 a9.length d4)) (fun _ h_ => h_.1))) (Kd.R_base ho0) hb); replace a1 := qbl_ a1 hb; replace a0 := qbl_ a0 hb; replace a5 := am_ (blk_below (g := b5) (o := .cells #[.int .i64 d8, .slice e2 a9.length d4] 29 (0, 0)) (by (with_reducible repeat (first | refine blk_drewN ?_ _ | refine blk_drew ?_ | refine blk_alloc ?_ _)); refine blk_put (cs := #[.int .i64 d8, .slice none 0 0]) ?_ 1 _ rfl; (with_reducible repeat (first | refine blk_drewN ?_ _ | refine blk_drew ?_ | refine blk_alloc ?_ _)); refine blk_put (cs := #[.int .i64 0, .slice none 0 0]) ?_ 0 _ rfl; exact qf_ a5) hb); replace HB := hs_ hb; (try clear hb); (try clear hb2); (try clear hk); (try clear hi); (try clear ho0)) | ((with_reducible refine gd_ 8 ?_); refine by_ 8 (cs := #[.int .i64 0, .slice none 0 0]) (t := 29) ?_; intro c0 hg w35 a6 hb; have w7 := gw_ hg; obtain ⟨v2, l0⟩ := qn_ a1 hg; obtain ⟨v3, l1⟩ := qn_ a0 hg; obtain ⟨h3, l2⟩ := qn_ a5 hg; replace a8 := kb_ a8 hb; replace b3 := kb_ b3 hb; replace d1 := kb_ d1 hb; replace a1 := qbl_ a1 hb; replace a0 := qbl_ a0 hb; replace a5 := qbl_ a5 hb; replace HB := hs_ hb; clear hb hg; obtain ⟨M9, N0⟩ := nn_ l0; obtain ⟨N1, N2⟩ := nn_ l1; obtain ⟨N3, N4⟩ := nn_ l2; obtain ⟨C9, D0, D1, D2⟩ := bc2_ a6; obtain ⟨b7, b8, F3⟩ := Kd.R_slice d1.out; subst F3))
 have n0_ : Aside0 (Kd.R k72 72 ((w35.setCell ⟨c0, 0, none⟩ (.int .i64 f1)).setCell ⟨c0, 1, none⟩ (.slice b7 b9.length b8)) w.heap.size (fun k_ => some k_ ≠ (.slice e2 a9.length d4 : Value).ownBlock ∧ some k_ ≠ (.slice b7 b9.length b8 : Value).ownBlock) h8 h5) := ⟨by (with_reducible repeat (first | apply Kd.R_alloc | apply Kd.R_drewN | apply Kd.R_drew)); exact Kd.R_mono (Kd.R_far (p := ⟨c0, 1, none⟩) (Kd.R_far (p := ⟨c0, 0, none⟩) (Kd.R_types a8.out a6.out (by decide)) (fun _ hk => hk.2) (.int .i64 f1)) (fun _ hk => hk.2) (.slice b7 b9.length b8)) (fun _ hk => ⟨hk.1.1, hk.1.2⟩)⟩
 have n1_ : Aside0 (Kd.R k72 72 ((w35.setCell ⟨c0, 0, none⟩ (.int .i64 f1)).setCell ⟨c0, 1, none⟩ (.slice b7 b9.length b8)) w.heap.size (fun k_ => some k_ ≠ (h8 : Value).ownBlock ∧ some k_ ≠ (.slice b7 b9.length b8 : Value).ownBlock) (.slice e2 a9.length d4) a9) := ⟨by (with_reducible repeat (first | apply Kd.R_alloc | apply Kd.R_drewN | apply Kd.R_drew)); exact Kd.R_mono (Kd.R_far (p := ⟨c0, 1, none⟩) (Kd.R_far (p := ⟨c0, 0, none⟩) (Kd.R_types b3.out a6.out (by decide)) (fun _ hk => hk.2) (.int .i64 f1)) (fun _ hk => hk.2) (.slice b7 b9.length b8)) (fun _ hk => ⟨hk.1.1, hk.1.2⟩)⟩
 have n2_ : Aside0 (Kd.R k72 72 ((w35.setCell ⟨c0, 0, none⟩ (.int .i64 f1)).setCell ⟨c0, 1, none⟩ (.slice b7 b9.length b8)) w.heap.size (fun k_ => some k_ ≠ (h8 : Value).ownBlock ∧ some k_ ≠ (.slice e2 a9.length d4 : Value).ownBlock) (.slice b7 b9.length b8) b9) := ⟨by (with_reducible repeat (first | apply Kd.R_alloc | apply Kd.R_drewN | apply Kd.R_drew)); exact Kd.R_mono (Kd.R_far (p := ⟨c0, 1, none⟩) (Kd.R_far (p := ⟨c0, 0, none⟩) (Kd.R_types d1.out a6.out (by decide)) (fun _ hk => hk.2) (.int .i64 f1)) (fun _ hk => hk.2) (.slice b7 b9.length b8)) (fun _ hk => ⟨hk.1.1.2, hk.1.2⟩)⟩
 have n3_ : Aside0 (((w35.setCell ⟨c0, 0, none⟩ (.int .i64 f1)).setCell ⟨c0, 1, none⟩ (.slice b7 b9.length b8)).heap[d9]? = some (.cells #[.int .i64 a0_0, .slice A0_1 l0_1.length c0_1] 24 (0, 0))) := ⟨qf_ a1⟩
 have n4_ : Aside0 (((w35.setCell ⟨c0, 0, none⟩ (.int .i64 f1)).setCell ⟨c0, 1, none⟩ (.slice b7 b9.length b8)).heap[d2]? = some (.cells #[.int .i64 a1_0, .int .i64 a1_1] 37 (0, 0))) := ⟨qf_ a0⟩
 have n5_ : Aside0 (((w35.setCell ⟨c0, 0, none⟩ (.int .i64 f1)).setCell ⟨c0, 1, none⟩ (.slice b7 b9.length b8)).heap[b5]? = some (.cells #[.int .i64 d8, .slice e2 a9.length d4] 29 (0, 0))) := ⟨qf_ a5⟩
 have n6_ : Aside0 (((w35.setCell ⟨c0, 0, none⟩ (.int .i64 f1)).setCell ⟨c0, 1, none⟩ (.slice b7 b9.length b8)).heap[c0]? = some (.cells #[.int .i64 f1, .slice b7 b9.length b8] 29 (0, 0))) := ⟨by (with_reducible repeat (first | refine blk_drewN ?_ _ | refine blk_drew ?_ | refine blk_alloc ?_ _)); refine blk_put (cs := #[.int .i64 f1, .slice none 0 0]) ?_ 1 _ rfl; (with_reducible repeat (first | refine blk_drewN ?_ _ | refine blk_drew ?_ | refine blk_alloc ?_ _)); refine blk_put (cs := #[.int .i64 0, .slice none 0 0]) ?_ 0 _ rfl; exact qf_ a6⟩
 have n7_ : Aside0 (Below w.heap.size w ((w35.setCell ⟨c0, 0, none⟩ (.int .i64 f1)).setCell ⟨c0, 1, none⟩ (.slice b7 b9.length b8))) := ⟨qB_⟩
 (try clear a8); (try clear b3); (try clear d1); (try clear a1); (try clear a0); (try clear a5); (try clear a6); (try clear HB)
 generalize ((w35.setCell ⟨c0, 0, none⟩ (.int .i64 f1)).setCell ⟨c0, 1, none⟩ (.slice b7 b9.length b8)) = w41 at n0_ n1_ n2_ n3_ n4_ n5_ n6_ n7_ ⊢
 have a8 := n0_; have b3 := n1_; have d1 := n2_; have a1 := n3_; have a0 := n4_; have a5 := n5_; have a6 := n6_; have HB := n7_; clear n0_ n1_ n2_ n3_ n4_ n5_ n6_ n7_
 replace a8 := am_ (Kd.R_drew a8.out); replace b3 := am_ (Kd.R_drew b3.out); replace d1 := am_ (Kd.R_drew d1.out); replace a1 := am_ (blk_drew a1.out); replace a0 := am_ (blk_drew a0.out); replace a5 := am_ (blk_drew a5.out); replace a6 := am_ (blk_drew a6.out); replace HB := am_ (below_drew1 HB.out)
 refine start_ (n := 10) (S := fun w' => w'.cell? ⟨c0, 0, none⟩ = some (.int .i64 f1) ∧ w'.cell? ⟨c0, 1, none⟩ = some (.slice b7 b9.length b8) ∧ w'.cell? ⟨d2, 0, none⟩ = some (.int .i64 a1_0) ∧ w'.cell? ⟨d2, 1, none⟩ = some (.int .i64 a1_1)) (ds := []) (bm 10 0) (by kernel_rfl) rfl (by kernel_rfl) ⟨bl_ a6 0, bl_ a6 1, bl_ a0 0, bl_ a0 1⟩ (fun hHeld => ?_); refine with_tabW laws_FnExactWebAdd.tab7 laws_FnExactWebAdd.bits7 (fun HT_ HW_ => ?_)
 generalize w41.drew = w42 at a8 b3 d1 a1 a0 a5 a6 HB hHeld ⊢
 refine tz4_ 0 32 10 1 ?_; refine tz4_ 1 33 10 3 ?_
 refine join_ (σ := Value × Nat) 2 #[true, true, true, true, true, true, true, true, false, false] (fun s_ => [(34, .agg #[.int .i64 k5, .int .i64 k6]), (35, .tuple #[.agg #[.int .i64 d3, s_.1], .bool i4]), (9, .pointer (some ⟨s_.2, 0, none⟩)), (31, .tuple #[.agg #[.int .i64 d3, s_.1], .bool i4]), (36, .agg #[.int .i64 d3, s_.1]), (37, .bool i4)]) (fun s_ w' => (w'.cell? ⟨c0, 0, none⟩ = some (.int .i64 f1) ∧ w'.cell? ⟨c0, 1, none⟩ = some (.slice b7 b9.length b8) ∧ w'.cell? ⟨d2, 0, none⟩ = some (.int .i64 a1_0) ∧ w'.cell? ⟨d2, 1, none⟩ = some (.int .i64 a1_1)) ∧ (Kd.R k72 72 w' w.heap.size (fun k_ => some k_ ≠ (.slice e2 a9.length d4 : Value).ownBlock ∧ some k_ ≠ (.slice b7 b9.length b8 : Value).ownBlock ∧ some k_ ≠ (s_.1 : Value).ownBlock) h8 h5) ∧ (Kd.R k72 72 w' w.heap.size (fun k_ => some k_ ≠ (h8 : Value).ownBlock ∧ some k_ ≠ (.slice b7 b9.length b8 : Value).ownBlock ∧ some k_ ≠ (s_.1 : Value).ownBlock) (.slice e2 a9.length d4) a9) ∧ (Kd.R k72 72 w' w.heap.size (fun k_ => some k_ ≠ (h8 : Value).ownBlock ∧ some k_ ≠ (.slice e2 a9.length d4 : Value).ownBlock ∧ some k_ ≠ (s_.1 : Value).ownBlock) (.slice b7 b9.length b8) b9) ∧ (Kd.R k72 72 w' w.heap.size (fun k_ => some k_ ≠ (h8 : Value).ownBlock ∧ some k_ ≠ (.slice e2 a9.length d4 : Value).ownBlock ∧ some k_ ≠ (.slice b7 b9.length b8 : Value).ownBlock) s_.1 b4) ∧ (w'.heap[d9]? = some (.cells #[.int .i64 a0_0, .slice A0_1 l0_1.length c0_1] 24 (0, 0))) ∧ (w'.heap[d2]? = some (.cells #[.int .i64 a1_0, .int .i64 a1_1] 37 (0, 0))) ∧ (w'.heap[b5]? = some (.cells #[.int .i64 d8, .slice e2 a9.length d4] 29 (0, 0))) ∧ (w'.heap[c0]? = some (.cells #[.int .i64 f1, .slice b7 b9.length b8] 29 (0, 0))) ∧ (w'.heap[s_.2]? = some (.cells #[.int .i64 0, .slice none 0 0] 29 (0, 0))) ∧ (w.heap.size ≤ s_.2) ∧ (w.heap.size ≤ s_.2) ∧ (d9 ≠ s_.2) ∧ (s_.2 ≠ d9) ∧ (d2 ≠ s_.2) ∧ (s_.2 ≠ d2) ∧ (b5 ≠ s_.2) ∧ (s_.2 ≠ b5) ∧ (c0 ≠ s_.2) ∧ (s_.2 ≠ c0) ∧ (Below w.heap.size w w')) ?_ ?_
 rotate_left
 ·intro hCont
  refine two_ (i := 2) (j := 7) (Ni := some 34) (Nj := some 9) (bm 10 7) #[true, true, false, false, false, false, false, true, false, false] rfl rfl rfl rfl (two_of HT_.out (by kernel_rfl)) (by decide) (by decide) (fun K hK => ?_) (fun K hK => ?_)
  ·skip
   refine gs_ Try.func21 #[.agg #[.int .i64 a1_0, .int .i64 a1_1]] ?_
   with_reducible refine (laws_toEdge.calls a1_0 a1_1 k5 k6 _ A14.out).mono ?_
   rintro e w43 ⟨rfl, hb⟩
   refine ⟨_, rfl, ?_⟩
   replace a8 := kb_ a8 hb; replace b3 := kb_ b3 hb; replace d1 := kb_ d1 hb; replace a1 := qbl_ a1 hb; replace a0 := qbl_ a0 hb; replace a5 := qbl_ a5 hb; replace a6 := qbl_ a6 hb; replace HB := hs_ hb; (try clear hb); (try clear hb2); (try clear hk); (try clear hi)
   refine hK.out _ _ ⟨bl_ a6 0, bl_ a6 1, bl_ a0 0, bl_ a0 1⟩ (fun hHeld => ?_)
   clear hK K
   refine nm_ 34 ?_
   refine two_ (i := 3) (j := 7) (Ni := some 35) (Nj := some 9) (bm 10 15) #[true, true, true, false, false, false, false, true, false, false] rfl rfl rfl rfl (two_of HT_.out (by kernel_rfl)) (by decide) (by decide) (fun K hK => ?_) (fun K hK => ?_)
   ·skip
    refine gs_ Try.func39 #[.agg #[.int .i64 f1, .slice b7 b9.length b8], .agg #[.int .i64 k5, .int .i64 k6]] ?_
    with_reducible refine (impl_WebAdd.calls k f1 _ _ b9 k5 k6 d3 b4 i4 _ ?side1 ?side2 A15.out).mono ?_
    (case side1 => exact qD_ (Kd.R_reads' d1.out).2.2)
    (case side2 => exact (Kd.R_reads' d1.out).2.1)
    rintro e w44 ⟨k8, rfl, ho0, hb⟩
    refine ⟨_, rfl, ?_⟩
    have h1 := am_ (Kd.R_lower (Kd.R_new' (Kd.R_new' (Kd.R_new' ho0 (Kd.R_lt (qR_ a8))) (Kd.R_lt (qR_ b3))) (Kd.R_lt (qR_ d1))) (below_size qB_)); replace a8 := ke_ a8 ho0 hb; replace b3 := ke_ b3 ho0 hb; replace d1 := ke_ d1 ho0 hb; replace a1 := qbl_ a1 hb; replace a0 := qbl_ a0 hb; replace a5 := qbl_ a5 hb; replace a6 := qbl_ a6 hb; replace HB := hs_ hb; (try clear hb); (try clear hb2); (try clear hk); (try clear hi); (try clear ho0)
    refine hK.out _ _ ⟨bl_ a6 0, bl_ a6 1, bl_ a0 0, bl_ a0 1⟩ (fun hHeld => ?_)
    clear hK K
    refine nm_ 35 ?_
    refine pz_ 4 31 10 31 ?_; refine pz_ 5 36 10 63 ?_; refine pz_ 6 37 10 127 ?_
    refine o1_ 7 (some 9) 10 255 (fun K hK => ?_)
    refine box_step ?hg (N := 9) ?hd (cs := #[.int .i64 0, .slice none 0 0]) (t := 29) ?hr ?_; (case hd => rfl); (case hg => rfl); (case hr => first | (go_simp; done) | (go_simp; rfl))
    intro b0 hg w45 hbox hb
    have a7 := am_ (hbox); have l3 := gw_ hg; have j8 := gw_ hg; have h0 := (qn_ a1 hg).1; have e4 := (qn_ a1 hg).2; have f2 := (qn_ a0 hg).1; have e5 := (qn_ a0 hg).2; have g3 := (qn_ a5 hg).1; have e6 := (qn_ a5 hg).2; have f0 := (qn_ a6 hg).1; have e7 := (qn_ a6 hg).2; replace a8 := kb_ a8 hb; replace b3 := kb_ b3 hb; replace d1 := kb_ d1 hb; replace h1 := kb_ h1 hb; replace a1 := qbl_ a1 hb; replace a0 := qbl_ a0 hb; replace a5 := qbl_ a5 hb; replace a6 := qbl_ a6 hb; replace HB := hs_ hb; clear hb hbox hg
    refine hK.out _ _ ⟨bl_ a6 0, bl_ a6 1, bl_ a0 0, bl_ a0 1⟩ (fun hHeld => ?_)
    clear hK K
    refine nm_ 9 ?_
    exact norm_ (by simp only [putAll, Act.put, sA_, sB_, sC_]) (hCont (k8, b0) _ ⟨hHeld, (by (with_reducible repeat (first | apply Kd.R_alloc | apply Kd.R_drewN | apply Kd.R_drew)); exact Kd.R_mono a8.out (fun _ hk => ⟨hk.1.1, ⟨hk.1.2, hk.2⟩⟩)), (by (with_reducible repeat (first | apply Kd.R_alloc | apply Kd.R_drewN | apply Kd.R_drew)); exact Kd.R_mono b3.out (fun _ hk => ⟨hk.1.1, ⟨hk.1.2, hk.2⟩⟩)), (by (with_reducible repeat (first | apply Kd.R_alloc | apply Kd.R_drewN | apply Kd.R_drew)); exact Kd.R_mono d1.out (fun _ hk => ⟨hk.1.1, ⟨hk.1.2, hk.2⟩⟩)), (by (with_reducible repeat (first | apply Kd.R_alloc | apply Kd.R_drewN | apply Kd.R_drew)); exact Kd.R_mono h1.out (fun _ hk => ⟨hk.1.1.2, ⟨hk.1.2, hk.2⟩⟩)), (qk_ a1), (qk_ a0), (qk_ a5), (qk_ a6), (qk_ a7), l3.out, j8.out, h0.out, e4.out, f2.out, e5.out, g3.out, e6.out, f0.out, e7.out, qB_⟩)
   skip
   refine box_step ?hg (N := 9) ?hd (cs := #[.int .i64 0, .slice none 0 0]) (t := 29) ?hr ?_; (case hd => rfl); (case hg => rfl); (case hr => first | (go_simp; done) | (go_simp; rfl))
   intro b0 hg w44 hbox hb
   have a7 := am_ (hbox); have l3 := gw_ hg; have j8 := gw_ hg; have h0 := (qn_ a1 hg).1; have e4 := (qn_ a1 hg).2; have f2 := (qn_ a0 hg).1; have e5 := (qn_ a0 hg).2; have g3 := (qn_ a5 hg).1; have e6 := (qn_ a5 hg).2; have f0 := (qn_ a6 hg).1; have e7 := (qn_ a6 hg).2; replace a8 := kb_ a8 hb; replace b3 := kb_ b3 hb; replace d1 := kb_ d1 hb; replace a1 := qbl_ a1 hb; replace a0 := qbl_ a0 hb; replace a5 := qbl_ a5 hb; replace a6 := qbl_ a6 hb; replace HB := hs_ hb; clear hb hbox hg
   refine hK.out _ _ ⟨bl_ a6 0, bl_ a6 1, bl_ a0 0, bl_ a0 1⟩ (fun hHeld => ?_)
   clear hK K
   refine nm_ 9 ?_
   refine o1_ 3 (some 35) 10 143 (fun K hK => ?_)
   refine gs_ Try.func39 #[.agg #[.int .i64 f1, .slice b7 b9.length b8], .agg #[.int .i64 k5, .int .i64 k6]] ?_
   with_reducible refine (impl_WebAdd.calls k f1 _ _ b9 k5 k6 d3 b4 i4 _ ?side1 ?side2 A15.out).mono ?_
   (case side1 => exact qD_ (Kd.R_reads' d1.out).2.2)
   (case side2 => exact (Kd.R_reads' d1.out).2.1)
   rintro e w45 ⟨k8, rfl, ho0, hb⟩
   refine ⟨_, rfl, ?_⟩
   have h1 := am_ (Kd.R_lower (Kd.R_new' (Kd.R_new' (Kd.R_new' ho0 (Kd.R_lt (qR_ a8))) (Kd.R_lt (qR_ b3))) (Kd.R_lt (qR_ d1))) (below_size qB_)); replace a8 := ke_ a8 ho0 hb; replace b3 := ke_ b3 ho0 hb; replace d1 := ke_ d1 ho0 hb; replace a1 := qbl_ a1 hb; replace a0 := qbl_ a0 hb; replace a5 := qbl_ a5 hb; replace a6 := qbl_ a6 hb; replace a7 := qbl_ a7 hb; replace HB := hs_ hb; (try clear hb); (try clear hb2); (try clear hk); (try clear hi); (try clear ho0)
   refine hK.out _ _ ⟨bl_ a6 0, bl_ a6 1, bl_ a0 0, bl_ a0 1⟩ (fun hHeld => ?_)
   clear hK K
   refine nm_ 35 ?_
   refine pz_ 4 31 10 159 ?_; refine pz_ 5 36 10 191 ?_; refine pz_ 6 37 10 255 ?_
   exact norm_ (by simp only [putAll, Act.put, sA_, sB_, sC_]) (hCont (k8, b0) _ ⟨hHeld, (by (with_reducible repeat (first | apply Kd.R_alloc | apply Kd.R_drewN | apply Kd.R_drew)); exact Kd.R_mono a8.out (fun _ hk => ⟨hk.1.1, ⟨hk.1.2, hk.2⟩⟩)), (by (with_reducible repeat (first | apply Kd.R_alloc | apply Kd.R_drewN | apply Kd.R_drew)); exact Kd.R_mono b3.out (fun _ hk => ⟨hk.1.1, ⟨hk.1.2, hk.2⟩⟩)), (by (with_reducible repeat (first | apply Kd.R_alloc | apply Kd.R_drewN | apply Kd.R_drew)); exact Kd.R_mono d1.out (fun _ hk => ⟨hk.1.1, ⟨hk.1.2, hk.2⟩⟩)), (by (with_reducible repeat (first | apply Kd.R_alloc | apply Kd.R_drewN | apply Kd.R_drew)); exact Kd.R_mono h1.out (fun _ hk => ⟨hk.1.1.2, ⟨hk.1.2, hk.2⟩⟩)), (qk_ a1), (qk_ a0), (qk_ a5), (qk_ a6), (qk_ a7), l3.out, j8.out, h0.out, e4.out, f2.out, e5.out, g3.out, e6.out, f0.out, e7.out, qB_⟩)
  skip
  refine box_step ?hg (N := 9) ?hd (cs := #[.int .i64 0, .slice none 0 0]) (t := 29) ?hr ?_; (case hd => rfl); (case hg => rfl); (case hr => first | (go_simp; done) | (go_simp; rfl))
  intro b0 hg w43 hbox hb
  have a7 := am_ (hbox); have l3 := gw_ hg; have j8 := gw_ hg; have h0 := (qn_ a1 hg).1; have e4 := (qn_ a1 hg).2; have f2 := (qn_ a0 hg).1; have e5 := (qn_ a0 hg).2; have g3 := (qn_ a5 hg).1; have e6 := (qn_ a5 hg).2; have f0 := (qn_ a6 hg).1; have e7 := (qn_ a6 hg).2; replace a8 := kb_ a8 hb; replace b3 := kb_ b3 hb; replace d1 := kb_ d1 hb; replace a1 := qbl_ a1 hb; replace a0 := qbl_ a0 hb; replace a5 := qbl_ a5 hb; replace a6 := qbl_ a6 hb; replace HB := hs_ hb; clear hb hbox hg
  refine hK.out _ _ ⟨bl_ a6 0, bl_ a6 1, bl_ a0 0, bl_ a0 1⟩ (fun hHeld => ?_)
  clear hK K
  refine nm_ 9 ?_
  refine o1_ 2 (some 34) 10 135 (fun K hK => ?_)
  refine gs_ Try.func21 #[.agg #[.int .i64 a1_0, .int .i64 a1_1]] ?_
  with_reducible refine (laws_toEdge.calls a1_0 a1_1 k5 k6 _ A14.out).mono ?_
  rintro e w44 ⟨rfl, hb⟩
  refine ⟨_, rfl, ?_⟩
  replace a8 := kb_ a8 hb; replace b3 := kb_ b3 hb; replace d1 := kb_ d1 hb; replace a1 := qbl_ a1 hb; replace a0 := qbl_ a0 hb; replace a5 := qbl_ a5 hb; replace a6 := qbl_ a6 hb; replace a7 := qbl_ a7 hb; replace HB := hs_ hb; (try clear hb); (try clear hb2); (try clear hk); (try clear hi)
  refine hK.out _ _ ⟨bl_ a6 0, bl_ a6 1, bl_ a0 0, bl_ a0 1⟩ (fun hHeld => ?_)
  clear hK K
  refine nm_ 34 ?_
  refine o1_ 3 (some 35) 10 143 (fun K hK => ?_)
  refine gs_ Try.func39 #[.agg #[.int .i64 f1, .slice b7 b9.length b8], .agg #[.int .i64 k5, .int .i64 k6]] ?_
  with_reducible refine (impl_WebAdd.calls k f1 _ _ b9 k5 k6 d3 b4 i4 _ ?side1 ?side2 A15.out).mono ?_
  (case side1 => exact qD_ (Kd.R_reads' d1.out).2.2)
  (case side2 => exact (Kd.R_reads' d1.out).2.1)
  rintro e w45 ⟨k8, rfl, ho0, hb⟩
  refine ⟨_, rfl, ?_⟩
  have h1 := am_ (Kd.R_lower (Kd.R_new' (Kd.R_new' (Kd.R_new' ho0 (Kd.R_lt (qR_ a8))) (Kd.R_lt (qR_ b3))) (Kd.R_lt (qR_ d1))) (below_size qB_)); replace a8 := ke_ a8 ho0 hb; replace b3 := ke_ b3 ho0 hb; replace d1 := ke_ d1 ho0 hb; replace a1 := qbl_ a1 hb; replace a0 := qbl_ a0 hb; replace a5 := qbl_ a5 hb; replace a6 := qbl_ a6 hb; replace a7 := qbl_ a7 hb; replace HB := hs_ hb; (try clear hb); (try clear hb2); (try clear hk); (try clear hi); (try clear ho0)
  refine hK.out _ _ ⟨bl_ a6 0, bl_ a6 1, bl_ a0 0, bl_ a0 1⟩ (fun hHeld => ?_)
  clear hK K
  refine nm_ 35 ?_
  refine pz_ 4 31 10 159 ?_; refine pz_ 5 36 10 191 ?_; refine pz_ 6 37 10 255 ?_
  exact norm_ (by simp only [putAll, Act.put, sA_, sB_, sC_]) (hCont (k8, b0) _ ⟨hHeld, (by (with_reducible repeat (first | apply Kd.R_alloc | apply Kd.R_drewN | apply Kd.R_drew)); exact Kd.R_mono a8.out (fun _ hk => ⟨hk.1.1, ⟨hk.1.2, hk.2⟩⟩)), (by (with_reducible repeat (first | apply Kd.R_alloc | apply Kd.R_drewN | apply Kd.R_drew)); exact Kd.R_mono b3.out (fun _ hk => ⟨hk.1.1, ⟨hk.1.2, hk.2⟩⟩)), (by (with_reducible repeat (first | apply Kd.R_alloc | apply Kd.R_drewN | apply Kd.R_drew)); exact Kd.R_mono d1.out (fun _ hk => ⟨hk.1.1, ⟨hk.1.2, hk.2⟩⟩)), (by (with_reducible repeat (first | apply Kd.R_alloc | apply Kd.R_drewN | apply Kd.R_drew)); exact Kd.R_mono h1.out (fun _ hk => ⟨hk.1.1.2, ⟨hk.1.2, hk.2⟩⟩)), (qk_ a1), (qk_ a0), (qk_ a5), (qk_ a6), (qk_ a7), l3.out, j8.out, h0.out, e4.out, f2.out, e5.out, g3.out, e6.out, f0.out, e7.out, qB_⟩)
 rintro ⟨k8, b0⟩ w46 ⟨hS_, h0_, h1_, h2_, h3_, h4_, h5_, h6_, h7_, h8_, h9_, h10_, h11_, h12_, h13_, h14_, h15_, h16_, h17_, h18_, h19_⟩
 have n0_ : Aside0 (Kd.R k72 72 w46 w.heap.size (fun k_ => some k_ ≠ (.slice e2 a9.length d4 : Value).ownBlock ∧ some k_ ≠ (.slice b7 b9.length b8 : Value).ownBlock ∧ some k_ ≠ (k8 : Value).ownBlock) h8 h5) := ⟨h0_⟩
 have n1_ : Aside0 (Kd.R k72 72 w46 w.heap.size (fun k_ => some k_ ≠ (h8 : Value).ownBlock ∧ some k_ ≠ (.slice b7 b9.length b8 : Value).ownBlock ∧ some k_ ≠ (k8 : Value).ownBlock) (.slice e2 a9.length d4) a9) := ⟨h1_⟩
 have n2_ : Aside0 (Kd.R k72 72 w46 w.heap.size (fun k_ => some k_ ≠ (h8 : Value).ownBlock ∧ some k_ ≠ (.slice e2 a9.length d4 : Value).ownBlock ∧ some k_ ≠ (k8 : Value).ownBlock) (.slice b7 b9.length b8) b9) := ⟨h2_⟩
 have n3_ : Aside0 (Kd.R k72 72 w46 w.heap.size (fun k_ => some k_ ≠ (h8 : Value).ownBlock ∧ some k_ ≠ (.slice e2 a9.length d4 : Value).ownBlock ∧ some k_ ≠ (.slice b7 b9.length b8 : Value).ownBlock) k8 b4) := ⟨h3_⟩
 have n4_ : Aside0 (w46.heap[d9]? = some (.cells #[.int .i64 a0_0, .slice A0_1 l0_1.length c0_1] 24 (0, 0))) := ⟨h4_⟩
 have n5_ : Aside0 (w46.heap[d2]? = some (.cells #[.int .i64 a1_0, .int .i64 a1_1] 37 (0, 0))) := ⟨h5_⟩
 have n6_ : Aside0 (w46.heap[b5]? = some (.cells #[.int .i64 d8, .slice e2 a9.length d4] 29 (0, 0))) := ⟨h6_⟩
 have n7_ : Aside0 (w46.heap[c0]? = some (.cells #[.int .i64 f1, .slice b7 b9.length b8] 29 (0, 0))) := ⟨h7_⟩
 have n8_ : Aside0 (w46.heap[b0]? = some (.cells #[.int .i64 0, .slice none 0 0] 29 (0, 0))) := ⟨h8_⟩
 have n9_ : Aside0 (w.heap.size ≤ b0) := ⟨h9_⟩
 have n10_ : Aside0 (w.heap.size ≤ b0) := ⟨h10_⟩
 have n11_ : Aside0 (d9 ≠ b0) := ⟨h11_⟩
 have n12_ : Aside0 (b0 ≠ d9) := ⟨h12_⟩
 have n13_ : Aside0 (d2 ≠ b0) := ⟨h13_⟩
 have n14_ : Aside0 (b0 ≠ d2) := ⟨h14_⟩
 have n15_ : Aside0 (b5 ≠ b0) := ⟨h15_⟩
 have n16_ : Aside0 (b0 ≠ b5) := ⟨h16_⟩
 have n17_ : Aside0 (c0 ≠ b0) := ⟨h17_⟩
 have n18_ : Aside0 (b0 ≠ c0) := ⟨h18_⟩
 have n19_ : Aside0 (Below w.heap.size w w46) := ⟨h19_⟩
 clear a8; clear b3; clear d1; clear a1; clear a0; clear a5; clear a6; clear HB; clear h0_ h1_ h2_ h3_ h4_ h5_ h6_ h7_ h8_ h9_ h10_ h11_ h12_ h13_ h14_ h15_ h16_ h17_ h18_ h19_; have a8 := n0_; have b3 := n1_; have d1 := n2_; have h1 := n3_; have a1 := n4_; have a0 := n5_; have a5 := n6_; have a6 := n7_; have a7 := n8_; have l3 := n9_; have j8 := n10_; have h0 := n11_; have e4 := n12_; have f2 := n13_; have e5 := n14_; have g3 := n15_; have e6 := n16_; have f0 := n17_; have e7 := n18_; have HB := n19_; clear n0_ n1_ n2_ n3_ n4_ n5_ n6_ n7_ n8_ n9_ n10_ n11_ n12_ n13_ n14_ n15_ n16_ n17_ n18_ n19_
 have hHeld : w46.cell? ⟨c0, 0, none⟩ = some (.int .i64 f1) ∧ w46.cell? ⟨c0, 1, none⟩ = some (.slice b7 b9.length b8) ∧ w46.cell? ⟨d2, 0, none⟩ = some (.int .i64 a1_0) ∧ w46.cell? ⟨d2, 1, none⟩ = some (.int .i64 a1_1) := hS_
 obtain ⟨e0, d7, w8⟩ := Kd.R_slice h1.out
 (first | subst w8 | (injection w8 with f1_ f2_ f3_; have f4_ := f1_.symm; have f5_ := f3_.symm; clear f1_ f2_ f3_; subst f4_; subst f5_))
 refine norm_ (a' := ?_) ?_ ?_
 rotate_left
 ·simp only [putAll, Act.put, sA_, sB_, sC_]
  rfl
 refine o1_ 8 none 10 511 (fun K hK => ?_)
 have hs47 : w46.cell? ⟨b0, 0, none⟩ = some (.int .i64 0) := bl_ a7 0
 have hfs47 := blk_frozen a7.out 0
 have D3 := h0.out; have D4 := f2.out; have D5 := g3.out; have D6 := f0.out; have D7 := e4.out; have D8 := e5.out; have D9 := e6.out; have E0 := e7.out
 have hs49 : w46.cell? ⟨b0, 1, none⟩ = some (.slice none 0 0) := bl_ a7 1
 have hfs49 := blk_frozen a7.out 1
 have E1 := h0.out; have E2 := f2.out; have E3 := g3.out; have E4 := f0.out; have E5 := e4.out; have E6 := e5.out; have E7 := e6.out; have E8 := e7.out
 refine skip_ (w1 := ?_) (by rfl) rfl ?_ ?_
 rotate_left
 ·go_simp
  rfl
 refine hK.out _ _ ⟨((cell_far (p := ⟨b0, _, none⟩) f0.out _).trans (((cell_far (p := ⟨b0, _, none⟩) f0.out _).trans (hHeld.1)))), ((cell_far (p := ⟨b0, _, none⟩) f0.out _).trans (((cell_far (p := ⟨b0, _, none⟩) f0.out _).trans (hHeld.2.1)))), ((cell_far (p := ⟨b0, _, none⟩) f2.out _).trans (((cell_far (p := ⟨b0, _, none⟩) f2.out _).trans (hHeld.2.2.1)))), ((cell_far (p := ⟨b0, _, none⟩) f2.out _).trans (((cell_far (p := ⟨b0, _, none⟩) f2.out _).trans (hHeld.2.2.2))))⟩ (fun hHeld => ?_)
 clear hK K; refine pz_ 9 10 10 1023 ?_
 refine done_ (done_of HT_.out (by kernel_rfl)) ?_
 go_upto_region 8 with (fail)
 go_cut [46] (fun v46 wc => ∃ (kq : Nat) (x46_15 : Bool), v46 = .bool x46_15 ∧ Aside0 (laws_FnExactWebAdd.j0 kq g7 i4 x46_15 a0_0 l0_1 a1_0 a1_1 d8 a9 f1 b9 d3 b4 = some true) ∧ Aside0 (kq ≤ k) ∧ Aside0 (Kd.R k72 72 wc w.heap.size (fun k_ => some k_ ≠ ((.slice b7 b9.length b8) : Value).ownBlock ∧ some k_ ≠ ((.slice e0 b4.length d7) : Value).ownBlock) (.slice e2 a9.length d4) a9) ∧ Aside0 (Kd.R k72 72 wc w.heap.size (fun k_ => some k_ ≠ ((.slice e2 a9.length d4) : Value).ownBlock ∧ some k_ ≠ ((.slice e0 b4.length d7) : Value).ownBlock) (.slice b7 b9.length b8) b9) ∧ Aside0 (Kd.R k72 72 wc w.heap.size (fun k_ => some k_ ≠ ((.slice e2 a9.length d4) : Value).ownBlock ∧ some k_ ≠ ((.slice b7 b9.length b8) : Value).ownBlock) (.slice e0 b4.length d7) b4) ∧ Aside0 (wc.heap[d9]? = some (.cells #[.int .i64 a0_0, (.slice A0_1 l0_1.length c0_1)] 24 (0, 0))) ∧ Aside0 (wc.heap[d2]? = some (.cells #[.int .i64 a1_0, .int .i64 a1_1] 37 (0, 0))) ∧ Aside0 (wc.heap[b5]? = some (.cells #[.int .i64 d8, (.slice e2 a9.length d4)] 29 (0, 0))) ∧ Aside0 (wc.heap[c0]? = some (.cells #[.int .i64 f1, (.slice b7 b9.length b8)] 29 (0, 0))) ∧ Aside0 (wc.heap[b0]? = some (.cells #[.int .i64 d3, (.slice e0 b4.length d7)] 29 (0, 0))) ∧ Aside0 (Below w.heap.size w wc))
 case first =>
  have H := u5.out; clear u5
  obtain ⟨i3, A50, H⟩ := bs_ H
  refine ie_ H ?_ ?_ <;> clear H <;> rintro rfl H
  ·have H' := am_ H; clear H; obtain ⟨N5, N6⟩ := nn_ e4; obtain ⟨N7, N8⟩ := nn_ e5; obtain ⟨N9, O0⟩ := nn_ e6; obtain ⟨O1, O2⟩ := nn_ e7
   obtain ⟨m2, m3, m4, m5⟩ := bc2_ a7
   obtain ⟨O3, O4⟩ := nn_ d5; obtain ⟨O5, O6⟩ := nn_ d6; obtain ⟨O7, O8⟩ := nn_ h3
   obtain ⟨m6, m7, m8, m9⟩ := bc2_ a5
   go_wp2_with (first | ((with_reducible refine gc_ 17 ?_); refine gl_ (some 40) Try.func17 #[.agg #[.int .i64 d3, .slice e0 b4.length d7], .agg #[.int .i64 d8, .slice e2 a9.length d4]] ?_; (with_reducible refine (laws_eqWeb.calls k d3 _ _ b4 d8 _ _ a9 true _ ?side1 ?side2 ?side3 ?side4 A50.out).mono ?_); (case side1 => refine (Kd.R_reads' (e := 72) (base := w.heap.size) (ok := fun k_ => (some k_ ≠ (h8 : Value).ownBlock ∧ (some k_ ≠ (.slice e2 a9.length d4 : Value).ownBlock ∧ some k_ ≠ (.slice b7 b9.length b8 : Value).ownBlock))) (n := b4.length) (c := d7) ?_).2.2; exact (by (with_reducible repeat (first | apply Kd.R_alloc | apply Kd.R_drewN | apply Kd.R_drew)); exact (Kd.R_mono (Kd.R_far (p := ⟨b0, 1, none⟩) (Kd.R_far (p := ⟨b0, 0, none⟩) (Kd.R_types h1.out a7.out (by decide)) (fun _ hk => hk.2) (.int .i64 d3)) (fun _ hk => hk.2) (.slice e0 b4.length d7)) (fun _ h_ => h_.1)))); (case side2 => exact (Kd.R_reads' h1.out).2.1); (case side3 => refine (Kd.R_reads' (e := 72) (base := w.heap.size) (ok := fun k_ => (some k_ ≠ (h8 : Value).ownBlock ∧ (some k_ ≠ (.slice b7 b9.length b8 : Value).ownBlock ∧ some k_ ≠ (.slice e0 b4.length d7 : Value).ownBlock))) (n := a9.length) (c := d4) ?_).2.2; exact (by (with_reducible repeat (first | apply Kd.R_alloc | apply Kd.R_drewN | apply Kd.R_drew)); exact (Kd.R_mono (Kd.R_far (p := ⟨b0, 1, none⟩) (Kd.R_far (p := ⟨b0, 0, none⟩) (Kd.R_types b3.out a7.out (by decide)) (fun _ hk => hk.2) (.int .i64 d3)) (fun _ hk => hk.2) (.slice e0 b4.length d7)) (fun _ h_ => h_.1)))); (case side4 => exact (Kd.R_reads' b3.out).2.1); rintro e w61 ⟨rfl, hb⟩; refine ⟨_, rfl, ?_⟩; replace a8 := am_ (Kd.R_below (by (with_reducible repeat (first | apply Kd.R_alloc | apply Kd.R_drewN | apply Kd.R_drew)); exact (Kd.R_mono (Kd.R_far (p := ⟨b0, 1, none⟩) (Kd.R_far (p := ⟨b0, 0, none⟩) (Kd.R_types a8.out a7.out (by decide)) (fun _ hk => hk.2) (.int .i64 d3)) (fun _ hk => hk.2) (.slice e0 b4.length d7)) (fun _ h_ => h_.1))) hb); replace b3 := am_ (Kd.R_below (by (with_reducible repeat (first | apply Kd.R_alloc | apply Kd.R_drewN | apply Kd.R_drew)); exact (Kd.R_mono (Kd.R_far (p := ⟨b0, 1, none⟩) (Kd.R_far (p := ⟨b0, 0, none⟩) (Kd.R_types b3.out a7.out (by decide)) (fun _ hk => hk.2) (.int .i64 d3)) (fun _ hk => hk.2) (.slice e0 b4.length d7)) (fun _ h_ => h_.1))) hb); replace d1 := am_ (Kd.R_below (by (with_reducible repeat (first | apply Kd.R_alloc | apply Kd.R_drewN | apply Kd.R_drew)); exact (Kd.R_mono (Kd.R_far (p := ⟨b0, 1, none⟩) (Kd.R_far (p := ⟨b0, 0, none⟩) (Kd.R_types d1.out a7.out (by decide)) (fun _ hk => hk.2) (.int .i64 d3)) (fun _ hk => hk.2) (.slice e0 b4.length d7)) (fun _ h_ => h_.1))) hb); replace h1 := am_ (Kd.R_below (by (with_reducible repeat (first | apply Kd.R_alloc | apply Kd.R_drewN | apply Kd.R_drew)); exact (Kd.R_mono (Kd.R_far (p := ⟨b0, 1, none⟩) (Kd.R_far (p := ⟨b0, 0, none⟩) (Kd.R_types h1.out a7.out (by decide)) (fun _ hk => hk.2) (.int .i64 d3)) (fun _ hk => hk.2) (.slice e0 b4.length d7)) (fun _ h_ => h_.1))) hb); replace a1 := qbl_ a1 hb; replace a0 := qbl_ a0 hb; replace a5 := qbl_ a5 hb; replace a6 := qbl_ a6 hb; replace a7 := am_ (blk_below (g := b0) (o := .cells #[.int .i64 d3, .slice e0 b4.length d7] 29 (0, 0)) (by (with_reducible repeat (first | refine blk_drewN ?_ _ | refine blk_drew ?_ | refine blk_alloc ?_ _)); refine blk_put (cs := #[.int .i64 d3, .slice none 0 0]) ?_ 1 _ rfl; (with_reducible repeat (first | refine blk_drewN ?_ _ | refine blk_drew ?_ | refine blk_alloc ?_ _)); refine blk_put (cs := #[.int .i64 0, .slice none 0 0]) ?_ 0 _ rfl; exact qf_ a7) hb); replace HB := hs_ hb; (try clear hb); (try clear hb2); (try clear hk); (try clear hi)))
   go_meet
   case rel => exact ⟨_, ((i4 != g7)), qe_, H', ⟨qo_⟩, ⟨by (with_reducible repeat (first | apply Kd.R_alloc | apply Kd.R_drewN | apply Kd.R_drew)); exact Kd.R_mono b3.out (fun _ hk => ⟨hk.2.1, hk.2.2⟩)⟩, ⟨by (with_reducible repeat (first | apply Kd.R_alloc | apply Kd.R_drewN | apply Kd.R_drew)); exact Kd.R_mono d1.out (fun _ hk => ⟨hk.2.1, hk.2.2⟩)⟩, ⟨by (with_reducible repeat (first | apply Kd.R_alloc | apply Kd.R_drewN | apply Kd.R_drew)); exact Kd.R_mono h1.out (fun _ hk => ⟨hk.2.1, hk.2.2⟩)⟩, ⟨qk_ a1⟩, ⟨qk_ a0⟩, ⟨qk_ a5⟩, ⟨qk_ a6⟩, ⟨qk_ a7⟩, ⟨qB_⟩⟩
  have H' := am_ H; clear H; obtain ⟨O9, P0⟩ := nn_ e4; obtain ⟨P1, P2⟩ := nn_ e5; obtain ⟨P3, P4⟩ := nn_ e6; obtain ⟨P5, P6⟩ := nn_ e7
  obtain ⟨n0, n1, n2, n3⟩ := bc2_ a7
  obtain ⟨P7, P8⟩ := nn_ d5; obtain ⟨P9, Q0⟩ := nn_ d6; obtain ⟨Q1, Q2⟩ := nn_ h3
  obtain ⟨n4, n5, n6, n7⟩ := bc2_ a5
  go_wp2_with (first | ((with_reducible refine gc_ 17 ?_); refine gl_ (some 40) Try.func17 #[.agg #[.int .i64 d3, .slice e0 b4.length d7], .agg #[.int .i64 d8, .slice e2 a9.length d4]] ?_; (with_reducible refine (laws_eqWeb.calls k d3 _ _ b4 d8 _ _ a9 false _ ?side1 ?side2 ?side3 ?side4 A50.out).mono ?_); (case side1 => refine (Kd.R_reads' (e := 72) (base := w.heap.size) (ok := fun k_ => (some k_ ≠ (h8 : Value).ownBlock ∧ (some k_ ≠ (.slice e2 a9.length d4 : Value).ownBlock ∧ some k_ ≠ (.slice b7 b9.length b8 : Value).ownBlock))) (n := b4.length) (c := d7) ?_).2.2; exact (by (with_reducible repeat (first | apply Kd.R_alloc | apply Kd.R_drewN | apply Kd.R_drew)); exact (Kd.R_mono (Kd.R_far (p := ⟨b0, 1, none⟩) (Kd.R_far (p := ⟨b0, 0, none⟩) (Kd.R_types h1.out a7.out (by decide)) (fun _ hk => hk.2) (.int .i64 d3)) (fun _ hk => hk.2) (.slice e0 b4.length d7)) (fun _ h_ => h_.1)))); (case side2 => exact (Kd.R_reads' h1.out).2.1); (case side3 => refine (Kd.R_reads' (e := 72) (base := w.heap.size) (ok := fun k_ => (some k_ ≠ (h8 : Value).ownBlock ∧ (some k_ ≠ (.slice b7 b9.length b8 : Value).ownBlock ∧ some k_ ≠ (.slice e0 b4.length d7 : Value).ownBlock))) (n := a9.length) (c := d4) ?_).2.2; exact (by (with_reducible repeat (first | apply Kd.R_alloc | apply Kd.R_drewN | apply Kd.R_drew)); exact (Kd.R_mono (Kd.R_far (p := ⟨b0, 1, none⟩) (Kd.R_far (p := ⟨b0, 0, none⟩) (Kd.R_types b3.out a7.out (by decide)) (fun _ hk => hk.2) (.int .i64 d3)) (fun _ hk => hk.2) (.slice e0 b4.length d7)) (fun _ h_ => h_.1)))); (case side4 => exact (Kd.R_reads' b3.out).2.1); rintro e w71 ⟨rfl, hb⟩; refine ⟨_, rfl, ?_⟩; replace a8 := am_ (Kd.R_below (by (with_reducible repeat (first | apply Kd.R_alloc | apply Kd.R_drewN | apply Kd.R_drew)); exact (Kd.R_mono (Kd.R_far (p := ⟨b0, 1, none⟩) (Kd.R_far (p := ⟨b0, 0, none⟩) (Kd.R_types a8.out a7.out (by decide)) (fun _ hk => hk.2) (.int .i64 d3)) (fun _ hk => hk.2) (.slice e0 b4.length d7)) (fun _ h_ => h_.1))) hb); replace b3 := am_ (Kd.R_below (by (with_reducible repeat (first | apply Kd.R_alloc | apply Kd.R_drewN | apply Kd.R_drew)); exact (Kd.R_mono (Kd.R_far (p := ⟨b0, 1, none⟩) (Kd.R_far (p := ⟨b0, 0, none⟩) (Kd.R_types b3.out a7.out (by decide)) (fun _ hk => hk.2) (.int .i64 d3)) (fun _ hk => hk.2) (.slice e0 b4.length d7)) (fun _ h_ => h_.1))) hb); replace d1 := am_ (Kd.R_below (by (with_reducible repeat (first | apply Kd.R_alloc | apply Kd.R_drewN | apply Kd.R_drew)); exact (Kd.R_mono (Kd.R_far (p := ⟨b0, 1, none⟩) (Kd.R_far (p := ⟨b0, 0, none⟩) (Kd.R_types d1.out a7.out (by decide)) (fun _ hk => hk.2) (.int .i64 d3)) (fun _ hk => hk.2) (.slice e0 b4.length d7)) (fun _ h_ => h_.1))) hb); replace h1 := am_ (Kd.R_below (by (with_reducible repeat (first | apply Kd.R_alloc | apply Kd.R_drewN | apply Kd.R_drew)); exact (Kd.R_mono (Kd.R_far (p := ⟨b0, 1, none⟩) (Kd.R_far (p := ⟨b0, 0, none⟩) (Kd.R_types h1.out a7.out (by decide)) (fun _ hk => hk.2) (.int .i64 d3)) (fun _ hk => hk.2) (.slice e0 b4.length d7)) (fun _ h_ => h_.1))) hb); replace a1 := qbl_ a1 hb; replace a0 := qbl_ a0 hb; replace a5 := qbl_ a5 hb; replace a6 := qbl_ a6 hb; replace a7 := am_ (blk_below (g := b0) (o := .cells #[.int .i64 d3, .slice e0 b4.length d7] 29 (0, 0)) (by (with_reducible repeat (first | refine blk_drewN ?_ _ | refine blk_drew ?_ | refine blk_alloc ?_ _)); refine blk_put (cs := #[.int .i64 d3, .slice none 0 0]) ?_ 1 _ rfl; (with_reducible repeat (first | refine blk_drewN ?_ _ | refine blk_drew ?_ | refine blk_alloc ?_ _)); refine blk_put (cs := #[.int .i64 0, .slice none 0 0]) ?_ 0 _ rfl; exact qf_ a7) hb); replace HB := hs_ hb; (try clear hb); (try clear hb2); (try clear hk); (try clear hi)))
  go_meet
  case rel => exact ⟨_, (true), qe_, H', ⟨qo_⟩, ⟨by (with_reducible repeat (first | apply Kd.R_alloc | apply Kd.R_drewN | apply Kd.R_drew)); exact Kd.R_mono b3.out (fun _ hk => ⟨hk.2.1, hk.2.2⟩)⟩, ⟨by (with_reducible repeat (first | apply Kd.R_alloc | apply Kd.R_drewN | apply Kd.R_drew)); exact Kd.R_mono d1.out (fun _ hk => ⟨hk.2.1, hk.2.2⟩)⟩, ⟨by (with_reducible repeat (first | apply Kd.R_alloc | apply Kd.R_drewN | apply Kd.R_drew)); exact Kd.R_mono h1.out (fun _ hk => ⟨hk.2.1, hk.2.2⟩)⟩, ⟨qk_ a1⟩, ⟨qk_ a0⟩, ⟨qk_ a5⟩, ⟨qk_ a6⟩, ⟨qk_ a7⟩, ⟨qB_⟩⟩
 case rest =>
  clear u5; (try clear c1); (try clear c2); (try clear p2); (try clear c3); (try clear c5); (try clear c6); (try clear c17); (try clear c21); (try clear c39); (try clear c51); (try clear c52); (try clear c53); (try clear c54); (try clear c55); (try clear c57); (try clear c58); (try clear c59); (try clear c62); (try clear c63); (try clear c64); (try clear c65); (try clear c67); (try clear c68); (try clear c69); (try clear m2 m3); (try clear m6 m7); (try clear n0 n1); (try clear n4 n5); (try clear m4 m5); (try clear m8 m9); (try clear n2 n3); (try clear n6 n7)
  obtain ⟨kq, x46_15, rfl, HA, o5, a4, a3, a2, a1, a0, a5, a6, a7, HB⟩ := hcut
  cases kq with
  | zero => exact absurd HA.out (by simp [laws_FnExactWebAdd.j0])
  | succ kj15 =>
   have H := HA.out; clear HA
   simp only [laws_FnExactWebAdd.j0] at H
   refine ie_ H ?_ ?_ <;> clear H <;> rintro rfl H
   ·exact absurd (oi_ H) (by decide)
   replace H := Option.bind_eq_some_iff.mp H
   obtain ⟨⟨r3, n9⟩, x1, H⟩ := H
   replace H : ((laws_eqWeb.f kj15 f1 b9 r3 n9).bind fun u6 => (if u6 = true then ((laws_markWeb.f kj15 f1 b9 1).bind fun x2 => (if x2.1 < 0 then (laws_FnExactWebAdd.j1 kj15 g7 true a0_0 l0_1 a1_0 a1_1 d8 a9 d3 b4) else ((laws_eqWeb.f kj15 d3 b4 d8 a9).bind fun o6 => (if o6 = true then (laws_FnExactWebAdd.j1 kj15 g7 (i4 != g7) a0_0 l0_1 a1_0 a1_1 d8 a9 d3 b4) else (laws_FnExactWebAdd.j1 kj15 g7 true a0_0 l0_1 a1_0 a1_1 d8 a9 d3 b4))))) else (some false))) = some true := H
   have A73 := am_ x1
   clear x1
   obtain ⟨u6, A74, H⟩ := bs_ H
   refine id_ H ?_ ?_ <;> clear H <;> rintro rfl H
   ·exact absurd (oi_ H) (by decide)
   replace H := Option.bind_eq_some_iff.mp H
   obtain ⟨⟨u7, h2⟩, x4, H⟩ := H
   replace H : (if u7 < 0 then (laws_FnExactWebAdd.j1 kj15 g7 true a0_0 l0_1 a1_0 a1_1 d8 a9 d3 b4) else ((laws_eqWeb.f kj15 d3 b4 d8 a9).bind fun o6 => (if o6 = true then (laws_FnExactWebAdd.j1 kj15 g7 (i4 != g7) a0_0 l0_1 a1_0 a1_1 d8 a9 d3 b4) else (laws_FnExactWebAdd.j1 kj15 g7 true a0_0 l0_1 a1_0 a1_1 d8 a9 d3 b4)))) = some true := H
   have A76 := am_ x4
   clear x4
   have u8 := am_ H
   clear H
   try go_wp2
   replace a4 := am_ (Kd.R_drew a4.out); replace a3 := am_ (Kd.R_drew a3.out); replace a2 := am_ (Kd.R_drew a2.out); replace a1 := am_ (blk_drew a1.out); replace a0 := am_ (blk_drew a0.out); replace a5 := am_ (blk_drew a5.out); replace a6 := am_ (blk_drew a6.out); replace a7 := am_ (blk_drew a7.out); replace HB := am_ (below_drew1 HB.out)
   refine start_ (n := 5) (S := fun w' => w'.cell? ⟨c0, 0, none⟩ = some (.int .i64 f1) ∧ w'.cell? ⟨c0, 1, none⟩ = some (.slice b7 b9.length b8) ∧ w'.cell? ⟨d9, 0, none⟩ = some (.int .i64 a0_0) ∧ w'.cell? ⟨d9, 1, none⟩ = some (.slice A0_1 l0_1.length c0_1)) (ds := []) (bm 5 0) (by kernel_rfl) rfl (by kernel_rfl) ⟨bl_ a6 0, bl_ a6 1, bl_ a1 0, bl_ a1 1⟩ (fun hHeld => ?_)
   generalize wc.drew = w78 at a4 a3 a2 a1 a0 a5 a6 a7 HB hHeld ⊢
   refine take_ (i := 0) (N := some 47) (v := ?_) (a' := ?_) (bm 5 1) rfl rfl (by kernel_rfl) (fun _ _ _ h => h) (Or.inl ⟨by rfl, ?_⟩) hHeld ?_ ?_
   rotate_left
   ·rintro w' ⟨s0, s1, s2, s3⟩
    go_simp
    with_reducible rfl
   rotate_left
   ·simp only [Act.put, sA_, sB_, sC_, i64_w, i32_w]
    rfl
   refine take_ (i := 1) (N := some 48) (v := ?_) (a' := ?_) (bm 5 3) rfl rfl (by kernel_rfl) (fun _ _ _ h => h) (Or.inl ⟨by rfl, ?_⟩) hHeld ?_ ?_
   rotate_left
   ·rintro w' ⟨s0, s1, s2, s3⟩
    go_simp
    with_reducible rfl
   rotate_left
   ·simp only [Act.put, sA_, sB_, sC_, i64_w, i32_w]
    rfl
   refine one_ (i := 2) (N := some 49) (bm 5 7) rfl rfl (by kernel_rfl) (by decide) (fun K hK => ?_)
   refine gs_ Try.func15 #[.agg #[.int .i64 a0_0, .slice A0_1 l0_1.length c0_1]] ?_
   with_reducible refine (laws_toWeb.calls kj15 a0_0 _ _ l0_1 r3 n9 _ ?side1 ?side2 A73.out).mono ?_
   (case side1 => exact qC_ HR0_1 HB)
   (case side2 => exact HC0_1.out)
   rintro e w79 ⟨S9, rfl, ho0, hb⟩
   refine ⟨_, rfl, ?_⟩
   have h9 := am_ (Kd.R_lower (Kd.R_new' (Kd.R_new' (Kd.R_new' ho0 (Kd.R_lt (qR_ a4))) (Kd.R_lt (qR_ a3))) (Kd.R_lt (qR_ a2))) (below_size qB_)); replace a4 := ke_ a4 ho0 hb; replace a3 := ke_ a3 ho0 hb; replace a2 := ke_ a2 ho0 hb; replace a1 := qbl_ a1 hb; replace a0 := qbl_ a0 hb; replace a5 := qbl_ a5 hb; replace a6 := qbl_ a6 hb; replace a7 := qbl_ a7 hb; replace HB := hs_ hb; (try clear hb); (try clear hb2); (try clear hk); (try clear hi); (try clear ho0)
   obtain ⟨u9, v0, x5⟩ := Kd.R_slice h9.out
   (first | subst x5 | (injection x5 with f1_ f2_ f3_; have f4_ := f1_.symm; have f5_ := f3_.symm; clear f1_ f2_ f3_; subst f4_; subst f5_))
   refine hK.out _ _ ⟨bl_ a6 0, bl_ a6 1, bl_ a1 0, bl_ a1 1⟩ (fun hHeld => ?_)
   clear hK K
   refine nm_ 49 ?_
   refine one_ (i := 3) (N := some 50) (bm 5 15) rfl rfl (by kernel_rfl) (by decide) (fun K hK => ?_)
   refine gs_ Try.func17 #[.agg #[.int .i64 f1, .slice b7 b9.length b8], .agg #[.int .i64 r3, .slice u9 n9.length v0]] ?_
   with_reducible refine (laws_eqWeb.calls kj15 f1 _ _ b9 r3 _ _ n9 true _ ?side1 ?side2 ?side3 ?side4 A74.out).mono ?_
   (case side1 => exact qD_ (Kd.R_reads' a3.out).2.2)
   (case side2 => exact (Kd.R_reads' a3.out).2.1)
   (case side3 => exact qD_ (Kd.R_reads' h9.out).2.2)
   (case side4 => exact (Kd.R_reads' h9.out).2.1)
   rintro e w81 ⟨rfl, hb⟩
   refine ⟨_, rfl, ?_⟩
   replace a4 := kb_ a4 hb; replace a3 := kb_ a3 hb; replace a2 := kb_ a2 hb; replace h9 := kb_ h9 hb; replace a1 := qbl_ a1 hb; replace a0 := qbl_ a0 hb; replace a5 := qbl_ a5 hb; replace a6 := qbl_ a6 hb; replace a7 := qbl_ a7 hb; replace HB := hs_ hb; (try clear hb); (try clear hb2); (try clear hk); (try clear hi)
   refine hK.out _ _ ⟨bl_ a6 0, bl_ a6 1, bl_ a1 0, bl_ a1 1⟩ (fun hHeld => ?_)
   clear hK K
   refine nm_ 50 ?_
   refine pure_ (i := 4) (N := some 51) (v := ?_) (a' := ?_) (bm 5 31) rfl rfl (by kernel_rfl) (fun _ _ _ h => h) (Or.inl ⟨by rfl, ?_⟩) ?_ ?_
   rotate_left
   ·intro w'
    go_simp
    with_reducible rfl
   rotate_left
   ·simp only [Act.put, sA_, sB_, sC_, i64_w, i32_w]
    rfl
   refine done_ (by kernel_rfl) ?_
   obtain ⟨Q3, Q4⟩ := nn_ l0; obtain ⟨Q5, Q6⟩ := nn_ l1; obtain ⟨Q7, Q8⟩ := nn_ l2; obtain ⟨Q9, R0⟩ := nn_ f0
   obtain ⟨r4, r5, r6, r7⟩ := bc2_ a6
   go_upto_region 14 with (first | ((with_reducible refine gc_ 35 ?_); refine gl_ (some 54) Try.func35 #[.agg #[.int .i64 f1, .slice b7 b9.length b8], .int .i64 1] ?_; (with_reducible refine (laws_markWeb.calls kj15 f1 (fun k_ => some k_ = (.slice b7 b9.length b8 : Value).ownBlock) (.slice b7 b9.length b8) b9 1 u7 h2 w _ ?side1 ?side2 A76.out).mono ?_); (case side1 => repeat (first | (with_reducible first | exact HB.out | apply below_alloc | apply pw_below_drewN | apply below_drew1 | refine below_set ?_ o1.out | refine below_set ?_ o3.out | refine below_set ?_ i2.out | refine below_set ?_ w7.out | refine below_set ?_ j8.out) | exact HB.out)); (case side2 => exact Kd.R_tight rfl a3.out); rintro e w87 ⟨rfl, hy0, hb, hkp⟩; refine ⟨_, rfl, ?_⟩; have n0_ := am_ (Kd.R_mono (ok' := fun k_ => some k_ ≠ (.slice b7 b9.length b8 : Value).ownBlock ∧ some k_ ≠ (.slice e0 b4.length d7 : Value).ownBlock ∧ some k_ ≠ (.slice u9 n9.length v0 : Value).ownBlock) (Kd.R_keptB (a4.out) hkp (fun k_ hk_ hs_ => by first | exact (hk_.1.1) hs_ | exact qv_ hk_ hs_)) (fun k_ hk_ => by first | exact ⟨hk_.1.1.1, hk_.1.1.2, hk_.1.2⟩ | exact qw_ hk_)); have n1_ := am_ (Kd.R_reok rfl hy0 (fun k_ e_ => a3.out.1 k_ e_)); have n2_ := am_ (Kd.R_mono (ok' := fun k_ => some k_ ≠ (.slice e2 a9.length d4 : Value).ownBlock ∧ some k_ ≠ (.slice b7 b9.length b8 : Value).ownBlock ∧ some k_ ≠ (.slice u9 n9.length v0 : Value).ownBlock) (Kd.R_keptB (a2.out) hkp (fun k_ hk_ hs_ => by first | exact (hk_.1.2) hs_ | exact qv_ hk_ hs_)) (fun k_ hk_ => by first | exact ⟨hk_.1.1.1, hk_.1.1.2, hk_.1.2⟩ | exact qw_ hk_)); have n3_ := (qkp_ a1 hkp (fun hs_ => (fun e_ => (Kd.R_ne a3.out a1.out (by decide)) e_) hs_)); have n4_ := (qkp_ a0 hkp (fun hs_ => (fun e_ => (Kd.R_ne a3.out a0.out (by decide)) e_) hs_)); have n5_ := (qkp_ a5 hkp (fun hs_ => (fun e_ => (Kd.R_ne a3.out a5.out (by decide)) e_) hs_)); have n6_ := (qkp_ a6 hkp (fun hs_ => (fun e_ => (Kd.R_ne a3.out a6.out (by decide)) e_) hs_)); have n7_ := (qkp_ a7 hkp (fun hs_ => (fun e_ => (Kd.R_ne a3.out a7.out (by decide)) e_) hs_)); have n8_ := am_ (Kd.R_mono (ok' := fun k_ => some k_ ≠ (.slice e2 a9.length d4 : Value).ownBlock ∧ some k_ ≠ (.slice b7 b9.length b8 : Value).ownBlock ∧ some k_ ≠ (.slice e0 b4.length d7 : Value).ownBlock) (Kd.R_keptB (h9.out) hkp (fun k_ hk_ hs_ => by first | exact (hk_.1.2) hs_ | exact qv_ hk_ hs_)) (fun k_ hk_ => by first | exact ⟨hk_.1.1.1.2, hk_.1.1.2, hk_.1.2⟩ | exact qw_ hk_)); have n9_ := am_ (hb); clear a4; clear a3; clear a2; clear a1; clear a0; clear a5; clear a6; clear a7; clear h9; clear HB; have a4 := n0_; have a3 := n1_; have a2 := n2_; have a1 := n3_; have a0 := n4_; have a5 := n5_; have a6 := n6_; have a7 := n7_; have h9 := n8_; have HB := n9_; clear n0_ n1_ n2_ n3_ n4_ n5_ n6_ n7_ n8_ n9_; (try clear hb); (try clear hkp); (try clear hy0)))
   (try simp only [Act.put, sA_, sB_, sC_])
   go_cut [67] (fun v67 wc => ∃ (kq : Nat) (x67_76 : Bool), v67 = .bool x67_76 ∧ Aside0 (laws_FnExactWebAdd.j1 kq g7 x67_76 a0_0 l0_1 a1_0 a1_1 d8 a9 d3 b4 = some true) ∧ Aside0 (kq ≤ kj15) ∧ Aside0 (Kd.R k72 72 wc w.heap.size (fun k_ => some k_ ≠ ((.slice b7 b9.length b8) : Value).ownBlock ∧ some k_ ≠ ((.slice e0 b4.length d7) : Value).ownBlock) (.slice e2 a9.length d4) a9) ∧ Aside0 (Kd.R k72 72 wc w.heap.size (fun k_ => some k_ ≠ ((.slice e2 a9.length d4) : Value).ownBlock ∧ some k_ ≠ ((.slice e0 b4.length d7) : Value).ownBlock) (.slice b7 b9.length b8) h2) ∧ Aside0 (Kd.R k72 72 wc w.heap.size (fun k_ => some k_ ≠ ((.slice e2 a9.length d4) : Value).ownBlock ∧ some k_ ≠ ((.slice b7 b9.length b8) : Value).ownBlock) (.slice e0 b4.length d7) b4) ∧ Aside0 (wc.heap[d9]? = some (.cells #[.int .i64 a0_0, (.slice A0_1 l0_1.length c0_1)] 24 (0, 0))) ∧ Aside0 (wc.heap[d2]? = some (.cells #[.int .i64 a1_0, .int .i64 a1_1] 37 (0, 0))) ∧ Aside0 (wc.heap[b5]? = some (.cells #[.int .i64 d8, (.slice e2 a9.length d4)] 29 (0, 0))) ∧ Aside0 (wc.heap[c0]? = some (.cells #[.int .i64 f1, (.slice b7 b9.length b8)] 29 (0, 0))) ∧ Aside0 (wc.heap[b0]? = some (.cells #[.int .i64 d3, (.slice e0 b4.length d7)] 29 (0, 0))) ∧ Aside0 (Below w.heap.size w wc))
   case first =>
    have H := u8.out; clear u8
    refine ic_ H ?_ ?_ <;> clear H <;> intro c88b0 H
    ·(first | rw [c88b0] | (simp only [i64_w, i32_w]; rw [c88b0]) | skip)
     have H' := am_ H; clear H
     go_wp2
     go_meet
     case rel => exact ⟨_, (true), qe_, H', ⟨by have := o5.out; first | omega | exact Nat.le_refl _⟩, ⟨by (with_reducible repeat (first | apply Kd.R_alloc | apply Kd.R_drewN | apply Kd.R_drew)); exact Kd.R_mono a4.out (fun _ hk => ⟨hk.1, hk.2.1⟩)⟩, ⟨by (with_reducible repeat (first | apply Kd.R_alloc | apply Kd.R_drewN | apply Kd.R_drew)); exact Kd.R_mono a3.out (fun _ hk => ⟨hk.1.1, hk.1.2⟩)⟩, ⟨by (with_reducible repeat (first | apply Kd.R_alloc | apply Kd.R_drewN | apply Kd.R_drew)); exact Kd.R_mono a2.out (fun _ hk => ⟨hk.1, hk.2.1⟩)⟩, ⟨qk_ a1⟩, ⟨qk_ a0⟩, ⟨qk_ a5⟩, ⟨qk_ a6⟩, ⟨qk_ a7⟩, ⟨qB_⟩⟩
    (first | rw [c88b0] | (simp only [i64_w, i32_w]; rw [c88b0]) | skip)
    obtain ⟨o6, A89, H⟩ := bs_ H
    refine ie_ H ?_ ?_ <;> clear H <;> rintro rfl H
    ·have H' := am_ H; clear H; obtain ⟨R1, R2⟩ := nn_ e4; obtain ⟨R3, R4⟩ := nn_ e5; obtain ⟨R5, R6⟩ := nn_ e6; obtain ⟨R7, R8⟩ := nn_ e7
     obtain ⟨r8, r9, s4, s5⟩ := bc2_ a7
     obtain ⟨R9, S0⟩ := nn_ d5; obtain ⟨S1, S2⟩ := nn_ d6; obtain ⟨S3, S4⟩ := nn_ h3
     obtain ⟨s6, s7, s8, s9⟩ := bc2_ a5
     go_wp2_with (first | (go_at_call 17; (with_reducible refine (laws_eqWeb.calls kj15 d3 _ _ b4 d8 _ _ a9 true _ ?_ ?_ ?_ ?_ A89.out).mono ?_); exact qD_ (Kd.R_reads' a2.out).2.2; exact (Kd.R_reads' a2.out).2.1; exact qD_ (Kd.R_reads' a4.out).2.2; exact (Kd.R_reads' a4.out).2.1; rintro e w100 ⟨rfl, hb⟩; replace a4 := kb_ a4 hb; replace a3 := kb_ a3 hb; replace a2 := kb_ a2 hb; replace h9 := kb_ h9 hb; replace a1 := qbl_ a1 hb; replace a0 := qbl_ a0 hb; replace a5 := qbl_ a5 hb; replace a6 := qbl_ a6 hb; replace a7 := qbl_ a7 hb; replace HB := hs_ hb; (try clear hb); (try clear hb2); (try clear hk); (try clear hi)))
     go_meet
     case rel => exact ⟨_, ((i4 != g7)), qe_, H', ⟨by have := o5.out; first | omega | exact Nat.le_refl _⟩, ⟨by (with_reducible repeat (first | apply Kd.R_alloc | apply Kd.R_drewN | apply Kd.R_drew)); exact Kd.R_mono a4.out (fun _ hk => ⟨hk.1, hk.2.1⟩)⟩, ⟨by (with_reducible repeat (first | apply Kd.R_alloc | apply Kd.R_drewN | apply Kd.R_drew)); exact Kd.R_mono a3.out (fun _ hk => ⟨hk.1.1, hk.1.2⟩)⟩, ⟨by (with_reducible repeat (first | apply Kd.R_alloc | apply Kd.R_drewN | apply Kd.R_drew)); exact Kd.R_mono a2.out (fun _ hk => ⟨hk.1, hk.2.1⟩)⟩, ⟨qk_ a1⟩, ⟨qk_ a0⟩, ⟨qk_ a5⟩, ⟨qk_ a6⟩, ⟨qk_ a7⟩, ⟨qB_⟩⟩
    have H' := am_ H; clear H; obtain ⟨F4, F5⟩ := nn_ e4; obtain ⟨F6, F7⟩ := nn_ e5; obtain ⟨F8, F9⟩ := nn_ e6; obtain ⟨G0, G1⟩ := nn_ e7
    obtain ⟨o7, o8, o9, p0⟩ := bc2_ a7
    obtain ⟨G2, G3⟩ := nn_ d5; obtain ⟨G4, G5⟩ := nn_ d6; obtain ⟨G6, G7⟩ := nn_ h3
    obtain ⟨p1, p3, p4, p5⟩ := bc2_ a5
    go_wp2_with (first | (go_at_call 17; (with_reducible refine (laws_eqWeb.calls kj15 d3 _ _ b4 d8 _ _ a9 false _ ?_ ?_ ?_ ?_ A89.out).mono ?_); exact qD_ (Kd.R_reads' a2.out).2.2; exact (Kd.R_reads' a2.out).2.1; exact qD_ (Kd.R_reads' a4.out).2.2; exact (Kd.R_reads' a4.out).2.1; rintro e w110 ⟨rfl, hb⟩; replace a4 := kb_ a4 hb; replace a3 := kb_ a3 hb; replace a2 := kb_ a2 hb; replace h9 := kb_ h9 hb; replace a1 := qbl_ a1 hb; replace a0 := qbl_ a0 hb; replace a5 := qbl_ a5 hb; replace a6 := qbl_ a6 hb; replace a7 := qbl_ a7 hb; replace HB := hs_ hb; (try clear hb); (try clear hb2); (try clear hk); (try clear hi)))
    go_meet
    case rel => exact ⟨_, (true), qe_, H', ⟨by have := o5.out; first | omega | exact Nat.le_refl _⟩, ⟨by (with_reducible repeat (first | apply Kd.R_alloc | apply Kd.R_drewN | apply Kd.R_drew)); exact Kd.R_mono a4.out (fun _ hk => ⟨hk.1, hk.2.1⟩)⟩, ⟨by (with_reducible repeat (first | apply Kd.R_alloc | apply Kd.R_drewN | apply Kd.R_drew)); exact Kd.R_mono a3.out (fun _ hk => ⟨hk.1.1, hk.1.2⟩)⟩, ⟨by (with_reducible repeat (first | apply Kd.R_alloc | apply Kd.R_drewN | apply Kd.R_drew)); exact Kd.R_mono a2.out (fun _ hk => ⟨hk.1, hk.2.1⟩)⟩, ⟨qk_ a1⟩, ⟨qk_ a0⟩, ⟨qk_ a5⟩, ⟨qk_ a6⟩, ⟨qk_ a7⟩, ⟨qB_⟩⟩
   case rest =>
    clear u8; (try clear c1); (try clear c2); (try clear p2); (try clear c3); (try clear c5); (try clear c6); (try clear c7); (try clear c8); (try clear c9); (try clear c10); (try clear c15); (try clear c17); (try clear c21); (try clear c35); (try clear c39); (try clear c51); (try clear c52); (try clear c53); (try clear c54); (try clear c55); (try clear c57); (try clear c58); (try clear c59); (try clear c62); (try clear c63); (try clear c64); (try clear c65); (try clear c67); (try clear c68); (try clear c69); (try clear c72); (try clear c75); (try clear c82); (try clear c83); (try clear c84); (try clear c85); (try clear c88); (try clear c88b0); (try clear c90); (try clear c91); (try clear c92); (try clear c93); (try clear c94); (try clear c96); (try clear c97); (try clear c98); (try clear c101); (try clear c102); (try clear c103); (try clear c104); (try clear c106); (try clear c107); (try clear c108); (try clear o7 o8); (try clear p1 p3); (try clear m2 m3); (try clear m6 m7); (try clear n0 n1); (try clear n4 n5); (try clear r4 r5); (try clear r8 r9); (try clear s6 s7); (try clear o9 p0); (try clear p4 p5); (try clear m4 m5); (try clear m8 m9); (try clear n2 n3); (try clear n6 n7); (try clear r6 r7); (try clear s4 s5); (try clear s8 s9); (try clear p2)
    obtain ⟨kq, x67_76, rfl, HA, x7, a4, a3, a2, a1, a0, a5, a6, a7, HB⟩ := hcut
    have hl638001_76 := (Kd.R_reads' a3.out).1
    rw [hl638001_76] at a3
    (try simp only [hl638001_76])
    (try simp only [hl638001_76] at a1)
    (try simp only [hl638001_76] at a0)
    (try simp only [hl638001_76] at a5)
    (try simp only [hl638001_76] at a6)
    (try simp only [hl638001_76] at a7)
    (try simp only [hl638001_76] at a4)
    (try simp only [hl638001_76] at a2)
    cases kq with
    | zero => exact absurd HA.out (by simp [laws_FnExactWebAdd.j1])
    | succ kj76 =>
     have H := HA.out; clear HA
     simp only [laws_FnExactWebAdd.j1] at H
     refine ie_ H ?_ ?_ <;> clear H <;> rintro rfl H
     ·exact absurd (oi_ H) (by decide)
     replace H := Option.bind_eq_some_iff.mp H
     obtain ⟨⟨h6, h7⟩, t3, H⟩ := H
     replace H : ((laws_heldWeb.f kj76 d3 h7 1).bind fun k9 => (if k9 < 0 then (some false) else (if k9 = h6 then ((laws_toWeb.f kj76 a0_0 l0_1).bind fun t4 => ((laws_toEdge.f a1_0 a1_1).bind fun m0 => ((impl_WebAdd.f kj76 t4.1 t4.2 m0.1 m0.2).bind fun i1 => ((laws_eqWeb.f kj76 i1.1 i1.2.1 d8 a9).bind fun l4 => (if l4 = true then (laws_FnExactWebAdd.j2 kj76 h6 (i1.2.2 != g7) d3 h7) else (laws_FnExactWebAdd.j2 kj76 h6 true d3 h7)))))) else (some false)))) = some true := H
     have G8 := am_ t3
     clear t3
     obtain ⟨k9, G9, H⟩ := bs_ H
     refine ic_ H ?_ ?_ <;> clear H <;> intro c114b0 H
     ·exact absurd (oi_ H) (by decide)
     refine jb_ H ?_ ?_ <;> clear H <;> intro c123 H
     ·have c123b0 : (k9 == h6) = false := beq_eq_false_iff_ne.mpr c123
      have c123b1 : (k9 != h6) = true := bne_iff_ne.mpr c123
      exact absurd (oi_ H) (by decide)
     have c123b0 : (k9 == h6) = true := beq_iff_eq.mpr c123
     have c123b1 : (k9 != h6) = false := bne_eq_false_iff_eq.mpr c123
     clear c123
     replace H := Option.bind_eq_some_iff.mp H
     obtain ⟨⟨i9, i0⟩, t6, H⟩ := H
     replace H : ((laws_toEdge.f a1_0 a1_1).bind fun m0 => ((impl_WebAdd.f kj76 i9 i0 m0.1 m0.2).bind fun i1 => ((laws_eqWeb.f kj76 i1.1 i1.2.1 d8 a9).bind fun l4 => (if l4 = true then (laws_FnExactWebAdd.j2 kj76 h6 (i1.2.2 != g7) d3 h7) else (laws_FnExactWebAdd.j2 kj76 h6 true d3 h7))))) = some true := H
     have x8 := am_ t6
     clear t6
     replace H := Option.bind_eq_some_iff.mp H
     obtain ⟨⟨j3, j4⟩, t7, H⟩ := H
     replace H : ((impl_WebAdd.f kj76 i9 i0 j3 j4).bind fun i1 => ((laws_eqWeb.f kj76 i1.1 i1.2.1 d8 a9).bind fun l4 => (if l4 = true then (laws_FnExactWebAdd.j2 kj76 h6 (i1.2.2 != g7) d3 h7) else (laws_FnExactWebAdd.j2 kj76 h6 true d3 h7)))) = some true := H
     have v1 := am_ t7
     clear t7
     replace H := Option.bind_eq_some_iff.mp H
     obtain ⟨⟨g9, g6, l5⟩, t8, H⟩ := H
     replace H : ((laws_eqWeb.f kj76 g9 g6 d8 a9).bind fun l4 => (if l4 = true then (laws_FnExactWebAdd.j2 kj76 h6 (l5 != g7) d3 h7) else (laws_FnExactWebAdd.j2 kj76 h6 true d3 h7))) = some true := H
     have t0 := am_ t8
     clear t8
     have p6 := am_ H
     clear H; obtain ⟨H0, H1⟩ := nn_ e4; obtain ⟨H2, H3⟩ := nn_ e5; obtain ⟨H4, H5⟩ := nn_ e6; obtain ⟨H6, H7⟩ := nn_ e7
     obtain ⟨x9, y0, y1, y2⟩ := bc2_ a7
     try go_wp2_with (first | ((with_reducible refine gc_ 35 ?_); refine gl_ (some 70) Try.func35 #[.agg #[.int .i64 d3, .slice e0 b4.length d7], .int .i64 1] ?_; (with_reducible refine (laws_markWeb.calls kj76 d3 (fun k_ => some k_ = (.slice e0 b4.length d7 : Value).ownBlock) (.slice e0 b4.length d7) b4 1 h6 h7 w _ ?side1 ?side2 G8.out).mono ?_); (case side1 => repeat (first | (with_reducible first | exact HB.out | apply below_alloc | apply pw_below_drewN | apply below_drew1 | refine below_set ?_ o1.out | refine below_set ?_ o3.out | refine below_set ?_ i2.out | refine below_set ?_ w7.out | refine below_set ?_ j8.out) | exact HB.out)); (case side2 => exact Kd.R_tight rfl a2.out); rintro e w133 ⟨rfl, hy0, hb, hkp⟩; refine ⟨_, rfl, ?_⟩; have n0_ := am_ (Kd.R_mono (ok' := fun k_ => some k_ ≠ (.slice b7 h2.length b8 : Value).ownBlock ∧ some k_ ≠ (.slice e0 b4.length d7 : Value).ownBlock) (Kd.R_keptB (a4.out) hkp (fun k_ hk_ hs_ => by first | exact (hk_.2) hs_ | exact qv_ hk_ hs_)) (fun k_ hk_ => by first | exact ⟨hk_.1.1, hk_.1.2⟩ | exact qw_ hk_)); have n1_ := am_ (Kd.R_mono (ok' := fun k_ => some k_ ≠ (.slice e2 a9.length d4 : Value).ownBlock ∧ some k_ ≠ (.slice e0 b4.length d7 : Value).ownBlock) (Kd.R_keptB (a3.out) hkp (fun k_ hk_ hs_ => by first | exact (hk_.2) hs_ | exact qv_ hk_ hs_)) (fun k_ hk_ => by first | exact ⟨hk_.1.1, hk_.1.2⟩ | exact qw_ hk_)); have n2_ := am_ (Kd.R_reok rfl hy0 (fun k_ e_ => a2.out.1 k_ e_)); have n3_ := (qkp_ a1 hkp (fun hs_ => (fun e_ => (Kd.R_ne a2.out a1.out (by decide)) e_) hs_)); have n4_ := (qkp_ a0 hkp (fun hs_ => (fun e_ => (Kd.R_ne a2.out a0.out (by decide)) e_) hs_)); have n5_ := (qkp_ a5 hkp (fun hs_ => (fun e_ => (Kd.R_ne a2.out a5.out (by decide)) e_) hs_)); have n6_ := (qkp_ a6 hkp (fun hs_ => (fun e_ => (Kd.R_ne a2.out a6.out (by decide)) e_) hs_)); have n7_ := (qkp_ a7 hkp (fun hs_ => (fun e_ => (Kd.R_ne a2.out a7.out (by decide)) e_) hs_)); have n8_ := am_ (hb); clear a4; clear a3; clear a2; clear a1; clear a0; clear a5; clear a6; clear a7; clear HB; have a4 := n0_; have a3 := n1_; have a2 := n2_; have a1 := n3_; have a0 := n4_; have a5 := n5_; have a6 := n6_; have a7 := n7_; have HB := n8_; clear n0_ n1_ n2_ n3_ n4_ n5_ n6_ n7_ n8_; (try clear hb); (try clear hkp); (try clear hy0); obtain ⟨y3, y4, y5, y6⟩ := bc2_ a7) | ((with_reducible refine gc_ 40 ?_); refine goesL_ (some 73) rfl rfl Try.func40 (by kernel_rfl) rfl #[.agg #[.int .i64 d3, .slice e0 h7.length d7], .int .i64 1] rfl (by (try simp only [List.map_toArray, List.map_cons, List.map_nil]); first | done | (rw [show h7.length = b4.length from (Kd.R_reads' a2.out).1.symm] <;> rfl) | rfl | (simp only [List.length_drop, List.length_take]; rfl)) ?_; (with_reducible refine (laws_heldWeb.calls kj76 d3 _ _ h7 1 k9 _ ?side1 ?side2 G9.out).mono ?_); (case side1 => exact qD_ (Kd.R_reads' a2.out).2.2); (case side2 => rw [show h7.length = b4.length from (Kd.R_reads' a2.out).1.symm]; exact (Kd.R_reads' a2.out).2.1); rintro e w135 ⟨rfl, hb⟩; refine ⟨_, rfl, ?_⟩; replace a4 := kb_ a4 hb; replace a3 := kb_ a3 hb; replace a2 := kb_ a2 hb; replace a1 := qbl_ a1 hb; replace a0 := qbl_ a0 hb; replace a5 := qbl_ a5 hb; replace a6 := qbl_ a6 hb; replace a7 := qbl_ a7 hb; replace HB := hs_ hb; (try clear hb); (try clear hb2); (try clear hk); (try clear hi)))
     replace a4 := am_ (Kd.R_drew a4.out); replace a3 := am_ (Kd.R_drew a3.out); replace a2 := am_ (Kd.R_drew a2.out); replace a1 := am_ (blk_drew a1.out); replace a0 := am_ (blk_drew a0.out); replace a5 := am_ (blk_drew a5.out); replace a6 := am_ (blk_drew a6.out); replace a7 := am_ (blk_drew a7.out); replace HB := am_ (below_drew1 HB.out)
     refine start_ (n := 11) (S := fun w' => w'.cell? ⟨d9, 0, none⟩ = some (.int .i64 a0_0) ∧ w'.cell? ⟨d9, 1, none⟩ = some (.slice A0_1 l0_1.length c0_1) ∧ w'.cell? ⟨d2, 0, none⟩ = some (.int .i64 a1_0) ∧ w'.cell? ⟨d2, 1, none⟩ = some (.int .i64 a1_1)) (ds := []) (bm 11 0) (by kernel_rfl) rfl (by kernel_rfl) ⟨bl_ a1 0, bl_ a1 1, bl_ a0 0, bl_ a0 1⟩ (fun hHeld => ?_); refine with_tabW laws_FnExactWebAdd.tab24 laws_FnExactWebAdd.bits24 (fun HT_ HW_ => ?_)
     generalize w135.drew = w136 at a4 a3 a2 a1 a0 a5 a6 a7 HB hHeld ⊢
     refine tz4_ 0 80 11 1 ?_; refine tz4_ 2 82 11 5 ?_
     refine join_ (σ := Value × Value × Nat) 2 #[true, true, true, true, true, true, true, true, true, false, false] (fun s_ => [(81, .agg #[.int .i64 i9, s_.1]), (83, .agg #[.int .i64 j3, .int .i64 j4]), (84, .tuple #[.agg #[.int .i64 g9, s_.2.1], .bool l5]), (14, .pointer (some ⟨s_.2.2, 0, none⟩)), (79, .tuple #[.agg #[.int .i64 g9, s_.2.1], .bool l5]), (85, .agg #[.int .i64 g9, s_.2.1]), (86, .bool l5)]) (fun s_ w' => (w'.cell? ⟨d9, 0, none⟩ = some (.int .i64 a0_0) ∧ w'.cell? ⟨d9, 1, none⟩ = some (.slice A0_1 l0_1.length c0_1) ∧ w'.cell? ⟨d2, 0, none⟩ = some (.int .i64 a1_0) ∧ w'.cell? ⟨d2, 1, none⟩ = some (.int .i64 a1_1)) ∧ (Kd.R k72 72 w' w.heap.size (fun k_ => some k_ ≠ (s_.2.1 : Value).ownBlock ∧ some k_ ≠ (.slice e2 a9.length d4 : Value).ownBlock ∧ some k_ ≠ (.slice b7 h2.length b8 : Value).ownBlock ∧ some k_ ≠ (.slice e0 b4.length d7 : Value).ownBlock) s_.1 i0) ∧ (Kd.R k72 72 w' w.heap.size (fun k_ => some k_ ≠ (s_.1 : Value).ownBlock ∧ some k_ ≠ (.slice e2 a9.length d4 : Value).ownBlock ∧ some k_ ≠ (.slice b7 h2.length b8 : Value).ownBlock ∧ some k_ ≠ (.slice e0 b4.length d7 : Value).ownBlock) s_.2.1 g6) ∧ (Kd.R k72 72 w' w.heap.size (fun k_ => some k_ ≠ (s_.1 : Value).ownBlock ∧ some k_ ≠ (s_.2.1 : Value).ownBlock ∧ some k_ ≠ (.slice b7 h2.length b8 : Value).ownBlock ∧ some k_ ≠ (.slice e0 b4.length d7 : Value).ownBlock) (.slice e2 a9.length d4) a9) ∧ (Kd.R k72 72 w' w.heap.size (fun k_ => some k_ ≠ (s_.1 : Value).ownBlock ∧ some k_ ≠ (s_.2.1 : Value).ownBlock ∧ some k_ ≠ (.slice e2 a9.length d4 : Value).ownBlock ∧ some k_ ≠ (.slice e0 b4.length d7 : Value).ownBlock) (.slice b7 h2.length b8) h2) ∧ (Kd.R k72 72 w' w.heap.size (fun k_ => some k_ ≠ (s_.1 : Value).ownBlock ∧ some k_ ≠ (s_.2.1 : Value).ownBlock ∧ some k_ ≠ (.slice e2 a9.length d4 : Value).ownBlock ∧ some k_ ≠ (.slice b7 h2.length b8 : Value).ownBlock) (.slice e0 b4.length d7) h7) ∧ (w'.heap[d9]? = some (.cells #[.int .i64 a0_0, .slice A0_1 l0_1.length c0_1] 24 (0, 0))) ∧ (w'.heap[d2]? = some (.cells #[.int .i64 a1_0, .int .i64 a1_1] 37 (0, 0))) ∧ (w'.heap[b5]? = some (.cells #[.int .i64 d8, .slice e2 a9.length d4] 29 (0, 0))) ∧ (w'.heap[c0]? = some (.cells #[.int .i64 f1, .slice b7 h2.length b8] 29 (0, 0))) ∧ (w'.heap[b0]? = some (.cells #[.int .i64 d3, .slice e0 b4.length d7] 29 (0, 0))) ∧ (w'.heap[s_.2.2]? = some (.cells #[.int .i64 0, .slice none 0 0] 29 (0, 0))) ∧ (w.heap.size ≤ s_.2.2) ∧ (w.heap.size ≤ s_.2.2) ∧ (d9 ≠ s_.2.2) ∧ (s_.2.2 ≠ d9) ∧ (d2 ≠ s_.2.2) ∧ (s_.2.2 ≠ d2) ∧ (b5 ≠ s_.2.2) ∧ (s_.2.2 ≠ b5) ∧ (c0 ≠ s_.2.2) ∧ (s_.2.2 ≠ c0) ∧ (b0 ≠ s_.2.2) ∧ (s_.2.2 ≠ b0) ∧ (Below w.heap.size w w')) ?_ ?_
     rotate_left
     ·intro hCont
      refine two_ (i := 1) (j := 8) (Ni := some 81) (Nj := some 14) (bm 11 7) #[true, false, true, false, false, false, false, false, true, false, false] rfl rfl rfl rfl (two_of HT_.out (by kernel_rfl)) (by decide) (by decide) (fun K hK => ?_) (fun K hK => ?_)
      ·skip
       refine gs_ Try.func15 #[.agg #[.int .i64 a0_0, .slice A0_1 l0_1.length c0_1]] ?_
       with_reducible refine (laws_toWeb.calls kj76 a0_0 _ _ l0_1 i9 i0 _ ?side1 ?side2 x8.out).mono ?_
       (case side1 => exact qC_ HR0_1 HB)
       (case side2 => exact HC0_1.out)
       rintro e w137 ⟨k4, rfl, ho0, hb⟩
       refine ⟨_, rfl, ?_⟩
       have d0 := am_ (Kd.R_lower (Kd.R_new' (Kd.R_new' (Kd.R_new' ho0 (Kd.R_lt (qR_ a4))) (Kd.R_lt (qR_ a3))) (Kd.R_lt (qR_ a2))) (below_size qB_)); replace a4 := ke_ a4 ho0 hb; replace a3 := ke_ a3 ho0 hb; replace a2 := ke_ a2 ho0 hb; replace a1 := qbl_ a1 hb; replace a0 := qbl_ a0 hb; replace a5 := qbl_ a5 hb; replace a6 := qbl_ a6 hb; replace a7 := qbl_ a7 hb; replace HB := hs_ hb; (try clear hb); (try clear hb2); (try clear hk); (try clear hi); (try clear ho0)
       refine hK.out _ _ ⟨bl_ a1 0, bl_ a1 1, bl_ a0 0, bl_ a0 1⟩ (fun hHeld => ?_)
       clear hK K
       refine nm_ 81 ?_
       refine two_ (i := 3) (j := 8) (Ni := some 83) (Nj := some 14) (bm 11 15) #[true, true, true, false, false, false, false, false, true, false, false] rfl rfl rfl rfl (two_of HT_.out (by kernel_rfl)) (by decide) (by decide) (fun K hK => ?_) (fun K hK => ?_)
       ·skip
        refine gs_ Try.func21 #[.agg #[.int .i64 a1_0, .int .i64 a1_1]] ?_
        with_reducible refine (laws_toEdge.calls a1_0 a1_1 j3 j4 _ v1.out).mono ?_
        rintro e w138 ⟨rfl, hb⟩
        refine ⟨_, rfl, ?_⟩
        replace a4 := kb_ a4 hb; replace a3 := kb_ a3 hb; replace a2 := kb_ a2 hb; replace d0 := kb_ d0 hb; replace a1 := qbl_ a1 hb; replace a0 := qbl_ a0 hb; replace a5 := qbl_ a5 hb; replace a6 := qbl_ a6 hb; replace a7 := qbl_ a7 hb; replace HB := hs_ hb; (try clear hb); (try clear hb2); (try clear hk); (try clear hi)
        obtain ⟨t9, u0, u1⟩ := Kd.R_slice d0.out
        (first | subst u1 | (injection u1 with f1_ f2_ f3_; have f4_ := f1_.symm; have f5_ := f3_.symm; clear f1_ f2_ f3_; subst f4_; subst f5_))
        refine hK.out _ _ ⟨bl_ a1 0, bl_ a1 1, bl_ a0 0, bl_ a0 1⟩ (fun hHeld => ?_)
        clear hK K
        refine nm_ 83 ?_
        refine two_ (i := 4) (j := 8) (Ni := some 84) (Nj := some 14) (bm 11 31) #[true, true, true, true, false, false, false, false, true, false, false] rfl rfl rfl rfl (two_of HT_.out (by kernel_rfl)) (by decide) (by decide) (fun K hK => ?_) (fun K hK => ?_)
        ·skip
         refine gs_ Try.func39 #[.agg #[.int .i64 i9, .slice t9 i0.length u0], .agg #[.int .i64 j3, .int .i64 j4]] ?_
         with_reducible refine (impl_WebAdd.calls kj76 i9 _ _ i0 j3 j4 g9 g6 l5 _ ?side1 ?side2 t0.out).mono ?_
         (case side1 => exact qD_ (Kd.R_reads' d0.out).2.2)
         (case side2 => exact (Kd.R_reads' d0.out).2.1)
         rintro e w140 ⟨j5, rfl, ho0, hb⟩
         refine ⟨_, rfl, ?_⟩
         have g8 := am_ (Kd.R_lower (Kd.R_new' (Kd.R_new' (Kd.R_new' (Kd.R_new' ho0 (Kd.R_lt (qR_ a4))) (Kd.R_lt (qR_ a3))) (Kd.R_lt (qR_ a2))) (Kd.R_lt (qR_ d0))) (below_size qB_)); replace a4 := ke_ a4 ho0 hb; replace a3 := ke_ a3 ho0 hb; replace a2 := ke_ a2 ho0 hb; replace d0 := ke_ d0 ho0 hb; replace a1 := qbl_ a1 hb; replace a0 := qbl_ a0 hb; replace a5 := qbl_ a5 hb; replace a6 := qbl_ a6 hb; replace a7 := qbl_ a7 hb; replace HB := hs_ hb; (try clear hb); (try clear hb2); (try clear hk); (try clear hi); (try clear ho0)
         refine hK.out _ _ ⟨bl_ a1 0, bl_ a1 1, bl_ a0 0, bl_ a0 1⟩ (fun hHeld => ?_)
         clear hK K
         refine nm_ 84 ?_
         refine pz_ 5 79 11 63 ?_; refine pz_ 6 85 11 127 ?_; refine pz_ 7 86 11 255 ?_
         refine o1_ 8 (some 14) 11 511 (fun K hK => ?_)
         refine box_step ?hg (N := 14) ?hd (cs := #[.int .i64 0, .slice none 0 0]) (t := 29) ?hr ?_; (case hd => rfl); (case hg => rfl); (case hr => first | (go_simp; done) | (go_simp; rfl))
         intro b1 hg w141 hbox hb
         have b6 := am_ (hbox); have j9 := gw_ hg; have k0 := gw_ hg; have e8 := (qn_ a1 hg).1; have f3 := (qn_ a1 hg).2; have e9 := (qn_ a0 hg).1; have f4 := (qn_ a0 hg).2; have g4 := (qn_ a5 hg).1; have f5 := (qn_ a5 hg).2; have g5 := (qn_ a6 hg).1; have f6 := (qn_ a6 hg).2; have g0 := (qn_ a7 hg).1; have f7 := (qn_ a7 hg).2; replace a4 := kb_ a4 hb; replace a3 := kb_ a3 hb; replace a2 := kb_ a2 hb; replace d0 := kb_ d0 hb; replace g8 := kb_ g8 hb; replace a1 := qbl_ a1 hb; replace a0 := qbl_ a0 hb; replace a5 := qbl_ a5 hb; replace a6 := qbl_ a6 hb; replace a7 := qbl_ a7 hb; replace HB := hs_ hb; clear hb hbox hg
         refine hK.out _ _ ⟨bl_ a1 0, bl_ a1 1, bl_ a0 0, bl_ a0 1⟩ (fun hHeld => ?_)
         clear hK K
         refine nm_ 14 ?_
         exact norm_ (by simp only [putAll, Act.put, sA_, sB_, sC_]) (hCont (.slice t9 i0.length u0, j5, b1) _ ⟨hHeld, (by (with_reducible repeat (first | apply Kd.R_alloc | apply Kd.R_drewN | apply Kd.R_drew)); exact Kd.R_mono d0.out (fun _ hk => ⟨hk.2, ⟨hk.1.1.1.2, ⟨hk.1.1.2, hk.1.2⟩⟩⟩)), (by (with_reducible repeat (first | apply Kd.R_alloc | apply Kd.R_drewN | apply Kd.R_drew)); exact Kd.R_mono g8.out (fun _ hk => ⟨hk.2, ⟨hk.1.1.1.2, ⟨hk.1.1.2, hk.1.2⟩⟩⟩)), (by (with_reducible repeat (first | apply Kd.R_alloc | apply Kd.R_drewN | apply Kd.R_drew)); exact Kd.R_mono a4.out (fun _ hk => ⟨hk.1.2, ⟨hk.2, ⟨hk.1.1.1, hk.1.1.2⟩⟩⟩)), (by (with_reducible repeat (first | apply Kd.R_alloc | apply Kd.R_drewN | apply Kd.R_drew)); exact Kd.R_mono a3.out (fun _ hk => ⟨hk.1.2, ⟨hk.2, ⟨hk.1.1.1, hk.1.1.2⟩⟩⟩)), (by (with_reducible repeat (first | apply Kd.R_alloc | apply Kd.R_drewN | apply Kd.R_drew)); exact Kd.R_mono a2.out (fun _ hk => ⟨hk.1.2, ⟨hk.2, ⟨hk.1.1.1, hk.1.1.2⟩⟩⟩)), (qk_ a1), (qk_ a0), (qk_ a5), (qk_ a6), (qk_ a7), (qk_ b6), j9.out, k0.out, e8.out, f3.out, e9.out, f4.out, g4.out, f5.out, g5.out, f6.out, g0.out, f7.out, qB_⟩)
        skip
        refine box_step ?hg (N := 14) ?hd (cs := #[.int .i64 0, .slice none 0 0]) (t := 29) ?hr ?_; (case hd => rfl); (case hg => rfl); (case hr => first | (go_simp; done) | (go_simp; rfl))
        intro b1 hg w139 hbox hb
        have b6 := am_ (hbox); have j9 := gw_ hg; have k0 := gw_ hg; have e8 := (qn_ a1 hg).1; have f3 := (qn_ a1 hg).2; have e9 := (qn_ a0 hg).1; have f4 := (qn_ a0 hg).2; have g4 := (qn_ a5 hg).1; have f5 := (qn_ a5 hg).2; have g5 := (qn_ a6 hg).1; have f6 := (qn_ a6 hg).2; have g0 := (qn_ a7 hg).1; have f7 := (qn_ a7 hg).2; replace a4 := kb_ a4 hb; replace a3 := kb_ a3 hb; replace a2 := kb_ a2 hb; replace d0 := kb_ d0 hb; replace a1 := qbl_ a1 hb; replace a0 := qbl_ a0 hb; replace a5 := qbl_ a5 hb; replace a6 := qbl_ a6 hb; replace a7 := qbl_ a7 hb; replace HB := hs_ hb; clear hb hbox hg
        obtain ⟨k1, k2, k3⟩ := Kd.R_slice d0.out
        (first | subst k3 | (injection k3 with f1_ f2_ f3_; have f4_ := f1_.symm; have f5_ := f3_.symm; clear f1_ f2_ f3_; subst f4_; subst f5_))
        refine hK.out _ _ ⟨bl_ a1 0, bl_ a1 1, bl_ a0 0, bl_ a0 1⟩ (fun hHeld => ?_)
        clear hK K
        refine nm_ 14 ?_
        refine o1_ 4 (some 84) 11 287 (fun K hK => ?_)
        refine gs_ Try.func39 #[.agg #[.int .i64 i9, .slice k1 i0.length k2], .agg #[.int .i64 j3, .int .i64 j4]] ?_
        with_reducible refine (impl_WebAdd.calls kj76 i9 _ _ i0 j3 j4 g9 g6 l5 _ ?side1 ?side2 t0.out).mono ?_
        (case side1 => exact qD_ (Kd.R_reads' d0.out).2.2)
        (case side2 => exact (Kd.R_reads' d0.out).2.1)
        rintro e w141 ⟨j5, rfl, ho0, hb⟩
        refine ⟨_, rfl, ?_⟩
        have g8 := am_ (Kd.R_lower (Kd.R_new' (Kd.R_new' (Kd.R_new' (Kd.R_new' ho0 (Kd.R_lt (qR_ a4))) (Kd.R_lt (qR_ a3))) (Kd.R_lt (qR_ a2))) (Kd.R_lt (qR_ d0))) (below_size qB_)); replace a4 := ke_ a4 ho0 hb; replace a3 := ke_ a3 ho0 hb; replace a2 := ke_ a2 ho0 hb; replace d0 := ke_ d0 ho0 hb; replace a1 := qbl_ a1 hb; replace a0 := qbl_ a0 hb; replace a5 := qbl_ a5 hb; replace a6 := qbl_ a6 hb; replace a7 := qbl_ a7 hb; replace b6 := qbl_ b6 hb; replace HB := hs_ hb; (try clear hb); (try clear hb2); (try clear hk); (try clear hi); (try clear ho0)
        refine hK.out _ _ ⟨bl_ a1 0, bl_ a1 1, bl_ a0 0, bl_ a0 1⟩ (fun hHeld => ?_)
        clear hK K
        refine nm_ 84 ?_
        refine pz_ 5 79 11 319 ?_; refine pz_ 6 85 11 383 ?_; refine pz_ 7 86 11 511 ?_
        exact norm_ (by simp only [putAll, Act.put, sA_, sB_, sC_]) (hCont (.slice k1 i0.length k2, j5, b1) _ ⟨hHeld, (by (with_reducible repeat (first | apply Kd.R_alloc | apply Kd.R_drewN | apply Kd.R_drew)); exact Kd.R_mono d0.out (fun _ hk => ⟨hk.2, ⟨hk.1.1.1.2, ⟨hk.1.1.2, hk.1.2⟩⟩⟩)), (by (with_reducible repeat (first | apply Kd.R_alloc | apply Kd.R_drewN | apply Kd.R_drew)); exact Kd.R_mono g8.out (fun _ hk => ⟨hk.2, ⟨hk.1.1.1.2, ⟨hk.1.1.2, hk.1.2⟩⟩⟩)), (by (with_reducible repeat (first | apply Kd.R_alloc | apply Kd.R_drewN | apply Kd.R_drew)); exact Kd.R_mono a4.out (fun _ hk => ⟨hk.1.2, ⟨hk.2, ⟨hk.1.1.1, hk.1.1.2⟩⟩⟩)), (by (with_reducible repeat (first | apply Kd.R_alloc | apply Kd.R_drewN | apply Kd.R_drew)); exact Kd.R_mono a3.out (fun _ hk => ⟨hk.1.2, ⟨hk.2, ⟨hk.1.1.1, hk.1.1.2⟩⟩⟩)), (by (with_reducible repeat (first | apply Kd.R_alloc | apply Kd.R_drewN | apply Kd.R_drew)); exact Kd.R_mono a2.out (fun _ hk => ⟨hk.1.2, ⟨hk.2, ⟨hk.1.1.1, hk.1.1.2⟩⟩⟩)), (qk_ a1), (qk_ a0), (qk_ a5), (qk_ a6), (qk_ a7), (qk_ b6), j9.out, k0.out, e8.out, f3.out, e9.out, f4.out, g4.out, f5.out, g5.out, f6.out, g0.out, f7.out, qB_⟩)
       skip
       refine box_step ?hg (N := 14) ?hd (cs := #[.int .i64 0, .slice none 0 0]) (t := 29) ?hr ?_; (case hd => rfl); (case hg => rfl); (case hr => first | (go_simp; done) | (go_simp; rfl))
       intro b1 hg w138 hbox hb
       have b6 := am_ (hbox); have j9 := gw_ hg; have k0 := gw_ hg; have e8 := (qn_ a1 hg).1; have f3 := (qn_ a1 hg).2; have e9 := (qn_ a0 hg).1; have f4 := (qn_ a0 hg).2; have g4 := (qn_ a5 hg).1; have f5 := (qn_ a5 hg).2; have g5 := (qn_ a6 hg).1; have f6 := (qn_ a6 hg).2; have g0 := (qn_ a7 hg).1; have f7 := (qn_ a7 hg).2; replace a4 := kb_ a4 hb; replace a3 := kb_ a3 hb; replace a2 := kb_ a2 hb; replace d0 := kb_ d0 hb; replace a1 := qbl_ a1 hb; replace a0 := qbl_ a0 hb; replace a5 := qbl_ a5 hb; replace a6 := qbl_ a6 hb; replace a7 := qbl_ a7 hb; replace HB := hs_ hb; clear hb hbox hg
       refine hK.out _ _ ⟨bl_ a1 0, bl_ a1 1, bl_ a0 0, bl_ a0 1⟩ (fun hHeld => ?_)
       clear hK K
       refine nm_ 14 ?_
       refine o1_ 3 (some 83) 11 271 (fun K hK => ?_)
       refine gs_ Try.func21 #[.agg #[.int .i64 a1_0, .int .i64 a1_1]] ?_
       with_reducible refine (laws_toEdge.calls a1_0 a1_1 j3 j4 _ v1.out).mono ?_
       rintro e w139 ⟨rfl, hb⟩
       refine ⟨_, rfl, ?_⟩
       replace a4 := kb_ a4 hb; replace a3 := kb_ a3 hb; replace a2 := kb_ a2 hb; replace d0 := kb_ d0 hb; replace a1 := qbl_ a1 hb; replace a0 := qbl_ a0 hb; replace a5 := qbl_ a5 hb; replace a6 := qbl_ a6 hb; replace a7 := qbl_ a7 hb; replace b6 := qbl_ b6 hb; replace HB := hs_ hb; (try clear hb); (try clear hb2); (try clear hk); (try clear hi)
       obtain ⟨k1, k2, k3⟩ := Kd.R_slice d0.out
       (first | subst k3 | (injection k3 with f1_ f2_ f3_; have f4_ := f1_.symm; have f5_ := f3_.symm; clear f1_ f2_ f3_; subst f4_; subst f5_))
       refine hK.out _ _ ⟨bl_ a1 0, bl_ a1 1, bl_ a0 0, bl_ a0 1⟩ (fun hHeld => ?_)
       clear hK K
       refine nm_ 83 ?_
       refine o1_ 4 (some 84) 11 287 (fun K hK => ?_)
       refine gs_ Try.func39 #[.agg #[.int .i64 i9, .slice k1 i0.length k2], .agg #[.int .i64 j3, .int .i64 j4]] ?_
       with_reducible refine (impl_WebAdd.calls kj76 i9 _ _ i0 j3 j4 g9 g6 l5 _ ?side1 ?side2 t0.out).mono ?_
       (case side1 => exact qD_ (Kd.R_reads' d0.out).2.2)
       (case side2 => exact (Kd.R_reads' d0.out).2.1)
       rintro e w141 ⟨j5, rfl, ho0, hb⟩
       refine ⟨_, rfl, ?_⟩
       have g8 := am_ (Kd.R_lower (Kd.R_new' (Kd.R_new' (Kd.R_new' (Kd.R_new' ho0 (Kd.R_lt (qR_ a4))) (Kd.R_lt (qR_ a3))) (Kd.R_lt (qR_ a2))) (Kd.R_lt (qR_ d0))) (below_size qB_)); replace a4 := ke_ a4 ho0 hb; replace a3 := ke_ a3 ho0 hb; replace a2 := ke_ a2 ho0 hb; replace d0 := ke_ d0 ho0 hb; replace a1 := qbl_ a1 hb; replace a0 := qbl_ a0 hb; replace a5 := qbl_ a5 hb; replace a6 := qbl_ a6 hb; replace a7 := qbl_ a7 hb; replace b6 := qbl_ b6 hb; replace HB := hs_ hb; (try clear hb); (try clear hb2); (try clear hk); (try clear hi); (try clear ho0)
       refine hK.out _ _ ⟨bl_ a1 0, bl_ a1 1, bl_ a0 0, bl_ a0 1⟩ (fun hHeld => ?_)
       clear hK K
       refine nm_ 84 ?_
       refine pz_ 5 79 11 319 ?_; refine pz_ 6 85 11 383 ?_; refine pz_ 7 86 11 511 ?_
       exact norm_ (by simp only [putAll, Act.put, sA_, sB_, sC_]) (hCont (.slice k1 i0.length k2, j5, b1) _ ⟨hHeld, (by (with_reducible repeat (first | apply Kd.R_alloc | apply Kd.R_drewN | apply Kd.R_drew)); exact Kd.R_mono d0.out (fun _ hk => ⟨hk.2, ⟨hk.1.1.1.2, ⟨hk.1.1.2, hk.1.2⟩⟩⟩)), (by (with_reducible repeat (first | apply Kd.R_alloc | apply Kd.R_drewN | apply Kd.R_drew)); exact Kd.R_mono g8.out (fun _ hk => ⟨hk.2, ⟨hk.1.1.1.2, ⟨hk.1.1.2, hk.1.2⟩⟩⟩)), (by (with_reducible repeat (first | apply Kd.R_alloc | apply Kd.R_drewN | apply Kd.R_drew)); exact Kd.R_mono a4.out (fun _ hk => ⟨hk.1.2, ⟨hk.2, ⟨hk.1.1.1, hk.1.1.2⟩⟩⟩)), (by (with_reducible repeat (first | apply Kd.R_alloc | apply Kd.R_drewN | apply Kd.R_drew)); exact Kd.R_mono a3.out (fun _ hk => ⟨hk.1.2, ⟨hk.2, ⟨hk.1.1.1, hk.1.1.2⟩⟩⟩)), (by (with_reducible repeat (first | apply Kd.R_alloc | apply Kd.R_drewN | apply Kd.R_drew)); exact Kd.R_mono a2.out (fun _ hk => ⟨hk.1.2, ⟨hk.2, ⟨hk.1.1.1, hk.1.1.2⟩⟩⟩)), (qk_ a1), (qk_ a0), (qk_ a5), (qk_ a6), (qk_ a7), (qk_ b6), j9.out, k0.out, e8.out, f3.out, e9.out, f4.out, g4.out, f5.out, g5.out, f6.out, g0.out, f7.out, qB_⟩)
      skip
      refine box_step ?hg (N := 14) ?hd (cs := #[.int .i64 0, .slice none 0 0]) (t := 29) ?hr ?_; (case hd => rfl); (case hg => rfl); (case hr => first | (go_simp; done) | (go_simp; rfl))
      intro b1 hg w137 hbox hb
      have b6 := am_ (hbox); have j9 := gw_ hg; have k0 := gw_ hg; have e8 := (qn_ a1 hg).1; have f3 := (qn_ a1 hg).2; have e9 := (qn_ a0 hg).1; have f4 := (qn_ a0 hg).2; have g4 := (qn_ a5 hg).1; have f5 := (qn_ a5 hg).2; have g5 := (qn_ a6 hg).1; have f6 := (qn_ a6 hg).2; have g0 := (qn_ a7 hg).1; have f7 := (qn_ a7 hg).2; replace a4 := kb_ a4 hb; replace a3 := kb_ a3 hb; replace a2 := kb_ a2 hb; replace a1 := qbl_ a1 hb; replace a0 := qbl_ a0 hb; replace a5 := qbl_ a5 hb; replace a6 := qbl_ a6 hb; replace a7 := qbl_ a7 hb; replace HB := hs_ hb; clear hb hbox hg
      refine hK.out _ _ ⟨bl_ a1 0, bl_ a1 1, bl_ a0 0, bl_ a0 1⟩ (fun hHeld => ?_)
      clear hK K
      refine nm_ 14 ?_
      refine o1_ 1 (some 81) 11 263 (fun K hK => ?_)
      refine gs_ Try.func15 #[.agg #[.int .i64 a0_0, .slice A0_1 l0_1.length c0_1]] ?_
      with_reducible refine (laws_toWeb.calls kj76 a0_0 _ _ l0_1 i9 i0 _ ?side1 ?side2 x8.out).mono ?_
      (case side1 => exact qC_ HR0_1 HB)
      (case side2 => exact HC0_1.out)
      rintro e w138 ⟨k4, rfl, ho0, hb⟩
      refine ⟨_, rfl, ?_⟩
      have d0 := am_ (Kd.R_lower (Kd.R_new' (Kd.R_new' (Kd.R_new' ho0 (Kd.R_lt (qR_ a4))) (Kd.R_lt (qR_ a3))) (Kd.R_lt (qR_ a2))) (below_size qB_)); replace a4 := ke_ a4 ho0 hb; replace a3 := ke_ a3 ho0 hb; replace a2 := ke_ a2 ho0 hb; replace a1 := qbl_ a1 hb; replace a0 := qbl_ a0 hb; replace a5 := qbl_ a5 hb; replace a6 := qbl_ a6 hb; replace a7 := qbl_ a7 hb; replace b6 := qbl_ b6 hb; replace HB := hs_ hb; (try clear hb); (try clear hb2); (try clear hk); (try clear hi); (try clear ho0)
      refine hK.out _ _ ⟨bl_ a1 0, bl_ a1 1, bl_ a0 0, bl_ a0 1⟩ (fun hHeld => ?_)
      clear hK K
      refine nm_ 81 ?_
      refine o1_ 3 (some 83) 11 271 (fun K hK => ?_)
      refine gs_ Try.func21 #[.agg #[.int .i64 a1_0, .int .i64 a1_1]] ?_
      with_reducible refine (laws_toEdge.calls a1_0 a1_1 j3 j4 _ v1.out).mono ?_
      rintro e w139 ⟨rfl, hb⟩
      refine ⟨_, rfl, ?_⟩
      replace a4 := kb_ a4 hb; replace a3 := kb_ a3 hb; replace a2 := kb_ a2 hb; replace d0 := kb_ d0 hb; replace a1 := qbl_ a1 hb; replace a0 := qbl_ a0 hb; replace a5 := qbl_ a5 hb; replace a6 := qbl_ a6 hb; replace a7 := qbl_ a7 hb; replace b6 := qbl_ b6 hb; replace HB := hs_ hb; (try clear hb); (try clear hb2); (try clear hk); (try clear hi)
      obtain ⟨k1, k2, k3⟩ := Kd.R_slice d0.out
      (first | subst k3 | (injection k3 with f1_ f2_ f3_; have f4_ := f1_.symm; have f5_ := f3_.symm; clear f1_ f2_ f3_; subst f4_; subst f5_))
      refine hK.out _ _ ⟨bl_ a1 0, bl_ a1 1, bl_ a0 0, bl_ a0 1⟩ (fun hHeld => ?_)
      clear hK K
      refine nm_ 83 ?_
      refine o1_ 4 (some 84) 11 287 (fun K hK => ?_)
      refine gs_ Try.func39 #[.agg #[.int .i64 i9, .slice k1 i0.length k2], .agg #[.int .i64 j3, .int .i64 j4]] ?_
      with_reducible refine (impl_WebAdd.calls kj76 i9 _ _ i0 j3 j4 g9 g6 l5 _ ?side1 ?side2 t0.out).mono ?_
      (case side1 => exact qD_ (Kd.R_reads' d0.out).2.2)
      (case side2 => exact (Kd.R_reads' d0.out).2.1)
      rintro e w141 ⟨j5, rfl, ho0, hb⟩
      refine ⟨_, rfl, ?_⟩
      have g8 := am_ (Kd.R_lower (Kd.R_new' (Kd.R_new' (Kd.R_new' (Kd.R_new' ho0 (Kd.R_lt (qR_ a4))) (Kd.R_lt (qR_ a3))) (Kd.R_lt (qR_ a2))) (Kd.R_lt (qR_ d0))) (below_size qB_)); replace a4 := ke_ a4 ho0 hb; replace a3 := ke_ a3 ho0 hb; replace a2 := ke_ a2 ho0 hb; replace d0 := ke_ d0 ho0 hb; replace a1 := qbl_ a1 hb; replace a0 := qbl_ a0 hb; replace a5 := qbl_ a5 hb; replace a6 := qbl_ a6 hb; replace a7 := qbl_ a7 hb; replace b6 := qbl_ b6 hb; replace HB := hs_ hb; (try clear hb); (try clear hb2); (try clear hk); (try clear hi); (try clear ho0)
      refine hK.out _ _ ⟨bl_ a1 0, bl_ a1 1, bl_ a0 0, bl_ a0 1⟩ (fun hHeld => ?_)
      clear hK K
      refine nm_ 84 ?_
      refine pz_ 5 79 11 319 ?_; refine pz_ 6 85 11 383 ?_; refine pz_ 7 86 11 511 ?_
      exact norm_ (by simp only [putAll, Act.put, sA_, sB_, sC_]) (hCont (.slice k1 i0.length k2, j5, b1) _ ⟨hHeld, (by (with_reducible repeat (first | apply Kd.R_alloc | apply Kd.R_drewN | apply Kd.R_drew)); exact Kd.R_mono d0.out (fun _ hk => ⟨hk.2, ⟨hk.1.1.1.2, ⟨hk.1.1.2, hk.1.2⟩⟩⟩)), (by (with_reducible repeat (first | apply Kd.R_alloc | apply Kd.R_drewN | apply Kd.R_drew)); exact Kd.R_mono g8.out (fun _ hk => ⟨hk.2, ⟨hk.1.1.1.2, ⟨hk.1.1.2, hk.1.2⟩⟩⟩)), (by (with_reducible repeat (first | apply Kd.R_alloc | apply Kd.R_drewN | apply Kd.R_drew)); exact Kd.R_mono a4.out (fun _ hk => ⟨hk.1.2, ⟨hk.2, ⟨hk.1.1.1, hk.1.1.2⟩⟩⟩)), (by (with_reducible repeat (first | apply Kd.R_alloc | apply Kd.R_drewN | apply Kd.R_drew)); exact Kd.R_mono a3.out (fun _ hk => ⟨hk.1.2, ⟨hk.2, ⟨hk.1.1.1, hk.1.1.2⟩⟩⟩)), (by (with_reducible repeat (first | apply Kd.R_alloc | apply Kd.R_drewN | apply Kd.R_drew)); exact Kd.R_mono a2.out (fun _ hk => ⟨hk.1.2, ⟨hk.2, ⟨hk.1.1.1, hk.1.1.2⟩⟩⟩)), (qk_ a1), (qk_ a0), (qk_ a5), (qk_ a6), (qk_ a7), (qk_ b6), j9.out, k0.out, e8.out, f3.out, e9.out, f4.out, g4.out, f5.out, g5.out, f6.out, g0.out, f7.out, qB_⟩)
     rintro ⟨k4, j5, b1⟩ w142 ⟨hS_, h0_, h1_, h2_, h3_, h4_, h5_, h6_, h7_, h8_, h9_, h10_, h11_, h12_, h13_, h14_, h15_, h16_, h17_, h18_, h19_, h20_, h21_, h22_, h23_⟩
     have n0_ : Aside0 (Kd.R k72 72 w142 w.heap.size (fun k_ => some k_ ≠ (j5 : Value).ownBlock ∧ some k_ ≠ (.slice e2 a9.length d4 : Value).ownBlock ∧ some k_ ≠ (.slice b7 h2.length b8 : Value).ownBlock ∧ some k_ ≠ (.slice e0 b4.length d7 : Value).ownBlock) k4 i0) := ⟨h0_⟩
     have n1_ : Aside0 (Kd.R k72 72 w142 w.heap.size (fun k_ => some k_ ≠ (k4 : Value).ownBlock ∧ some k_ ≠ (.slice e2 a9.length d4 : Value).ownBlock ∧ some k_ ≠ (.slice b7 h2.length b8 : Value).ownBlock ∧ some k_ ≠ (.slice e0 b4.length d7 : Value).ownBlock) j5 g6) := ⟨h1_⟩
     have n2_ : Aside0 (Kd.R k72 72 w142 w.heap.size (fun k_ => some k_ ≠ (k4 : Value).ownBlock ∧ some k_ ≠ (j5 : Value).ownBlock ∧ some k_ ≠ (.slice b7 h2.length b8 : Value).ownBlock ∧ some k_ ≠ (.slice e0 b4.length d7 : Value).ownBlock) (.slice e2 a9.length d4) a9) := ⟨h2_⟩
     have n3_ : Aside0 (Kd.R k72 72 w142 w.heap.size (fun k_ => some k_ ≠ (k4 : Value).ownBlock ∧ some k_ ≠ (j5 : Value).ownBlock ∧ some k_ ≠ (.slice e2 a9.length d4 : Value).ownBlock ∧ some k_ ≠ (.slice e0 b4.length d7 : Value).ownBlock) (.slice b7 h2.length b8) h2) := ⟨h3_⟩
     have n4_ : Aside0 (Kd.R k72 72 w142 w.heap.size (fun k_ => some k_ ≠ (k4 : Value).ownBlock ∧ some k_ ≠ (j5 : Value).ownBlock ∧ some k_ ≠ (.slice e2 a9.length d4 : Value).ownBlock ∧ some k_ ≠ (.slice b7 h2.length b8 : Value).ownBlock) (.slice e0 b4.length d7) h7) := ⟨h4_⟩
     have n5_ : Aside0 (w142.heap[d9]? = some (.cells #[.int .i64 a0_0, .slice A0_1 l0_1.length c0_1] 24 (0, 0))) := ⟨h5_⟩
     have n6_ : Aside0 (w142.heap[d2]? = some (.cells #[.int .i64 a1_0, .int .i64 a1_1] 37 (0, 0))) := ⟨h6_⟩
     have n7_ : Aside0 (w142.heap[b5]? = some (.cells #[.int .i64 d8, .slice e2 a9.length d4] 29 (0, 0))) := ⟨h7_⟩
     have n8_ : Aside0 (w142.heap[c0]? = some (.cells #[.int .i64 f1, .slice b7 h2.length b8] 29 (0, 0))) := ⟨h8_⟩
     have n9_ : Aside0 (w142.heap[b0]? = some (.cells #[.int .i64 d3, .slice e0 b4.length d7] 29 (0, 0))) := ⟨h9_⟩
     have n10_ : Aside0 (w142.heap[b1]? = some (.cells #[.int .i64 0, .slice none 0 0] 29 (0, 0))) := ⟨h10_⟩
     have n11_ : Aside0 (w.heap.size ≤ b1) := ⟨h11_⟩
     have n12_ : Aside0 (w.heap.size ≤ b1) := ⟨h12_⟩
     have n13_ : Aside0 (d9 ≠ b1) := ⟨h13_⟩
     have n14_ : Aside0 (b1 ≠ d9) := ⟨h14_⟩
     have n15_ : Aside0 (d2 ≠ b1) := ⟨h15_⟩
     have n16_ : Aside0 (b1 ≠ d2) := ⟨h16_⟩
     have n17_ : Aside0 (b5 ≠ b1) := ⟨h17_⟩
     have n18_ : Aside0 (b1 ≠ b5) := ⟨h18_⟩
     have n19_ : Aside0 (c0 ≠ b1) := ⟨h19_⟩
     have n20_ : Aside0 (b1 ≠ c0) := ⟨h20_⟩
     have n21_ : Aside0 (b0 ≠ b1) := ⟨h21_⟩
     have n22_ : Aside0 (b1 ≠ b0) := ⟨h22_⟩
     have n23_ : Aside0 (Below w.heap.size w w142) := ⟨h23_⟩
     clear a4; clear a3; clear a2; clear a1; clear a0; clear a5; clear a6; clear a7; clear HB; clear h0_ h1_ h2_ h3_ h4_ h5_ h6_ h7_ h8_ h9_ h10_ h11_ h12_ h13_ h14_ h15_ h16_ h17_ h18_ h19_ h20_ h21_ h22_ h23_; have d0 := n0_; have g8 := n1_; have a4 := n2_; have a3 := n3_; have a2 := n4_; have a1 := n5_; have a0 := n6_; have a5 := n7_; have a6 := n8_; have a7 := n9_; have b6 := n10_; have j9 := n11_; have k0 := n12_; have e8 := n13_; have f3 := n14_; have e9 := n15_; have f4 := n16_; have g4 := n17_; have f5 := n18_; have g5 := n19_; have f6 := n20_; have g0 := n21_; have f7 := n22_; have HB := n23_; clear n0_ n1_ n2_ n3_ n4_ n5_ n6_ n7_ n8_ n9_ n10_ n11_ n12_ n13_ n14_ n15_ n16_ n17_ n18_ n19_ n20_ n21_ n22_ n23_
     have hHeld : w142.cell? ⟨d9, 0, none⟩ = some (.int .i64 a0_0) ∧ w142.cell? ⟨d9, 1, none⟩ = some (.slice A0_1 l0_1.length c0_1) ∧ w142.cell? ⟨d2, 0, none⟩ = some (.int .i64 a1_0) ∧ w142.cell? ⟨d2, 1, none⟩ = some (.int .i64 a1_1) := hS_
     obtain ⟨g2, g1, u2⟩ := Kd.R_slice g8.out
     (first | subst u2 | (injection u2 with f1_ f2_ f3_; have f4_ := f1_.symm; have f5_ := f3_.symm; clear f1_ f2_ f3_; subst f4_; subst f5_))
     refine norm_ (a' := ?_) ?_ ?_
     rotate_left
     ·simp only [putAll, Act.put, sA_, sB_, sC_]
      rfl
     refine o1_ 9 none 11 1023 (fun K hK => ?_)
     have hs143 : w142.cell? ⟨b1, 0, none⟩ = some (.int .i64 0) := bl_ b6 0
     have hfs143 := blk_frozen b6.out 0
     have y7 := e8.out; have y8 := e9.out; have y9 := g4.out; have z0 := g5.out; have z1 := g0.out; have z2 := f3.out; have z3 := f4.out; have z4 := f5.out; have z5 := f6.out; have z6 := f7.out
     have hs145 : w142.cell? ⟨b1, 1, none⟩ = some (.slice none 0 0) := bl_ b6 1
     have hfs145 := blk_frozen b6.out 1
     have z7 := e8.out; have z8 := e9.out; have z9 := g4.out; have A0 := g5.out; have A1 := g0.out; have A2 := f3.out; have A4 := f4.out; have A5 := f5.out; have A6 := f6.out; have A7 := f7.out
     refine skip_ (w1 := ?_) (by rfl) rfl ?_ ?_
     rotate_left
     ·go_simp
      rfl
     refine hK.out _ _ ⟨((cell_far (p := ⟨b1, _, none⟩) e8.out _).trans (((cell_far (p := ⟨b1, _, none⟩) e8.out _).trans (hHeld.1)))), ((cell_far (p := ⟨b1, _, none⟩) e8.out _).trans (((cell_far (p := ⟨b1, _, none⟩) e8.out _).trans (hHeld.2.1)))), ((cell_far (p := ⟨b1, _, none⟩) e9.out _).trans (((cell_far (p := ⟨b1, _, none⟩) e9.out _).trans (hHeld.2.2.1)))), ((cell_far (p := ⟨b1, _, none⟩) e9.out _).trans (((cell_far (p := ⟨b1, _, none⟩) e9.out _).trans (hHeld.2.2.2))))⟩ (fun hHeld => ?_)
     clear hK K; refine pz_ 10 15 11 2047 ?_
     refine done_ (done_of HT_.out (by kernel_rfl)) ?_
     go_upto_region 25 with (fail)
     go_cut [95] (fun v95 wc => ∃ (kq : Nat) (x95_126 : Bool), v95 = .bool x95_126 ∧ Aside0 (laws_FnExactWebAdd.j2 kq h6 x95_126 d3 h7 = some true) ∧ Aside0 (kq ≤ kj76) ∧ Aside0 (Kd.R k72 72 wc w.heap.size (fun k_ => some k_ ≠ ((.slice b7 h2.length b8) : Value).ownBlock ∧ some k_ ≠ ((.slice e0 b4.length d7) : Value).ownBlock ∧ some k_ ≠ ((.slice g2 g6.length g1) : Value).ownBlock) (.slice e2 a9.length d4) a9) ∧ Aside0 (Kd.R k72 72 wc w.heap.size (fun k_ => some k_ ≠ ((.slice e2 a9.length d4) : Value).ownBlock ∧ some k_ ≠ ((.slice e0 b4.length d7) : Value).ownBlock ∧ some k_ ≠ ((.slice g2 g6.length g1) : Value).ownBlock) (.slice b7 h2.length b8) h2) ∧ Aside0 (Kd.R k72 72 wc w.heap.size (fun k_ => some k_ ≠ ((.slice e2 a9.length d4) : Value).ownBlock ∧ some k_ ≠ ((.slice b7 h2.length b8) : Value).ownBlock ∧ some k_ ≠ ((.slice g2 g6.length g1) : Value).ownBlock) (.slice e0 b4.length d7) h7) ∧ Aside0 (Kd.R k72 72 wc w.heap.size (fun k_ => some k_ ≠ ((.slice e2 a9.length d4) : Value).ownBlock ∧ some k_ ≠ ((.slice b7 h2.length b8) : Value).ownBlock ∧ some k_ ≠ ((.slice e0 b4.length d7) : Value).ownBlock) (.slice g2 g6.length g1) g6) ∧ Aside0 (wc.heap[d9]? = some (.cells #[.int .i64 a0_0, (.slice A0_1 l0_1.length c0_1)] 24 (0, 0))) ∧ Aside0 (wc.heap[d2]? = some (.cells #[.int .i64 a1_0, .int .i64 a1_1] 37 (0, 0))) ∧ Aside0 (wc.heap[b5]? = some (.cells #[.int .i64 d8, (.slice e2 a9.length d4)] 29 (0, 0))) ∧ Aside0 (wc.heap[c0]? = some (.cells #[.int .i64 f1, (.slice b7 h2.length b8)] 29 (0, 0))) ∧ Aside0 (wc.heap[b0]? = some (.cells #[.int .i64 d3, (.slice e0 b4.length d7)] 29 (0, 0))) ∧ Aside0 (wc.heap[b1]? = some (.cells #[.int .i64 g9, (.slice g2 g6.length g1)] 29 (0, 0))) ∧ Aside0 (Below w.heap.size w wc))
     case first =>
      have H := p6.out; clear p6
      obtain ⟨l4, A8, H⟩ := bs_ H
      refine ie_ H ?_ ?_ <;> clear H <;> rintro rfl H
      ·have H' := am_ H; clear H; obtain ⟨H8, H9⟩ := nn_ f3; obtain ⟨I0, I1⟩ := nn_ f4; obtain ⟨I2, I3⟩ := nn_ f5; obtain ⟨I4, I5⟩ := nn_ f6; obtain ⟨I6, I7⟩ := nn_ f7
       obtain ⟨p7, p8, p9, q0⟩ := bc2_ b6
       obtain ⟨I8, I9⟩ := nn_ d5; obtain ⟨J0, J1⟩ := nn_ d6; obtain ⟨J2, J3⟩ := nn_ h3; obtain ⟨J4, J5⟩ := nn_ g3
       obtain ⟨q1, q2, q3, q4⟩ := bc2_ a5
       go_wp2_with (first | ((with_reducible refine gc_ 17 ?_); refine gl_ (some 89) Try.func17 #[.agg #[.int .i64 g9, .slice g2 g6.length g1], .agg #[.int .i64 d8, .slice e2 a9.length d4]] ?_; (with_reducible refine (laws_eqWeb.calls kj76 g9 _ _ g6 d8 _ _ a9 true _ ?side1 ?side2 ?side3 ?side4 A8.out).mono ?_); (case side1 => refine (Kd.R_reads' (e := 72) (base := w.heap.size) (ok := fun k_ => (some k_ ≠ (k4 : Value).ownBlock ∧ (some k_ ≠ (.slice e2 a9.length d4 : Value).ownBlock ∧ (some k_ ≠ (.slice b7 h2.length b8 : Value).ownBlock ∧ some k_ ≠ (.slice e0 b4.length d7 : Value).ownBlock)))) (n := g6.length) (c := g1) ?_).2.2; exact (by (with_reducible repeat (first | apply Kd.R_alloc | apply Kd.R_drewN | apply Kd.R_drew)); exact (Kd.R_mono (Kd.R_far (p := ⟨b1, 1, none⟩) (Kd.R_far (p := ⟨b1, 0, none⟩) (Kd.R_types g8.out b6.out (by decide)) (fun _ hk => hk.2) (.int .i64 g9)) (fun _ hk => hk.2) (.slice g2 g6.length g1)) (fun _ h_ => h_.1)))); (case side2 => exact (Kd.R_reads' g8.out).2.1); (case side3 => refine (Kd.R_reads' (e := 72) (base := w.heap.size) (ok := fun k_ => (some k_ ≠ (k4 : Value).ownBlock ∧ (some k_ ≠ (.slice g2 g6.length g1 : Value).ownBlock ∧ (some k_ ≠ (.slice b7 h2.length b8 : Value).ownBlock ∧ some k_ ≠ (.slice e0 b4.length d7 : Value).ownBlock)))) (n := a9.length) (c := d4) ?_).2.2; exact (by (with_reducible repeat (first | apply Kd.R_alloc | apply Kd.R_drewN | apply Kd.R_drew)); exact (Kd.R_mono (Kd.R_far (p := ⟨b1, 1, none⟩) (Kd.R_far (p := ⟨b1, 0, none⟩) (Kd.R_types a4.out b6.out (by decide)) (fun _ hk => hk.2) (.int .i64 g9)) (fun _ hk => hk.2) (.slice g2 g6.length g1)) (fun _ h_ => h_.1)))); (case side4 => exact (Kd.R_reads' a4.out).2.1); rintro e w159 ⟨rfl, hb⟩; refine ⟨_, rfl, ?_⟩; replace a4 := am_ (Kd.R_below (by (with_reducible repeat (first | apply Kd.R_alloc | apply Kd.R_drewN | apply Kd.R_drew)); exact (Kd.R_mono (Kd.R_far (p := ⟨b1, 1, none⟩) (Kd.R_far (p := ⟨b1, 0, none⟩) (Kd.R_types a4.out b6.out (by decide)) (fun _ hk => hk.2) (.int .i64 g9)) (fun _ hk => hk.2) (.slice g2 g6.length g1)) (fun _ h_ => h_.1))) hb); replace a3 := am_ (Kd.R_below (by (with_reducible repeat (first | apply Kd.R_alloc | apply Kd.R_drewN | apply Kd.R_drew)); exact (Kd.R_mono (Kd.R_far (p := ⟨b1, 1, none⟩) (Kd.R_far (p := ⟨b1, 0, none⟩) (Kd.R_types a3.out b6.out (by decide)) (fun _ hk => hk.2) (.int .i64 g9)) (fun _ hk => hk.2) (.slice g2 g6.length g1)) (fun _ h_ => h_.1))) hb); replace a2 := am_ (Kd.R_below (by (with_reducible repeat (first | apply Kd.R_alloc | apply Kd.R_drewN | apply Kd.R_drew)); exact (Kd.R_mono (Kd.R_far (p := ⟨b1, 1, none⟩) (Kd.R_far (p := ⟨b1, 0, none⟩) (Kd.R_types a2.out b6.out (by decide)) (fun _ hk => hk.2) (.int .i64 g9)) (fun _ hk => hk.2) (.slice g2 g6.length g1)) (fun _ h_ => h_.1))) hb); replace d0 := am_ (Kd.R_below (by (with_reducible repeat (first | apply Kd.R_alloc | apply Kd.R_drewN | apply Kd.R_drew)); exact (Kd.R_mono (Kd.R_far (p := ⟨b1, 1, none⟩) (Kd.R_far (p := ⟨b1, 0, none⟩) (Kd.R_types d0.out b6.out (by decide)) (fun _ hk => hk.2) (.int .i64 g9)) (fun _ hk => hk.2) (.slice g2 g6.length g1)) (fun _ h_ => h_.1))) hb); replace g8 := am_ (Kd.R_below (by (with_reducible repeat (first | apply Kd.R_alloc | apply Kd.R_drewN | apply Kd.R_drew)); exact (Kd.R_mono (Kd.R_far (p := ⟨b1, 1, none⟩) (Kd.R_far (p := ⟨b1, 0, none⟩) (Kd.R_types g8.out b6.out (by decide)) (fun _ hk => hk.2) (.int .i64 g9)) (fun _ hk => hk.2) (.slice g2 g6.length g1)) (fun _ h_ => h_.1))) hb); replace a1 := qbl_ a1 hb; replace a0 := qbl_ a0 hb; replace a5 := qbl_ a5 hb; replace a6 := qbl_ a6 hb; replace a7 := qbl_ a7 hb; replace b6 := am_ (blk_below (g := b1) (o := .cells #[.int .i64 g9, .slice g2 g6.length g1] 29 (0, 0)) (by (with_reducible repeat (first | refine blk_drewN ?_ _ | refine blk_drew ?_ | refine blk_alloc ?_ _)); refine blk_put (cs := #[.int .i64 g9, .slice none 0 0]) ?_ 1 _ rfl; (with_reducible repeat (first | refine blk_drewN ?_ _ | refine blk_drew ?_ | refine blk_alloc ?_ _)); refine blk_put (cs := #[.int .i64 0, .slice none 0 0]) ?_ 0 _ rfl; exact qf_ b6) hb); replace HB := hs_ hb; (try clear hb); (try clear hb2); (try clear hk); (try clear hi)))
       go_meet
       case rel => exact ⟨_, ((l5 != g7)), qe_, H', ⟨by have := o5.out; have := x7.out; first | omega | exact Nat.le_refl _⟩, ⟨by (try simp only [hl638001_76]); (with_reducible repeat (first | apply Kd.R_alloc | apply Kd.R_drewN | apply Kd.R_drew)); exact Kd.R_mono a4.out (fun _ hk => ⟨hk.2.2.1, ⟨hk.2.2.2, hk.2.1⟩⟩)⟩, ⟨by (try simp only [hl638001_76]); (with_reducible repeat (first | apply Kd.R_alloc | apply Kd.R_drewN | apply Kd.R_drew)); exact Kd.R_mono a3.out (fun _ hk => ⟨hk.2.2.1, ⟨hk.2.2.2, hk.2.1⟩⟩)⟩, ⟨by (try simp only [hl638001_76]); (with_reducible repeat (first | apply Kd.R_alloc | apply Kd.R_drewN | apply Kd.R_drew)); exact Kd.R_mono a2.out (fun _ hk => ⟨hk.2.2.1, ⟨hk.2.2.2, hk.2.1⟩⟩)⟩, ⟨by (try simp only [hl638001_76]); (with_reducible repeat (first | apply Kd.R_alloc | apply Kd.R_drewN | apply Kd.R_drew)); exact Kd.R_mono g8.out (fun _ hk => ⟨hk.2.1, ⟨hk.2.2.1, hk.2.2.2⟩⟩)⟩, ⟨by (try simp only [hl638001_76]); exact qf_ a1⟩, ⟨by (try simp only [hl638001_76]); exact qf_ a0⟩, ⟨by (try simp only [hl638001_76]); exact qf_ a5⟩, ⟨by (try simp only [hl638001_76]); exact qf_ a6⟩, ⟨by (try simp only [hl638001_76]); exact qf_ a7⟩, ⟨by (try simp only [hl638001_76]); exact qf_ b6⟩, ⟨qB_⟩⟩
      have H' := am_ H; clear H; obtain ⟨J6, J7⟩ := nn_ f3; obtain ⟨J8, J9⟩ := nn_ f4; obtain ⟨K0, K1⟩ := nn_ f5; obtain ⟨K2, K3⟩ := nn_ f6; obtain ⟨K4, K5⟩ := nn_ f7
      obtain ⟨q5, q6, q7, q8⟩ := bc2_ b6
      obtain ⟨K6, K7⟩ := nn_ d5; obtain ⟨K8, K9⟩ := nn_ d6; obtain ⟨L0, L1⟩ := nn_ h3; obtain ⟨L2, L3⟩ := nn_ g3
      obtain ⟨q9, r0, r1, r2⟩ := bc2_ a5
      go_wp2_with (first | ((with_reducible refine gc_ 17 ?_); refine gl_ (some 89) Try.func17 #[.agg #[.int .i64 g9, .slice g2 g6.length g1], .agg #[.int .i64 d8, .slice e2 a9.length d4]] ?_; (with_reducible refine (laws_eqWeb.calls kj76 g9 _ _ g6 d8 _ _ a9 false _ ?side1 ?side2 ?side3 ?side4 A8.out).mono ?_); (case side1 => refine (Kd.R_reads' (e := 72) (base := w.heap.size) (ok := fun k_ => (some k_ ≠ (k4 : Value).ownBlock ∧ (some k_ ≠ (.slice e2 a9.length d4 : Value).ownBlock ∧ (some k_ ≠ (.slice b7 h2.length b8 : Value).ownBlock ∧ some k_ ≠ (.slice e0 b4.length d7 : Value).ownBlock)))) (n := g6.length) (c := g1) ?_).2.2; exact (by (with_reducible repeat (first | apply Kd.R_alloc | apply Kd.R_drewN | apply Kd.R_drew)); exact (Kd.R_mono (Kd.R_far (p := ⟨b1, 1, none⟩) (Kd.R_far (p := ⟨b1, 0, none⟩) (Kd.R_types g8.out b6.out (by decide)) (fun _ hk => hk.2) (.int .i64 g9)) (fun _ hk => hk.2) (.slice g2 g6.length g1)) (fun _ h_ => h_.1)))); (case side2 => exact (Kd.R_reads' g8.out).2.1); (case side3 => refine (Kd.R_reads' (e := 72) (base := w.heap.size) (ok := fun k_ => (some k_ ≠ (k4 : Value).ownBlock ∧ (some k_ ≠ (.slice g2 g6.length g1 : Value).ownBlock ∧ (some k_ ≠ (.slice b7 h2.length b8 : Value).ownBlock ∧ some k_ ≠ (.slice e0 b4.length d7 : Value).ownBlock)))) (n := a9.length) (c := d4) ?_).2.2; exact (by (with_reducible repeat (first | apply Kd.R_alloc | apply Kd.R_drewN | apply Kd.R_drew)); exact (Kd.R_mono (Kd.R_far (p := ⟨b1, 1, none⟩) (Kd.R_far (p := ⟨b1, 0, none⟩) (Kd.R_types a4.out b6.out (by decide)) (fun _ hk => hk.2) (.int .i64 g9)) (fun _ hk => hk.2) (.slice g2 g6.length g1)) (fun _ h_ => h_.1)))); (case side4 => exact (Kd.R_reads' a4.out).2.1); rintro e w171 ⟨rfl, hb⟩; refine ⟨_, rfl, ?_⟩; replace a4 := am_ (Kd.R_below (by (with_reducible repeat (first | apply Kd.R_alloc | apply Kd.R_drewN | apply Kd.R_drew)); exact (Kd.R_mono (Kd.R_far (p := ⟨b1, 1, none⟩) (Kd.R_far (p := ⟨b1, 0, none⟩) (Kd.R_types a4.out b6.out (by decide)) (fun _ hk => hk.2) (.int .i64 g9)) (fun _ hk => hk.2) (.slice g2 g6.length g1)) (fun _ h_ => h_.1))) hb); replace a3 := am_ (Kd.R_below (by (with_reducible repeat (first | apply Kd.R_alloc | apply Kd.R_drewN | apply Kd.R_drew)); exact (Kd.R_mono (Kd.R_far (p := ⟨b1, 1, none⟩) (Kd.R_far (p := ⟨b1, 0, none⟩) (Kd.R_types a3.out b6.out (by decide)) (fun _ hk => hk.2) (.int .i64 g9)) (fun _ hk => hk.2) (.slice g2 g6.length g1)) (fun _ h_ => h_.1))) hb); replace a2 := am_ (Kd.R_below (by (with_reducible repeat (first | apply Kd.R_alloc | apply Kd.R_drewN | apply Kd.R_drew)); exact (Kd.R_mono (Kd.R_far (p := ⟨b1, 1, none⟩) (Kd.R_far (p := ⟨b1, 0, none⟩) (Kd.R_types a2.out b6.out (by decide)) (fun _ hk => hk.2) (.int .i64 g9)) (fun _ hk => hk.2) (.slice g2 g6.length g1)) (fun _ h_ => h_.1))) hb); replace d0 := am_ (Kd.R_below (by (with_reducible repeat (first | apply Kd.R_alloc | apply Kd.R_drewN | apply Kd.R_drew)); exact (Kd.R_mono (Kd.R_far (p := ⟨b1, 1, none⟩) (Kd.R_far (p := ⟨b1, 0, none⟩) (Kd.R_types d0.out b6.out (by decide)) (fun _ hk => hk.2) (.int .i64 g9)) (fun _ hk => hk.2) (.slice g2 g6.length g1)) (fun _ h_ => h_.1))) hb); replace g8 := am_ (Kd.R_below (by (with_reducible repeat (first | apply Kd.R_alloc | apply Kd.R_drewN | apply Kd.R_drew)); exact (Kd.R_mono (Kd.R_far (p := ⟨b1, 1, none⟩) (Kd.R_far (p := ⟨b1, 0, none⟩) (Kd.R_types g8.out b6.out (by decide)) (fun _ hk => hk.2) (.int .i64 g9)) (fun _ hk => hk.2) (.slice g2 g6.length g1)) (fun _ h_ => h_.1))) hb); replace a1 := qbl_ a1 hb; replace a0 := qbl_ a0 hb; replace a5 := qbl_ a5 hb; replace a6 := qbl_ a6 hb; replace a7 := qbl_ a7 hb; replace b6 := am_ (blk_below (g := b1) (o := .cells #[.int .i64 g9, .slice g2 g6.length g1] 29 (0, 0)) (by (with_reducible repeat (first | refine blk_drewN ?_ _ | refine blk_drew ?_ | refine blk_alloc ?_ _)); refine blk_put (cs := #[.int .i64 g9, .slice none 0 0]) ?_ 1 _ rfl; (with_reducible repeat (first | refine blk_drewN ?_ _ | refine blk_drew ?_ | refine blk_alloc ?_ _)); refine blk_put (cs := #[.int .i64 0, .slice none 0 0]) ?_ 0 _ rfl; exact qf_ b6) hb); replace HB := hs_ hb; (try clear hb); (try clear hb2); (try clear hk); (try clear hi)))
      go_meet
      case rel => exact ⟨_, (true), qe_, H', ⟨by have := o5.out; have := x7.out; first | omega | exact Nat.le_refl _⟩, ⟨by (try simp only [hl638001_76]); (with_reducible repeat (first | apply Kd.R_alloc | apply Kd.R_drewN | apply Kd.R_drew)); exact Kd.R_mono a4.out (fun _ hk => ⟨hk.2.2.1, ⟨hk.2.2.2, hk.2.1⟩⟩)⟩, ⟨by (try simp only [hl638001_76]); (with_reducible repeat (first | apply Kd.R_alloc | apply Kd.R_drewN | apply Kd.R_drew)); exact Kd.R_mono a3.out (fun _ hk => ⟨hk.2.2.1, ⟨hk.2.2.2, hk.2.1⟩⟩)⟩, ⟨by (try simp only [hl638001_76]); (with_reducible repeat (first | apply Kd.R_alloc | apply Kd.R_drewN | apply Kd.R_drew)); exact Kd.R_mono a2.out (fun _ hk => ⟨hk.2.2.1, ⟨hk.2.2.2, hk.2.1⟩⟩)⟩, ⟨by (try simp only [hl638001_76]); (with_reducible repeat (first | apply Kd.R_alloc | apply Kd.R_drewN | apply Kd.R_drew)); exact Kd.R_mono g8.out (fun _ hk => ⟨hk.2.1, ⟨hk.2.2.1, hk.2.2.2⟩⟩)⟩, ⟨by (try simp only [hl638001_76]); exact qf_ a1⟩, ⟨by (try simp only [hl638001_76]); exact qf_ a0⟩, ⟨by (try simp only [hl638001_76]); exact qf_ a5⟩, ⟨by (try simp only [hl638001_76]); exact qf_ a6⟩, ⟨by (try simp only [hl638001_76]); exact qf_ a7⟩, ⟨by (try simp only [hl638001_76]); exact qf_ b6⟩, ⟨qB_⟩⟩
     case rest =>
      clear p6; (try clear c1); (try clear c2); (try clear p2); (try clear c3); (try clear c14); (try clear c15); (try clear c16); (try clear c17); (try clear c21); (try clear c39); (try clear c147); (try clear c148); (try clear c149); (try clear c150); (try clear c151); (try clear c152); (try clear c154); (try clear c155); (try clear c156); (try clear c157); (try clear c160); (try clear c161); (try clear c162); (try clear c163); (try clear c164); (try clear c166); (try clear c167); (try clear c168); (try clear c169); (try clear p7 p8); (try clear q1 q2); (try clear q5 q6); (try clear q9 r0); (try clear p9 q0); (try clear q3 q4); (try clear q7 q8); (try clear r1 r2)
      obtain ⟨kq, x95_126, rfl, HA, S5, a4, a3, a2, j6, a1, a0, a5, a6, a7, b6, HB⟩ := hcut
      have hl646001_126 := (Kd.R_reads' a2.out).1
      rw [hl646001_126] at a2
      (try simp only [hl646001_126])
      (try simp only [hl646001_126] at a1)
      (try simp only [hl646001_126] at a0)
      (try simp only [hl646001_126] at a5)
      (try simp only [hl646001_126] at a6)
      (try simp only [hl646001_126] at a7)
      (try simp only [hl646001_126] at b6)
      (try simp only [hl646001_126] at a4)
      (try simp only [hl646001_126] at a3)
      (try simp only [hl646001_126] at j6)
      cases kq with
      | zero => exact absurd HA.out (by simp [laws_FnExactWebAdd.j2])
      | succ kj126 =>
       have H := HA.out; clear HA
       simp only [laws_FnExactWebAdd.j2] at H
       refine ie_ H ?_ ?_ <;> clear H <;> rintro rfl H
       ·exact absurd (oi_ H) (by decide)
       obtain ⟨m1, L4, H⟩ := bs_ H
       refine ic_ H ?_ ?_ <;> clear H <;> intro c174b0 H
       ·exact absurd (oi_ H) (by decide)
       refine jb_ H ?_ ?_ <;> clear H <;> intro c182 H
       ·have c182b0 : (m1 == h6) = false := beq_eq_false_iff_ne.mpr c182
        have c182b1 : (m1 != h6) = true := bne_iff_ne.mpr c182
        exact absurd (oi_ H) (by decide)
       have c182b0 : (m1 == h6) = true := beq_iff_eq.mpr c182
       have c182b1 : (m1 != h6) = false := bne_eq_false_iff_eq.mpr c182
       clear c182; clear H; obtain ⟨L5, L6⟩ := nn_ e4; obtain ⟨L7, L8⟩ := nn_ e5; obtain ⟨L9, M0⟩ := nn_ e6; obtain ⟨M1, M2⟩ := nn_ e7; obtain ⟨M3, M4⟩ := nn_ g0
       obtain ⟨A9, B0, B1, B2⟩ := bc2_ a7
       go_wp2_with (first | ((with_reducible refine gc_ 40 ?_); refine gl_ (some 98) Try.func40 #[.agg #[.int .i64 d3, .slice e0 h7.length d7], .int .i64 1] ?_; (with_reducible refine (laws_heldWeb.calls kj126 d3 _ _ h7 1 m1 _ ?_ ?_ L4.out).mono ?_); exact qD_ (Kd.R_reads' a2.out).2.2; exact (Kd.R_reads' a2.out).2.1; rintro e w189 ⟨rfl, hb⟩; refine ⟨_, rfl, ?_⟩; replace a4 := kb_ a4 hb; replace a3 := kb_ a3 hb; replace a2 := kb_ a2 hb; replace j6 := kb_ j6 hb; replace a1 := qbl_ a1 hb; replace a0 := qbl_ a0 hb; replace a5 := qbl_ a5 hb; replace a6 := qbl_ a6 hb; replace a7 := qbl_ a7 hb; replace b6 := qbl_ b6 hb; replace HB := hs_ hb; (try clear hb); (try clear hb2); (try clear hk); (try clear hi)))
       go_ret
       exact ⟨qr_, qB_⟩
end Go.Proofs.Ytbkklafkoegdpaa.QFnExactWebAdd
