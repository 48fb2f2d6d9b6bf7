import Derived.Test.YtbkklafkoegdpaaQFnExactWebAddx10
namespace Go.Proofs.Ytbkklafkoegdpaa.QFnExactWebAdd
open Go.RowKit Go.Proofs.YtbkklafkoegdpaaW.PrintWords Go.Proofs.YtbkklafkoegdpaaW.PrintLast Go.Proofs.YtbkklafkoegdpaaW.PrintMore
set_option maxHeartbeats 8000000
set_option maxRecDepth 100000
set_option linter.unusedVariables false
set_option linter.unusedSimpArgs false
mutual
def spec_WebOk.l0 : Nat → Int → Int → List (S72) → Option (Bool)
  | 0, _, _, _ => none
  | k + 1, x3, x290000, x290001 => if x3 < (x290001.length : Int) then (if 0 ≤ x3 then ((spec_l01In.f ((rd_T72 x290001 x3).f2) 0 4).bind fun t296 => (if t296 = true then (spec_WebOk.l0 k (wrap64 (x3 + 1)) x290000 x290001) else (some false))) else (none)) else (spec_WebOk.l1 k x290000 0 x290000 x290001)
def spec_WebOk.l1 : Nat → Int → Int → Int → List (S72) → Option (Bool)
  | 0, _, _, _, _ => none
  | k + 1, x4, x5, x290000, x290001 => if x5 ≤ 4 then ((spec_ForestAt.f k x290000 x290001 x5).bind fun bt297 => (if bt297.2.2 = true then (spec_WebOk.l2 k x4 x5 0 x290000 x290001 bt297.1 bt297.2.1) else (some false))) else (some true)
def spec_WebOk.l2 : Nat → Int → Int → Int → Int → List (S72) → Int → List (List Int) → Option (Bool)
  | 0, _, _, _, _, _, _, _ => none
  | k + 1, x4, x5, x8, x290000, x290001, x303000, x303001 => if x8 < (x303001.length : Int) then (if 0 ≤ x8 then ((spec_VertsOf.f k (rd_L5 x303001 x8)).bind fun t304 => (if (t304.length : Int) > 1 then (if (t304.length : Int) > x4 then (some false) else (spec_WebOk.l2 k x4 x5 (wrap64 (x8 + 1)) x290000 x290001 x303000 x303001)) else (spec_WebOk.l2 k x4 x5 (wrap64 (x8 + 1)) x290000 x290001 x303000 x303001))) else (none)) else (spec_WebOk.l3 k x4 x5 0 x290000 x290001 x303000 x303001)
def spec_WebOk.l3 : Nat → Int → Int → Int → Int → List (S72) → Int → List (List Int) → Option (Bool)
  | 0, _, _, _, _, _, _, _ => none
  | k + 1, x4, x5, x10, x290000, x290001, x303000, x303001 => if x10 < (x290001.length : Int) then (if 0 ≤ x10 then (if ((rd_T72 x290001 x10).f3 = true) then (spec_WebOk.l3 k x4 x5 (wrap64 (x10 + 1)) x290000 x290001 x303000 x303001) else (if ((rd_T72 x290001 x10).f2) = x5 then ((spec_TreeOf.f k x303000 x303001 ((rd_T72 x290001 x10).f0)).bind fun t309 => ((spec_TreeOf.f k x303000 x303001 ((rd_T72 x290001 x10).f1)).bind fun t310 => (if t309 = t310 then (spec_WebOk.l3 k x4 x5 (wrap64 (x10 + 1)) x290000 x290001 x303000 x303001) else (some false)))) else (spec_WebOk.l3 k x4 x5 (wrap64 (x10 + 1)) x290000 x290001 x303000 x303001))) else (none)) else (spec_WebOk.l1 k (wrap64 (Int.tdiv x4 2)) (wrap64 (x5 + 1)) x290000 x290001)
end
def spec_WebOk.f (k : Nat) (a0_0 : Int) (l0_1 : List (S72)) : Option (Bool) := (spec_GraphOf.f k a0_0 l0_1).bind fun bt290 => ((spec_GraphOk.f k bt290.1 bt290.2).bind fun t294 => (if t294 = true then (spec_WebOk.l0 k 0 a0_0 l0_1) else (some false)))
theorem spec_WebOk.mono_l : ∀ k, (∀ y0 y1 y2, LeO (spec_WebOk.l0 k y0 y1 y2) (spec_WebOk.l0 (k + 1) y0 y1 y2)) ∧ (∀ y0 y1 y2 y3, LeO (spec_WebOk.l1 k y0 y1 y2 y3) (spec_WebOk.l1 (k + 1) y0 y1 y2 y3)) ∧ (∀ y0 y1 y2 y3 y4 y5 y6, LeO (spec_WebOk.l2 k y0 y1 y2 y3 y4 y5 y6) (spec_WebOk.l2 (k + 1) y0 y1 y2 y3 y4 y5 y6)) ∧ (∀ y0 y1 y2 y3 y4 y5 y6, LeO (spec_WebOk.l3 k y0 y1 y2 y3 y4 y5 y6) (spec_WebOk.l3 (k + 1) y0 y1 y2 y3 y4 y5 y6))
  | 0 => ⟨fun _ _ _ r h => by simp [spec_WebOk.l0] at h, fun _ _ _ _ r h => by simp [spec_WebOk.l1] at h, fun _ _ _ _ _ _ _ r h => by simp [spec_WebOk.l2] at h, fun _ _ _ _ _ _ _ r h => by simp [spec_WebOk.l3] at h⟩
  | k + 1 => by
    obtain ⟨ih0, ih1, ih2, ih3⟩ := spec_WebOk.mono_l k
    have m0 := @spec_ForestAt.mono; have m1 := @spec_GraphOf.mono; have m2 := @spec_GraphOk.mono; have m3 := @spec_TreeOf.mono; have m4 := @spec_VertsOf.mono
    refine ⟨?_, ?_, ?_, ?_⟩ <;> (intros; first | unfold spec_WebOk.l0 | unfold spec_WebOk.l1 | unfold spec_WebOk.l2 | unfold spec_WebOk.l3) <;> exact lo_
theorem spec_WebOk.mono : ∀ a0 a1 k, LeO (spec_WebOk.f k a0 a1) (spec_WebOk.f (k + 1) a0 a1) := by
  intro a0 a1 k
  obtain ⟨ih0, ih1, ih2, ih3⟩ := spec_WebOk.mono_l k
  have m0 := @spec_ForestAt.mono; have m1 := @spec_GraphOf.mono; have m2 := @spec_GraphOk.mono; have m3 := @spec_TreeOf.mono; have m4 := @spec_VertsOf.mono
  unfold spec_WebOk.f
  exact lo_
def spec_WebOk.T25 : Bool × List (List Nat × List Nat) := (true, [([], []), ([0], [0]), ([1], [1]), ([2], [2]), ([3], [3]), ([4, 3], [3, 4]), ([3], [3]), ([5, 6, 3], [3, 5, 6]), ([3, 7], [3, 7]), ([8, 3], [8]), ([9], [9]), ([9], [9]), ([11, 9], [9, 11]), ([10, 12, 9, 9], [9, 10, 12]), ([9], [9]), ([9], [9]), ([15, 9], [9, 15]), ([14, 16, 13, 9], [9, 14, 16]), ([13, 17, 9], [9, 13, 17]), ([9, 18], [9, 18])])
def spec_WebOk.B25 : List Nat := [0, 1, 3, 7, 15, 31, 15, 127, 255, 511, 1023, 1023, 3071, 8191, 1023, 1023, 33791, 131071, 262143, 524287]
theorem spec_WebOk.tab25 : rtab .any (opsOf Try.f14 25) = spec_WebOk.T25 := by kernel_rfl
theorem spec_WebOk.bits25 : waitsOk spec_WebOk.T25.2 spec_WebOk.B25 = true := by kernel_rfl
theorem spec_WebOk.calls (k : Nat) (a0_0 : Int) (A0_1 : Option Addr) (c0_1 : Nat) (l0_1 : List (S72)) (r : Bool) (w : World) (hr0_1 : Kd.C k72 w A0_1 l0_1.length l0_1) (hc0_1 : l0_1.length ≤ c0_1) (h : spec_WebOk.f k a0_0 l0_1 = some r) :
  Calls Try.prog 14 #[.agg #[.int .i64 a0_0, .slice A0_1 l0_1.length c0_1]] w fun e w' => e = .returned (.bool r) ∧ Below w.heap.size w w' := by
 have hu29 := Try.underlying29; have hu39 := Try.underlying39; have hu72 := Try.underlying72
 have HR0_1 := am_ hr0_1
 have HC0_1 := am_ hc0_1
 clear hr0_1 hc0_1
 have HB := am_ (Below.refl w.heap.size w)
 rw [spec_WebOk.f] at h; have H := h; clear h
 replace H := Option.bind_eq_some_iff.mp H
 obtain ⟨⟨f8, f9⟩, A20, H⟩ := H
 replace H : ((spec_GraphOk.f k f8 f9).bind fun g8 => (if g8 = true then (spec_WebOk.l0 k 0 a0_0 l0_1) else (some false))) = some r := H
 have A2 := am_ A20
 clear A20
 obtain ⟨g8, A3, H⟩ := bs_ H
 refine id_ H ?_ ?_ <;> clear H <;> rintro rfl H
 ·obtain rfl := oi_ H
  go_enter Try.func14, Try.ntmps14
  go_wp2_with (first | ((with_reducible refine gd_ 1 ?_); refine by_ 1 (cs := #[.int .i64 a0_0, .slice A0_1 l0_1.length c0_1]) (t := 29) ?_; intro c9 hg w97 a2 hb; have g9 := gw_ hg; replace HB := hs_ hb; clear hb hg; obtain ⟨k5, k6, k7, k8⟩ := bc2_ a2) | ((with_reducible refine gc_ 47 ?_); refine gl_ (some 13) Try.func47 #[.agg #[.int .i64 a0_0, .slice A0_1 l0_1.length c0_1]] ?_; (with_reducible refine (spec_GraphOf.calls k a0_0 _ _ l0_1 f8 f9 _ ?_ ?_ A2.out).mono ?_); exact qC_ HR0_1 HB; exact HC0_1.out; rintro e w99 ⟨r8, rfl, ho0, hb⟩; refine ⟨_, rfl, ?_⟩; have c7 := am_ (Kd.R_lower ho0 (below_size qB_)); replace a2 := qbl_ a2 hb; replace HB := hs_ hb; (try clear hb); (try clear hb2); (try clear hk); (try clear hi); (try clear ho0); obtain ⟨j0, j1, j2⟩ := Kd.R_slice c7.out; subst j2) | ((with_reducible refine gc_ 56 ?_); refine gl_ (some 14) Try.func56 #[.agg #[.int .i64 f8, .slice j0 f9.length j1]] ?_; (with_reducible refine (spec_GraphOk.calls k f8 _ _ f9 false _ ?_ ?_ A3.out).mono ?_); exact qD_ (Kd.R_reads' c7.out).2.2; exact (Kd.R_reads' c7.out).2.1; rintro e w101 ⟨rfl, hb⟩; refine ⟨_, rfl, ?_⟩; replace c7 := kb_ c7 hb; replace a2 := qbl_ a2 hb; replace HB := hs_ hb; (try clear hb); (try clear hb2); (try clear hk); (try clear hi)))
  go_ret
  exact ⟨qr_, qB_⟩
 have H' := am_ H; clear H
 go_enter Try.func14, Try.ntmps14
 go_wp2_with (first | ((with_reducible refine gd_ 1 ?_); refine by_ 1 (cs := #[.int .i64 a0_0, .slice A0_1 l0_1.length c0_1]) (t := 29) ?_; intro c9 hg w5 a2 hb; have g9 := gw_ hg; replace HB := hs_ hb; clear hb hg; obtain ⟨d5, d6, d7, d8⟩ := bc2_ a2) | ((with_reducible refine gc_ 47 ?_); refine gl_ (some 13) Try.func47 #[.agg #[.int .i64 a0_0, .slice A0_1 l0_1.length c0_1]] ?_; (with_reducible refine (spec_GraphOf.calls k a0_0 _ _ l0_1 f8 f9 _ ?_ ?_ A2.out).mono ?_); exact qC_ HR0_1 HB; exact HC0_1.out; rintro e w7 ⟨r8, rfl, ho0, hb⟩; refine ⟨_, rfl, ?_⟩; have c7 := am_ (Kd.R_lower ho0 (below_size qB_)); replace a2 := qbl_ a2 hb; replace HB := hs_ hb; (try clear hb); (try clear hb2); (try clear hk); (try clear hi); (try clear ho0); obtain ⟨x2, x3, x4⟩ := Kd.R_slice c7.out; subst x4) | ((with_reducible refine gc_ 56 ?_); refine gl_ (some 14) Try.func56 #[.agg #[.int .i64 f8, .slice x2 f9.length x3]] ?_; (with_reducible refine (spec_GraphOk.calls k f8 _ _ f9 true _ ?_ ?_ A3.out).mono ?_); exact qD_ (Kd.R_reads' c7.out).2.2; exact (Kd.R_reads' c7.out).2.1; rintro e w9 ⟨rfl, hb⟩; refine ⟨_, rfl, ?_⟩; replace c7 := kb_ c7 hb; replace a2 := qbl_ a2 hb; replace HB := hs_ hb; (try clear hb); (try clear hb2); (try clear hk); (try clear hi)))
 go_loopg [3] k (fun kq v3 w' => ∃ (x3_1 : Int), v3 = .int .i64 x3_1 ∧ Aside0 (spec_WebOk.l0 kq x3_1 a0_0 l0_1 = some r) ∧ Aside0 (kq ≤ k) ∧ Aside0 (w'.heap[c9]? = some (.cells #[.int .i64 a0_0, (.slice A0_1 l0_1.length c0_1)] 29 (0, 0))) ∧ Aside0 (Below w.heap.size w w'))
 case atStart => exact ⟨(0), qe_, H', ⟨Nat.le_refl _⟩, ⟨qk_ a2⟩, ⟨qB_⟩⟩
 case round =>
  clear H'
  (try clear c1); (try clear p2); (try clear c4); (try clear c5); (try clear d5 d6 d7 d8)
  obtain ⟨x3_1, rfl, HA, HK1, a2, HB⟩ := hrel
  cases gk with
  | zero => exact absurd HA.out (by simp [spec_WebOk.l0])
  | succ k1 =>
   have H := HA.out; clear HA
   simp only [spec_WebOk.l0] at H
   refine ic_ H ?_ ?_ <;> clear H <;> intro c10b0 H
   ·refine ig_ H ?_; clear H; intro c11b0 H
    obtain ⟨r9, A12, H⟩ := bs_ H
    refine ie_ H ?_ ?_ <;> clear H <;> rintro rfl H
    ·have H' := am_ H; clear H
     obtain ⟨d9, e0, e1, e2⟩ := bc2_ a2
     have p295 := dp_ x3_1
     have q295 := dl_ x3_1 l0_1.length
     obtain ⟨ad295, e295, b5, b6, b7, b8⟩ := at_T72 HR0_1.out x3_1 p295 q295
     cases e295
     replace b5 := qx_ HB b5
     replace b6 := qx_ HB b6
     replace b7 := qx_ HB b7
     replace b8 := qx_ HB b8
     replace p295 := eq_true p295; replace q295 := eq_true q295
     go_wp2_with (first | ((with_reducible refine gc_ 57 ?_); refine gl_ (some 29) Try.func57 #[.int .i64 ((rd_T72 l0_1 x3_1).f2), .int .i64 0, .int .i64 4] ?_; (with_reducible refine (spec_l01In.calls ((rd_T72 l0_1 x3_1).f2) 0 4 true _ A12.out).mono ?_); rintro e w' ⟨rfl, ⟨nd, rfl⟩⟩; refine ⟨_, rfl, ?_⟩))
     go_roundg k1
     case measure => have := HK1.out; omega
     case rel => exact ⟨(wrap64 (x3_1 + 1)), qe_, H', ⟨by have := HK1.out; omega⟩, ⟨qk_ a2⟩, ⟨qB_⟩⟩
    obtain rfl := oi_ H
    obtain ⟨e3, e4, e5, e6⟩ := bc2_ a2
    have p295 := dp_ x3_1
    have q295 := dl_ x3_1 l0_1.length
    obtain ⟨ad295, e295, b5, b6, b7, b8⟩ := at_T72 HR0_1.out x3_1 p295 q295
    cases e295
    replace b5 := qx_ HB b5
    replace b6 := qx_ HB b6
    replace b7 := qx_ HB b7
    replace b8 := qx_ HB b8
    replace p295 := eq_true p295; replace q295 := eq_true q295
    go_wp2_with (first | ((with_reducible refine gc_ 57 ?_); refine gl_ (some 29) Try.func57 #[.int .i64 ((rd_T72 l0_1 x3_1).f2), .int .i64 0, .int .i64 4] ?_; (with_reducible refine (spec_l01In.calls ((rd_T72 l0_1 x3_1).f2) 0 4 false _ A12.out).mono ?_); rintro e w' ⟨rfl, ⟨nd, rfl⟩⟩; refine ⟨_, rfl, ?_⟩))
    go_ret
    exact ⟨qr_, qB_⟩
   have H' := am_ H; clear H
   obtain ⟨e7, e8, e9, f4⟩ := bc2_ a2
   go_wp2
   go_loopg [4, 5] k1 (fun kq v4 v5 w' => ∃ (x4_2 : Int) (x5_2 : Int), v4 = .int .i64 x4_2 ∧ v5 = .int .i64 x5_2 ∧ Aside0 (spec_WebOk.l1 kq x4_2 x5_2 a0_0 l0_1 = some r) ∧ Aside0 (kq ≤ k1) ∧ Aside0 (w'.heap[c9]? = some (.cells #[.int .i64 a0_0, (.slice A0_1 l0_1.length c0_1)] 29 (0, 0))) ∧ Aside0 (Below w.heap.size w w'))
   case atStart => exact ⟨(a0_0), (0), qe_, qe_, H', ⟨Nat.le_refl _⟩, ⟨qk_ a2⟩, ⟨qB_⟩⟩
   case round =>
    clear H'
    (try clear c1); (try clear p2); (try clear q2); (try clear s6); (try clear c4); (try clear c5); (try clear p6); (try clear c10); (try clear c10b0); (try clear c11); (try clear c11b0); (try clear c13); (try clear c14); (try clear d9 e0); (try clear e3 e4); (try clear e7 e8); (try clear d5 d6); (try clear e1 e2); (try clear e5 e6); (try clear e9 f4); (try clear d7 d8); (try clear b5); (try clear b6); (try clear b7); (try clear b8); (try clear p2); (try clear p295); (try clear q295)
    obtain ⟨x4_2, x5_2, rfl, rfl, HA, HK2, a2, HB⟩ := hrel
    cases gk with
    | zero => exact absurd HA.out (by simp [spec_WebOk.l1])
    | succ k2 =>
     have H := HA.out; clear HA
     simp only [spec_WebOk.l1] at H
     refine ib_ H ?_ ?_ <;> clear H <;> intro c17b0 H
     ·obtain rfl := oi_ H
      go_wp2
      go_ret
      exact ⟨qr_, qB_⟩
     replace H := Option.bind_eq_some_iff.mp H
     obtain ⟨⟨b0, a5, j4⟩, j5, H⟩ := H
     replace H : (if j4 = true then (spec_WebOk.l2 k2 x4_2 x5_2 0 a0_0 l0_1 b0 a5) else (some false)) = some r := H
     have A18 := am_ j5
     clear j5
     refine id_ H ?_ ?_ <;> clear H <;> rintro rfl H
     ·obtain rfl := oi_ H
      obtain ⟨k9, l4, l5, l6⟩ := bc2_ a2
      go_wp2_with (first | ((with_reducible refine gc_ 58 ?_); refine gl_ (some 40) Try.func58 #[.agg #[.int .i64 a0_0, .slice A0_1 l0_1.length c0_1], .int .i64 x5_2] ?_; (with_reducible refine (spec_ForestAt.calls k2 a0_0 _ _ l0_1 x5_2 b0 a5 false _ ?_ ?_ A18.out).mono ?_); exact qC_ HR0_1 HB; exact HC0_1.out; rintro e w92 ⟨s0, rfl, ho0, hb⟩; refine ⟨_, rfl, ?_⟩; have d2 := am_ (Kd.S_lower ho0 (below_size qB_)); replace a2 := qbl_ a2 hb; replace HB := hs_ hb; (try clear hb); (try clear hb2); (try clear hk); (try clear hi); (try clear ho0)) | ((with_reducible refine gd_ 6 ?_); refine by_ 6 (cs := #[.int .i64 0, .slice none 0 0]) (t := 39) ?_; intro b9 hg w93 a3 hb; have h0 := gw_ hg; obtain ⟨b4, b1⟩ := qn_ a2 hg; replace d2 := am_ (Kd.S_below (qS_ d2) hb); replace a2 := qbl_ a2 hb; replace HB := hs_ hb; clear hb hg; obtain ⟨s7, s8⟩ := nn_ b1; obtain ⟨l7, l8, l9, m0⟩ := bc2_ a3; obtain ⟨x5, x6, s1⟩ := Kd.S_slice d2.out; subst s1))
      go_ret
      exact ⟨qr_, qB_⟩
     have H' := am_ H; clear H
     obtain ⟨g0, g1, g2, g3⟩ := bc2_ a2
     go_wp2_with (first | ((with_reducible refine gc_ 58 ?_); refine gl_ (some 40) Try.func58 #[.agg #[.int .i64 a0_0, .slice A0_1 l0_1.length c0_1], .int .i64 x5_2] ?_; (with_reducible refine (spec_ForestAt.calls k2 a0_0 _ _ l0_1 x5_2 b0 a5 true _ ?_ ?_ A18.out).mono ?_); exact qC_ HR0_1 HB; exact HC0_1.out; rintro e w21 ⟨s0, rfl, ho0, hb⟩; refine ⟨_, rfl, ?_⟩; have d2 := am_ (Kd.S_lower ho0 (below_size qB_)); replace a2 := qbl_ a2 hb; replace HB := hs_ hb; (try clear hb); (try clear hb2); (try clear hk); (try clear hi); (try clear ho0)) | ((with_reducible refine gd_ 6 ?_); refine by_ 6 (cs := #[.int .i64 0, .slice none 0 0]) (t := 39) ?_; intro b9 hg w22 a3 hb; have h0 := gw_ hg; obtain ⟨b4, b1⟩ := qn_ a2 hg; replace d2 := am_ (Kd.S_below (qS_ d2) hb); replace a2 := qbl_ a2 hb; replace HB := hs_ hb; clear hb hg; obtain ⟨s9, t0⟩ := nn_ b1; obtain ⟨g4, g5, g6, g7⟩ := bc2_ a3; obtain ⟨c0, c6, s2⟩ := Kd.S_slice d2.out; subst s2))
     go_loopg [8] k2 (fun kq v8 w' => ∃ (x8_3 : Int), v8 = .int .i64 x8_3 ∧ Aside0 (spec_WebOk.l2 kq x4_2 x5_2 x8_3 a0_0 l0_1 b0 a5 = some r) ∧ Aside0 (kq ≤ k2) ∧ Aside0 (Kd.S (Kd.slice 3 (Kd.int .i64)) 51 w' w.heap.size (fun _ => True) (.slice c0 a5.length c6) a5) ∧ Aside0 (w'.heap[c9]? = some (.cells #[.int .i64 a0_0, (.slice A0_1 l0_1.length c0_1)] 29 (0, 0))) ∧ Aside0 (w'.heap[b9]? = some (.cells #[.int .i64 b0, (.slice c0 a5.length c6)] 39 (0, 0))) ∧ Aside0 (Below w.heap.size w w'))
     case atStart => exact ⟨(0), qe_, H', ⟨Nat.le_refl _⟩, ⟨by (with_reducible repeat (first | apply Kd.S_alloc | apply Kd.S_drewN | apply Kd.S_drew)); exact Kd.S_mono (Kd.S_far (p := ⟨b9, 1, none⟩) (Kd.S_far (p := ⟨b9, 0, none⟩) (Kd.S_types d2.out a3.out (by decide)) (fun _ hk => hk.2) (.int .i64 b0)) (fun _ hk => hk.2) (.slice c0 a5.length c6)) (fun _ hk => trivial)⟩, ⟨qf_ a2⟩, ⟨by (with_reducible repeat (first | refine blk_drewN ?_ _ | refine blk_drew ?_ | refine blk_alloc ?_ _)); refine blk_put (cs := #[.int .i64 b0, .slice none 0 0]) ?_ 1 _ rfl; (with_reducible repeat (first | refine blk_drewN ?_ _ | refine blk_drew ?_ | refine blk_alloc ?_ _)); refine blk_put (cs := #[.int .i64 0, .slice none 0 0]) ?_ 0 _ rfl; exact qf_ a3⟩, ⟨qB_⟩⟩
     case round =>
      clear H'
      (try clear c1); (try clear c2); (try clear p2); (try clear q2); (try clear s6); (try clear c4); (try clear c5); (try clear p6); (try clear c10); (try clear c10b0); (try clear c11); (try clear c11b0); (try clear c13); (try clear c14); (try clear c17); (try clear c17b0); (try clear c19); (try clear c23); (try clear d9 e0); (try clear e3 e4); (try clear e7 e8); (try clear g0 g1); (try clear g4 g5); (try clear d5 d6); (try clear e1 e2); (try clear e5 e6); (try clear e9 f4); (try clear g2 g3); (try clear g6 g7); (try clear d7 d8); (try clear b5); (try clear b6); (try clear b7); (try clear b8); (try clear p2); (try clear p295); (try clear p6); (try clear q2); (try clear q295)
      obtain ⟨x8_3, rfl, HA, HK3, a0, a2, a3, HB⟩ := hrel
      cases gk with
      | zero => exact absurd HA.out (by simp [spec_WebOk.l2])
      | succ k3 =>
       have H := HA.out; clear HA
       simp only [spec_WebOk.l2] at H
       refine ic_ H ?_ ?_ <;> clear H <;> intro c26b0 H
       ·refine ig_ H ?_; clear H; intro c27b0 H
        obtain ⟨d3, A28, H⟩ := bs_ H
        refine jb_ H ?_ ?_ <;> clear H <;> intro c29 H
        ·have c29b0 : decide (1 < (d3.length : Int)) = false := decide_eq_false c29
         have c29b1 : decide (1 < d3.length) = false := decide_eq_false (by omega)
         clear c29; have H' := am_ H; clear H; obtain ⟨t1, t2⟩ := nn_ b1
         obtain ⟨h2, h3, h4, h5⟩ := bc2_ a3
         have p303 := dp_ x8_3
         have q303 := dl_ x8_3 a5.length
         obtain ⟨ad303, A303_0, c303_0, e303, c8, hl303_0, hi303_0⟩ := at_L5 (Kd.S_reads' a0.out).2.2 x8_3 p303 q303
         cases e303
         obtain ⟨ce303, hce303, hMe303, hcc303⟩ := Kd.S_get a0.out [] x8_3 p303 (by first | exact q303 | exact of_decide_eq_true qa_ | (have e_ := (Kd.S_reads' a0.out).1; omega))
         obtain ⟨ve303_0, rfl, ge303_0⟩ := hMe303
         have hv303_0 := hcc303 0 _ rfl
         rw [Nat.add_zero, show ((Kd.slice 3 (Kd.int .i64))).sz = 1 from rfl, Nat.mul_one] at hv303_0
         replace hv303_0 := Option.some.inj (hv303_0.symm.trans c8)
         rw [hv303_0] at ge303_0
         have HL303_0 := am_ (show Kd.R (Kd.int .i64) 3 _ _ _ _ (rd_L5 a5 x8_3) from ge303_0)
         clear hv303_0 ge303_0; clear hcc303 hce303
         have HR303_0 := am_ hi303_0
         have HC303_0 := am_ hl303_0
         clear hi303_0 hl303_0; replace p303 := eq_true p303; replace q303 := eq_true q303
         go_wp2_with (first | ((with_reducible refine gc_ 59 ?_); refine gl_ (some 57) Try.func59 #[.slice A303_0 (rd_L5 a5 x8_3).length c303_0] ?_; (with_reducible refine (spec_VertsOf.calls k3 _ _ (rd_L5 a5 x8_3) d3 _ ?side1 ?side2 A28.out).mono ?_); (case side1 => repeat (first | exact (by repeat (first | (with_reducible exact HR303_0.out) | (with_reducible refine Kd.C_alloc ?_ _) | (with_reducible refine Kd.C_drewN ?_ _) | (with_reducible refine Kd.C_drew ?_) | exact HR303_0.out)) | (with_reducible refine Kd.C_alloc ?_ _) | (with_reducible refine Kd.C_drewN ?_ _) | (with_reducible refine Kd.C_drew ?_))); (case side2 => exact HC303_0.out); rintro e w41 ⟨j8, rfl, ho0, hb⟩; refine ⟨_, rfl, ?_⟩; have f7 := am_ (Kd.R_lower (Kd.R_new' ho0 (Kd.R_lt (qR_ HL303_0))) (below_size qB_)); replace a0 := am_ (Kd.S_elder' (qS_ a0) (Kd.R_base ho0) hb); replace HL303_0 := ke_ HL303_0 ho0 hb; replace a2 := qbl_ a2 hb; replace a3 := qbl_ a3 hb; replace HR303_0 := am_ (Kd.C_below (by repeat (first | (with_reducible exact HR303_0.out) | (with_reducible refine Kd.C_alloc ?_ _) | (with_reducible refine Kd.C_drewN ?_ _) | (with_reducible refine Kd.C_drew ?_) | exact HR303_0.out)) hb); replace HB := hs_ hb; (try clear hb); (try clear hb2); (try clear hk); (try clear hi); (try clear ho0); obtain ⟨x7, x8, s3⟩ := Kd.R_slice f7.out; subst s3))
         go_roundg k3
         case measure => have := HK1.out; have := HK2.out; have := HK3.out; omega
         case rel => exact ⟨(wrap64 (x8_3 + 1)), qe_, H', ⟨by have := HK1.out; have := HK2.out; have := HK3.out; omega⟩, ⟨by (with_reducible repeat (first | apply Kd.S_alloc | apply Kd.S_drewN | apply Kd.S_drew)); exact Kd.S_mono a0.out (fun _ hk => trivial)⟩, ⟨qk_ a2⟩, ⟨qk_ a3⟩, ⟨qB_⟩⟩
        have c29b0 : decide (1 < (d3.length : Int)) = true := decide_eq_true c29
        have c29b1 : decide (1 < d3.length) = true := decide_eq_true (by omega)
        clear c29
        refine jc_ H ?_ ?_ <;> clear H <;> intro c30 H
        ·have c30b0 : decide (x4_2 < (d3.length : Int)) = true := decide_eq_true c30
         clear c30
         obtain rfl := oi_ H
         obtain ⟨t3, t4⟩ := nn_ b1
         obtain ⟨h6, h7, h8, h9⟩ := bc2_ a3
         have p303 := dp_ x8_3
         have q303 := dl_ x8_3 a5.length
         obtain ⟨ad303, A303_0, c303_0, e303, c8, hl303_0, hi303_0⟩ := at_L5 (Kd.S_reads' a0.out).2.2 x8_3 p303 q303
         cases e303
         obtain ⟨ce303, hce303, hMe303, hcc303⟩ := Kd.S_get a0.out [] x8_3 p303 (by first | exact q303 | exact of_decide_eq_true qa_ | (have e_ := (Kd.S_reads' a0.out).1; omega))
         obtain ⟨ve303_0, rfl, ge303_0⟩ := hMe303
         have hv303_0 := hcc303 0 _ rfl
         rw [Nat.add_zero, show ((Kd.slice 3 (Kd.int .i64))).sz = 1 from rfl, Nat.mul_one] at hv303_0
         replace hv303_0 := Option.some.inj (hv303_0.symm.trans c8)
         rw [hv303_0] at ge303_0
         have HL303_0 := am_ (show Kd.R (Kd.int .i64) 3 _ _ _ _ (rd_L5 a5 x8_3) from ge303_0)
         clear hv303_0 ge303_0; clear hcc303 hce303
         have HR303_0 := am_ hi303_0
         have HC303_0 := am_ hl303_0
         clear hi303_0 hl303_0; replace p303 := eq_true p303; replace q303 := eq_true q303
         go_wp2_with (first | ((with_reducible refine gc_ 59 ?_); refine gl_ (some 57) Try.func59 #[.slice A303_0 (rd_L5 a5 x8_3).length c303_0] ?_; (with_reducible refine (spec_VertsOf.calls k3 _ _ (rd_L5 a5 x8_3) d3 _ ?side1 ?side2 A28.out).mono ?_); (case side1 => repeat (first | exact (by repeat (first | (with_reducible exact HR303_0.out) | (with_reducible refine Kd.C_alloc ?_ _) | (with_reducible refine Kd.C_drewN ?_ _) | (with_reducible refine Kd.C_drew ?_) | exact HR303_0.out)) | (with_reducible refine Kd.C_alloc ?_ _) | (with_reducible refine Kd.C_drewN ?_ _) | (with_reducible refine Kd.C_drew ?_))); (case side2 => exact HC303_0.out); rintro e w33 ⟨j8, rfl, ho0, hb⟩; refine ⟨_, rfl, ?_⟩; have f7 := am_ (Kd.R_lower (Kd.R_new' ho0 (Kd.R_lt (qR_ HL303_0))) (below_size qB_)); replace a0 := am_ (Kd.S_elder' (qS_ a0) (Kd.R_base ho0) hb); replace HL303_0 := ke_ HL303_0 ho0 hb; replace a2 := qbl_ a2 hb; replace a3 := qbl_ a3 hb; replace HR303_0 := am_ (Kd.C_below (by repeat (first | (with_reducible exact HR303_0.out) | (with_reducible refine Kd.C_alloc ?_ _) | (with_reducible refine Kd.C_drewN ?_ _) | (with_reducible refine Kd.C_drew ?_) | exact HR303_0.out)) hb); replace HB := hs_ hb; (try clear hb); (try clear hb2); (try clear hk); (try clear hi); (try clear ho0); obtain ⟨x9, y0, s4⟩ := Kd.R_slice f7.out; subst s4))
         go_ret
         exact ⟨qr_, qB_⟩
        have c30b0 : decide (x4_2 < (d3.length : Int)) = false := decide_eq_false c30
        clear c30; have H' := am_ H; clear H; obtain ⟨t5, t6⟩ := nn_ b1
        obtain ⟨i0, i1, i2, i3⟩ := bc2_ a3
        have p303 := dp_ x8_3
        have q303 := dl_ x8_3 a5.length
        obtain ⟨ad303, A303_0, c303_0, e303, c8, hl303_0, hi303_0⟩ := at_L5 (Kd.S_reads' a0.out).2.2 x8_3 p303 q303
        cases e303
        obtain ⟨ce303, hce303, hMe303, hcc303⟩ := Kd.S_get a0.out [] x8_3 p303 (by first | exact q303 | exact of_decide_eq_true qa_ | (have e_ := (Kd.S_reads' a0.out).1; omega))
        obtain ⟨ve303_0, rfl, ge303_0⟩ := hMe303
        have hv303_0 := hcc303 0 _ rfl
        rw [Nat.add_zero, show ((Kd.slice 3 (Kd.int .i64))).sz = 1 from rfl, Nat.mul_one] at hv303_0
        replace hv303_0 := Option.some.inj (hv303_0.symm.trans c8)
        rw [hv303_0] at ge303_0
        have HL303_0 := am_ (show Kd.R (Kd.int .i64) 3 _ _ _ _ (rd_L5 a5 x8_3) from ge303_0)
        clear hv303_0 ge303_0; clear hcc303 hce303
        have HR303_0 := am_ hi303_0
        have HC303_0 := am_ hl303_0
        clear hi303_0 hl303_0; replace p303 := eq_true p303; replace q303 := eq_true q303
        go_wp2_with (first | ((with_reducible refine gc_ 59 ?_); refine gl_ (some 57) Try.func59 #[.slice A303_0 (rd_L5 a5 x8_3).length c303_0] ?_; (with_reducible refine (spec_VertsOf.calls k3 _ _ (rd_L5 a5 x8_3) d3 _ ?side1 ?side2 A28.out).mono ?_); (case side1 => repeat (first | exact (by repeat (first | (with_reducible exact HR303_0.out) | (with_reducible refine Kd.C_alloc ?_ _) | (with_reducible refine Kd.C_drewN ?_ _) | (with_reducible refine Kd.C_drew ?_) | exact HR303_0.out)) | (with_reducible refine Kd.C_alloc ?_ _) | (with_reducible refine Kd.C_drewN ?_ _) | (with_reducible refine Kd.C_drew ?_))); (case side2 => exact HC303_0.out); rintro e w37 ⟨j8, rfl, ho0, hb⟩; refine ⟨_, rfl, ?_⟩; have f7 := am_ (Kd.R_lower (Kd.R_new' ho0 (Kd.R_lt (qR_ HL303_0))) (below_size qB_)); replace a0 := am_ (Kd.S_elder' (qS_ a0) (Kd.R_base ho0) hb); replace HL303_0 := ke_ HL303_0 ho0 hb; replace a2 := qbl_ a2 hb; replace a3 := qbl_ a3 hb; replace HR303_0 := am_ (Kd.C_below (by repeat (first | (with_reducible exact HR303_0.out) | (with_reducible refine Kd.C_alloc ?_ _) | (with_reducible refine Kd.C_drewN ?_ _) | (with_reducible refine Kd.C_drew ?_) | exact HR303_0.out)) hb); replace HB := hs_ hb; (try clear hb); (try clear hb2); (try clear hk); (try clear hi); (try clear ho0); obtain ⟨y1, y2, s5⟩ := Kd.R_slice f7.out; subst s5))
        go_roundg k3
        case measure => have := HK1.out; have := HK2.out; have := HK3.out; omega
        case rel => exact ⟨(wrap64 (x8_3 + 1)), qe_, H', ⟨by have := HK1.out; have := HK2.out; have := HK3.out; omega⟩, ⟨by (with_reducible repeat (first | apply Kd.S_alloc | apply Kd.S_drewN | apply Kd.S_drew)); exact Kd.S_mono a0.out (fun _ hk => trivial)⟩, ⟨qk_ a2⟩, ⟨qk_ a3⟩, ⟨qB_⟩⟩
       have H' := am_ H; clear H; obtain ⟨t7, t8⟩ := nn_ b1
       obtain ⟨i4, i5, i6, i7⟩ := bc2_ a3
       go_wp2
       go_loopg [10] k3 (fun kq v10 w' => ∃ (x10_4 : Int), v10 = .int .i64 x10_4 ∧ Aside0 (spec_WebOk.l3 kq x4_2 x5_2 x10_4 a0_0 l0_1 b0 a5 = some r) ∧ Aside0 (kq ≤ k3) ∧ Aside0 (Kd.S (Kd.slice 3 (Kd.int .i64)) 51 w' w.heap.size (fun _ => True) (.slice c0 a5.length c6) a5) ∧ Aside0 (w'.heap[c9]? = some (.cells #[.int .i64 a0_0, (.slice A0_1 l0_1.length c0_1)] 29 (0, 0))) ∧ Aside0 (w'.heap[b9]? = some (.cells #[.int .i64 b0, (.slice c0 a5.length c6)] 39 (0, 0))) ∧ Aside0 (Below w.heap.size w w'))
       case atStart => exact ⟨(0), qe_, H', ⟨Nat.le_refl _⟩, ⟨by (with_reducible repeat (first | apply Kd.S_alloc | apply Kd.S_drewN | apply Kd.S_drew)); first | exact a0.out | (have h_ := a0.out; simp only [own_slice] at h_ ⊢; exact h_)⟩, ⟨qk_ a2⟩, ⟨qk_ a3⟩, ⟨qB_⟩⟩
       case round =>
        clear H'
        (try clear c1); (try clear c2); (try clear p2); (try clear q2); (try clear s6); (try clear c3); (try clear p3); (try clear q3); (try clear y5); (try clear c4); (try clear c5); (try clear p6); (try clear c10); (try clear c10b0); (try clear c11); (try clear c11b0); (try clear c13); (try clear c14); (try clear c17); (try clear c17b0); (try clear c19); (try clear c23); (try clear c26); (try clear c26b0); (try clear c27); (try clear c27b0); (try clear c29); (try clear c29b0); (try clear c29b1); (try clear p29); (try clear q29); (try clear y3); (try clear c30); (try clear c30b0); (try clear p30); (try clear q30); (try clear y4); (try clear c31); (try clear c35); (try clear c39); (try clear c43); (try clear d9 e0); (try clear e3 e4); (try clear e7 e8); (try clear g0 g1); (try clear g4 g5); (try clear h6 h7); (try clear i0 i1); (try clear h2 h3); (try clear i4 i5); (try clear d5 d6); (try clear e1 e2); (try clear e5 e6); (try clear e9 f4); (try clear g2 g3); (try clear g6 g7); (try clear h8 h9); (try clear i2 i3); (try clear h4 h5); (try clear i6 i7); (try clear d7 d8); (try clear b5); (try clear b6); (try clear b7); (try clear b8); (try clear c8); (try clear p2); (try clear p295); (try clear p303); (try clear p6); (try clear q2); (try clear q295); (try clear q303)
        obtain ⟨x10_4, rfl, HA, HK4, a0, a2, a3, HB⟩ := hrel
        cases gk with
        | zero => exact absurd HA.out (by simp [spec_WebOk.l3])
        | succ k4 =>
         have H := HA.out; clear HA
         simp only [spec_WebOk.l3] at H
         refine ib_ H ?_ ?_ <;> clear H <;> intro c45b0 H
         ·have H' := am_ H; clear H; obtain ⟨t9, u0⟩ := nn_ b4
          obtain ⟨m1, m2, m3, m4⟩ := bc2_ a2
          go_wp2
          go_roundg k4
          case measure => have := HK1.out; have := HK2.out; have := HK3.out; have := HK4.out; omega
          case rel => exact ⟨(wrap64 (Int.tdiv x4_2 2)), (wrap64 (x5_2 + 1)), qe_, qe_, H', ⟨by have := HK1.out; have := HK2.out; have := HK3.out; have := HK4.out; omega⟩, ⟨qk_ a2⟩, ⟨qB_⟩⟩
         refine ig_ H ?_; clear H; intro c46b0 H
         obtain ⟨bq47, hbq47⟩ : ∃ b_ : Bool, b_ = ((rd_T72 l0_1 x10_4).f3) := ⟨_, rfl⟩
         replace H : (if (bq47 = true) then (spec_WebOk.l3 k4 x4_2 x5_2 (wrap64 (x10_4 + 1)) a0_0 l0_1 b0 a5) else (if ((rd_T72 l0_1 x10_4).f2) = x5_2 then ((spec_TreeOf.f k4 b0 a5 ((rd_T72 l0_1 x10_4).f0)).bind fun f5 => ((spec_TreeOf.f k4 b0 a5 ((rd_T72 l0_1 x10_4).f1)).bind fun f6 => (if f5 = f6 then (spec_WebOk.l3 k4 x4_2 x5_2 (wrap64 (x10_4 + 1)) a0_0 l0_1 b0 a5) else (some false)))) else (spec_WebOk.l3 k4 x4_2 x5_2 (wrap64 (x10_4 + 1)) a0_0 l0_1 b0 a5))) = some r := by rw [← hbq47] at H; exact H
         have Nbq47 := am_ hbq47
         clear hbq47
         refine ie_ H ?_ ?_ <;> clear H <;> rintro rfl H
         ·have H' := am_ H; clear H; obtain ⟨u1, u2⟩ := nn_ b4
          obtain ⟨m5, m6, m7, m8⟩ := bc2_ a2
          have p307 := dp_ x10_4
          have q307 := dl_ x10_4 l0_1.length
          obtain ⟨ad307, e307, a7, a8, a9, a6⟩ := at_T72 HR0_1.out x10_4 p307 q307
          (try rw [← Nbq47.out] at a6)
          cases e307
          replace a7 := qx_ HB a7
          replace a8 := qx_ HB a8
          replace a9 := qx_ HB a9
          replace a6 := qx_ HB a6
          replace p307 := eq_true p307; replace q307 := eq_true q307
          try go_wp2_with (first | ((with_reducible refine gd_ 11 ?_); refine by_ 11 (cs := #[.int .i64 0, .int .i64 0, .int .i64 0, .bool false]) (t := 72) ?_; intro a1 hg w51 a4 hb; have d4 := gw_ hg; obtain ⟨d0, b2⟩ := qn_ a2 hg; obtain ⟨d1, b3⟩ := qn_ a3 hg; replace a0 := am_ (Kd.S_below (qS_ a0) hb); replace a2 := qbl_ a2 hb; replace a3 := qbl_ a3 hb; replace HB := hs_ hb; clear hb hg; obtain ⟨u3, u4⟩ := nn_ b2; obtain ⟨u5, u6⟩ := nn_ b3; obtain ⟨m9, n0, n1, n2, n3, n4, n5, n6⟩ := bc4_ a4))
          have n0_ : Aside0 (Kd.S (Kd.slice 3 (Kd.int .i64)) 51 ((((w51.setCell ⟨a1, 0, none⟩ (.int .i64 ((rd_T72 l0_1 x10_4).f0))).setCell ⟨a1, 1, none⟩ (.int .i64 ((rd_T72 l0_1 x10_4).f1))).setCell ⟨a1, 2, none⟩ (.int .i64 ((rd_T72 l0_1 x10_4).f2))).setCell ⟨a1, 3, none⟩ (.bool true)) w.heap.size (fun _ => True) (.slice c0 a5.length c6) a5) := ⟨by (with_reducible repeat (first | apply Kd.S_alloc | apply Kd.S_drewN | apply Kd.S_drew)); exact Kd.S_mono (Kd.S_far (p := ⟨a1, 3, none⟩) (Kd.S_far (p := ⟨a1, 2, none⟩) (Kd.S_far (p := ⟨a1, 1, none⟩) (Kd.S_far (p := ⟨a1, 0, none⟩) (Kd.S_types a0.out a4.out (by decide)) (fun _ hk => hk.2) (.int .i64 ((rd_T72 l0_1 x10_4).f0))) (fun _ hk => hk.2) (.int .i64 ((rd_T72 l0_1 x10_4).f1))) (fun _ hk => hk.2) (.int .i64 ((rd_T72 l0_1 x10_4).f2))) (fun _ hk => hk.2) (.bool true)) (fun _ hk => trivial)⟩
          have n1_ : Aside0 (((((w51.setCell ⟨a1, 0, none⟩ (.int .i64 ((rd_T72 l0_1 x10_4).f0))).setCell ⟨a1, 1, none⟩ (.int .i64 ((rd_T72 l0_1 x10_4).f1))).setCell ⟨a1, 2, none⟩ (.int .i64 ((rd_T72 l0_1 x10_4).f2))).setCell ⟨a1, 3, none⟩ (.bool true)).heap[c9]? = some (.cells #[.int .i64 a0_0, .slice (some ad307) l0_1.length c0_1] 29 (0, 0))) := ⟨qf_ a2⟩
          have n2_ : Aside0 (((((w51.setCell ⟨a1, 0, none⟩ (.int .i64 ((rd_T72 l0_1 x10_4).f0))).setCell ⟨a1, 1, none⟩ (.int .i64 ((rd_T72 l0_1 x10_4).f1))).setCell ⟨a1, 2, none⟩ (.int .i64 ((rd_T72 l0_1 x10_4).f2))).setCell ⟨a1, 3, none⟩ (.bool true)).heap[b9]? = some (.cells #[.int .i64 b0, .slice c0 a5.length c6] 39 (0, 0))) := ⟨qf_ a3⟩
          have n3_ : Aside0 (((((w51.setCell ⟨a1, 0, none⟩ (.int .i64 ((rd_T72 l0_1 x10_4).f0))).setCell ⟨a1, 1, none⟩ (.int .i64 ((rd_T72 l0_1 x10_4).f1))).setCell ⟨a1, 2, none⟩ (.int .i64 ((rd_T72 l0_1 x10_4).f2))).setCell ⟨a1, 3, none⟩ (.bool true)).heap[a1]? = some (.cells #[.int .i64 ((rd_T72 l0_1 x10_4).f0), .int .i64 ((rd_T72 l0_1 x10_4).f1), .int .i64 ((rd_T72 l0_1 x10_4).f2), .bool true] 72 (0, 0))) := ⟨by (with_reducible repeat (first | refine blk_drewN ?_ _ | refine blk_drew ?_ | refine blk_alloc ?_ _)); refine blk_put (cs := #[.int .i64 ((rd_T72 l0_1 x10_4).f0), .int .i64 ((rd_T72 l0_1 x10_4).f1), .int .i64 ((rd_T72 l0_1 x10_4).f2), .bool false]) ?_ 3 _ rfl; (with_reducible repeat (first | refine blk_drewN ?_ _ | refine blk_drew ?_ | refine blk_alloc ?_ _)); refine blk_put (cs := #[.int .i64 ((rd_T72 l0_1 x10_4).f0), .int .i64 ((rd_T72 l0_1 x10_4).f1), .int .i64 0, .bool false]) ?_ 2 _ rfl; (with_reducible repeat (first | refine blk_drewN ?_ _ | refine blk_drew ?_ | refine blk_alloc ?_ _)); refine blk_put (cs := #[.int .i64 ((rd_T72 l0_1 x10_4).f0), .int .i64 0, .int .i64 0, .bool false]) ?_ 1 _ rfl; (with_reducible repeat (first | refine blk_drewN ?_ _ | refine blk_drew ?_ | refine blk_alloc ?_ _)); refine blk_put (cs := #[.int .i64 0, .int .i64 0, .int .i64 0, .bool false]) ?_ 0 _ rfl; exact qf_ a4⟩
          have n4_ : Aside0 (Below w.heap.size w ((((w51.setCell ⟨a1, 0, none⟩ (.int .i64 ((rd_T72 l0_1 x10_4).f0))).setCell ⟨a1, 1, none⟩ (.int .i64 ((rd_T72 l0_1 x10_4).f1))).setCell ⟨a1, 2, none⟩ (.int .i64 ((rd_T72 l0_1 x10_4).f2))).setCell ⟨a1, 3, none⟩ (.bool true))) := ⟨qB_⟩
          (try clear a0); (try clear a2); (try clear a3); (try clear a4); (try clear HB)
          generalize ((((w51.setCell ⟨a1, 0, none⟩ (.int .i64 ((rd_T72 l0_1 x10_4).f0))).setCell ⟨a1, 1, none⟩ (.int .i64 ((rd_T72 l0_1 x10_4).f1))).setCell ⟨a1, 2, none⟩ (.int .i64 ((rd_T72 l0_1 x10_4).f2))).setCell ⟨a1, 3, none⟩ (.bool true)) = w55 at n0_ n1_ n2_ n3_ n4_ ⊢
          have a0 := n0_; have a2 := n1_; have a3 := n2_; have a4 := n3_; have HB := n4_; clear n0_ n1_ n2_ n3_ n4_
          replace a0 := am_ (Kd.S_drew a0.out); replace a2 := am_ (blk_drew a2.out); replace a3 := am_ (blk_drew a3.out); replace a4 := am_ (blk_drew a4.out); replace HB := am_ (below_drew1 HB.out)
          refine start_ (n := 20) (S := fun w' => w'.cell? ⟨a1, 0, none⟩ = some (.int .i64 ((rd_T72 l0_1 x10_4).f0)) ∧ w'.cell? ⟨a1, 1, none⟩ = some (.int .i64 ((rd_T72 l0_1 x10_4).f1)) ∧ w'.cell? ⟨a1, 2, none⟩ = some (.int .i64 ((rd_T72 l0_1 x10_4).f2)) ∧ w'.cell? ⟨a1, 3, none⟩ = some (.bool true)) (ds := []) (bm 20 0) (by kernel_rfl) rfl (by kernel_rfl) ⟨bl_ a4 0, bl_ a4 1, bl_ a4 2, bl_ a4 3⟩ (fun hHeld => ?_); refine with_tabW spec_WebOk.tab25 spec_WebOk.bits25 (fun HT_ HW_ => ?_)
          generalize w55.drew = w56 at a0 a2 a3 a4 HB hHeld ⊢
          refine pz_ 0 78 20 1 ?_; refine tz4_ 1 79 20 3 ?_; refine pz_ 2 80 20 7 ?_; refine pz_ 3 81 20 15 ?_
          refine pu_ 4 82 20 31 ?_
          refine pu_ 5 83 20 63 ?_
          refine pu_ 6 84 20 127 ?_
          refine pu_ 7 85 20 255 ?_
          refine pz_ 8 86 20 511 ?_; refine pz_ 9 87 20 1023 ?_
          refine pu_ 10 88 20 2047 ?_
          refine pu_ 11 89 20 4095 ?_
          refine pu_ 12 90 20 8191 ?_
          refine pu_ 13 91 20 16383 ?_
          refine pu_ 14 92 20 32767 ?_
          refine pu_ 15 93 20 65535 ?_
          refine pu_ 16 94 20 131071 ?_
          refine pu_ 17 95 20 262143 ?_
          refine pu_ 18 96 20 524287 ?_
          refine pz_ 19 97 20 1048575 ?_
          refine done_ (done_of HT_.out (by kernel_rfl)) ?_
          try go_wp2
          go_roundg k4
          case measure => have := HK1.out; have := HK2.out; have := HK3.out; have := HK4.out; omega
          case rel => exact ⟨(wrap64 (x10_4 + 1)), qe_, H', ⟨by have := HK1.out; have := HK2.out; have := HK3.out; have := HK4.out; omega⟩, ⟨by (with_reducible repeat (first | apply Kd.S_alloc | apply Kd.S_drewN | apply Kd.S_drew)); first | exact a0.out | (have h_ := a0.out; simp only [own_slice] at h_ ⊢; exact h_)⟩, ⟨qk_ a2⟩, ⟨qk_ a3⟩, ⟨qB_⟩⟩
         refine jb_ H ?_ ?_ <;> clear H <;> intro c57 H
         ·have c57b0 : (((rd_T72 l0_1 x10_4).f2) == x5_2) = false := beq_eq_false_iff_ne.mpr c57
          have c57b1 : (((rd_T72 l0_1 x10_4).f2) != x5_2) = true := bne_iff_ne.mpr c57
          have H' := am_ H; clear H; obtain ⟨u7, u8⟩ := nn_ b4
          obtain ⟨n7, n8, n9, o0⟩ := bc2_ a2
          have p307 := dp_ x10_4
          have q307 := dl_ x10_4 l0_1.length
          obtain ⟨ad307, e307, a7, a8, a9, a6⟩ := at_T72 HR0_1.out x10_4 p307 q307
          (try rw [← Nbq47.out] at a6)
          cases e307
          replace a7 := qx_ HB a7
          replace a8 := qx_ HB a8
          replace a9 := qx_ HB a9
          replace a6 := qx_ HB a6
          replace p307 := eq_true p307; replace q307 := eq_true q307
          try go_wp2_with (first | ((with_reducible refine gd_ 11 ?_); refine by_ 11 (cs := #[.int .i64 0, .int .i64 0, .int .i64 0, .bool false]) (t := 72) ?_; intro a1 hg w83 a4 hb; have d4 := gw_ hg; obtain ⟨d0, b2⟩ := qn_ a2 hg; obtain ⟨d1, b3⟩ := qn_ a3 hg; replace a0 := am_ (Kd.S_below (qS_ a0) hb); replace a2 := qbl_ a2 hb; replace a3 := qbl_ a3 hb; replace HB := hs_ hb; clear hb hg; obtain ⟨u9, v0⟩ := nn_ b2; obtain ⟨v1, v2⟩ := nn_ b3; obtain ⟨o1, o2, o3, o4, o5, o6, o7, o8⟩ := bc4_ a4))
          have n0_ : Aside0 (Kd.S (Kd.slice 3 (Kd.int .i64)) 51 ((((w83.setCell ⟨a1, 0, none⟩ (.int .i64 ((rd_T72 l0_1 x10_4).f0))).setCell ⟨a1, 1, none⟩ (.int .i64 ((rd_T72 l0_1 x10_4).f1))).setCell ⟨a1, 2, none⟩ (.int .i64 ((rd_T72 l0_1 x10_4).f2))).setCell ⟨a1, 3, none⟩ (.bool false)) w.heap.size (fun _ => True) (.slice c0 a5.length c6) a5) := ⟨by (with_reducible repeat (first | apply Kd.S_alloc | apply Kd.S_drewN | apply Kd.S_drew)); exact Kd.S_mono (Kd.S_far (p := ⟨a1, 3, none⟩) (Kd.S_far (p := ⟨a1, 2, none⟩) (Kd.S_far (p := ⟨a1, 1, none⟩) (Kd.S_far (p := ⟨a1, 0, none⟩) (Kd.S_types a0.out a4.out (by decide)) (fun _ hk => hk.2) (.int .i64 ((rd_T72 l0_1 x10_4).f0))) (fun _ hk => hk.2) (.int .i64 ((rd_T72 l0_1 x10_4).f1))) (fun _ hk => hk.2) (.int .i64 ((rd_T72 l0_1 x10_4).f2))) (fun _ hk => hk.2) (.bool false)) (fun _ hk => trivial)⟩
          have n1_ : Aside0 (((((w83.setCell ⟨a1, 0, none⟩ (.int .i64 ((rd_T72 l0_1 x10_4).f0))).setCell ⟨a1, 1, none⟩ (.int .i64 ((rd_T72 l0_1 x10_4).f1))).setCell ⟨a1, 2, none⟩ (.int .i64 ((rd_T72 l0_1 x10_4).f2))).setCell ⟨a1, 3, none⟩ (.bool false)).heap[c9]? = some (.cells #[.int .i64 a0_0, .slice (some ad307) l0_1.length c0_1] 29 (0, 0))) := ⟨qf_ a2⟩
          have n2_ : Aside0 (((((w83.setCell ⟨a1, 0, none⟩ (.int .i64 ((rd_T72 l0_1 x10_4).f0))).setCell ⟨a1, 1, none⟩ (.int .i64 ((rd_T72 l0_1 x10_4).f1))).setCell ⟨a1, 2, none⟩ (.int .i64 ((rd_T72 l0_1 x10_4).f2))).setCell ⟨a1, 3, none⟩ (.bool false)).heap[b9]? = some (.cells #[.int .i64 b0, .slice c0 a5.length c6] 39 (0, 0))) := ⟨qf_ a3⟩
          have n3_ : Aside0 (((((w83.setCell ⟨a1, 0, none⟩ (.int .i64 ((rd_T72 l0_1 x10_4).f0))).setCell ⟨a1, 1, none⟩ (.int .i64 ((rd_T72 l0_1 x10_4).f1))).setCell ⟨a1, 2, none⟩ (.int .i64 ((rd_T72 l0_1 x10_4).f2))).setCell ⟨a1, 3, none⟩ (.bool false)).heap[a1]? = some (.cells #[.int .i64 ((rd_T72 l0_1 x10_4).f0), .int .i64 ((rd_T72 l0_1 x10_4).f1), .int .i64 ((rd_T72 l0_1 x10_4).f2), .bool false] 72 (0, 0))) := ⟨by (with_reducible repeat (first | refine blk_drewN ?_ _ | refine blk_drew ?_ | refine blk_alloc ?_ _)); refine blk_put (cs := #[.int .i64 ((rd_T72 l0_1 x10_4).f0), .int .i64 ((rd_T72 l0_1 x10_4).f1), .int .i64 ((rd_T72 l0_1 x10_4).f2), .bool false]) ?_ 3 _ rfl; (with_reducible repeat (first | refine blk_drewN ?_ _ | refine blk_drew ?_ | refine blk_alloc ?_ _)); refine blk_put (cs := #[.int .i64 ((rd_T72 l0_1 x10_4).f0), .int .i64 ((rd_T72 l0_1 x10_4).f1), .int .i64 0, .bool false]) ?_ 2 _ rfl; (with_reducible repeat (first | refine blk_drewN ?_ _ | refine blk_drew ?_ | refine blk_alloc ?_ _)); refine blk_put (cs := #[.int .i64 ((rd_T72 l0_1 x10_4).f0), .int .i64 0, .int .i64 0, .bool false]) ?_ 1 _ rfl; (with_reducible repeat (first | refine blk_drewN ?_ _ | refine blk_drew ?_ | refine blk_alloc ?_ _)); refine blk_put (cs := #[.int .i64 0, .int .i64 0, .int .i64 0, .bool false]) ?_ 0 _ rfl; exact qf_ a4⟩
          have n4_ : Aside0 (Below w.heap.size w ((((w83.setCell ⟨a1, 0, none⟩ (.int .i64 ((rd_T72 l0_1 x10_4).f0))).setCell ⟨a1, 1, none⟩ (.int .i64 ((rd_T72 l0_1 x10_4).f1))).setCell ⟨a1, 2, none⟩ (.int .i64 ((rd_T72 l0_1 x10_4).f2))).setCell ⟨a1, 3, none⟩ (.bool false))) := ⟨qB_⟩
          (try clear a0); (try clear a2); (try clear a3); (try clear a4); (try clear HB)
          generalize ((((w83.setCell ⟨a1, 0, none⟩ (.int .i64 ((rd_T72 l0_1 x10_4).f0))).setCell ⟨a1, 1, none⟩ (.int .i64 ((rd_T72 l0_1 x10_4).f1))).setCell ⟨a1, 2, none⟩ (.int .i64 ((rd_T72 l0_1 x10_4).f2))).setCell ⟨a1, 3, none⟩ (.bool false)) = w87 at n0_ n1_ n2_ n3_ n4_ ⊢
          have a0 := n0_; have a2 := n1_; have a3 := n2_; have a4 := n3_; have HB := n4_; clear n0_ n1_ n2_ n3_ n4_
          replace a0 := am_ (Kd.S_drew a0.out); replace a2 := am_ (blk_drew a2.out); replace a3 := am_ (blk_drew a3.out); replace a4 := am_ (blk_drew a4.out); replace HB := am_ (below_drew1 HB.out)
          refine start_ (n := 20) (S := fun w' => w'.cell? ⟨a1, 0, none⟩ = some (.int .i64 ((rd_T72 l0_1 x10_4).f0)) ∧ w'.cell? ⟨a1, 1, none⟩ = some (.int .i64 ((rd_T72 l0_1 x10_4).f1)) ∧ w'.cell? ⟨a1, 2, none⟩ = some (.int .i64 ((rd_T72 l0_1 x10_4).f2)) ∧ w'.cell? ⟨a1, 3, none⟩ = some (.bool false)) (ds := []) (bm 20 0) (by kernel_rfl) rfl (by kernel_rfl) ⟨bl_ a4 0, bl_ a4 1, bl_ a4 2, bl_ a4 3⟩ (fun hHeld => ?_); refine with_tabW spec_WebOk.tab25 spec_WebOk.bits25 (fun HT_ HW_ => ?_)
          generalize w87.drew = w88 at a0 a2 a3 a4 HB hHeld ⊢
          refine pz_ 0 78 20 1 ?_; refine tz4_ 1 79 20 3 ?_; refine pz_ 2 80 20 7 ?_; refine pz_ 3 81 20 15 ?_; refine pz_ 4 82 20 31 ?_; refine pz_ 6 84 20 95 ?_; refine tz4_ 5 83 20 127 ?_; refine pz_ 7 85 20 255 ?_; refine pz_ 8 86 20 511 ?_; refine pz_ 9 87 20 1023 ?_
          refine pu_ 10 88 20 2047 ?_
          refine pu_ 11 89 20 4095 ?_
          refine pu_ 12 90 20 8191 ?_
          refine pu_ 13 91 20 16383 ?_
          refine pu_ 14 92 20 32767 ?_
          refine pu_ 15 93 20 65535 ?_
          refine pu_ 16 94 20 131071 ?_
          refine pu_ 17 95 20 262143 ?_
          refine pu_ 18 96 20 524287 ?_
          refine pz_ 19 97 20 1048575 ?_
          refine done_ (done_of HT_.out (by kernel_rfl)) ?_
          try go_wp2
          go_roundg k4
          case measure => have := HK1.out; have := HK2.out; have := HK3.out; have := HK4.out; omega
          case rel => exact ⟨(wrap64 (x10_4 + 1)), qe_, H', ⟨by have := HK1.out; have := HK2.out; have := HK3.out; have := HK4.out; omega⟩, ⟨by (with_reducible repeat (first | apply Kd.S_alloc | apply Kd.S_drewN | apply Kd.S_drew)); first | exact a0.out | (have h_ := a0.out; simp only [own_slice] at h_ ⊢; exact h_)⟩, ⟨qk_ a2⟩, ⟨qk_ a3⟩, ⟨qB_⟩⟩
         have c57b0 : (((rd_T72 l0_1 x10_4).f2) == x5_2) = true := beq_iff_eq.mpr c57
         have c57b1 : (((rd_T72 l0_1 x10_4).f2) != x5_2) = false := bne_eq_false_iff_eq.mpr c57
         clear c57
         obtain ⟨f5, A58, H⟩ := bs_ H
         obtain ⟨f6, A59, H⟩ := bs_ H
         refine jc_ H ?_ ?_ <;> clear H <;> intro c60 H
         ·have c60b0 : (f5 == f6) = true := beq_iff_eq.mpr c60
          have c60b1 : (f5 != f6) = false := bne_eq_false_iff_eq.mpr c60
          clear c60; have H' := am_ H; clear H; obtain ⟨v6, v7⟩ := nn_ b4
          obtain ⟨o9, p0, p1, p4⟩ := bc2_ a2
          have p307 := dp_ x10_4
          have q307 := dl_ x10_4 l0_1.length
          obtain ⟨ad307, e307, a7, a8, a9, a6⟩ := at_T72 HR0_1.out x10_4 p307 q307
          (try rw [← Nbq47.out] at a6)
          cases e307
          replace a7 := qx_ HB a7
          replace a8 := qx_ HB a8
          replace a9 := qx_ HB a9
          replace a6 := qx_ HB a6
          replace p307 := eq_true p307; replace q307 := eq_true q307
          try go_wp2_with (first | ((with_reducible refine gd_ 11 ?_); refine by_ 11 (cs := #[.int .i64 0, .int .i64 0, .int .i64 0, .bool false]) (t := 72) ?_; intro a1 hg w63 a4 hb; have d4 := gw_ hg; obtain ⟨d0, b2⟩ := qn_ a2 hg; obtain ⟨d1, b3⟩ := qn_ a3 hg; replace a0 := am_ (Kd.S_below (qS_ a0) hb); replace a2 := qbl_ a2 hb; replace a3 := qbl_ a3 hb; replace HB := hs_ hb; clear hb hg; obtain ⟨v9, w0⟩ := nn_ b2; obtain ⟨w1, w2⟩ := nn_ b3; obtain ⟨p5, p7, p8, p9, q0, q1, q4, q5⟩ := bc4_ a4))
          have n0_ : Aside0 (Kd.S (Kd.slice 3 (Kd.int .i64)) 51 ((((w63.setCell ⟨a1, 0, none⟩ (.int .i64 ((rd_T72 l0_1 x10_4).f0))).setCell ⟨a1, 1, none⟩ (.int .i64 ((rd_T72 l0_1 x10_4).f1))).setCell ⟨a1, 2, none⟩ (.int .i64 ((rd_T72 l0_1 x10_4).f2))).setCell ⟨a1, 3, none⟩ (.bool false)) w.heap.size (fun _ => True) (.slice c0 a5.length c6) a5) := ⟨by (with_reducible repeat (first | apply Kd.S_alloc | apply Kd.S_drewN | apply Kd.S_drew)); exact Kd.S_mono (Kd.S_far (p := ⟨a1, 3, none⟩) (Kd.S_far (p := ⟨a1, 2, none⟩) (Kd.S_far (p := ⟨a1, 1, none⟩) (Kd.S_far (p := ⟨a1, 0, none⟩) (Kd.S_types a0.out a4.out (by decide)) (fun _ hk => hk.2) (.int .i64 ((rd_T72 l0_1 x10_4).f0))) (fun _ hk => hk.2) (.int .i64 ((rd_T72 l0_1 x10_4).f1))) (fun _ hk => hk.2) (.int .i64 ((rd_T72 l0_1 x10_4).f2))) (fun _ hk => hk.2) (.bool false)) (fun _ hk => trivial)⟩
          have n1_ : Aside0 (((((w63.setCell ⟨a1, 0, none⟩ (.int .i64 ((rd_T72 l0_1 x10_4).f0))).setCell ⟨a1, 1, none⟩ (.int .i64 ((rd_T72 l0_1 x10_4).f1))).setCell ⟨a1, 2, none⟩ (.int .i64 ((rd_T72 l0_1 x10_4).f2))).setCell ⟨a1, 3, none⟩ (.bool false)).heap[c9]? = some (.cells #[.int .i64 a0_0, .slice (some ad307) l0_1.length c0_1] 29 (0, 0))) := ⟨qf_ a2⟩
          have n2_ : Aside0 (((((w63.setCell ⟨a1, 0, none⟩ (.int .i64 ((rd_T72 l0_1 x10_4).f0))).setCell ⟨a1, 1, none⟩ (.int .i64 ((rd_T72 l0_1 x10_4).f1))).setCell ⟨a1, 2, none⟩ (.int .i64 ((rd_T72 l0_1 x10_4).f2))).setCell ⟨a1, 3, none⟩ (.bool false)).heap[b9]? = some (.cells #[.int .i64 b0, .slice c0 a5.length c6] 39 (0, 0))) := ⟨qf_ a3⟩
          have n3_ : Aside0 (((((w63.setCell ⟨a1, 0, none⟩ (.int .i64 ((rd_T72 l0_1 x10_4).f0))).setCell ⟨a1, 1, none⟩ (.int .i64 ((rd_T72 l0_1 x10_4).f1))).setCell ⟨a1, 2, none⟩ (.int .i64 ((rd_T72 l0_1 x10_4).f2))).setCell ⟨a1, 3, none⟩ (.bool false)).heap[a1]? = some (.cells #[.int .i64 ((rd_T72 l0_1 x10_4).f0), .int .i64 ((rd_T72 l0_1 x10_4).f1), .int .i64 ((rd_T72 l0_1 x10_4).f2), .bool false] 72 (0, 0))) := ⟨by (with_reducible repeat (first | refine blk_drewN ?_ _ | refine blk_drew ?_ | refine blk_alloc ?_ _)); refine blk_put (cs := #[.int .i64 ((rd_T72 l0_1 x10_4).f0), .int .i64 ((rd_T72 l0_1 x10_4).f1), .int .i64 ((rd_T72 l0_1 x10_4).f2), .bool false]) ?_ 3 _ rfl; (with_reducible repeat (first | refine blk_drewN ?_ _ | refine blk_drew ?_ | refine blk_alloc ?_ _)); refine blk_put (cs := #[.int .i64 ((rd_T72 l0_1 x10_4).f0), .int .i64 ((rd_T72 l0_1 x10_4).f1), .int .i64 0, .bool false]) ?_ 2 _ rfl; (with_reducible repeat (first | refine blk_drewN ?_ _ | refine blk_drew ?_ | refine blk_alloc ?_ _)); refine blk_put (cs := #[.int .i64 ((rd_T72 l0_1 x10_4).f0), .int .i64 0, .int .i64 0, .bool false]) ?_ 1 _ rfl; (with_reducible repeat (first | refine blk_drewN ?_ _ | refine blk_drew ?_ | refine blk_alloc ?_ _)); refine blk_put (cs := #[.int .i64 0, .int .i64 0, .int .i64 0, .bool false]) ?_ 0 _ rfl; exact qf_ a4⟩
          have n4_ : Aside0 (Below w.heap.size w ((((w63.setCell ⟨a1, 0, none⟩ (.int .i64 ((rd_T72 l0_1 x10_4).f0))).setCell ⟨a1, 1, none⟩ (.int .i64 ((rd_T72 l0_1 x10_4).f1))).setCell ⟨a1, 2, none⟩ (.int .i64 ((rd_T72 l0_1 x10_4).f2))).setCell ⟨a1, 3, none⟩ (.bool false))) := ⟨qB_⟩
          (try clear a0); (try clear a2); (try clear a3); (try clear a4); (try clear HB)
          generalize ((((w63.setCell ⟨a1, 0, none⟩ (.int .i64 ((rd_T72 l0_1 x10_4).f0))).setCell ⟨a1, 1, none⟩ (.int .i64 ((rd_T72 l0_1 x10_4).f1))).setCell ⟨a1, 2, none⟩ (.int .i64 ((rd_T72 l0_1 x10_4).f2))).setCell ⟨a1, 3, none⟩ (.bool false)) = w67 at n0_ n1_ n2_ n3_ n4_ ⊢
          have a0 := n0_; have a2 := n1_; have a3 := n2_; have a4 := n3_; have HB := n4_; clear n0_ n1_ n2_ n3_ n4_
          replace a0 := am_ (Kd.S_drew a0.out); replace a2 := am_ (blk_drew a2.out); replace a3 := am_ (blk_drew a3.out); replace a4 := am_ (blk_drew a4.out); replace HB := am_ (below_drew1 HB.out)
          refine start_ (n := 20) (S := fun w' => w'.cell? ⟨a1, 0, none⟩ = some (.int .i64 ((rd_T72 l0_1 x10_4).f0)) ∧ w'.cell? ⟨a1, 1, none⟩ = some (.int .i64 ((rd_T72 l0_1 x10_4).f1)) ∧ w'.cell? ⟨a1, 2, none⟩ = some (.int .i64 ((rd_T72 l0_1 x10_4).f2)) ∧ w'.cell? ⟨a1, 3, none⟩ = some (.bool false) ∧ w'.cell? ⟨b9, 0, none⟩ = some (.int .i64 b0) ∧ w'.cell? ⟨b9, 1, none⟩ = some (.slice c0 a5.length c6)) (ds := []) (bm 20 0) (by kernel_rfl) rfl (by kernel_rfl) ⟨bl_ a4 0, bl_ a4 1, bl_ a4 2, bl_ a4 3, bl_ a3 0, bl_ a3 1⟩ (fun hHeld => ?_); refine with_tabW spec_WebOk.tab25 spec_WebOk.bits25 (fun HT_ HW_ => ?_)
          generalize w67.drew = w68 at a0 a2 a3 a4 HB hHeld ⊢
          refine pz_ 0 78 20 1 ?_; refine tz6_ 1 79 20 3 ?_; refine pz_ 2 80 20 7 ?_; refine pz_ 3 81 20 15 ?_; refine pz_ 4 82 20 31 ?_; refine pz_ 6 84 20 95 ?_; refine tz6_ 5 83 20 127 ?_; refine pz_ 7 85 20 255 ?_; refine pz_ 8 86 20 511 ?_; refine pz_ 9 87 20 1023 ?_; refine pz_ 11 89 20 3071 ?_; refine pz_ 15 93 20 35839 ?_; refine tz6_ 10 88 20 36863 ?_; refine tz6_ 12 90 20 40959 ?_; refine tz6_ 14 92 20 57343 ?_; refine tz6_ 16 94 20 122879 ?_
          refine o1_ 13 (some 91) 20 131071 (fun K hK => ?_)
          refine gs_ Try.func60 #[.agg #[.int .i64 b0, .slice c0 a5.length c6], .int .i64 ((rd_T72 l0_1 x10_4).f0)] ?_
          with_reducible refine (spec_TreeOf.calls k4 b0 _ _ a5 ((rd_T72 l0_1 x10_4).f0) f5 _ ?side1 ?side2 A58.out).mono ?_
          (case side1 => exact qD_ (Kd.S_reads' a0.out).2.2)
          (case side2 => exact (Kd.S_reads' a0.out).2.1)
          rintro e w69 ⟨rfl, hb⟩
          refine ⟨_, rfl, ?_⟩
          replace a0 := am_ (Kd.S_below (qS_ a0) hb); replace a2 := qbl_ a2 hb; replace a3 := qbl_ a3 hb; replace a4 := qbl_ a4 hb; replace HB := hs_ hb; (try clear hb); (try clear hb2); (try clear hk); (try clear hi)
          refine hK.out _ _ ⟨bl_ a4 0, bl_ a4 1, bl_ a4 2, bl_ a4 3, bl_ a3 0, bl_ a3 1⟩ (fun hHeld => ?_)
          clear hK K
          refine nm_ 91 ?_
          refine o1_ 17 (some 95) 20 262143 (fun K hK => ?_)
          refine gs_ Try.func60 #[.agg #[.int .i64 b0, .slice c0 a5.length c6], .int .i64 ((rd_T72 l0_1 x10_4).f1)] ?_
          with_reducible refine (spec_TreeOf.calls k4 b0 _ _ a5 ((rd_T72 l0_1 x10_4).f1) f6 _ ?side1 ?side2 A59.out).mono ?_
          (case side1 => exact qD_ (Kd.S_reads' a0.out).2.2)
          (case side2 => exact (Kd.S_reads' a0.out).2.1)
          rintro e w70 ⟨rfl, hb⟩
          refine ⟨_, rfl, ?_⟩
          replace a0 := am_ (Kd.S_below (qS_ a0) hb); replace a2 := qbl_ a2 hb; replace a3 := qbl_ a3 hb; replace a4 := qbl_ a4 hb; replace HB := hs_ hb; (try clear hb); (try clear hb2); (try clear hk); (try clear hi)
          refine hK.out _ _ ⟨bl_ a4 0, bl_ a4 1, bl_ a4 2, bl_ a4 3, bl_ a3 0, bl_ a3 1⟩ (fun hHeld => ?_)
          clear hK K
          refine nm_ 95 ?_
          refine pz_ 18 96 20 524287 ?_; refine pz_ 19 97 20 1048575 ?_
          refine done_ (done_of HT_.out (by kernel_rfl)) ?_
          try go_wp2
          go_roundg k4
          case measure => have := HK1.out; have := HK2.out; have := HK3.out; have := HK4.out; omega
          case rel => exact ⟨(wrap64 (x10_4 + 1)), qe_, H', ⟨by have := HK1.out; have := HK2.out; have := HK3.out; have := HK4.out; omega⟩, ⟨by (with_reducible repeat (first | apply Kd.S_alloc | apply Kd.S_drewN | apply Kd.S_drew)); first | exact a0.out | (have h_ := a0.out; simp only [own_slice] at h_ ⊢; exact h_)⟩, ⟨qk_ a2⟩, ⟨qk_ a3⟩, ⟨qB_⟩⟩
         have c60b0 : (f5 == f6) = false := beq_eq_false_iff_ne.mpr c60
         have c60b1 : (f5 != f6) = true := bne_iff_ne.mpr c60
         obtain rfl := oi_ H
         obtain ⟨w3, w4⟩ := nn_ b4
         obtain ⟨q6, q7, q8, q9⟩ := bc2_ a2
         have p307 := dp_ x10_4
         have q307 := dl_ x10_4 l0_1.length
         obtain ⟨ad307, e307, a7, a8, a9, a6⟩ := at_T72 HR0_1.out x10_4 p307 q307
         (try rw [← Nbq47.out] at a6)
         cases e307
         replace a7 := qx_ HB a7
         replace a8 := qx_ HB a8
         replace a9 := qx_ HB a9
         replace a6 := qx_ HB a6
         replace p307 := eq_true p307; replace q307 := eq_true q307
         try go_wp2_with (first | ((with_reducible refine gd_ 11 ?_); refine by_ 11 (cs := #[.int .i64 0, .int .i64 0, .int .i64 0, .bool false]) (t := 72) ?_; intro a1 hg w73 a4 hb; have d4 := gw_ hg; obtain ⟨d0, b2⟩ := qn_ a2 hg; obtain ⟨d1, b3⟩ := qn_ a3 hg; replace a0 := am_ (Kd.S_below (qS_ a0) hb); replace a2 := qbl_ a2 hb; replace a3 := qbl_ a3 hb; replace HB := hs_ hb; clear hb hg; obtain ⟨w6, w8⟩ := nn_ b2; obtain ⟨x0, x1⟩ := nn_ b3; obtain ⟨r0, r1, r2, r3, r4, r5, r6, r7⟩ := bc4_ a4))
         have n0_ : Aside0 (Kd.S (Kd.slice 3 (Kd.int .i64)) 51 ((((w73.setCell ⟨a1, 0, none⟩ (.int .i64 ((rd_T72 l0_1 x10_4).f0))).setCell ⟨a1, 1, none⟩ (.int .i64 ((rd_T72 l0_1 x10_4).f1))).setCell ⟨a1, 2, none⟩ (.int .i64 ((rd_T72 l0_1 x10_4).f2))).setCell ⟨a1, 3, none⟩ (.bool false)) w.heap.size (fun _ => True) (.slice c0 a5.length c6) a5) := ⟨by (with_reducible repeat (first | apply Kd.S_alloc | apply Kd.S_drewN | apply Kd.S_drew)); exact Kd.S_mono (Kd.S_far (p := ⟨a1, 3, none⟩) (Kd.S_far (p := ⟨a1, 2, none⟩) (Kd.S_far (p := ⟨a1, 1, none⟩) (Kd.S_far (p := ⟨a1, 0, none⟩) (Kd.S_types a0.out a4.out (by decide)) (fun _ hk => hk.2) (.int .i64 ((rd_T72 l0_1 x10_4).f0))) (fun _ hk => hk.2) (.int .i64 ((rd_T72 l0_1 x10_4).f1))) (fun _ hk => hk.2) (.int .i64 ((rd_T72 l0_1 x10_4).f2))) (fun _ hk => hk.2) (.bool false)) (fun _ hk => trivial)⟩
         have n1_ : Aside0 (((((w73.setCell ⟨a1, 0, none⟩ (.int .i64 ((rd_T72 l0_1 x10_4).f0))).setCell ⟨a1, 1, none⟩ (.int .i64 ((rd_T72 l0_1 x10_4).f1))).setCell ⟨a1, 2, none⟩ (.int .i64 ((rd_T72 l0_1 x10_4).f2))).setCell ⟨a1, 3, none⟩ (.bool false)).heap[c9]? = some (.cells #[.int .i64 a0_0, .slice (some ad307) l0_1.length c0_1] 29 (0, 0))) := ⟨qf_ a2⟩
         have n2_ : Aside0 (((((w73.setCell ⟨a1, 0, none⟩ (.int .i64 ((rd_T72 l0_1 x10_4).f0))).setCell ⟨a1, 1, none⟩ (.int .i64 ((rd_T72 l0_1 x10_4).f1))).setCell ⟨a1, 2, none⟩ (.int .i64 ((rd_T72 l0_1 x10_4).f2))).setCell ⟨a1, 3, none⟩ (.bool false)).heap[b9]? = some (.cells #[.int .i64 b0, .slice c0 a5.length c6] 39 (0, 0))) := ⟨qf_ a3⟩
         have n3_ : Aside0 (((((w73.setCell ⟨a1, 0, none⟩ (.int .i64 ((rd_T72 l0_1 x10_4).f0))).setCell ⟨a1, 1, none⟩ (.int .i64 ((rd_T72 l0_1 x10_4).f1))).setCell ⟨a1, 2, none⟩ (.int .i64 ((rd_T72 l0_1 x10_4).f2))).setCell ⟨a1, 3, none⟩ (.bool false)).heap[a1]? = some (.cells #[.int .i64 ((rd_T72 l0_1 x10_4).f0), .int .i64 ((rd_T72 l0_1 x10_4).f1), .int .i64 ((rd_T72 l0_1 x10_4).f2), .bool false] 72 (0, 0))) := ⟨by (with_reducible repeat (first | refine blk_drewN ?_ _ | refine blk_drew ?_ | refine blk_alloc ?_ _)); refine blk_put (cs := #[.int .i64 ((rd_T72 l0_1 x10_4).f0), .int .i64 ((rd_T72 l0_1 x10_4).f1), .int .i64 ((rd_T72 l0_1 x10_4).f2), .bool false]) ?_ 3 _ rfl; (with_reducible repeat (first | refine blk_drewN ?_ _ | refine blk_drew ?_ | refine blk_alloc ?_ _)); refine blk_put (cs := #[.int .i64 ((rd_T72 l0_1 x10_4).f0), .int .i64 ((rd_T72 l0_1 x10_4).f1), .int .i64 0, .bool false]) ?_ 2 _ rfl; (with_reducible repeat (first | refine blk_drewN ?_ _ | refine blk_drew ?_ | refine blk_alloc ?_ _)); refine blk_put (cs := #[.int .i64 ((rd_T72 l0_1 x10_4).f0), .int .i64 0, .int .i64 0, .bool false]) ?_ 1 _ rfl; (with_reducible repeat (first | refine blk_drewN ?_ _ | refine blk_drew ?_ | refine blk_alloc ?_ _)); refine blk_put (cs := #[.int .i64 0, .int .i64 0, .int .i64 0, .bool false]) ?_ 0 _ rfl; exact qf_ a4⟩
         have n4_ : Aside0 (Below w.heap.size w ((((w73.setCell ⟨a1, 0, none⟩ (.int .i64 ((rd_T72 l0_1 x10_4).f0))).setCell ⟨a1, 1, none⟩ (.int .i64 ((rd_T72 l0_1 x10_4).f1))).setCell ⟨a1, 2, none⟩ (.int .i64 ((rd_T72 l0_1 x10_4).f2))).setCell ⟨a1, 3, none⟩ (.bool false))) := ⟨qB_⟩
         (try clear a0); (try clear a2); (try clear a3); (try clear a4); (try clear HB)
         generalize ((((w73.setCell ⟨a1, 0, none⟩ (.int .i64 ((rd_T72 l0_1 x10_4).f0))).setCell ⟨a1, 1, none⟩ (.int .i64 ((rd_T72 l0_1 x10_4).f1))).setCell ⟨a1, 2, none⟩ (.int .i64 ((rd_T72 l0_1 x10_4).f2))).setCell ⟨a1, 3, none⟩ (.bool false)) = w77 at n0_ n1_ n2_ n3_ n4_ ⊢
         have a0 := n0_; have a2 := n1_; have a3 := n2_; have a4 := n3_; have HB := n4_; clear n0_ n1_ n2_ n3_ n4_
         replace a0 := am_ (Kd.S_drew a0.out); replace a2 := am_ (blk_drew a2.out); replace a3 := am_ (blk_drew a3.out); replace a4 := am_ (blk_drew a4.out); replace HB := am_ (below_drew1 HB.out)
         refine start_ (n := 20) (S := fun w' => w'.cell? ⟨a1, 0, none⟩ = some (.int .i64 ((rd_T72 l0_1 x10_4).f0)) ∧ w'.cell? ⟨a1, 1, none⟩ = some (.int .i64 ((rd_T72 l0_1 x10_4).f1)) ∧ w'.cell? ⟨a1, 2, none⟩ = some (.int .i64 ((rd_T72 l0_1 x10_4).f2)) ∧ w'.cell? ⟨a1, 3, none⟩ = some (.bool false) ∧ w'.cell? ⟨b9, 0, none⟩ = some (.int .i64 b0) ∧ w'.cell? ⟨b9, 1, none⟩ = some (.slice c0 a5.length c6)) (ds := []) (bm 20 0) (by kernel_rfl) rfl (by kernel_rfl) ⟨bl_ a4 0, bl_ a4 1, bl_ a4 2, bl_ a4 3, bl_ a3 0, bl_ a3 1⟩ (fun hHeld => ?_); refine with_tabW spec_WebOk.tab25 spec_WebOk.bits25 (fun HT_ HW_ => ?_)
         generalize w77.drew = w78 at a0 a2 a3 a4 HB hHeld ⊢
         refine pz_ 0 78 20 1 ?_; refine tz6_ 1 79 20 3 ?_; refine pz_ 2 80 20 7 ?_; refine pz_ 3 81 20 15 ?_; refine pz_ 4 82 20 31 ?_; refine pz_ 6 84 20 95 ?_; refine tz6_ 5 83 20 127 ?_; refine pz_ 7 85 20 255 ?_; refine pz_ 8 86 20 511 ?_; refine pz_ 9 87 20 1023 ?_; refine pz_ 11 89 20 3071 ?_; refine pz_ 15 93 20 35839 ?_; refine tz6_ 10 88 20 36863 ?_; refine tz6_ 12 90 20 40959 ?_; refine tz6_ 14 92 20 57343 ?_; refine tz6_ 16 94 20 122879 ?_
         refine o1_ 13 (some 91) 20 131071 (fun K hK => ?_)
         refine gs_ Try.func60 #[.agg #[.int .i64 b0, .slice c0 a5.length c6], .int .i64 ((rd_T72 l0_1 x10_4).f0)] ?_
         with_reducible refine (spec_TreeOf.calls k4 b0 _ _ a5 ((rd_T72 l0_1 x10_4).f0) f5 _ ?side1 ?side2 A58.out).mono ?_
         (case side1 => exact qD_ (Kd.S_reads' a0.out).2.2)
         (case side2 => exact (Kd.S_reads' a0.out).2.1)
         rintro e w79 ⟨rfl, hb⟩
         refine ⟨_, rfl, ?_⟩
         replace a0 := am_ (Kd.S_below (qS_ a0) hb); replace a2 := qbl_ a2 hb; replace a3 := qbl_ a3 hb; replace a4 := qbl_ a4 hb; replace HB := hs_ hb; (try clear hb); (try clear hb2); (try clear hk); (try clear hi)
         refine hK.out _ _ ⟨bl_ a4 0, bl_ a4 1, bl_ a4 2, bl_ a4 3, bl_ a3 0, bl_ a3 1⟩ (fun hHeld => ?_)
         clear hK K
         refine nm_ 91 ?_
         refine o1_ 17 (some 95) 20 262143 (fun K hK => ?_)
         refine gs_ Try.func60 #[.agg #[.int .i64 b0, .slice c0 a5.length c6], .int .i64 ((rd_T72 l0_1 x10_4).f1)] ?_
         with_reducible refine (spec_TreeOf.calls k4 b0 _ _ a5 ((rd_T72 l0_1 x10_4).f1) f6 _ ?side1 ?side2 A59.out).mono ?_
         (case side1 => exact qD_ (Kd.S_reads' a0.out).2.2)
         (case side2 => exact (Kd.S_reads' a0.out).2.1)
         rintro e w80 ⟨rfl, hb⟩
         refine ⟨_, rfl, ?_⟩
         replace a0 := am_ (Kd.S_below (qS_ a0) hb); replace a2 := qbl_ a2 hb; replace a3 := qbl_ a3 hb; replace a4 := qbl_ a4 hb; replace HB := hs_ hb; (try clear hb); (try clear hb2); (try clear hk); (try clear hi)
         refine hK.out _ _ ⟨bl_ a4 0, bl_ a4 1, bl_ a4 2, bl_ a4 3, bl_ a3 0, bl_ a3 1⟩ (fun hHeld => ?_)
         clear hK K
         refine nm_ 95 ?_
         refine pz_ 18 96 20 524287 ?_; refine pz_ 19 97 20 1048575 ?_
         refine done_ (done_of HT_.out (by kernel_rfl)) ?_
         try go_wp2
         go_ret
         exact ⟨qr_, qB_⟩
end Go.Proofs.Ytbkklafkoegdpaa.QFnExactWebAdd
