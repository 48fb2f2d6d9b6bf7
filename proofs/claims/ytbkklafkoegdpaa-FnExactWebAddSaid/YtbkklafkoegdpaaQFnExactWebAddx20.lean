import Derived.Test.YtbkklafkoegdpaaQFnExactWebAddx19
namespace Go.Proofs.Ytbkklafkoegdpaa.QFnExactWebAdd
open Go.RowKit Go.Proofs.YtbkklafkoegdpaaW.PrintWords Go.Proofs.YtbkklafkoegdpaaW.PrintLast Go.Proofs.YtbkklafkoegdpaaW.PrintMore
set_option maxHeartbeats 8000000
set_option maxRecDepth 100000
set_option linter.unusedVariables false
set_option linter.unusedSimpArgs false
mutual
def impl_WebOk.j0 : Nat → Bool → Int → List (S72) → Option (Bool)
  | 0, _, _, _ => none
  | k + 1, x17, x469000, x469001 => if x17 = true then (some false) else (impl_WebOk.l0 k x469001 (x469001.length : Int) 0 x469000 x469001)
def impl_WebOk.l0 : Nat → List (S72) → Int → Int → Int → List (S72) → Option (Bool)
  | 0, _, _, _, _, _ => none
  | k + 1, x19, x20, x21, x469000, x469001 => if x21 < x20 then (if 0 ≤ x21 then (if x21 < (x19.length : Int) then ((impl_in.f ((rd_T72 x19 x21).f2) 0 4).bind fun t480 => (if t480 = true then ((impl_labelsAt.f k x469000 x469001 ((rd_T72 x19 x21).f2)).bind fun t481 => (if ((rd_T72 x19 x21).f3 = true) then (impl_WebOk.l0 k x19 x20 (wrap64 (x21 + 1)) x469000 x469001) else (if 0 ≤ ((rd_T72 x19 x21).f0) then (if ((rd_T72 x19 x21).f0) < (t481.length : Int) then (if 0 ≤ ((rd_T72 x19 x21).f1) then (if ((rd_T72 x19 x21).f1) < (t481.length : Int) then (if (rd t481 ((rd_T72 x19 x21).f0)) = (rd t481 ((rd_T72 x19 x21).f1)) then (impl_WebOk.l0 k x19 x20 (wrap64 (x21 + 1)) x469000 x469001) else (some false)) else (none)) else (none)) else (none)) else (none)))) else (some false))) else (none)) else (none)) else (impl_WebOk.l1 k 1 x469000 x469001)
def impl_WebOk.l1 : Nat → Int → Int → List (S72) → Option (Bool)
  | 0, _, _, _ => none
  | k + 1, x6, x469000, x469001 => if x6 ≤ 4 then ((impl_levelOk.f k x469000 x469001 x6).bind fun t486 => (if t486 = true then (impl_WebOk.l1 k (wrap64 (x6 + 1)) x469000 x469001) else (some false))) else (some true)
end
def impl_WebOk.f (k : Nat) (a0_0 : Int) (l0_1 : List (S72)) : Option (Bool) := (impl_GraphOf.f k a0_0 l0_1).bind fun bt469 => ((impl_GraphOk.f k bt469.1 bt469.2).bind fun t473 => (if t473 = true then ((impl_treeEdges.f k a0_0 l0_1).bind fun t474 => ((impl_rings.f k a0_0 t474).bind fun t477 => (impl_WebOk.j0 k t477 a0_0 l0_1))) else (impl_WebOk.j0 k true a0_0 l0_1)))
theorem impl_WebOk.mono_l : ∀ k, (∀ y0 y1 y2, LeO (impl_WebOk.j0 k y0 y1 y2) (impl_WebOk.j0 (k + 1) y0 y1 y2)) ∧ (∀ y0 y1 y2 y3 y4, LeO (impl_WebOk.l0 k y0 y1 y2 y3 y4) (impl_WebOk.l0 (k + 1) y0 y1 y2 y3 y4)) ∧ (∀ y0 y1 y2, LeO (impl_WebOk.l1 k y0 y1 y2) (impl_WebOk.l1 (k + 1) y0 y1 y2))
  | 0 => ⟨fun _ _ _ r h => by simp [impl_WebOk.j0] at h, fun _ _ _ _ _ r h => by simp [impl_WebOk.l0] at h, fun _ _ _ r h => by simp [impl_WebOk.l1] at h⟩
  | k + 1 => by
    obtain ⟨ih0, ih1, ih2⟩ := impl_WebOk.mono_l k
    have m0 := @impl_GraphOf.mono; have m1 := @impl_GraphOk.mono; have m2 := @impl_labelsAt.mono; have m3 := @impl_levelOk.mono; have m4 := @impl_rings.mono; have m5 := @impl_treeEdges.mono
    refine ⟨?_, ?_, ?_⟩ <;> (intros; first | unfold impl_WebOk.j0 | unfold impl_WebOk.l0 | unfold impl_WebOk.l1) <;> exact lo_
theorem impl_WebOk.mono : ∀ a0 a1 k, LeO (impl_WebOk.f k a0 a1) (impl_WebOk.f (k + 1) a0 a1) := by
  intro a0 a1 k
  obtain ⟨ih0, ih1, ih2⟩ := impl_WebOk.mono_l k
  have m0 := @impl_GraphOf.mono; have m1 := @impl_GraphOk.mono; have m2 := @impl_labelsAt.mono; have m3 := @impl_levelOk.mono; have m4 := @impl_rings.mono; have m5 := @impl_treeEdges.mono
  unfold impl_WebOk.f
  exact lo_
def impl_WebOk.T1 : Bool × List (List Nat × List Nat) := (true, [([], []), ([0], [0]), ([1, 1], [1]), ([2], [2]), ([3, 2], [3]), ([4], [4]), ([5, 4], [4, 5]), ([4], [4]), ([7, 4, 4], [4, 7]), ([6, 8, 8, 4], [4, 6, 8]), ([4, 9], [4, 9])])
def impl_WebOk.B1 : List Nat := [0, 1, 3, 7, 15, 31, 63, 31, 159, 511, 1023]
theorem impl_WebOk.tab1 : rtab .any (opsOf Try.f16 1) = impl_WebOk.T1 := by kernel_rfl
theorem impl_WebOk.bits1 : waitsOk impl_WebOk.T1.2 impl_WebOk.B1 = true := by kernel_rfl
def impl_WebOk.T9 : Bool × List (List Nat × List Nat) := (true, [([], []), ([0], [0]), ([1], [1]), ([2], [2]), ([3], [3]), ([3], [3]), ([5, 3], [3, 5]), ([4, 6, 3], [3, 4, 6]), ([7, 3], [3, 7]), ([3], [3]), ([3], [3]), ([10, 3], [3, 10]), ([9, 11, 3], [3, 9, 11]), ([12, 3], [3, 12]), ([8, 13, 3], [3, 8, 13]), ([3, 14], [3, 14])])
def impl_WebOk.B9 : List Nat := [0, 1, 3, 7, 15, 15, 47, 127, 255, 15, 15, 1039, 3599, 7695, 16383, 32767]
theorem impl_WebOk.tab9 : rtab .any (opsOf Try.f16 9) = impl_WebOk.T9 := by kernel_rfl
theorem impl_WebOk.bits9 : waitsOk impl_WebOk.T9.2 impl_WebOk.B9 = true := by kernel_rfl
theorem impl_WebOk.calls (k : Nat) (a0_0 : Int) (A0_1 : Option Addr) (c0_1 : Nat) (l0_1 : List (S72)) (r : Bool) (w : World) (hr0_1 : Kd.C k72 w A0_1 l0_1.length l0_1) (hc0_1 : l0_1.length ≤ c0_1) (h : impl_WebOk.f k a0_0 l0_1 = some r) :
  Calls Try.prog 16 #[.agg #[.int .i64 a0_0, .slice A0_1 l0_1.length c0_1]] w fun e w' => e = .returned (.bool r) ∧ Below w.heap.size w w' := by
 have hu29 := Try.underlying29; have hu72 := Try.underlying72
 have HR0_1 := am_ hr0_1
 have HC0_1 := am_ hc0_1
 clear hr0_1 hc0_1
 have HB := am_ (Below.refl w.heap.size w)
 rw [impl_WebOk.f] at h; have H := h; clear h
 have k4 := am_ H
 clear H
 go_enter Try.func16, Try.ntmps16
 go_upto_region 1 with (first | ((with_reducible refine gd_ 1 ?_); refine by_ 1 (cs := #[.int .i64 a0_0, .slice A0_1 l0_1.length c0_1]) (t := 29) ?_; intro b4 hg w3 a0 hb; have i3 := gw_ hg; replace HB := hs_ hb; clear hb hg))
 (try simp only [Act.put, sA_, sB_, sC_])
 go_cut [17] (fun v17 wc => ∃ (kq : Nat) (x17_1 : Bool), v17 = .bool x17_1 ∧ Aside0 (impl_WebOk.j0 kq x17_1 a0_0 l0_1 = some r) ∧ Aside0 (kq ≤ k) ∧ Aside0 (wc.heap[b4]? = some (.cells #[.int .i64 a0_0, (.slice A0_1 l0_1.length c0_1)] 29 (0, 0))) ∧ Aside0 (Below w.heap.size w wc))
 case first =>
  have H := k4.out; clear k4
  replace H := Option.bind_eq_some_iff.mp H
  obtain ⟨⟨b8, b9⟩, A40, H⟩ := H
  replace H : ((impl_GraphOk.f k b8 b9).bind fun d1 => (if d1 = true then ((impl_treeEdges.f k a0_0 l0_1).bind fun b7 => ((impl_rings.f k a0_0 b7).bind fun d0 => (impl_WebOk.j0 k d0 a0_0 l0_1))) else (impl_WebOk.j0 k true a0_0 l0_1))) = some r := H
  have A4 := am_ A40
  clear A40
  obtain ⟨d1, A5, H⟩ := bs_ H
  refine id_ H ?_ ?_ <;> clear H <;> rintro rfl H
  ·have H' := am_ H; clear H
   try go_wp2
   replace a0 := am_ (blk_drew a0.out); replace HB := am_ (below_drew1 HB.out)
   refine start_ (n := 11) (S := fun w' => w'.cell? ⟨b4, 0, none⟩ = some (.int .i64 a0_0) ∧ w'.cell? ⟨b4, 1, none⟩ = some (.slice A0_1 l0_1.length c0_1)) (ds := []) (bm 11 0) (by kernel_rfl) rfl (by kernel_rfl) ⟨bl_ a0 0, bl_ a0 1⟩ (fun hHeld => ?_); refine with_tabW impl_WebOk.tab1 impl_WebOk.bits1 (fun HT_ HW_ => ?_)
   generalize w3.drew = w16 at a0 HB hHeld ⊢
   refine tz2_ 0 7 11 1 ?_
   refine o1_ 1 (some 8) 11 3 (fun K hK => ?_)
   refine gs_ Try.func63 #[.agg #[.int .i64 a0_0, .slice A0_1 l0_1.length c0_1]] ?_
   with_reducible refine (impl_GraphOf.calls k a0_0 _ _ l0_1 b8 b9 _ ?side1 ?side2 A4.out).mono ?_
   (case side1 => exact qC_ HR0_1 HB)
   (case side2 => exact HC0_1.out)
   rintro e w17 ⟨k5, rfl, ho0, hb⟩
   refine ⟨_, rfl, ?_⟩
   have b0 := am_ (Kd.R_lower ho0 (below_size qB_)); replace a0 := qbl_ a0 hb; replace HB := hs_ hb; (try clear hb); (try clear hb2); (try clear hk); (try clear hi); (try clear ho0)
   obtain ⟨k6, k7, i4⟩ := Kd.R_slice b0.out
   (first | subst i4 | (injection i4 with f1_ f2_ f3_; have f4_ := f1_.symm; have f5_ := f3_.symm; clear f1_ f2_ f3_; subst f4_; subst f5_))
   refine hK.out _ _ ⟨bl_ a0 0, bl_ a0 1⟩ (fun hHeld => ?_)
   clear hK K
   refine nm_ 8 ?_
   refine o1_ 2 (some 9) 11 7 (fun K hK => ?_)
   refine gs_ Try.func62 #[.agg #[.int .i64 b8, .slice k6 b9.length k7]] ?_
   with_reducible refine (impl_GraphOk.calls k b8 _ _ b9 false _ ?side1 ?side2 A5.out).mono ?_
   (case side1 => exact qD_ (Kd.R_reads' b0.out).2.2)
   (case side2 => exact (Kd.R_reads' b0.out).2.1)
   rintro e w19 ⟨rfl, hb⟩
   refine ⟨_, rfl, ?_⟩
   replace b0 := kb_ b0 hb; replace a0 := qbl_ a0 hb; replace HB := hs_ hb; (try clear hb); (try clear hb2); (try clear hk); (try clear hi)
   refine hK.out _ _ ⟨bl_ a0 0, bl_ a0 1⟩ (fun hHeld => ?_)
   clear hK K
   refine nm_ 9 ?_
   refine pz_ 3 10 11 15 ?_; refine pz_ 4 11 11 31 ?_
   refine pu_ 5 12 11 63 ?_
   refine pu_ 6 13 11 127 ?_
   refine pu_ 7 14 11 255 ?_
   refine pu_ 8 15 11 511 ?_
   refine pu_ 9 16 11 1023 ?_
   refine pz_ 10 17 11 2047 ?_
   refine done_ (done_of HT_.out (by kernel_rfl)) ?_
   try go_wp2
   go_meet
   case rel => exact ⟨_, (true), qe_, H', ⟨qo_⟩, ⟨qk_ a0⟩, ⟨qB_⟩⟩
  obtain ⟨b7, A7, H⟩ := bs_ H
  obtain ⟨d0, A8, H⟩ := bs_ H
  have H' := am_ H; clear H
  try go_wp2
  replace a0 := am_ (blk_drew a0.out); replace HB := am_ (below_drew1 HB.out)
  refine start_ (n := 11) (S := fun w' => w'.cell? ⟨b4, 0, none⟩ = some (.int .i64 a0_0) ∧ w'.cell? ⟨b4, 1, none⟩ = some (.slice A0_1 l0_1.length c0_1)) (ds := []) (bm 11 0) (by kernel_rfl) rfl (by kernel_rfl) ⟨bl_ a0 0, bl_ a0 1⟩ (fun hHeld => ?_); refine with_tabW impl_WebOk.tab1 impl_WebOk.bits1 (fun HT_ HW_ => ?_)
  generalize w3.drew = w9 at a0 HB hHeld ⊢
  refine tz2_ 0 7 11 1 ?_
  refine o1_ 1 (some 8) 11 3 (fun K hK => ?_)
  refine gs_ Try.func63 #[.agg #[.int .i64 a0_0, .slice A0_1 l0_1.length c0_1]] ?_
  with_reducible refine (impl_GraphOf.calls k a0_0 _ _ l0_1 b8 b9 _ ?side1 ?side2 A4.out).mono ?_
  (case side1 => exact qC_ HR0_1 HB)
  (case side2 => exact HC0_1.out)
  rintro e w10 ⟨k5, rfl, ho0, hb⟩
  refine ⟨_, rfl, ?_⟩
  have b0 := am_ (Kd.R_lower ho0 (below_size qB_)); replace a0 := qbl_ a0 hb; replace HB := hs_ hb; (try clear hb); (try clear hb2); (try clear hk); (try clear hi); (try clear ho0)
  obtain ⟨k8, k9, i5⟩ := Kd.R_slice b0.out
  (first | subst i5 | (injection i5 with f1_ f2_ f3_; have f4_ := f1_.symm; have f5_ := f3_.symm; clear f1_ f2_ f3_; subst f4_; subst f5_))
  refine hK.out _ _ ⟨bl_ a0 0, bl_ a0 1⟩ (fun hHeld => ?_)
  clear hK K
  refine nm_ 8 ?_
  refine o1_ 2 (some 9) 11 7 (fun K hK => ?_)
  refine gs_ Try.func62 #[.agg #[.int .i64 b8, .slice k8 b9.length k9]] ?_
  with_reducible refine (impl_GraphOk.calls k b8 _ _ b9 true _ ?side1 ?side2 A5.out).mono ?_
  (case side1 => exact qD_ (Kd.R_reads' b0.out).2.2)
  (case side2 => exact (Kd.R_reads' b0.out).2.1)
  rintro e w12 ⟨rfl, hb⟩
  refine ⟨_, rfl, ?_⟩
  replace b0 := kb_ b0 hb; replace a0 := qbl_ a0 hb; replace HB := hs_ hb; (try clear hb); (try clear hb2); (try clear hk); (try clear hi)
  refine hK.out _ _ ⟨bl_ a0 0, bl_ a0 1⟩ (fun hHeld => ?_)
  clear hK K
  refine nm_ 9 ?_
  refine pz_ 3 10 11 15 ?_; refine pz_ 4 11 11 31 ?_; refine pz_ 5 12 11 63 ?_; refine tz2_ 6 13 11 127 ?_; refine tz2_ 7 14 11 255 ?_
  refine o1_ 8 (some 15) 11 511 (fun K hK => ?_)
  refine gs_ Try.func65 #[.agg #[.int .i64 a0_0, .slice A0_1 l0_1.length c0_1]] ?_
  with_reducible refine (impl_treeEdges.calls k a0_0 _ _ l0_1 b7 _ ?side1 ?side2 A7.out).mono ?_
  (case side1 => exact qC_ HR0_1 HB)
  (case side2 => exact HC0_1.out)
  rintro e w13 ⟨m5, rfl, ho0, hb⟩
  refine ⟨_, rfl, ?_⟩
  have b6 := am_ (Kd.R_lower (Kd.R_new' ho0 (Kd.R_lt (qR_ b0))) (below_size qB_)); replace b0 := ke_ b0 ho0 hb; replace a0 := qbl_ a0 hb; replace HB := hs_ hb; (try clear hb); (try clear hb2); (try clear hk); (try clear hi); (try clear ho0)
  obtain ⟨l2, l3, i6⟩ := Kd.R_slice b6.out
  (first | subst i6 | (injection i6 with f1_ f2_ f3_; have f4_ := f1_.symm; have f5_ := f3_.symm; clear f1_ f2_ f3_; subst f4_; subst f5_))
  refine hK.out _ _ ⟨bl_ a0 0, bl_ a0 1⟩ (fun hHeld => ?_)
  clear hK K
  refine nm_ 15 ?_
  refine o1_ 9 (some 16) 11 1023 (fun K hK => ?_)
  refine gs_ Try.func64 #[.int .i64 a0_0, .slice l2 b7.length l3] ?_
  with_reducible refine (impl_rings.calls k a0_0 _ _ b7 d0 _ ?side1 ?side2 A8.out).mono ?_
  (case side1 => exact qD_ (Kd.R_reads' b6.out).2.2)
  (case side2 => exact (Kd.R_reads' b6.out).2.1)
  rintro e w15 ⟨rfl, hb⟩
  refine ⟨_, rfl, ?_⟩
  replace b0 := kb_ b0 hb; replace b6 := kb_ b6 hb; replace a0 := qbl_ a0 hb; replace HB := hs_ hb; (try clear hb); (try clear hb2); (try clear hk); (try clear hi)
  refine hK.out _ _ ⟨bl_ a0 0, bl_ a0 1⟩ (fun hHeld => ?_)
  clear hK K
  refine nm_ 16 ?_
  refine pz_ 10 17 11 2047 ?_
  refine done_ (done_of HT_.out (by kernel_rfl)) ?_
  try go_wp2
  go_meet
  case rel => exact ⟨_, (d0), qe_, H', ⟨qo_⟩, ⟨qk_ a0⟩, ⟨qB_⟩⟩
 case rest =>
  clear k4; (try clear c1); (try clear p2); (try clear c6); (try clear c16)
  obtain ⟨kq, x17_1, rfl, HA, i2, a0, HB⟩ := hcut
  cases kq with
  | zero => exact absurd HA.out (by simp [impl_WebOk.j0])
  | succ kj1 =>
   have H := HA.out; clear HA
   simp only [impl_WebOk.j0] at H
   refine ie_ H ?_ ?_ <;> clear H <;> rintro rfl H
   ·obtain rfl := oi_ H
    go_wp2
    go_ret
    exact ⟨qr_, qB_⟩
   have H' := am_ H; clear H
   obtain ⟨c0, c7, c8, c9⟩ := bc2_ a0
   go_wp2
   go_loopg [21] kj1 (fun kq v21 w' => ∃ (x21_2 : Int), v21 = .int .i64 x21_2 ∧ Aside0 (impl_WebOk.l0 kq l0_1 (l0_1.length : Int) x21_2 a0_0 l0_1 = some r) ∧ Aside0 (kq ≤ kj1) ∧ Aside0 (w'.heap[b4]? = some (.cells #[.int .i64 a0_0, (.slice A0_1 l0_1.length c0_1)] 29 (0, 0))) ∧ Aside0 (Below w.heap.size w w'))
   case atStart => exact ⟨(0), qe_, H', ⟨Nat.le_refl _⟩, ⟨qk_ a0⟩, ⟨qB_⟩⟩
   case round =>
    clear H'
    (try clear c1); (try clear c2); (try clear p2); (try clear c6); (try clear c16); (try clear c20); (try clear c0 c7 c8 c9); (try clear p2)
    obtain ⟨x21_2, rfl, HA, HK2, a0, HB⟩ := hrel
    cases gk with
    | zero => exact absurd HA.out (by simp [impl_WebOk.l0])
    | succ k2 =>
     have H := HA.out; clear HA
     simp only [impl_WebOk.l0] at H
     refine ib_ H ?_ ?_ <;> clear H <;> intro c22b0 H
     ·have H' := am_ H; clear H
      go_wp2
      go_loopg [6] k2 (fun kq v6 w' => ∃ (x6_3 : Int), v6 = .int .i64 x6_3 ∧ Aside0 (impl_WebOk.l1 kq x6_3 a0_0 l0_1 = some r) ∧ Aside0 (kq ≤ k2) ∧ Aside0 (w'.heap[b4]? = some (.cells #[.int .i64 a0_0, (.slice A0_1 l0_1.length c0_1)] 29 (0, 0))) ∧ Aside0 (Below w.heap.size w w'))
      case atStart => exact ⟨(1), qe_, H', ⟨Nat.le_refl _⟩, ⟨qk_ a0⟩, ⟨qB_⟩⟩
      case round =>
       clear H'
       (try clear c1); (try clear c2); (try clear p2); (try clear q2); (try clear c3); (try clear c4); (try clear p4); (try clear q4); (try clear n2); (try clear c5); (try clear c6); (try clear p6); (try clear c16); (try clear c20); (try clear c22); (try clear c22b0); (try clear c23); (try clear c23b0); (try clear c24); (try clear c24b0); (try clear c26); (try clear q28); (try clear c29); (try clear c31); (try clear c36); (try clear c36b0); (try clear c37); (try clear c37b0); (try clear c38); (try clear c38b0); (try clear c39); (try clear c39b0); (try clear c40); (try clear c40b0); (try clear c40b1); (try clear c42); (try clear p47); (try clear q47); (try clear m6); (try clear p48); (try clear q48); (try clear m7); (try clear c49); (try clear c56); (try clear c0 c7); (try clear d3 d4 d5 d6); (try clear d7 d8); (try clear d9 e0 e1 e2); (try clear e3 e4); (try clear e5 e6 e7 e8); (try clear e9 f4); (try clear f5 f6 f7 f8); (try clear c8 c9); (try clear f9 g0 g1 g2); (try clear g3 g4); (try clear g5 g6 g7 g8); (try clear g9 h0); (try clear h1 h2 h3 h4); (try clear h5 h6); (try clear h7 h8 h9 i0); (try clear a3); (try clear a4); (try clear a5); (try clear a2); (try clear b1); (try clear b2); (try clear p2); (try clear p478); (try clear p484); (try clear p485); (try clear q478); (try clear q484); (try clear q485)
       obtain ⟨x6_3, rfl, HA, HK3, a0, HB⟩ := hrel
       cases gk with
       | zero => exact absurd HA.out (by simp [impl_WebOk.l1])
       | succ k3 =>
        have H := HA.out; clear HA
        simp only [impl_WebOk.l1] at H
        refine ib_ H ?_ ?_ <;> clear H <;> intro c58b0 H
        ·obtain rfl := oi_ H
         go_wp2
         go_ret
         exact ⟨qr_, qB_⟩
        obtain ⟨l4, A59, H⟩ := bs_ H
        refine ie_ H ?_ ?_ <;> clear H <;> rintro rfl H
        ·have H' := am_ H; clear H
         obtain ⟨j4, j5, j6, j7⟩ := bc2_ a0
         go_wp2_with (first | ((with_reducible refine gc_ 68 ?_); refine gl_ (some 56) Try.func68 #[.agg #[.int .i64 a0_0, .slice A0_1 l0_1.length c0_1], .int .i64 x6_3] ?_; (with_reducible refine (impl_levelOk.calls k3 a0_0 _ _ l0_1 x6_3 true _ ?_ ?_ A59.out).mono ?_); exact qC_ HR0_1 HB; exact HC0_1.out; rintro e w62 ⟨rfl, hb⟩; refine ⟨_, rfl, ?_⟩; replace a0 := qbl_ a0 hb; replace HB := hs_ hb; (try clear hb); (try clear hb2); (try clear hk); (try clear hi)))
         go_roundg k3
         case measure => have := i2.out; have := HK2.out; have := HK3.out; omega
         case rel => exact ⟨(wrap64 (x6_3 + 1)), qe_, H', ⟨by have := i2.out; have := HK2.out; have := HK3.out; omega⟩, ⟨qk_ a0⟩, ⟨qB_⟩⟩
        obtain rfl := oi_ H
        obtain ⟨j8, j9, k0, k1⟩ := bc2_ a0
        go_wp2_with (first | ((with_reducible refine gc_ 68 ?_); refine gl_ (some 56) Try.func68 #[.agg #[.int .i64 a0_0, .slice A0_1 l0_1.length c0_1], .int .i64 x6_3] ?_; (with_reducible refine (impl_levelOk.calls k3 a0_0 _ _ l0_1 x6_3 false _ ?_ ?_ A59.out).mono ?_); exact qC_ HR0_1 HB; exact HC0_1.out; rintro e w64 ⟨rfl, hb⟩; refine ⟨_, rfl, ?_⟩; replace a0 := qbl_ a0 hb; replace HB := hs_ hb; (try clear hb); (try clear hb2); (try clear hk); (try clear hi)))
        go_ret
        exact ⟨qr_, qB_⟩
     refine ig_ H ?_; clear H; intro c23b0 H
     refine ig_ H ?_; clear H; intro c24b0 H
     obtain ⟨l5, A25, H⟩ := bs_ H
     refine id_ H ?_ ?_ <;> clear H <;> rintro rfl H
     ·obtain rfl := oi_ H
      have p478 := dp_ x21_2
      have q478 := dl_ x21_2 l0_1.length
      obtain ⟨ad478, e478, a3, a4, a5, a2⟩ := at_T72 HR0_1.out x21_2 p478 q478
      cases e478
      replace a3 := qx_ HB a3
      replace a4 := qx_ HB a4
      replace a5 := qx_ HB a5
      replace a2 := qx_ HB a2
      replace p478 := eq_true p478; replace q478 := eq_true q478
      go_wp2_with (first | ((with_reducible refine gd_ 4 ?_); refine by_ 4 (cs := #[.int .i64 0, .int .i64 0, .int .i64 0, .bool false]) (t := 72) ?_; intro a6 hg w55 a1 hb; have b5 := gw_ hg; obtain ⟨b3, a7⟩ := qn_ a0 hg; replace a0 := qbl_ a0 hb; replace HB := hs_ hb; clear hb hg; obtain ⟨l7, l8⟩ := nn_ a7; obtain ⟨f5, f6, f7, f8, h7, h8, h9, i0⟩ := bc4_ a1) | ((with_reducible refine gc_ 66 ?_); refine gl_ (some 27) Try.func66 #[.int .i64 ((rd_T72 l0_1 x21_2).f2), .int .i64 0, .int .i64 4] ?_; (with_reducible refine (impl_in.calls ((rd_T72 l0_1 x21_2).f2) 0 4 false _ A25.out).mono ?_); rintro e w' ⟨rfl, ⟨nd, rfl⟩⟩; refine ⟨_, rfl, ?_⟩))
      go_ret
      exact ⟨qr_, qB_⟩
     obtain ⟨a8, A27, H⟩ := bs_ H
     obtain ⟨bq28, hbq28⟩ : ∃ b_ : Bool, b_ = ((rd_T72 l0_1 x21_2).f3) := ⟨_, rfl⟩
     replace H : (if (bq28 = true) then (impl_WebOk.l0 k2 l0_1 (l0_1.length : Int) (wrap64 (x21_2 + 1)) a0_0 l0_1) else (if 0 ≤ ((rd_T72 l0_1 x21_2).f0) then (if ((rd_T72 l0_1 x21_2).f0) < (a8.length : Int) then (if 0 ≤ ((rd_T72 l0_1 x21_2).f1) then (if ((rd_T72 l0_1 x21_2).f1) < (a8.length : Int) then (if (rd a8 ((rd_T72 l0_1 x21_2).f0)) = (rd a8 ((rd_T72 l0_1 x21_2).f1)) then (impl_WebOk.l0 k2 l0_1 (l0_1.length : Int) (wrap64 (x21_2 + 1)) a0_0 l0_1) else (some false)) else (none)) else (none)) else (none)) else (none))) = some r := by rw [← hbq28] at H; exact H
     have Nbq28 := am_ hbq28
     clear hbq28
     refine ie_ H ?_ ?_ <;> clear H <;> rintro rfl H
     ·have H' := am_ H; clear H
      have p478 := dp_ x21_2
      have q478 := dl_ x21_2 l0_1.length
      obtain ⟨ad478, e478, a3, a4, a5, a2⟩ := at_T72 HR0_1.out x21_2 p478 q478
      (try rw [← Nbq28.out] at a2)
      cases e478
      replace a3 := qx_ HB a3
      replace a4 := qx_ HB a4
      replace a5 := qx_ HB a5
      replace a2 := qx_ HB a2
      replace p478 := eq_true p478; replace q478 := eq_true q478
      try go_wp2_with (first | ((with_reducible refine gd_ 4 ?_); refine by_ 4 (cs := #[.int .i64 0, .int .i64 0, .int .i64 0, .bool false]) (t := 72) ?_; intro a6 hg w30 a1 hb; have b5 := gw_ hg; obtain ⟨b3, a7⟩ := qn_ a0 hg; replace a0 := qbl_ a0 hb; replace HB := hs_ hb; clear hb hg; obtain ⟨l9, m0⟩ := nn_ a7; obtain ⟨d3, d4, d5, d6, f9, g0, g1, g2⟩ := bc4_ a1) | ((with_reducible refine gc_ 66 ?_); refine gl_ (some 27) Try.func66 #[.int .i64 ((rd_T72 l0_1 x21_2).f2), .int .i64 0, .int .i64 4] ?_; (with_reducible refine (impl_in.calls ((rd_T72 l0_1 x21_2).f2) 0 4 true _ A25.out).mono ?_); rintro e w' ⟨rfl, ⟨nd, rfl⟩⟩; refine ⟨_, rfl, ?_⟩; obtain ⟨d7, d8, g3, g4⟩ := bc2_ a0) | ((with_reducible refine gc_ 67 ?_); refine gl_ (some 32) Try.func67 #[.agg #[.int .i64 a0_0, .slice (some ad478) l0_1.length c0_1], .int .i64 ((rd_T72 l0_1 x21_2).f2)] ?_; (with_reducible refine (impl_labelsAt.calls k2 a0_0 _ _ l0_1 ((rd_T72 l0_1 x21_2).f2) a8 _ ?_ ?_ A27.out).mono ?_); exact Kd.C_below HR0_1.out qB_; exact HC0_1.out; rintro e w34 ⟨j1, rfl, ho0, hb⟩; refine ⟨_, rfl, ?_⟩; have a9 := am_ (Kd.R_lower ho0 (below_size qB_)); replace a0 := qbl_ a0 hb; replace a1 := am_ (blk_below (g := a6) (o := .cells #[.int .i64 ((rd_T72 l0_1 x21_2).f0), .int .i64 ((rd_T72 l0_1 x21_2).f1), .int .i64 ((rd_T72 l0_1 x21_2).f2), .bool true] 72 (0, 0)) (by (with_reducible repeat (first | refine blk_drewN ?_ _ | refine blk_drew ?_ | refine blk_alloc ?_ _)); refine blk_put (cs := #[.int .i64 ((rd_T72 l0_1 x21_2).f0), .int .i64 ((rd_T72 l0_1 x21_2).f1), .int .i64 ((rd_T72 l0_1 x21_2).f2), .bool false]) ?_ 3 _ rfl; (with_reducible repeat (first | refine blk_drewN ?_ _ | refine blk_drew ?_ | refine blk_alloc ?_ _)); refine blk_put (cs := #[.int .i64 ((rd_T72 l0_1 x21_2).f0), .int .i64 ((rd_T72 l0_1 x21_2).f1), .int .i64 0, .bool false]) ?_ 2 _ rfl; (with_reducible repeat (first | refine blk_drewN ?_ _ | refine blk_drew ?_ | refine blk_alloc ?_ _)); refine blk_put (cs := #[.int .i64 ((rd_T72 l0_1 x21_2).f0), .int .i64 0, .int .i64 0, .bool false]) ?_ 1 _ rfl; (with_reducible repeat (first | refine blk_drewN ?_ _ | refine blk_drew ?_ | refine blk_alloc ?_ _)); refine blk_put (cs := #[.int .i64 0, .int .i64 0, .int .i64 0, .bool false]) ?_ 0 _ rfl; exact qf_ a1) hb); replace HB := hs_ hb; (try clear hb); (try clear hb2); (try clear hk); (try clear hi); (try clear ho0)))
      replace a9 := am_ (Kd.R_drew a9.out); replace a0 := am_ (blk_drew a0.out); replace a1 := am_ (blk_drew a1.out); replace HB := am_ (below_drew1 HB.out)
      refine start_ (n := 16) (S := fun w' => w'.cell? ⟨a6, 0, none⟩ = some (.int .i64 ((rd_T72 l0_1 x21_2).f0)) ∧ w'.cell? ⟨a6, 1, none⟩ = some (.int .i64 ((rd_T72 l0_1 x21_2).f1)) ∧ w'.cell? ⟨a6, 2, none⟩ = some (.int .i64 ((rd_T72 l0_1 x21_2).f2)) ∧ w'.cell? ⟨a6, 3, none⟩ = some (.bool true)) (ds := []) (bm 16 0) (by kernel_rfl) rfl (by kernel_rfl) ⟨bl_ a1 0, bl_ a1 1, bl_ a1 2, bl_ a1 3⟩ (fun hHeld => ?_); refine with_tabW impl_WebOk.tab9 impl_WebOk.bits9 (fun HT_ HW_ => ?_)
      generalize w34.drew = w35 at a9 a0 a1 HB hHeld ⊢
      refine pz_ 0 33 16 1 ?_; refine tz4_ 1 34 16 3 ?_; refine pz_ 2 35 16 7 ?_; refine pz_ 3 36 16 15 ?_
      refine pu_ 4 37 16 31 ?_
      refine pu_ 5 38 16 63 ?_
      refine pu_ 6 39 16 127 ?_
      refine pu_ 7 40 16 255 ?_
      refine pu_ 8 41 16 511 ?_
      refine pu_ 9 42 16 1023 ?_
      refine pu_ 10 43 16 2047 ?_
      refine pu_ 11 44 16 4095 ?_
      refine pu_ 12 45 16 8191 ?_
      refine pu_ 13 46 16 16383 ?_
      refine pu_ 14 47 16 32767 ?_
      refine pz_ 15 48 16 65535 ?_
      refine done_ (done_of HT_.out (by kernel_rfl)) ?_
      try go_wp2
      go_roundg k2
      case measure => have := i2.out; have := HK2.out; omega
      case rel => exact ⟨(wrap64 (x21_2 + 1)), qe_, H', ⟨by have := i2.out; have := HK2.out; omega⟩, ⟨qk_ a0⟩, ⟨qB_⟩⟩
     refine ig_ H ?_; clear H; intro c36b0 H
     refine ig_ H ?_; clear H; intro c37b0 H
     refine ig_ H ?_; clear H; intro c38b0 H
     refine ig_ H ?_; clear H; intro c39b0 H
     refine jc_ H ?_ ?_ <;> clear H <;> intro c40 H
     ·have c40b0 : ((rd a8 ((rd_T72 l0_1 x21_2).f0)) == (rd a8 ((rd_T72 l0_1 x21_2).f1))) = true := beq_iff_eq.mpr c40
      have c40b1 : ((rd a8 ((rd_T72 l0_1 x21_2).f0)) != (rd a8 ((rd_T72 l0_1 x21_2).f1))) = false := bne_eq_false_iff_eq.mpr c40
      clear c40; have H' := am_ H; clear H
      have p478 := dp_ x21_2
      have q478 := dl_ x21_2 l0_1.length
      obtain ⟨ad478, e478, a3, a4, a5, a2⟩ := at_T72 HR0_1.out x21_2 p478 q478
      (try rw [← Nbq28.out] at a2)
      cases e478
      replace a3 := qx_ HB a3
      replace a4 := qx_ HB a4
      replace a5 := qx_ HB a5
      replace a2 := qx_ HB a2
      replace p478 := eq_true p478; replace q478 := eq_true q478
      try go_wp2_with (first | ((with_reducible refine gd_ 4 ?_); refine by_ 4 (cs := #[.int .i64 0, .int .i64 0, .int .i64 0, .bool false]) (t := 72) ?_; intro a6 hg w41 a1 hb; have b5 := gw_ hg; obtain ⟨b3, a7⟩ := qn_ a0 hg; replace a0 := qbl_ a0 hb; replace HB := hs_ hb; clear hb hg; obtain ⟨m1, m2⟩ := nn_ a7; obtain ⟨d9, e0, e1, e2, g5, g6, g7, g8⟩ := bc4_ a1) | ((with_reducible refine gc_ 66 ?_); refine gl_ (some 27) Try.func66 #[.int .i64 ((rd_T72 l0_1 x21_2).f2), .int .i64 0, .int .i64 4] ?_; (with_reducible refine (impl_in.calls ((rd_T72 l0_1 x21_2).f2) 0 4 true _ A25.out).mono ?_); rintro e w' ⟨rfl, ⟨nd, rfl⟩⟩; refine ⟨_, rfl, ?_⟩; obtain ⟨e3, e4, g9, h0⟩ := bc2_ a0) | ((with_reducible refine gc_ 67 ?_); refine gl_ (some 32) Try.func67 #[.agg #[.int .i64 a0_0, .slice (some ad478) l0_1.length c0_1], .int .i64 ((rd_T72 l0_1 x21_2).f2)] ?_; (with_reducible refine (impl_labelsAt.calls k2 a0_0 _ _ l0_1 ((rd_T72 l0_1 x21_2).f2) a8 _ ?_ ?_ A27.out).mono ?_); exact Kd.C_below HR0_1.out qB_; exact HC0_1.out; rintro e w45 ⟨j1, rfl, ho0, hb⟩; refine ⟨_, rfl, ?_⟩; have a9 := am_ (Kd.R_lower ho0 (below_size qB_)); replace a0 := qbl_ a0 hb; replace a1 := am_ (blk_below (g := a6) (o := .cells #[.int .i64 ((rd_T72 l0_1 x21_2).f0), .int .i64 ((rd_T72 l0_1 x21_2).f1), .int .i64 ((rd_T72 l0_1 x21_2).f2), .bool false] 72 (0, 0)) (by (with_reducible repeat (first | refine blk_drewN ?_ _ | refine blk_drew ?_ | refine blk_alloc ?_ _)); refine blk_put (cs := #[.int .i64 ((rd_T72 l0_1 x21_2).f0), .int .i64 ((rd_T72 l0_1 x21_2).f1), .int .i64 ((rd_T72 l0_1 x21_2).f2), .bool false]) ?_ 3 _ rfl; (with_reducible repeat (first | refine blk_drewN ?_ _ | refine blk_drew ?_ | refine blk_alloc ?_ _)); refine blk_put (cs := #[.int .i64 ((rd_T72 l0_1 x21_2).f0), .int .i64 ((rd_T72 l0_1 x21_2).f1), .int .i64 0, .bool false]) ?_ 2 _ rfl; (with_reducible repeat (first | refine blk_drewN ?_ _ | refine blk_drew ?_ | refine blk_alloc ?_ _)); refine blk_put (cs := #[.int .i64 ((rd_T72 l0_1 x21_2).f0), .int .i64 0, .int .i64 0, .bool false]) ?_ 1 _ rfl; (with_reducible repeat (first | refine blk_drewN ?_ _ | refine blk_drew ?_ | refine blk_alloc ?_ _)); refine blk_put (cs := #[.int .i64 0, .int .i64 0, .int .i64 0, .bool false]) ?_ 0 _ rfl; exact qf_ a1) hb); replace HB := hs_ hb; (try clear hb); (try clear hb2); (try clear hk); (try clear hi); (try clear ho0)))
      replace a9 := am_ (Kd.R_drew a9.out); replace a0 := am_ (blk_drew a0.out); replace a1 := am_ (blk_drew a1.out); replace HB := am_ (below_drew1 HB.out)
      obtain ⟨m8, m9, j2⟩ := Kd.R_slice a9.out
      (first | subst j2 | (injection j2 with f1_ f2_ f3_; have f4_ := f1_.symm; have f5_ := f3_.symm; clear f1_ f2_ f3_; subst f4_; subst f5_))
      have p484 := dp_ (((rd_T72 l0_1 x21_2).f0))
      have q484 := dl_ ((rd_T72 l0_1 x21_2).f0) a8.length
      obtain ⟨ad484, e484, b1⟩ := Kd.at_int (Kd.R_reads' a9.out).2.2 ((rd_T72 l0_1 x21_2).f0) p484 q484
      cases e484; replace p484 := eq_true p484; replace q484 := eq_true q484
      have p485 := dp_ (((rd_T72 l0_1 x21_2).f1))
      have q485 := dl_ ((rd_T72 l0_1 x21_2).f1) a8.length
      obtain ⟨ad485, e485, b2⟩ := Kd.at_int (Kd.R_reads' a9.out).2.2 ((rd_T72 l0_1 x21_2).f1) p485 q485
      obtain rfl : ad484 = ad485 := (by injection e485)
      replace p485 := eq_true p485; replace q485 := eq_true q485
      refine start_ (n := 16) (S := fun w' => w'.cell? ⟨a6, 0, none⟩ = some (.int .i64 ((rd_T72 l0_1 x21_2).f0)) ∧ w'.cell? ⟨a6, 1, none⟩ = some (.int .i64 ((rd_T72 l0_1 x21_2).f1)) ∧ w'.cell? ⟨a6, 2, none⟩ = some (.int .i64 ((rd_T72 l0_1 x21_2).f2)) ∧ w'.cell? ⟨a6, 3, none⟩ = some (.bool false) ∧ w'.cell? (ad484.add (((rd_T72 l0_1 x21_2).f0)).toNat) = some (.int .i64 (rd a8 ((rd_T72 l0_1 x21_2).f0))) ∧ w'.cell? (ad484.add (((rd_T72 l0_1 x21_2).f1)).toNat) = some (.int .i64 (rd a8 ((rd_T72 l0_1 x21_2).f1)))) (ds := []) (bm 16 0) (by kernel_rfl) rfl (by kernel_rfl) ⟨bl_ a1 0, bl_ a1 1, bl_ a1 2, bl_ a1 3, b1, b2⟩ (fun hHeld => ?_); refine with_tabW impl_WebOk.tab9 impl_WebOk.bits9 (fun HT_ HW_ => ?_)
      generalize w45.drew = w46 at a9 a0 a1 HB b1 b2 hHeld ⊢
      refine pz_ 0 33 16 1 ?_; refine tz6_ 1 34 16 3 ?_; refine pz_ 2 35 16 7 ?_; refine pz_ 3 36 16 15 ?_; refine pz_ 4 37 16 31 ?_; refine pz_ 5 38 16 63 ?_; refine pz_ 9 42 16 575 ?_; refine pz_ 10 43 16 1599 ?_; refine tz6_ 6 39 16 1663 ?_; refine pz_ 7 40 16 1791 ?_; refine tz6_ 8 41 16 2047 ?_; refine tz6_ 11 44 16 4095 ?_; refine pz_ 12 45 16 8191 ?_; refine tz6_ 13 46 16 16383 ?_; refine pz_ 14 47 16 32767 ?_; refine pz_ 15 48 16 65535 ?_
      refine done_ (done_of HT_.out (by kernel_rfl)) ?_
      try go_wp2
      go_roundg k2
      case measure => have := i2.out; have := HK2.out; omega
      case rel => exact ⟨(wrap64 (x21_2 + 1)), qe_, H', ⟨by have := i2.out; have := HK2.out; omega⟩, ⟨qk_ a0⟩, ⟨qB_⟩⟩
     have c40b0 : ((rd a8 ((rd_T72 l0_1 x21_2).f0)) == (rd a8 ((rd_T72 l0_1 x21_2).f1))) = false := beq_eq_false_iff_ne.mpr c40
     have c40b1 : ((rd a8 ((rd_T72 l0_1 x21_2).f0)) != (rd a8 ((rd_T72 l0_1 x21_2).f1))) = true := bne_iff_ne.mpr c40
     obtain rfl := oi_ H
     have p478 := dp_ x21_2
     have q478 := dl_ x21_2 l0_1.length
     obtain ⟨ad478, e478, a3, a4, a5, a2⟩ := at_T72 HR0_1.out x21_2 p478 q478
     (try rw [← Nbq28.out] at a2)
     cases e478
     replace a3 := qx_ HB a3
     replace a4 := qx_ HB a4
     replace a5 := qx_ HB a5
     replace a2 := qx_ HB a2
     replace p478 := eq_true p478; replace q478 := eq_true q478
     try go_wp2_with (first | ((with_reducible refine gd_ 4 ?_); refine by_ 4 (cs := #[.int .i64 0, .int .i64 0, .int .i64 0, .bool false]) (t := 72) ?_; intro a6 hg w48 a1 hb; have b5 := gw_ hg; obtain ⟨b3, a7⟩ := qn_ a0 hg; replace a0 := qbl_ a0 hb; replace HB := hs_ hb; clear hb hg; obtain ⟨m3, m4⟩ := nn_ a7; obtain ⟨e5, e6, e7, e8, h1, h2, h3, h4⟩ := bc4_ a1) | ((with_reducible refine gc_ 66 ?_); refine gl_ (some 27) Try.func66 #[.int .i64 ((rd_T72 l0_1 x21_2).f2), .int .i64 0, .int .i64 4] ?_; (with_reducible refine (impl_in.calls ((rd_T72 l0_1 x21_2).f2) 0 4 true _ A25.out).mono ?_); rintro e w' ⟨rfl, ⟨nd, rfl⟩⟩; refine ⟨_, rfl, ?_⟩; obtain ⟨e9, f4, h5, h6⟩ := bc2_ a0) | ((with_reducible refine gc_ 67 ?_); refine gl_ (some 32) Try.func67 #[.agg #[.int .i64 a0_0, .slice (some ad478) l0_1.length c0_1], .int .i64 ((rd_T72 l0_1 x21_2).f2)] ?_; (with_reducible refine (impl_labelsAt.calls k2 a0_0 _ _ l0_1 ((rd_T72 l0_1 x21_2).f2) a8 _ ?_ ?_ A27.out).mono ?_); exact Kd.C_below HR0_1.out qB_; exact HC0_1.out; rintro e w52 ⟨j1, rfl, ho0, hb⟩; refine ⟨_, rfl, ?_⟩; have a9 := am_ (Kd.R_lower ho0 (below_size qB_)); replace a0 := qbl_ a0 hb; replace a1 := am_ (blk_below (g := a6) (o := .cells #[.int .i64 ((rd_T72 l0_1 x21_2).f0), .int .i64 ((rd_T72 l0_1 x21_2).f1), .int .i64 ((rd_T72 l0_1 x21_2).f2), .bool false] 72 (0, 0)) (by (with_reducible repeat (first | refine blk_drewN ?_ _ | refine blk_drew ?_ | refine blk_alloc ?_ _)); refine blk_put (cs := #[.int .i64 ((rd_T72 l0_1 x21_2).f0), .int .i64 ((rd_T72 l0_1 x21_2).f1), .int .i64 ((rd_T72 l0_1 x21_2).f2), .bool false]) ?_ 3 _ rfl; (with_reducible repeat (first | refine blk_drewN ?_ _ | refine blk_drew ?_ | refine blk_alloc ?_ _)); refine blk_put (cs := #[.int .i64 ((rd_T72 l0_1 x21_2).f0), .int .i64 ((rd_T72 l0_1 x21_2).f1), .int .i64 0, .bool false]) ?_ 2 _ rfl; (with_reducible repeat (first | refine blk_drewN ?_ _ | refine blk_drew ?_ | refine blk_alloc ?_ _)); refine blk_put (cs := #[.int .i64 ((rd_T72 l0_1 x21_2).f0), .int .i64 0, .int .i64 0, .bool false]) ?_ 1 _ rfl; (with_reducible repeat (first | refine blk_drewN ?_ _ | refine blk_drew ?_ | refine blk_alloc ?_ _)); refine blk_put (cs := #[.int .i64 0, .int .i64 0, .int .i64 0, .bool false]) ?_ 0 _ rfl; exact qf_ a1) hb); replace HB := hs_ hb; (try clear hb); (try clear hb2); (try clear hk); (try clear hi); (try clear ho0)))
     replace a9 := am_ (Kd.R_drew a9.out); replace a0 := am_ (blk_drew a0.out); replace a1 := am_ (blk_drew a1.out); replace HB := am_ (below_drew1 HB.out)
     obtain ⟨n0, n1, j3⟩ := Kd.R_slice a9.out
     (first | subst j3 | (injection j3 with f1_ f2_ f3_; have f4_ := f1_.symm; have f5_ := f3_.symm; clear f1_ f2_ f3_; subst f4_; subst f5_))
     have p484 := dp_ (((rd_T72 l0_1 x21_2).f0))
     have q484 := dl_ ((rd_T72 l0_1 x21_2).f0) a8.length
     obtain ⟨ad484, e484, b1⟩ := Kd.at_int (Kd.R_reads' a9.out).2.2 ((rd_T72 l0_1 x21_2).f0) p484 q484
     cases e484; replace p484 := eq_true p484; replace q484 := eq_true q484
     have p485 := dp_ (((rd_T72 l0_1 x21_2).f1))
     have q485 := dl_ ((rd_T72 l0_1 x21_2).f1) a8.length
     obtain ⟨ad485, e485, b2⟩ := Kd.at_int (Kd.R_reads' a9.out).2.2 ((rd_T72 l0_1 x21_2).f1) p485 q485
     obtain rfl : ad484 = ad485 := (by injection e485)
     replace p485 := eq_true p485; replace q485 := eq_true q485
     refine start_ (n := 16) (S := fun w' => w'.cell? ⟨a6, 0, none⟩ = some (.int .i64 ((rd_T72 l0_1 x21_2).f0)) ∧ w'.cell? ⟨a6, 1, none⟩ = some (.int .i64 ((rd_T72 l0_1 x21_2).f1)) ∧ w'.cell? ⟨a6, 2, none⟩ = some (.int .i64 ((rd_T72 l0_1 x21_2).f2)) ∧ w'.cell? ⟨a6, 3, none⟩ = some (.bool false) ∧ w'.cell? (ad484.add (((rd_T72 l0_1 x21_2).f0)).toNat) = some (.int .i64 (rd a8 ((rd_T72 l0_1 x21_2).f0))) ∧ w'.cell? (ad484.add (((rd_T72 l0_1 x21_2).f1)).toNat) = some (.int .i64 (rd a8 ((rd_T72 l0_1 x21_2).f1)))) (ds := []) (bm 16 0) (by kernel_rfl) rfl (by kernel_rfl) ⟨bl_ a1 0, bl_ a1 1, bl_ a1 2, bl_ a1 3, b1, b2⟩ (fun hHeld => ?_); refine with_tabW impl_WebOk.tab9 impl_WebOk.bits9 (fun HT_ HW_ => ?_)
     generalize w52.drew = w53 at a9 a0 a1 HB b1 b2 hHeld ⊢
     refine pz_ 0 33 16 1 ?_; refine tz6_ 1 34 16 3 ?_; refine pz_ 2 35 16 7 ?_; refine pz_ 3 36 16 15 ?_; refine pz_ 4 37 16 31 ?_; refine pz_ 5 38 16 63 ?_; refine pz_ 9 42 16 575 ?_; refine pz_ 10 43 16 1599 ?_; refine tz6_ 6 39 16 1663 ?_; refine pz_ 7 40 16 1791 ?_; refine tz6_ 8 41 16 2047 ?_; refine tz6_ 11 44 16 4095 ?_; refine pz_ 12 45 16 8191 ?_; refine tz6_ 13 46 16 16383 ?_; refine pz_ 14 47 16 32767 ?_; refine pz_ 15 48 16 65535 ?_
     refine done_ (done_of HT_.out (by kernel_rfl)) ?_
     try go_wp2
     go_ret
     exact ⟨qr_, qB_⟩
end Go.Proofs.Ytbkklafkoegdpaa.QFnExactWebAdd
