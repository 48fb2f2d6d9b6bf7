import Derived.Test.YtbkklafkoegdpaaQFnExactWebAddx11
import Derived.Test.YtbkklafkoegdpaaQFnExactWebAddx13
import Derived.Test.YtbkklafkoegdpaaQFnExactWebAddx14
namespace Go.Proofs.Ytbkklafkoegdpaa.QFnExactWebAdd
open Go.RowKit Go.Proofs.YtbkklafkoegdpaaW.PrintWords Go.Proofs.YtbkklafkoegdpaaW.PrintLast Go.Proofs.YtbkklafkoegdpaaW.PrintMore
set_option maxHeartbeats 8000000
set_option maxRecDepth 100000
set_option linter.unusedVariables false
set_option linter.unusedSimpArgs false
def spec_WebAdd.j0 : Nat → Bool → Int → List (S72) → Int → Int → Option (Int × (List (S72)) × Bool)
  | 0, _, _, _, _, _ => none
  | k + 1, x24, x372000, x372001, x373000, x373001 => if x24 = true then (some (0, ([] : List (S72)), false)) else ((spec_ForestAt.f k x372000 x372001 0).bind fun bt385 => ((spec_TreeOf.f k bt385.1 bt385.2.1 x373000).bind fun t391 => ((spec_TreeOf.f k bt385.1 bt385.2.1 x373001).bind fun t392 => ((spec_l08Put.f k x372001 x373000 x373001 0 (t391 != t392)).bind fun t394 => (some (x372000, t394, true))))))
def spec_WebAdd.f (k : Nat) (a0_0 : Int) (l0_1 : List (S72)) (a1_0 : Int) (a1_1 : Int) : Option (Int × (List (S72)) × Bool) := (spec_GraphOf.f k a0_0 l0_1).bind fun bt374 => ((spec_AddEdge.f k bt374.1 bt374.2 a1_0 a1_1).bind fun bt378 => ((spec_WebOk.f k a0_0 l0_1).bind fun t384 => (if t384 = true then (spec_WebAdd.j0 k (!bt378.2.2) a0_0 l0_1 a1_0 a1_1) else (spec_WebAdd.j0 k true a0_0 l0_1 a1_0 a1_1))))
theorem spec_WebAdd.mono_l : ∀ k, (∀ y0 y1 y2 y3 y4, LeO (spec_WebAdd.j0 k y0 y1 y2 y3 y4) (spec_WebAdd.j0 (k + 1) y0 y1 y2 y3 y4))
  | 0 => fun _ _ _ _ _ r h => by simp [spec_WebAdd.j0] at h
  | k + 1 => by
    have ih0 := spec_WebAdd.mono_l k
    have m0 := @spec_AddEdge.mono; have m1 := @spec_ForestAt.mono; have m2 := @spec_GraphOf.mono; have m3 := @spec_TreeOf.mono; have m4 := @spec_WebOk.mono; have m5 := @spec_l08Put.mono
    · intro y0 y1 y2 y3 y4
      unfold spec_WebAdd.j0
      exact lo_
theorem spec_WebAdd.mono : ∀ a0 a1 a2 a3 k, LeO (spec_WebAdd.f k a0 a1 a2 a3) (spec_WebAdd.f (k + 1) a0 a1 a2 a3) := by
  intro a0 a1 a2 a3 k
  have ih0 := spec_WebAdd.mono_l k
  have m0 := @spec_AddEdge.mono; have m1 := @spec_ForestAt.mono; have m2 := @spec_GraphOf.mono; have m3 := @spec_TreeOf.mono; have m4 := @spec_WebOk.mono; have m5 := @spec_l08Put.mono
  unfold spec_WebAdd.f
  exact lo_
def spec_WebAdd.T1 : Bool × List (List Nat × List Nat) := (true, [([], []), ([0], [0]), ([], []), ([1, 2, 1], [1, 2]), ([3], [3]), ([4], [4]), ([4], [4]), ([], []), ([7, 5, 3, 0, 1, 2, 3, 4, 5, 7], [5, 7]), ([6, 8, 0, 1, 2, 3, 4, 5, 6, 7, 8], [6])])
def spec_WebAdd.B1 : List Nat := [0, 1, 0, 7, 15, 31, 31, 0, 191, 511]
theorem spec_WebAdd.tab1 : rtab .any (opsOf Try.f38 1) = spec_WebAdd.T1 := by kernel_rfl
theorem spec_WebAdd.bits1 : waitsOk spec_WebAdd.T1.2 spec_WebAdd.B1 = true := by kernel_rfl
def spec_WebAdd.T5 : Bool × List (List Nat × List Nat) := (true, [([], []), ([0], [0]), ([], []), ([2], [2]), ([], []), ([], []), ([5], [5]), ([4, 6], [4, 6]), ([], []), ([], []), ([9], [9]), ([8, 10, 7], [8, 10]), ([7, 11], [7, 11]), ([1, 3, 12], [1, 3, 12]), ([], []), ([14, 13, 11, 0, 1, 2, 3, 4, 5, 6, 7, 8, 9, 10, 11, 12, 13, 14], [13, 14])])
def spec_WebAdd.B5 : List Nat := [0, 1, 0, 4, 0, 0, 32, 112, 0, 0, 512, 2032, 4080, 8191, 0, 32767]
theorem spec_WebAdd.tab5 : rtab .any (opsOf Try.f38 5) = spec_WebAdd.T5 := by kernel_rfl
theorem spec_WebAdd.bits5 : waitsOk spec_WebAdd.T5.2 spec_WebAdd.B5 = true := by kernel_rfl
def spec_WebAdd.T6 : Bool × List (List Nat × List Nat) := (true, [([], []), ([0], [0]), ([], []), ([2], [2]), ([], []), ([3, 4], [3, 4]), ([1, 5], [1, 5]), ([6, 5, 0, 1, 2, 3, 4, 5, 6], [6]), ([7, 0, 1, 2, 3, 4, 5, 6, 7], [])])
def spec_WebAdd.B6 : List Nat := [0, 1, 0, 4, 0, 28, 63, 127, 255]
theorem spec_WebAdd.tab6 : rtab .any (opsOf Try.f38 6) = spec_WebAdd.T6 := by kernel_rfl
theorem spec_WebAdd.bits6 : waitsOk spec_WebAdd.T6.2 spec_WebAdd.B6 = true := by kernel_rfl
theorem spec_WebAdd.calls (k : Nat) (a0_0 : Int) (A0_1 : Option Addr) (c0_1 : Nat) (l0_1 : List (S72)) (a1_0 : Int) (a1_1 : Int) (r1 : Int) (r2 : List (S72)) (r3 : Bool) (w : World) (hr0_1 : Kd.C k72 w A0_1 l0_1.length l0_1) (hc0_1 : l0_1.length ≤ c0_1) (h : spec_WebAdd.f k a0_0 l0_1 a1_0 a1_1 = some (r1, r2, r3)) :
  Calls Try.prog 38 #[.agg #[.int .i64 a0_0, .slice A0_1 l0_1.length c0_1], .agg #[.int .i64 a1_0, .int .i64 a1_1]] w fun e w' => ∃ v1_ : Value, e = .returned (.tuple #[.agg #[.int .i64 r1, v1_], .bool r3]) ∧ Kd.R k72 72 w' w.heap.size (fun _ => True) v1_ r2 ∧ Below w.heap.size w w' := by
 have hu29 := Try.underlying29; have hu43 := Try.underlying43; have hu69 := Try.underlying69; have hu39 := Try.underlying39; have hu72 := Try.underlying72
 have HR0_1 := am_ hr0_1
 have HC0_1 := am_ hc0_1
 clear hr0_1 hc0_1
 have HB := am_ (Below.refl w.heap.size w)
 have H : ((spec_GraphOf.f k a0_0 l0_1).bind fun i0 => ((spec_AddEdge.f k i0.1 i0.2 a1_0 a1_1).bind fun g6 => ((spec_WebOk.f k a0_0 l0_1).bind fun g2 => (if g2 = true then (spec_WebAdd.j0 k (!g6.2.2) a0_0 l0_1 a1_0 a1_1) else (spec_WebAdd.j0 k true a0_0 l0_1 a1_0 a1_1))))) = some (r1, r2, r3) := h
 clear h
 replace H := Option.bind_eq_some_iff.mp H
 obtain ⟨⟨f3, e8⟩, A30, H⟩ := H
 replace H : ((spec_AddEdge.f k f3 e8 a1_0 a1_1).bind fun g6 => ((spec_WebOk.f k a0_0 l0_1).bind fun g2 => (if g2 = true then (spec_WebAdd.j0 k (!g6.2.2) a0_0 l0_1 a1_0 a1_1) else (spec_WebAdd.j0 k true a0_0 l0_1 a1_0 a1_1)))) = some (r1, r2, r3) := H
 have A3 := am_ A30
 clear A30
 replace H := Option.bind_eq_some_iff.mp H
 obtain ⟨⟨e5, e1, g0⟩, A40, H⟩ := H
 replace H : ((spec_WebOk.f k a0_0 l0_1).bind fun g2 => (if g2 = true then (spec_WebAdd.j0 k (!g0) a0_0 l0_1 a1_0 a1_1) else (spec_WebAdd.j0 k true a0_0 l0_1 a1_0 a1_1))) = some (r1, r2, r3) := H
 have A4 := am_ A40
 clear A40
 have t1 := am_ H
 clear H
 go_enter Try.func38, Try.ntmps38
 try go_wp2_with (first | ((with_reducible refine gd_ 2 ?_); refine by_ 2 (cs := #[.int .i64 a0_0, .slice A0_1 l0_1.length c0_1]) (t := 29) ?_; intro d4 hg w6 a1 hb; have i6 := gw_ hg; replace HB := hs_ hb; clear hb hg) | ((with_reducible refine gd_ 3 ?_); refine by_ 3 (cs := #[.int .i64 a1_0, .int .i64 a1_1]) (t := 43) ?_; intro b4 hg w7 a0 hb; have i7 := gw_ hg; obtain ⟨e9, i2⟩ := qn_ a1 hg; replace a1 := qbl_ a1 hb; replace HB := hs_ hb; clear hb hg) | ((with_reducible refine gd_ 4 ?_); refine by_ 4 (cs := #[.int .i64 0, .slice none 0 0]) (t := 29) ?_; intro b6 hg w8 a4 hb; have i8 := gw_ hg; obtain ⟨d5, f0⟩ := qn_ a1 hg; obtain ⟨f4, f1⟩ := qn_ a0 hg; replace a1 := qbl_ a1 hb; replace a0 := qbl_ a0 hb; replace HB := hs_ hb; clear hb hg))
 replace a1 := am_ (blk_drew a1.out); replace a0 := am_ (blk_drew a0.out); replace a4 := am_ (blk_drew a4.out); replace HB := am_ (below_drew1 HB.out)
 refine start_ (n := 10) (S := fun w' => w'.cell? ⟨d4, 0, none⟩ = some (.int .i64 a0_0) ∧ w'.cell? ⟨d4, 1, none⟩ = some (.slice A0_1 l0_1.length c0_1) ∧ w'.cell? ⟨b4, 0, none⟩ = some (.int .i64 a1_0) ∧ w'.cell? ⟨b4, 1, none⟩ = some (.int .i64 a1_1)) (ds := []) (bm 10 0) (by kernel_rfl) rfl (by kernel_rfl) ⟨bl_ a1 0, bl_ a1 1, bl_ a0 0, bl_ a0 1⟩ (fun hHeld => ?_); refine with_tabW spec_WebAdd.tab1 spec_WebAdd.bits1 (fun HT_ HW_ => ?_)
 generalize w8.drew = w9 at a1 a0 a4 HB hHeld ⊢
 refine tz4_ 0 12 10 1 ?_; refine tz4_ 2 14 10 5 ?_
 refine join_ (σ := Value × Value × Nat) 2 #[true, true, true, true, true, true, true, true, false, false] (fun s_ => [(13, .agg #[.int .i64 f3, s_.1]), (15, .tuple #[.agg #[.int .i64 e5, s_.2.1], .bool g0]), (6, .pointer (some ⟨s_.2.2, 0, none⟩)), (11, .tuple #[.agg #[.int .i64 e5, s_.2.1], .bool g0]), (16, .agg #[.int .i64 e5, s_.2.1]), (17, .bool g0)]) (fun s_ w' => (w'.cell? ⟨d4, 0, none⟩ = some (.int .i64 a0_0) ∧ w'.cell? ⟨d4, 1, none⟩ = some (.slice A0_1 l0_1.length c0_1) ∧ w'.cell? ⟨b4, 0, none⟩ = some (.int .i64 a1_0) ∧ w'.cell? ⟨b4, 1, none⟩ = some (.int .i64 a1_1)) ∧ (Kd.R k43 43 w' w.heap.size (fun k_ => some k_ ≠ (s_.2.1 : Value).ownBlock ∧ k_ ≠ b4) s_.1 e8) ∧ (Kd.R k43 43 w' w.heap.size (fun k_ => some k_ ≠ (s_.1 : Value).ownBlock ∧ k_ ≠ b4) s_.2.1 e1) ∧ (w'.heap[d4]? = some (.cells #[.int .i64 a0_0, .slice A0_1 l0_1.length c0_1] 29 (0, 0))) ∧ (w'.heap[b4]? = some (.cells #[.int .i64 a1_0, .int .i64 a1_1] 43 (0, 0))) ∧ (w'.heap[b6]? = some (.cells #[.int .i64 0, .slice none 0 0] 29 (0, 0))) ∧ (w'.heap[s_.2.2]? = some (.cells #[.int .i64 0, .slice none 0 0] 69 (0, 0))) ∧ (w.heap.size ≤ s_.2.2) ∧ (w.heap.size ≤ s_.2.2) ∧ (d4 ≠ s_.2.2) ∧ (s_.2.2 ≠ d4) ∧ (b4 ≠ s_.2.2) ∧ (s_.2.2 ≠ b4) ∧ (b6 ≠ s_.2.2) ∧ (s_.2.2 ≠ b6) ∧ (Below w.heap.size w w')) ?_ ?_
 rotate_left
 ·intro hCont
  refine two_ (i := 1) (j := 7) (Ni := some 13) (Nj := some 6) (bm 10 7) #[true, false, true, false, false, false, false, true, false, false] rfl rfl rfl rfl (two_of HT_.out (by kernel_rfl)) (by decide) (by decide) (fun K hK => ?_) (fun K hK => ?_)
  ·skip
   refine gs_ Try.func47 #[.agg #[.int .i64 a0_0, .slice A0_1 l0_1.length c0_1]] ?_
   with_reducible refine (spec_GraphOf.calls k a0_0 _ _ l0_1 f3 e8 _ ?side1 ?side2 A3.out).mono ?_
   (case side1 => exact qC_ HR0_1 HB)
   (case side2 => exact HC0_1.out)
   rintro e w10 ⟨h1, rfl, ho0, hb⟩
   refine ⟨_, rfl, ?_⟩
   have b7 := am_ (Kd.R_lower (Kd.R_newB ho0 (qk_ a0)) (below_size qB_)); replace a1 := qbl_ a1 hb; replace a0 := qbl_ a0 hb; replace a4 := qbl_ a4 hb; replace HB := hs_ hb; (try clear hb); (try clear hb2); (try clear hk); (try clear hi); (try clear ho0)
   obtain ⟨i9, j1, j2⟩ := Kd.R_slice b7.out
   (first | subst j2 | (injection j2 with f1_ f2_ f3_; have f4_ := f1_.symm; have f5_ := f3_.symm; clear f1_ f2_ f3_; subst f4_; subst f5_))
   refine hK.out _ _ ⟨bl_ a1 0, bl_ a1 1, bl_ a0 0, bl_ a0 1⟩ (fun hHeld => ?_)
   clear hK K
   refine nm_ 13 ?_
   refine two_ (i := 3) (j := 7) (Ni := some 15) (Nj := some 6) (bm 10 15) #[true, true, true, false, false, false, false, true, false, false] rfl rfl rfl rfl (two_of HT_.out (by kernel_rfl)) (by decide) (by decide) (fun K hK => ?_) (fun K hK => ?_)
   ·skip
    refine gs_ Try.func87 #[.agg #[.int .i64 f3, .slice i9 e8.length j1], .agg #[.int .i64 a1_0, .int .i64 a1_1]] ?_
    with_reducible refine (spec_AddEdge.calls k f3 _ _ e8 a1_0 a1_1 e5 e1 g0 _ ?side1 ?side2 A4.out).mono ?_
    (case side1 => exact qD_ (Kd.R_reads' b7.out).2.2)
    (case side2 => exact (Kd.R_reads' b7.out).2.1)
    rintro e w12 ⟨g1, rfl, ho0, hb⟩
    refine ⟨_, rfl, ?_⟩
    have e3 := am_ (Kd.R_lower (Kd.R_newB (Kd.R_new' ho0 (Kd.R_lt (qR_ b7))) (qk_ a0)) (below_size qB_)); replace b7 := ke_ b7 ho0 hb; replace a1 := qbl_ a1 hb; replace a0 := qbl_ a0 hb; replace a4 := qbl_ a4 hb; replace HB := hs_ hb; (try clear hb); (try clear hb2); (try clear hk); (try clear hi); (try clear ho0)
    refine hK.out _ _ ⟨bl_ a1 0, bl_ a1 1, bl_ a0 0, bl_ a0 1⟩ (fun hHeld => ?_)
    clear hK K
    refine nm_ 15 ?_
    refine pz_ 4 11 10 31 ?_; refine pz_ 5 16 10 63 ?_; refine pz_ 6 17 10 127 ?_
    refine o1_ 7 (some 6) 10 255 (fun K hK => ?_)
    refine box_step ?hg (N := 6) ?hd (cs := #[.int .i64 0, .slice none 0 0]) (t := 69) ?hr ?_; (case hd => rfl); (case hg => rfl); (case hr => first | (go_simp; done) | (go_simp; rfl))
    intro a9 hg w13 hbox hb
    have a5 := am_ (hbox); have f5 := gw_ hg; have f6 := gw_ hg; have b3 := (qn_ a1 hg).1; have d7 := (qn_ a1 hg).2; have b8 := (qn_ a0 hg).1; have d8 := (qn_ a0 hg).2; have c0 := (qn_ a4 hg).1; have c6 := (qn_ a4 hg).2; replace b7 := kb_ b7 hb; replace e3 := kb_ e3 hb; replace a1 := qbl_ a1 hb; replace a0 := qbl_ a0 hb; replace a4 := qbl_ a4 hb; replace HB := hs_ hb; clear hb hbox hg
    refine hK.out _ _ ⟨bl_ a1 0, bl_ a1 1, bl_ a0 0, bl_ a0 1⟩ (fun hHeld => ?_)
    clear hK K
    refine nm_ 6 ?_
    exact norm_ (by simp only [putAll, Act.put, sA_, sB_, sC_]) (hCont (.slice i9 e8.length j1, g1, a9) _ ⟨hHeld, (by (with_reducible repeat (first | apply Kd.R_alloc | apply Kd.R_drewN | apply Kd.R_drew)); exact Kd.R_mono b7.out (fun _ hk => ⟨hk.2, hk.1.2⟩)), (by (with_reducible repeat (first | apply Kd.R_alloc | apply Kd.R_drewN | apply Kd.R_drew)); exact Kd.R_mono e3.out (fun _ hk => ⟨hk.1.2, hk.2⟩)), (qk_ a1), (qk_ a0), (qk_ a4), (qk_ a5), f5.out, f6.out, b3.out, d7.out, b8.out, d8.out, c0.out, c6.out, qB_⟩)
   skip
   refine box_step ?hg (N := 6) ?hd (cs := #[.int .i64 0, .slice none 0 0]) (t := 69) ?hr ?_; (case hd => rfl); (case hg => rfl); (case hr => first | (go_simp; done) | (go_simp; rfl))
   intro a9 hg w11 hbox hb
   have a5 := am_ (hbox); have f5 := gw_ hg; have f6 := gw_ hg; have b3 := (qn_ a1 hg).1; have d7 := (qn_ a1 hg).2; have b8 := (qn_ a0 hg).1; have d8 := (qn_ a0 hg).2; have c0 := (qn_ a4 hg).1; have c6 := (qn_ a4 hg).2; replace b7 := kb_ b7 hb; replace a1 := qbl_ a1 hb; replace a0 := qbl_ a0 hb; replace a4 := qbl_ a4 hb; replace HB := hs_ hb; clear hb hbox hg
   obtain ⟨g7, g8, g9⟩ := Kd.R_slice b7.out
   (first | subst g9 | (injection g9 with f1_ f2_ f3_; have f4_ := f1_.symm; have f5_ := f3_.symm; clear f1_ f2_ f3_; subst f4_; subst f5_))
   refine hK.out _ _ ⟨bl_ a1 0, bl_ a1 1, bl_ a0 0, bl_ a0 1⟩ (fun hHeld => ?_)
   clear hK K
   refine nm_ 6 ?_
   refine o1_ 3 (some 15) 10 143 (fun K hK => ?_)
   refine gs_ Try.func87 #[.agg #[.int .i64 f3, .slice g7 e8.length g8], .agg #[.int .i64 a1_0, .int .i64 a1_1]] ?_
   with_reducible refine (spec_AddEdge.calls k f3 _ _ e8 a1_0 a1_1 e5 e1 g0 _ ?side1 ?side2 A4.out).mono ?_
   (case side1 => exact qD_ (Kd.R_reads' b7.out).2.2)
   (case side2 => exact (Kd.R_reads' b7.out).2.1)
   rintro e w13 ⟨g1, rfl, ho0, hb⟩
   refine ⟨_, rfl, ?_⟩
   have e3 := am_ (Kd.R_lower (Kd.R_newB (Kd.R_new' ho0 (Kd.R_lt (qR_ b7))) (qk_ a0)) (below_size qB_)); replace b7 := ke_ b7 ho0 hb; replace a1 := qbl_ a1 hb; replace a0 := qbl_ a0 hb; replace a4 := qbl_ a4 hb; replace a5 := qbl_ a5 hb; replace HB := hs_ hb; (try clear hb); (try clear hb2); (try clear hk); (try clear hi); (try clear ho0)
   refine hK.out _ _ ⟨bl_ a1 0, bl_ a1 1, bl_ a0 0, bl_ a0 1⟩ (fun hHeld => ?_)
   clear hK K
   refine nm_ 15 ?_
   refine pz_ 4 11 10 159 ?_; refine pz_ 5 16 10 191 ?_; refine pz_ 6 17 10 255 ?_
   exact norm_ (by simp only [putAll, Act.put, sA_, sB_, sC_]) (hCont (.slice g7 e8.length g8, g1, a9) _ ⟨hHeld, (by (with_reducible repeat (first | apply Kd.R_alloc | apply Kd.R_drewN | apply Kd.R_drew)); exact Kd.R_mono b7.out (fun _ hk => ⟨hk.2, hk.1.2⟩)), (by (with_reducible repeat (first | apply Kd.R_alloc | apply Kd.R_drewN | apply Kd.R_drew)); exact Kd.R_mono e3.out (fun _ hk => ⟨hk.1.2, hk.2⟩)), (qk_ a1), (qk_ a0), (qk_ a4), (qk_ a5), f5.out, f6.out, b3.out, d7.out, b8.out, d8.out, c0.out, c6.out, qB_⟩)
  skip
  refine box_step ?hg (N := 6) ?hd (cs := #[.int .i64 0, .slice none 0 0]) (t := 69) ?hr ?_; (case hd => rfl); (case hg => rfl); (case hr => first | (go_simp; done) | (go_simp; rfl))
  intro a9 hg w10 hbox hb
  have a5 := am_ (hbox); have f5 := gw_ hg; have f6 := gw_ hg; have b3 := (qn_ a1 hg).1; have d7 := (qn_ a1 hg).2; have b8 := (qn_ a0 hg).1; have d8 := (qn_ a0 hg).2; have c0 := (qn_ a4 hg).1; have c6 := (qn_ a4 hg).2; replace a1 := qbl_ a1 hb; replace a0 := qbl_ a0 hb; replace a4 := qbl_ a4 hb; replace HB := hs_ hb; clear hb hbox hg
  refine hK.out _ _ ⟨bl_ a1 0, bl_ a1 1, bl_ a0 0, bl_ a0 1⟩ (fun hHeld => ?_)
  clear hK K
  refine nm_ 6 ?_
  refine o1_ 1 (some 13) 10 135 (fun K hK => ?_)
  refine gs_ Try.func47 #[.agg #[.int .i64 a0_0, .slice A0_1 l0_1.length c0_1]] ?_
  with_reducible refine (spec_GraphOf.calls k a0_0 _ _ l0_1 f3 e8 _ ?side1 ?side2 A3.out).mono ?_
  (case side1 => exact qC_ HR0_1 HB)
  (case side2 => exact HC0_1.out)
  rintro e w11 ⟨h1, rfl, ho0, hb⟩
  refine ⟨_, rfl, ?_⟩
  have b7 := am_ (Kd.R_lower (Kd.R_newB ho0 (qk_ a0)) (below_size qB_)); replace a1 := qbl_ a1 hb; replace a0 := qbl_ a0 hb; replace a4 := qbl_ a4 hb; replace a5 := qbl_ a5 hb; replace HB := hs_ hb; (try clear hb); (try clear hb2); (try clear hk); (try clear hi); (try clear ho0)
  obtain ⟨g7, g8, g9⟩ := Kd.R_slice b7.out
  (first | subst g9 | (injection g9 with f1_ f2_ f3_; have f4_ := f1_.symm; have f5_ := f3_.symm; clear f1_ f2_ f3_; subst f4_; subst f5_))
  refine hK.out _ _ ⟨bl_ a1 0, bl_ a1 1, bl_ a0 0, bl_ a0 1⟩ (fun hHeld => ?_)
  clear hK K
  refine nm_ 13 ?_
  refine o1_ 3 (some 15) 10 143 (fun K hK => ?_)
  refine gs_ Try.func87 #[.agg #[.int .i64 f3, .slice g7 e8.length g8], .agg #[.int .i64 a1_0, .int .i64 a1_1]] ?_
  with_reducible refine (spec_AddEdge.calls k f3 _ _ e8 a1_0 a1_1 e5 e1 g0 _ ?side1 ?side2 A4.out).mono ?_
  (case side1 => exact qD_ (Kd.R_reads' b7.out).2.2)
  (case side2 => exact (Kd.R_reads' b7.out).2.1)
  rintro e w13 ⟨g1, rfl, ho0, hb⟩
  refine ⟨_, rfl, ?_⟩
  have e3 := am_ (Kd.R_lower (Kd.R_newB (Kd.R_new' ho0 (Kd.R_lt (qR_ b7))) (qk_ a0)) (below_size qB_)); replace b7 := ke_ b7 ho0 hb; replace a1 := qbl_ a1 hb; replace a0 := qbl_ a0 hb; replace a4 := qbl_ a4 hb; replace a5 := qbl_ a5 hb; replace HB := hs_ hb; (try clear hb); (try clear hb2); (try clear hk); (try clear hi); (try clear ho0)
  refine hK.out _ _ ⟨bl_ a1 0, bl_ a1 1, bl_ a0 0, bl_ a0 1⟩ (fun hHeld => ?_)
  clear hK K
  refine nm_ 15 ?_
  refine pz_ 4 11 10 159 ?_; refine pz_ 5 16 10 191 ?_; refine pz_ 6 17 10 255 ?_
  exact norm_ (by simp only [putAll, Act.put, sA_, sB_, sC_]) (hCont (.slice g7 e8.length g8, g1, a9) _ ⟨hHeld, (by (with_reducible repeat (first | apply Kd.R_alloc | apply Kd.R_drewN | apply Kd.R_drew)); exact Kd.R_mono b7.out (fun _ hk => ⟨hk.2, hk.1.2⟩)), (by (with_reducible repeat (first | apply Kd.R_alloc | apply Kd.R_drewN | apply Kd.R_drew)); exact Kd.R_mono e3.out (fun _ hk => ⟨hk.1.2, hk.2⟩)), (qk_ a1), (qk_ a0), (qk_ a4), (qk_ a5), f5.out, f6.out, b3.out, d7.out, b8.out, d8.out, c0.out, c6.out, qB_⟩)
 rintro ⟨h1, g1, a9⟩ w14 ⟨hS_, h0_, h1_, h2_, h3_, h4_, h5_, h6_, h7_, h8_, h9_, h10_, h11_, h12_, h13_, h14_⟩
 have n0_ : Aside0 (Kd.R k43 43 w14 w.heap.size (fun k_ => some k_ ≠ (g1 : Value).ownBlock ∧ k_ ≠ b4) h1 e8) := ⟨h0_⟩
 have n1_ : Aside0 (Kd.R k43 43 w14 w.heap.size (fun k_ => some k_ ≠ (h1 : Value).ownBlock ∧ k_ ≠ b4) g1 e1) := ⟨h1_⟩
 have n2_ : Aside0 (w14.heap[d4]? = some (.cells #[.int .i64 a0_0, .slice A0_1 l0_1.length c0_1] 29 (0, 0))) := ⟨h2_⟩
 have n3_ : Aside0 (w14.heap[b4]? = some (.cells #[.int .i64 a1_0, .int .i64 a1_1] 43 (0, 0))) := ⟨h3_⟩
 have n4_ : Aside0 (w14.heap[b6]? = some (.cells #[.int .i64 0, .slice none 0 0] 29 (0, 0))) := ⟨h4_⟩
 have n5_ : Aside0 (w14.heap[a9]? = some (.cells #[.int .i64 0, .slice none 0 0] 69 (0, 0))) := ⟨h5_⟩
 have n6_ : Aside0 (w.heap.size ≤ a9) := ⟨h6_⟩
 have n7_ : Aside0 (w.heap.size ≤ a9) := ⟨h7_⟩
 have n8_ : Aside0 (d4 ≠ a9) := ⟨h8_⟩
 have n9_ : Aside0 (a9 ≠ d4) := ⟨h9_⟩
 have n10_ : Aside0 (b4 ≠ a9) := ⟨h10_⟩
 have n11_ : Aside0 (a9 ≠ b4) := ⟨h11_⟩
 have n12_ : Aside0 (b6 ≠ a9) := ⟨h12_⟩
 have n13_ : Aside0 (a9 ≠ b6) := ⟨h13_⟩
 have n14_ : Aside0 (Below w.heap.size w w14) := ⟨h14_⟩
 clear a1; clear a0; clear a4; clear HB; clear h0_ h1_ h2_ h3_ h4_ h5_ h6_ h7_ h8_ h9_ h10_ h11_ h12_ h13_ h14_; have b7 := n0_; have e3 := n1_; have a1 := n2_; have a0 := n3_; have a4 := n4_; have a5 := n5_; have f5 := n6_; have f6 := n7_; have b3 := n8_; have d7 := n9_; have b8 := n10_; have d8 := n11_; have c0 := n12_; have c6 := n13_; have HB := n14_; clear n0_ n1_ n2_ n3_ n4_ n5_ n6_ n7_ n8_ n9_ n10_ n11_ n12_ n13_ n14_
 have hHeld : w14.cell? ⟨d4, 0, none⟩ = some (.int .i64 a0_0) ∧ w14.cell? ⟨d4, 1, none⟩ = some (.slice A0_1 l0_1.length c0_1) ∧ w14.cell? ⟨b4, 0, none⟩ = some (.int .i64 a1_0) ∧ w14.cell? ⟨b4, 1, none⟩ = some (.int .i64 a1_1) := hS_
 obtain ⟨e6, e7, j3⟩ := Kd.R_slice e3.out
 (first | subst j3 | (injection j3 with f1_ f2_ f3_; have f4_ := f1_.symm; have f5_ := f3_.symm; clear f1_ f2_ f3_; subst f4_; subst f5_))
 refine norm_ (a' := ?_) ?_ ?_
 rotate_left
 ·simp only [putAll, Act.put, sA_, sB_, sC_]
  rfl
 refine o1_ 8 none 10 511 (fun K hK => ?_)
 have hs15 : w14.cell? ⟨a9, 0, none⟩ = some (.int .i64 0) := bl_ a5 0
 have hfs15 := blk_frozen a5.out 0
 have k3 := b3.out; have k4 := b8.out; have k5 := c0.out; have k6 := d7.out; have k7 := d8.out; have k8 := c6.out
 have hs17 : w14.cell? ⟨a9, 1, none⟩ = some (.slice none 0 0) := bl_ a5 1
 have hfs17 := blk_frozen a5.out 1
 have k9 := b3.out; have l0 := b8.out; have l1 := c0.out; have l2 := d7.out; have l3 := d8.out; have l4 := c6.out
 refine skip_ (w1 := ?_) (by rfl) rfl ?_ ?_
 rotate_left
 ·go_simp
  rfl
 refine hK.out _ _ ⟨((cell_far (p := ⟨a9, _, none⟩) b3.out _).trans (((cell_far (p := ⟨a9, _, none⟩) b3.out _).trans (hHeld.1)))), ((cell_far (p := ⟨a9, _, none⟩) b3.out _).trans (((cell_far (p := ⟨a9, _, none⟩) b3.out _).trans (hHeld.2.1)))), ((cell_far (p := ⟨a9, _, none⟩) b8.out _).trans (((cell_far (p := ⟨a9, _, none⟩) b8.out _).trans (hHeld.2.2.1)))), ((cell_far (p := ⟨a9, _, none⟩) b8.out _).trans (((cell_far (p := ⟨a9, _, none⟩) b8.out _).trans (hHeld.2.2.2))))⟩ (fun hHeld => ?_)
 clear hK K; refine pz_ 9 7 10 1023 ?_
 refine done_ (done_of HT_.out (by kernel_rfl)) ?_
 go_upto_region 2 with (fail)
 go_cut [24] (fun v24 wc => ∃ (kq : Nat) (x24_4 : Bool), v24 = .bool x24_4 ∧ Aside0 (spec_WebAdd.j0 kq x24_4 a0_0 l0_1 a1_0 a1_1 = some (r1, r2, r3)) ∧ Aside0 (kq ≤ k) ∧ Aside0 (Kd.R k43 43 wc w.heap.size (fun k_ => k_ ≠ b4) (.slice e6 e1.length e7) e1) ∧ Aside0 (wc.heap[d4]? = some (.cells #[.int .i64 a0_0, (.slice A0_1 l0_1.length c0_1)] 29 (0, 0))) ∧ Aside0 (wc.heap[b4]? = some (.cells #[.int .i64 a1_0, .int .i64 a1_1] 43 (0, 0))) ∧ Aside0 (wc.heap[b6]? = some (.cells #[.int .i64 0, (.slice none 0 0)] 29 (0, 0))) ∧ Aside0 (wc.heap[a9]? = some (.cells #[.int .i64 e5, (.slice e6 e1.length e7)] 69 (0, 0))) ∧ Aside0 (Below w.heap.size w wc))
 case first =>
  have H := t1.out; clear t1
  obtain ⟨g2, A18, H⟩ := bs_ H
  refine ie_ H ?_ ?_ <;> clear H <;> rintro rfl H
  ·have H' := am_ H; clear H; obtain ⟨t7, t8⟩ := nn_ e9; obtain ⟨t9, u0⟩ := nn_ d5; obtain ⟨u1, u2⟩ := nn_ b3
   obtain ⟨h2, h3, h4, h5⟩ := bc2_ a1
   go_wp2_with (first | ((with_reducible refine gc_ 14 ?_); refine gl_ (some 19) Try.func14 #[.agg #[.int .i64 a0_0, .slice A0_1 l0_1.length c0_1]] ?_; (with_reducible refine (spec_WebOk.calls k a0_0 _ _ l0_1 true _ ?_ ?_ A18.out).mono ?_); exact Kd.C_below HR0_1.out qB_; exact HC0_1.out; rintro e w24 ⟨rfl, hb⟩; refine ⟨_, rfl, ?_⟩; replace b7 := am_ (Kd.R_below (by (with_reducible repeat (first | apply Kd.R_alloc | apply Kd.R_drewN | apply Kd.R_drew)); exact (Kd.R_mono (Kd.R_far (p := ⟨a9, 1, none⟩) (Kd.R_far (p := ⟨a9, 0, none⟩) (Kd.R_types b7.out a5.out (by decide)) (fun _ hk => hk.2) (.int .i64 e5)) (fun _ hk => hk.2) (.slice e6 e1.length e7)) (fun _ h_ => h_.1))) hb); replace e3 := am_ (Kd.R_below (by (with_reducible repeat (first | apply Kd.R_alloc | apply Kd.R_drewN | apply Kd.R_drew)); exact (Kd.R_mono (Kd.R_far (p := ⟨a9, 1, none⟩) (Kd.R_far (p := ⟨a9, 0, none⟩) (Kd.R_types e3.out a5.out (by decide)) (fun _ hk => hk.2) (.int .i64 e5)) (fun _ hk => hk.2) (.slice e6 e1.length e7)) (fun _ h_ => h_.1))) hb); replace a1 := qbl_ a1 hb; replace a0 := qbl_ a0 hb; replace a4 := qbl_ a4 hb; replace a5 := am_ (blk_below (g := a9) (o := .cells #[.int .i64 e5, .slice e6 e1.length e7] 69 (0, 0)) (by (with_reducible repeat (first | refine blk_drewN ?_ _ | refine blk_drew ?_ | refine blk_alloc ?_ _)); refine blk_put (cs := #[.int .i64 e5, .slice none 0 0]) ?_ 1 _ rfl; (with_reducible repeat (first | refine blk_drewN ?_ _ | refine blk_drew ?_ | refine blk_alloc ?_ _)); refine blk_put (cs := #[.int .i64 0, .slice none 0 0]) ?_ 0 _ rfl; exact qf_ a5) hb); replace HB := hs_ hb; (try clear hb); (try clear hb2); (try clear hk); (try clear hi)))
   go_meet
   case rel => exact ⟨_, (!g0), qe_, H', ⟨qo_⟩, ⟨by (with_reducible repeat (first | apply Kd.R_alloc | apply Kd.R_drewN | apply Kd.R_drew)); exact Kd.R_mono e3.out (fun _ hk => hk.2)⟩, ⟨qk_ a1⟩, ⟨qk_ a0⟩, ⟨qk_ a4⟩, ⟨qk_ a5⟩, ⟨qB_⟩⟩
  have H' := am_ H; clear H; obtain ⟨u3, u4⟩ := nn_ e9; obtain ⟨u5, u6⟩ := nn_ d5; obtain ⟨u7, u8⟩ := nn_ b3
  obtain ⟨h6, h7, h8, h9⟩ := bc2_ a1
  go_wp2_with (first | ((with_reducible refine gc_ 14 ?_); refine gl_ (some 19) Try.func14 #[.agg #[.int .i64 a0_0, .slice A0_1 l0_1.length c0_1]] ?_; (with_reducible refine (spec_WebOk.calls k a0_0 _ _ l0_1 false _ ?_ ?_ A18.out).mono ?_); exact Kd.C_below HR0_1.out qB_; exact HC0_1.out; rintro e w29 ⟨rfl, hb⟩; refine ⟨_, rfl, ?_⟩; replace b7 := am_ (Kd.R_below (by (with_reducible repeat (first | apply Kd.R_alloc | apply Kd.R_drewN | apply Kd.R_drew)); exact (Kd.R_mono (Kd.R_far (p := ⟨a9, 1, none⟩) (Kd.R_far (p := ⟨a9, 0, none⟩) (Kd.R_types b7.out a5.out (by decide)) (fun _ hk => hk.2) (.int .i64 e5)) (fun _ hk => hk.2) (.slice e6 e1.length e7)) (fun _ h_ => h_.1))) hb); replace e3 := am_ (Kd.R_below (by (with_reducible repeat (first | apply Kd.R_alloc | apply Kd.R_drewN | apply Kd.R_drew)); exact (Kd.R_mono (Kd.R_far (p := ⟨a9, 1, none⟩) (Kd.R_far (p := ⟨a9, 0, none⟩) (Kd.R_types e3.out a5.out (by decide)) (fun _ hk => hk.2) (.int .i64 e5)) (fun _ hk => hk.2) (.slice e6 e1.length e7)) (fun _ h_ => h_.1))) hb); replace a1 := qbl_ a1 hb; replace a0 := qbl_ a0 hb; replace a4 := qbl_ a4 hb; replace a5 := am_ (blk_below (g := a9) (o := .cells #[.int .i64 e5, .slice e6 e1.length e7] 69 (0, 0)) (by (with_reducible repeat (first | refine blk_drewN ?_ _ | refine blk_drew ?_ | refine blk_alloc ?_ _)); refine blk_put (cs := #[.int .i64 e5, .slice none 0 0]) ?_ 1 _ rfl; (with_reducible repeat (first | refine blk_drewN ?_ _ | refine blk_drew ?_ | refine blk_alloc ?_ _)); refine blk_put (cs := #[.int .i64 0, .slice none 0 0]) ?_ 0 _ rfl; exact qf_ a5) hb); replace HB := hs_ hb; (try clear hb); (try clear hb2); (try clear hk); (try clear hi)))
  go_meet
  case rel => exact ⟨_, (true), qe_, H', ⟨qo_⟩, ⟨by (with_reducible repeat (first | apply Kd.R_alloc | apply Kd.R_drewN | apply Kd.R_drew)); exact Kd.R_mono e3.out (fun _ hk => hk.2)⟩, ⟨qk_ a1⟩, ⟨qk_ a0⟩, ⟨qk_ a4⟩, ⟨qk_ a5⟩, ⟨qB_⟩⟩
 case rest =>
  clear t1; (try clear c1); (try clear c2); (try clear p2); (try clear c3); (try clear c4); (try clear c8); (try clear c14); (try clear c19); (try clear c20); (try clear c21); (try clear c22); (try clear c25); (try clear c26); (try clear c27); (try clear h2 h3); (try clear h6 h7); (try clear h4 h5); (try clear h8 h9)
  obtain ⟨kq, x24_4, rfl, HA, x7, a2, a1, a0, a4, a5, HB⟩ := hcut
  cases kq with
  | zero => exact absurd HA.out (by simp [spec_WebAdd.j0])
  | succ kj4 =>
   have H := HA.out; clear HA
   simp only [spec_WebAdd.j0] at H
   refine ie_ H ?_ ?_ <;> clear H <;> rintro rfl H
   ·simp only [Option.some.injEq, Prod.mk.injEq] at H
    obtain ⟨rfl, rfl, rfl⟩ := H
    obtain ⟨u9, v0⟩ := nn_ f0; obtain ⟨v1, v2⟩ := nn_ f1; obtain ⟨v3, v4⟩ := nn_ c0
    obtain ⟨l5, l6, l7, l8⟩ := bc2_ a4
    go_wp2
    refine bodyPost_ret (results_ct rfl _ _ b6 29 #[.int .i64 0, .slice none 0 0] (0, 0) _ rfl (by (with_reducible repeat (first | refine blk_drewN ?_ _ | refine blk_drew ?_ | refine blk_alloc ?_ _)); refine blk_put (cs := #[.int .i64 0, .slice none 0 0]) ?_ 1 _ rfl; (with_reducible repeat (first | refine blk_drewN ?_ _ | refine blk_drew ?_ | refine blk_alloc ?_ _)); refine blk_put (cs := #[.int .i64 0, .slice none 0 0]) ?_ 0 _ rfl; exact qf_ a4) Try.underlying29 rfl (by kernel_rfl)) rfl ?_
    exact ⟨_, qr_, by first | exact Kd.R_nil _ _ _ _ _ | exact Kd.N_nil _ _ _ _ _ | exact Kd.V_nil _ _ _ _ _ | exact Kd.Q_nil _ _ _ _ _ | exact Kd.S_nil _ _ _ _ _, qB_⟩
   replace H := Option.bind_eq_some_iff.mp H
   obtain ⟨⟨d6, c5, t2⟩, j5, H⟩ := H
   replace H : ((spec_TreeOf.f kj4 d6 c5 a1_0).bind fun e4 => ((spec_TreeOf.f kj4 d6 c5 a1_1).bind fun e2 => ((spec_l08Put.f kj4 l0_1 a1_0 a1_1 0 (e4 != e2)).bind fun h0 => (some (a0_0, h0, true))))) = some (r1, r2, r3) := H
   have A35 := am_ j5
   clear j5
   obtain ⟨e4, A36, H⟩ := bs_ H
   obtain ⟨e2, A37, H⟩ := bs_ H
   obtain ⟨h0, A38, H⟩ := bs_ H
   simp only [Option.some.injEq, Prod.mk.injEq] at H
   obtain ⟨rfl, rfl, rfl⟩ := H
   obtain ⟨v5, v6⟩ := nn_ e9; obtain ⟨v7, v8⟩ := nn_ d5; obtain ⟨v9, w0⟩ := nn_ b3
   obtain ⟨l9, m0, m1, m2⟩ := bc2_ a1
   try go_wp2_with (first | ((with_reducible refine gc_ 58 ?_); refine gl_ (some 28) Try.func58 #[.agg #[.int .i64 a0_0, .slice A0_1 l0_1.length c0_1], .int .i64 0] ?_; (with_reducible refine (spec_ForestAt.calls kj4 a0_0 _ _ l0_1 0 d6 c5 t2 _ ?_ ?_ A35.out).mono ?_); exact qC_ HR0_1 HB; exact HC0_1.out; rintro e w43 ⟨x5, rfl, ho0, hb⟩; refine ⟨_, rfl, ?_⟩; have a7 := am_ (Kd.S_lower ho0 (below_size qB_)); replace a2 := kb_ a2 hb; replace a1 := qbl_ a1 hb; replace a0 := qbl_ a0 hb; replace a4 := qbl_ a4 hb; replace a5 := qbl_ a5 hb; replace HB := hs_ hb; (try clear hb); (try clear hb2); (try clear hk); (try clear hi); (try clear ho0)) | ((with_reducible refine gd_ 8 ?_); refine by_ 8 (cs := #[.int .i64 0, .slice none 0 0]) (t := 39) ?_; intro b5 hg w44 a6 hb; have j9 := gw_ hg; obtain ⟨i3, g3⟩ := qn_ a1 hg; obtain ⟨i4, g4⟩ := qn_ a0 hg; obtain ⟨f7, f2⟩ := qn_ a4 hg; obtain ⟨i5, g5⟩ := qn_ a5 hg; replace a2 := kb_ a2 hb; replace a7 := am_ (Kd.S_below (qS_ a7) hb); replace a1 := qbl_ a1 hb; replace a0 := qbl_ a0 hb; replace a4 := qbl_ a4 hb; replace a5 := qbl_ a5 hb; replace HB := hs_ hb; clear hb hg; obtain ⟨w3, w4⟩ := nn_ g3; obtain ⟨w5, x0⟩ := nn_ g4; obtain ⟨x1, x2⟩ := nn_ f2; obtain ⟨x3, x4⟩ := nn_ g5; obtain ⟨m3, m4, m5, m6⟩ := bc2_ a6; obtain ⟨d9, e0, t3⟩ := Kd.S_slice a7.out; subst t3))
   have n0_ : Aside0 (Kd.R k43 43 ((w44.setCell ⟨b5, 0, none⟩ (.int .i64 d6)).setCell ⟨b5, 1, none⟩ (.slice d9 c5.length e0)) w.heap.size (fun k_ => k_ ≠ b4) (.slice e6 e1.length e7) e1) := ⟨by (with_reducible repeat (first | apply Kd.R_alloc | apply Kd.R_drewN | apply Kd.R_drew)); exact Kd.R_mono (Kd.R_far (p := ⟨b5, 1, none⟩) (Kd.R_far (p := ⟨b5, 0, none⟩) (Kd.R_types a2.out a6.out (by decide)) (fun _ hk => hk.2) (.int .i64 d6)) (fun _ hk => hk.2) (.slice d9 c5.length e0)) (fun _ hk => hk.1)⟩
   have n1_ : Aside0 (Kd.S (Kd.slice 3 (Kd.int .i64)) 51 ((w44.setCell ⟨b5, 0, none⟩ (.int .i64 d6)).setCell ⟨b5, 1, none⟩ (.slice d9 c5.length e0)) w.heap.size (fun _ => True) (.slice d9 c5.length e0) c5) := ⟨by (with_reducible repeat (first | apply Kd.S_alloc | apply Kd.S_drewN | apply Kd.S_drew)); exact Kd.S_mono (Kd.S_far (p := ⟨b5, 1, none⟩) (Kd.S_far (p := ⟨b5, 0, none⟩) (Kd.S_types a7.out a6.out (by decide)) (fun _ hk => hk.2) (.int .i64 d6)) (fun _ hk => hk.2) (.slice d9 c5.length e0)) (fun _ hk => trivial)⟩
   have n2_ : Aside0 (((w44.setCell ⟨b5, 0, none⟩ (.int .i64 d6)).setCell ⟨b5, 1, none⟩ (.slice d9 c5.length e0)).heap[d4]? = some (.cells #[.int .i64 a0_0, .slice A0_1 l0_1.length c0_1] 29 (0, 0))) := ⟨qf_ a1⟩
   have n3_ : Aside0 (((w44.setCell ⟨b5, 0, none⟩ (.int .i64 d6)).setCell ⟨b5, 1, none⟩ (.slice d9 c5.length e0)).heap[b4]? = some (.cells #[.int .i64 a1_0, .int .i64 a1_1] 43 (0, 0))) := ⟨qf_ a0⟩
   have n4_ : Aside0 (((w44.setCell ⟨b5, 0, none⟩ (.int .i64 d6)).setCell ⟨b5, 1, none⟩ (.slice d9 c5.length e0)).heap[b6]? = some (.cells #[.int .i64 0, .slice none 0 0] 29 (0, 0))) := ⟨qf_ a4⟩
   have n5_ : Aside0 (((w44.setCell ⟨b5, 0, none⟩ (.int .i64 d6)).setCell ⟨b5, 1, none⟩ (.slice d9 c5.length e0)).heap[a9]? = some (.cells #[.int .i64 e5, .slice e6 e1.length e7] 69 (0, 0))) := ⟨qf_ a5⟩
   have n6_ : Aside0 (((w44.setCell ⟨b5, 0, none⟩ (.int .i64 d6)).setCell ⟨b5, 1, none⟩ (.slice d9 c5.length e0)).heap[b5]? = some (.cells #[.int .i64 d6, .slice d9 c5.length e0] 39 (0, 0))) := ⟨by (with_reducible repeat (first | refine blk_drewN ?_ _ | refine blk_drew ?_ | refine blk_alloc ?_ _)); refine blk_put (cs := #[.int .i64 d6, .slice none 0 0]) ?_ 1 _ rfl; (with_reducible repeat (first | refine blk_drewN ?_ _ | refine blk_drew ?_ | refine blk_alloc ?_ _)); refine blk_put (cs := #[.int .i64 0, .slice none 0 0]) ?_ 0 _ rfl; exact qf_ a6⟩
   have n7_ : Aside0 (Below w.heap.size w ((w44.setCell ⟨b5, 0, none⟩ (.int .i64 d6)).setCell ⟨b5, 1, none⟩ (.slice d9 c5.length e0))) := ⟨qB_⟩
   (try clear a2); (try clear a7); (try clear a1); (try clear a0); (try clear a4); (try clear a5); (try clear a6); (try clear HB)
   generalize ((w44.setCell ⟨b5, 0, none⟩ (.int .i64 d6)).setCell ⟨b5, 1, none⟩ (.slice d9 c5.length e0)) = w51 at n0_ n1_ n2_ n3_ n4_ n5_ n6_ n7_ ⊢
   have a2 := n0_; have a7 := n1_; have a1 := n2_; have a0 := n3_; have a4 := n4_; have a5 := n5_; have a6 := n6_; have HB := n7_; clear n0_ n1_ n2_ n3_ n4_ n5_ n6_ n7_
   replace a2 := am_ (Kd.R_drew a2.out); replace a7 := am_ (Kd.S_drew a7.out); replace a1 := am_ (blk_drew a1.out); replace a0 := am_ (blk_drew a0.out); replace a4 := am_ (blk_drew a4.out); replace a5 := am_ (blk_drew a5.out); replace a6 := am_ (blk_drew a6.out); replace HB := am_ (below_drew1 HB.out)
   refine start_ (n := 16) (S := fun w' => w'.cell? ⟨b4, 0, none⟩ = some (.int .i64 a1_0) ∧ w'.cell? ⟨b4, 1, none⟩ = some (.int .i64 a1_1) ∧ w'.cell? ⟨b5, 0, none⟩ = some (.int .i64 d6) ∧ w'.cell? ⟨b5, 1, none⟩ = some (.slice d9 c5.length e0)) (ds := []) (bm 16 0) (by kernel_rfl) rfl (by kernel_rfl) ⟨bl_ a0 0, bl_ a0 1, bl_ a6 0, bl_ a6 1⟩ (fun hHeld => ?_); refine with_tabW spec_WebAdd.tab5 spec_WebAdd.bits5 (fun HT_ HW_ => ?_)
   generalize w51.drew = w52 at a2 a7 a1 a0 a4 a5 a6 HB hHeld ⊢
   refine pz_ 0 31 16 1 ?_; refine pz_ 2 33 16 5 ?_; refine pz_ 5 36 16 37 ?_; refine pz_ 9 40 16 549 ?_; refine tz4_ 1 32 16 551 ?_; refine tz4_ 3 34 16 559 ?_; refine tz4_ 4 35 16 575 ?_; refine tz4_ 6 37 16 639 ?_; refine tz4_ 8 39 16 895 ?_; refine tz4_ 10 41 16 1919 ?_
   refine join_ (σ := Nat) 1 #[true, true, true, true, true, true, true, true, true, true, true, true, true, true, true, false] (fun s_ => [(38, .int .i64 e4), (42, .int .i64 e2), (10, .pointer (some ⟨s_, 0, none⟩)), (43, .bool (e4 != e2)), (44, .agg #[.int .i64 a1_0, .int .i64 a1_1, .int .i64 0, .bool (e4 != e2)])]) (fun s_ w' => (w'.cell? ⟨b4, 0, none⟩ = some (.int .i64 a1_0) ∧ w'.cell? ⟨b4, 1, none⟩ = some (.int .i64 a1_1) ∧ w'.cell? ⟨b5, 0, none⟩ = some (.int .i64 d6) ∧ w'.cell? ⟨b5, 1, none⟩ = some (.slice d9 c5.length e0)) ∧ (Kd.S (Kd.slice 3 (Kd.int .i64)) 51 w' w.heap.size (fun _ => True) (.slice d9 c5.length e0) c5) ∧ (Kd.R k43 43 w' w.heap.size (fun k_ => k_ ≠ b4) (.slice e6 e1.length e7) e1) ∧ (w'.heap[d4]? = some (.cells #[.int .i64 a0_0, .slice A0_1 l0_1.length c0_1] 29 (0, 0))) ∧ (w'.heap[b4]? = some (.cells #[.int .i64 a1_0, .int .i64 a1_1] 43 (0, 0))) ∧ (w'.heap[b6]? = some (.cells #[.int .i64 0, .slice none 0 0] 29 (0, 0))) ∧ (w'.heap[a9]? = some (.cells #[.int .i64 e5, .slice e6 e1.length e7] 69 (0, 0))) ∧ (w'.heap[b5]? = some (.cells #[.int .i64 d6, .slice d9 c5.length e0] 39 (0, 0))) ∧ (w'.heap[s_]? = some (.cells #[.int .i64 0, .int .i64 0, .int .i64 0, .bool false] 72 (0, 0))) ∧ (w.heap.size ≤ s_) ∧ (w.heap.size ≤ s_) ∧ (d4 ≠ s_) ∧ (s_ ≠ d4) ∧ (b4 ≠ s_) ∧ (s_ ≠ b4) ∧ (b6 ≠ s_) ∧ (s_ ≠ b6) ∧ (a9 ≠ s_) ∧ (s_ ≠ a9) ∧ (b5 ≠ s_) ∧ (s_ ≠ b5) ∧ (Below w.heap.size w w')) ?_ ?_
   rotate_left
   ·intro hCont
    refine two_ (i := 7) (j := 14) (Ni := some 38) (Nj := some 10) (bm 16 2047) #[true, true, true, true, true, true, true, false, true, true, true, false, false, false, true, false] rfl rfl rfl rfl (two_of HT_.out (by kernel_rfl)) (by decide) (by decide) (fun K hK => ?_) (fun K hK => ?_)
    ·skip
     refine gs_ Try.func60 #[.agg #[.int .i64 d6, .slice d9 c5.length e0], .int .i64 a1_0] ?_
     with_reducible refine (spec_TreeOf.calls kj4 d6 _ _ c5 a1_0 e4 _ ?side1 ?side2 A36.out).mono ?_
     (case side1 => exact qD_ (Kd.S_reads' a7.out).2.2)
     (case side2 => exact (Kd.S_reads' a7.out).2.1)
     rintro e w53 ⟨rfl, hb⟩
     refine ⟨_, rfl, ?_⟩
     replace a2 := kb_ a2 hb; replace a7 := am_ (Kd.S_below (qS_ a7) hb); replace a1 := qbl_ a1 hb; replace a0 := qbl_ a0 hb; replace a4 := qbl_ a4 hb; replace a5 := qbl_ a5 hb; replace a6 := qbl_ a6 hb; replace HB := hs_ hb; (try clear hb); (try clear hb2); (try clear hk); (try clear hi)
     refine hK.out _ _ ⟨bl_ a0 0, bl_ a0 1, bl_ a6 0, bl_ a6 1⟩ (fun hHeld => ?_)
     clear hK K
     refine nm_ 38 ?_
     refine two_ (i := 11) (j := 14) (Ni := some 42) (Nj := some 10) (bm 16 4095) #[true, true, true, true, true, true, true, true, true, true, true, false, false, false, true, false] rfl rfl rfl rfl (two_of HT_.out (by kernel_rfl)) (by decide) (by decide) (fun K hK => ?_) (fun K hK => ?_)
     ·skip
      refine gs_ Try.func60 #[.agg #[.int .i64 d6, .slice d9 c5.length e0], .int .i64 a1_1] ?_
      with_reducible refine (spec_TreeOf.calls kj4 d6 _ _ c5 a1_1 e2 _ ?side1 ?side2 A37.out).mono ?_
      (case side1 => exact qD_ (Kd.S_reads' a7.out).2.2)
      (case side2 => exact (Kd.S_reads' a7.out).2.1)
      rintro e w54 ⟨rfl, hb⟩
      refine ⟨_, rfl, ?_⟩
      replace a2 := kb_ a2 hb; replace a7 := am_ (Kd.S_below (qS_ a7) hb); replace a1 := qbl_ a1 hb; replace a0 := qbl_ a0 hb; replace a4 := qbl_ a4 hb; replace a5 := qbl_ a5 hb; replace a6 := qbl_ a6 hb; replace HB := hs_ hb; (try clear hb); (try clear hb2); (try clear hk); (try clear hi)
      refine hK.out _ _ ⟨bl_ a0 0, bl_ a0 1, bl_ a6 0, bl_ a6 1⟩ (fun hHeld => ?_)
      clear hK K
      refine nm_ 42 ?_
      refine pz_ 12 43 16 8191 ?_; refine pz_ 13 44 16 16383 ?_
      refine o1_ 14 (some 10) 16 32767 (fun K hK => ?_)
      refine box_step ?hg (N := 10) ?hd (cs := #[.int .i64 0, .int .i64 0, .int .i64 0, .bool false]) (t := 72) ?hr ?_; (case hd => rfl); (case hg => rfl); (case hr => first | (go_simp; done) | (go_simp; rfl))
      intro a3 hg w55 hbox hb
      have b2 := am_ (hbox); have f8 := gw_ hg; have f9 := gw_ hg; have c7 := (qn_ a1 hg).1; have c9 := (qn_ a1 hg).2; have b0 := (qn_ a0 hg).1; have d0 := (qn_ a0 hg).2; have b9 := (qn_ a4 hg).1; have a8 := (qn_ a4 hg).2; have d1 := (qn_ a5 hg).1; have d2 := (qn_ a5 hg).2; have b1 := (qn_ a6 hg).1; have d3 := (qn_ a6 hg).2; replace a2 := kb_ a2 hb; replace a7 := am_ (Kd.S_below (qS_ a7) hb); replace a1 := qbl_ a1 hb; replace a0 := qbl_ a0 hb; replace a4 := qbl_ a4 hb; replace a5 := qbl_ a5 hb; replace a6 := qbl_ a6 hb; replace HB := hs_ hb; clear hb hbox hg
      refine hK.out _ _ ⟨bl_ a0 0, bl_ a0 1, bl_ a6 0, bl_ a6 1⟩ (fun hHeld => ?_)
      clear hK K
      refine nm_ 10 ?_
      exact norm_ (by simp only [putAll, Act.put, sA_, sB_, sC_]) (hCont (a3) _ ⟨hHeld, (qS_ a7), (qR_ a2), (qk_ a1), (qk_ a0), (qk_ a4), (qk_ a5), (qk_ a6), (qk_ b2), f8.out, f9.out, c7.out, c9.out, b0.out, d0.out, b9.out, a8.out, d1.out, d2.out, b1.out, d3.out, qB_⟩)
     skip
     refine box_step ?hg (N := 10) ?hd (cs := #[.int .i64 0, .int .i64 0, .int .i64 0, .bool false]) (t := 72) ?hr ?_; (case hd => rfl); (case hg => rfl); (case hr => first | (go_simp; done) | (go_simp; rfl))
     intro a3 hg w54 hbox hb
     have b2 := am_ (hbox); have f8 := gw_ hg; have f9 := gw_ hg; have c7 := (qn_ a1 hg).1; have c9 := (qn_ a1 hg).2; have b0 := (qn_ a0 hg).1; have d0 := (qn_ a0 hg).2; have b9 := (qn_ a4 hg).1; have a8 := (qn_ a4 hg).2; have d1 := (qn_ a5 hg).1; have d2 := (qn_ a5 hg).2; have b1 := (qn_ a6 hg).1; have d3 := (qn_ a6 hg).2; replace a2 := kb_ a2 hb; replace a7 := am_ (Kd.S_below (qS_ a7) hb); replace a1 := qbl_ a1 hb; replace a0 := qbl_ a0 hb; replace a4 := qbl_ a4 hb; replace a5 := qbl_ a5 hb; replace a6 := qbl_ a6 hb; replace HB := hs_ hb; clear hb hbox hg
     refine hK.out _ _ ⟨bl_ a0 0, bl_ a0 1, bl_ a6 0, bl_ a6 1⟩ (fun hHeld => ?_)
     clear hK K
     refine nm_ 10 ?_
     refine o1_ 11 (some 42) 16 20479 (fun K hK => ?_)
     refine gs_ Try.func60 #[.agg #[.int .i64 d6, .slice d9 c5.length e0], .int .i64 a1_1] ?_
     with_reducible refine (spec_TreeOf.calls kj4 d6 _ _ c5 a1_1 e2 _ ?side1 ?side2 A37.out).mono ?_
     (case side1 => exact qD_ (Kd.S_reads' a7.out).2.2)
     (case side2 => exact (Kd.S_reads' a7.out).2.1)
     rintro e w55 ⟨rfl, hb⟩
     refine ⟨_, rfl, ?_⟩
     replace a2 := kb_ a2 hb; replace a7 := am_ (Kd.S_below (qS_ a7) hb); replace a1 := qbl_ a1 hb; replace a0 := qbl_ a0 hb; replace a4 := qbl_ a4 hb; replace a5 := qbl_ a5 hb; replace a6 := qbl_ a6 hb; replace b2 := qbl_ b2 hb; replace HB := hs_ hb; (try clear hb); (try clear hb2); (try clear hk); (try clear hi)
     refine hK.out _ _ ⟨bl_ a0 0, bl_ a0 1, bl_ a6 0, bl_ a6 1⟩ (fun hHeld => ?_)
     clear hK K
     refine nm_ 42 ?_
     refine pz_ 12 43 16 24575 ?_; refine pz_ 13 44 16 32767 ?_
     exact norm_ (by simp only [putAll, Act.put, sA_, sB_, sC_]) (hCont (a3) _ ⟨hHeld, (qS_ a7), (qR_ a2), (qk_ a1), (qk_ a0), (qk_ a4), (qk_ a5), (qk_ a6), (qk_ b2), f8.out, f9.out, c7.out, c9.out, b0.out, d0.out, b9.out, a8.out, d1.out, d2.out, b1.out, d3.out, qB_⟩)
    skip
    refine box_step ?hg (N := 10) ?hd (cs := #[.int .i64 0, .int .i64 0, .int .i64 0, .bool false]) (t := 72) ?hr ?_; (case hd => rfl); (case hg => rfl); (case hr => first | (go_simp; done) | (go_simp; rfl))
    intro a3 hg w53 hbox hb
    have b2 := am_ (hbox); have f8 := gw_ hg; have f9 := gw_ hg; have c7 := (qn_ a1 hg).1; have c9 := (qn_ a1 hg).2; have b0 := (qn_ a0 hg).1; have d0 := (qn_ a0 hg).2; have b9 := (qn_ a4 hg).1; have a8 := (qn_ a4 hg).2; have d1 := (qn_ a5 hg).1; have d2 := (qn_ a5 hg).2; have b1 := (qn_ a6 hg).1; have d3 := (qn_ a6 hg).2; replace a2 := kb_ a2 hb; replace a7 := am_ (Kd.S_below (qS_ a7) hb); replace a1 := qbl_ a1 hb; replace a0 := qbl_ a0 hb; replace a4 := qbl_ a4 hb; replace a5 := qbl_ a5 hb; replace a6 := qbl_ a6 hb; replace HB := hs_ hb; clear hb hbox hg
    refine hK.out _ _ ⟨bl_ a0 0, bl_ a0 1, bl_ a6 0, bl_ a6 1⟩ (fun hHeld => ?_)
    clear hK K
    refine nm_ 10 ?_
    refine o1_ 7 (some 38) 16 18431 (fun K hK => ?_)
    refine gs_ Try.func60 #[.agg #[.int .i64 d6, .slice d9 c5.length e0], .int .i64 a1_0] ?_
    with_reducible refine (spec_TreeOf.calls kj4 d6 _ _ c5 a1_0 e4 _ ?side1 ?side2 A36.out).mono ?_
    (case side1 => exact qD_ (Kd.S_reads' a7.out).2.2)
    (case side2 => exact (Kd.S_reads' a7.out).2.1)
    rintro e w54 ⟨rfl, hb⟩
    refine ⟨_, rfl, ?_⟩
    replace a2 := kb_ a2 hb; replace a7 := am_ (Kd.S_below (qS_ a7) hb); replace a1 := qbl_ a1 hb; replace a0 := qbl_ a0 hb; replace a4 := qbl_ a4 hb; replace a5 := qbl_ a5 hb; replace a6 := qbl_ a6 hb; replace b2 := qbl_ b2 hb; replace HB := hs_ hb; (try clear hb); (try clear hb2); (try clear hk); (try clear hi)
    refine hK.out _ _ ⟨bl_ a0 0, bl_ a0 1, bl_ a6 0, bl_ a6 1⟩ (fun hHeld => ?_)
    clear hK K
    refine nm_ 38 ?_
    refine o1_ 11 (some 42) 16 20479 (fun K hK => ?_)
    refine gs_ Try.func60 #[.agg #[.int .i64 d6, .slice d9 c5.length e0], .int .i64 a1_1] ?_
    with_reducible refine (spec_TreeOf.calls kj4 d6 _ _ c5 a1_1 e2 _ ?side1 ?side2 A37.out).mono ?_
    (case side1 => exact qD_ (Kd.S_reads' a7.out).2.2)
    (case side2 => exact (Kd.S_reads' a7.out).2.1)
    rintro e w55 ⟨rfl, hb⟩
    refine ⟨_, rfl, ?_⟩
    replace a2 := kb_ a2 hb; replace a7 := am_ (Kd.S_below (qS_ a7) hb); replace a1 := qbl_ a1 hb; replace a0 := qbl_ a0 hb; replace a4 := qbl_ a4 hb; replace a5 := qbl_ a5 hb; replace a6 := qbl_ a6 hb; replace b2 := qbl_ b2 hb; replace HB := hs_ hb; (try clear hb); (try clear hb2); (try clear hk); (try clear hi)
    refine hK.out _ _ ⟨bl_ a0 0, bl_ a0 1, bl_ a6 0, bl_ a6 1⟩ (fun hHeld => ?_)
    clear hK K
    refine nm_ 42 ?_
    refine pz_ 12 43 16 24575 ?_; refine pz_ 13 44 16 32767 ?_
    exact norm_ (by simp only [putAll, Act.put, sA_, sB_, sC_]) (hCont (a3) _ ⟨hHeld, (qS_ a7), (qR_ a2), (qk_ a1), (qk_ a0), (qk_ a4), (qk_ a5), (qk_ a6), (qk_ b2), f8.out, f9.out, c7.out, c9.out, b0.out, d0.out, b9.out, a8.out, d1.out, d2.out, b1.out, d3.out, qB_⟩)
   rintro a3 w56 ⟨hS_, h0_, h1_, h2_, h3_, h4_, h5_, h6_, h7_, h8_, h9_, h10_, h11_, h12_, h13_, h14_, h15_, h16_, h17_, h18_, h19_, h20_⟩
   have n0_ : Aside0 (Kd.S (Kd.slice 3 (Kd.int .i64)) 51 w56 w.heap.size (fun _ => True) (.slice d9 c5.length e0) c5) := ⟨h0_⟩
   have n1_ : Aside0 (Kd.R k43 43 w56 w.heap.size (fun k_ => k_ ≠ b4) (.slice e6 e1.length e7) e1) := ⟨h1_⟩
   have n2_ : Aside0 (w56.heap[d4]? = some (.cells #[.int .i64 a0_0, .slice A0_1 l0_1.length c0_1] 29 (0, 0))) := ⟨h2_⟩
   have n3_ : Aside0 (w56.heap[b4]? = some (.cells #[.int .i64 a1_0, .int .i64 a1_1] 43 (0, 0))) := ⟨h3_⟩
   have n4_ : Aside0 (w56.heap[b6]? = some (.cells #[.int .i64 0, .slice none 0 0] 29 (0, 0))) := ⟨h4_⟩
   have n5_ : Aside0 (w56.heap[a9]? = some (.cells #[.int .i64 e5, .slice e6 e1.length e7] 69 (0, 0))) := ⟨h5_⟩
   have n6_ : Aside0 (w56.heap[b5]? = some (.cells #[.int .i64 d6, .slice d9 c5.length e0] 39 (0, 0))) := ⟨h6_⟩
   have n7_ : Aside0 (w56.heap[a3]? = some (.cells #[.int .i64 0, .int .i64 0, .int .i64 0, .bool false] 72 (0, 0))) := ⟨h7_⟩
   have n8_ : Aside0 (w.heap.size ≤ a3) := ⟨h8_⟩
   have n9_ : Aside0 (w.heap.size ≤ a3) := ⟨h9_⟩
   have n10_ : Aside0 (d4 ≠ a3) := ⟨h10_⟩
   have n11_ : Aside0 (a3 ≠ d4) := ⟨h11_⟩
   have n12_ : Aside0 (b4 ≠ a3) := ⟨h12_⟩
   have n13_ : Aside0 (a3 ≠ b4) := ⟨h13_⟩
   have n14_ : Aside0 (b6 ≠ a3) := ⟨h14_⟩
   have n15_ : Aside0 (a3 ≠ b6) := ⟨h15_⟩
   have n16_ : Aside0 (a9 ≠ a3) := ⟨h16_⟩
   have n17_ : Aside0 (a3 ≠ a9) := ⟨h17_⟩
   have n18_ : Aside0 (b5 ≠ a3) := ⟨h18_⟩
   have n19_ : Aside0 (a3 ≠ b5) := ⟨h19_⟩
   have n20_ : Aside0 (Below w.heap.size w w56) := ⟨h20_⟩
   clear a2; clear a7; clear a1; clear a0; clear a4; clear a5; clear a6; clear HB; clear h0_ h1_ h2_ h3_ h4_ h5_ h6_ h7_ h8_ h9_ h10_ h11_ h12_ h13_ h14_ h15_ h16_ h17_ h18_ h19_ h20_; have a7 := n0_; have a2 := n1_; have a1 := n2_; have a0 := n3_; have a4 := n4_; have a5 := n5_; have a6 := n6_; have b2 := n7_; have f8 := n8_; have f9 := n9_; have c7 := n10_; have c9 := n11_; have b0 := n12_; have d0 := n13_; have b9 := n14_; have a8 := n15_; have d1 := n16_; have d2 := n17_; have b1 := n18_; have d3 := n19_; have HB := n20_; clear n0_ n1_ n2_ n3_ n4_ n5_ n6_ n7_ n8_ n9_ n10_ n11_ n12_ n13_ n14_ n15_ n16_ n17_ n18_ n19_ n20_
   have hHeld : w56.cell? ⟨b4, 0, none⟩ = some (.int .i64 a1_0) ∧ w56.cell? ⟨b4, 1, none⟩ = some (.int .i64 a1_1) ∧ w56.cell? ⟨b5, 0, none⟩ = some (.int .i64 d6) ∧ w56.cell? ⟨b5, 1, none⟩ = some (.slice d9 c5.length e0) := hS_
   refine norm_ (a' := ?_) ?_ ?_
   rotate_left
   ·simp only [putAll, Act.put, sA_, sB_, sC_]
    rfl
   refine o1_ 15 none 16 65535 (fun K hK => ?_)
   have hs57 : w56.cell? ⟨a3, 0, none⟩ = some (.int .i64 0) := bl_ b2 0
   have hfs57 := blk_frozen b2.out 0
   have m7 := c7.out; have m8 := b0.out; have m9 := b9.out; have n0 := d1.out; have n1 := b1.out; have n2 := c9.out; have n3 := d0.out; have n4 := a8.out; have n5 := d2.out; have n6 := d3.out
   have hs58 : w56.cell? ⟨a3, 1, none⟩ = some (.int .i64 0) := bl_ b2 1
   have hfs58 := blk_frozen b2.out 1
   have n7 := c7.out; have n8 := b0.out; have n9 := b9.out; have o0 := d1.out; have o1 := b1.out; have o2 := c9.out; have o3 := d0.out; have o4 := a8.out; have o5 := d2.out; have o6 := d3.out
   have hs59 : w56.cell? ⟨a3, 2, none⟩ = some (.int .i64 0) := bl_ b2 2
   have hfs59 := blk_frozen b2.out 2
   have o7 := c7.out; have o8 := b0.out; have o9 := b9.out; have p0 := d1.out; have p1 := b1.out; have p3 := c9.out; have p4 := d0.out; have p5 := a8.out; have p6 := d2.out; have p7 := d3.out
   have hs60 : w56.cell? ⟨a3, 3, none⟩ = some (.bool false) := bl_ b2 3
   have hfs60 := blk_frozen b2.out 3
   have p8 := c7.out; have p9 := b0.out; have q0 := b9.out; have q1 := d1.out; have q2 := b1.out; have q3 := c9.out; have q4 := d0.out; have q5 := a8.out; have q6 := d2.out; have q7 := d3.out
   refine skip_ (w1 := ?_) (by rfl) rfl ?_ ?_
   rotate_left
   ·go_simp
    rfl
   refine hK.out _ _ ⟨((cell_far (p := ⟨a3, _, none⟩) b0.out _).trans (((cell_far (p := ⟨a3, _, none⟩) b0.out _).trans (((cell_far (p := ⟨a3, _, none⟩) b0.out _).trans (((cell_far (p := ⟨a3, _, none⟩) b0.out _).trans (hHeld.1)))))))), ((cell_far (p := ⟨a3, _, none⟩) b0.out _).trans (((cell_far (p := ⟨a3, _, none⟩) b0.out _).trans (((cell_far (p := ⟨a3, _, none⟩) b0.out _).trans (((cell_far (p := ⟨a3, _, none⟩) b0.out _).trans (hHeld.2.1)))))))), ((cell_far (p := ⟨a3, _, none⟩) b1.out _).trans (((cell_far (p := ⟨a3, _, none⟩) b1.out _).trans (((cell_far (p := ⟨a3, _, none⟩) b1.out _).trans (((cell_far (p := ⟨a3, _, none⟩) b1.out _).trans (hHeld.2.2.1)))))))), ((cell_far (p := ⟨a3, _, none⟩) b1.out _).trans (((cell_far (p := ⟨a3, _, none⟩) b1.out _).trans (((cell_far (p := ⟨a3, _, none⟩) b1.out _).trans (((cell_far (p := ⟨a3, _, none⟩) b1.out _).trans (hHeld.2.2.2))))))))⟩ (fun hHeld => ?_)
   clear hK K
   refine done_ (done_of HT_.out (by kernel_rfl)) ?_
   try go_wp2
   have n0_ : Aside0 (Kd.R k43 43 ((((w56.setCell ⟨a3, 0, none⟩ (.int .i64 a1_0)).setCell ⟨a3, 1, none⟩ (.int .i64 a1_1)).setCell ⟨a3, 2, none⟩ (.int .i64 0)).setCell ⟨a3, 3, none⟩ (.bool (e4 != e2))) w.heap.size (fun k_ => k_ ≠ b4) (.slice e6 e1.length e7) e1) := ⟨by (with_reducible repeat (first | apply Kd.R_alloc | apply Kd.R_drewN | apply Kd.R_drew)); exact Kd.R_mono (Kd.R_far (p := ⟨a3, 3, none⟩) (Kd.R_far (p := ⟨a3, 2, none⟩) (Kd.R_far (p := ⟨a3, 1, none⟩) (Kd.R_far (p := ⟨a3, 0, none⟩) (Kd.R_types a2.out b2.out (by decide)) (fun _ hk => hk.2) (.int .i64 a1_0)) (fun _ hk => hk.2) (.int .i64 a1_1)) (fun _ hk => hk.2) (.int .i64 0)) (fun _ hk => hk.2) (.bool (e4 != e2))) (fun _ hk => hk.1)⟩
   have n1_ : Aside0 (Kd.S (Kd.slice 3 (Kd.int .i64)) 51 ((((w56.setCell ⟨a3, 0, none⟩ (.int .i64 a1_0)).setCell ⟨a3, 1, none⟩ (.int .i64 a1_1)).setCell ⟨a3, 2, none⟩ (.int .i64 0)).setCell ⟨a3, 3, none⟩ (.bool (e4 != e2))) w.heap.size (fun _ => True) (.slice d9 c5.length e0) c5) := ⟨by (with_reducible repeat (first | apply Kd.S_alloc | apply Kd.S_drewN | apply Kd.S_drew)); exact Kd.S_mono (Kd.S_far (p := ⟨a3, 3, none⟩) (Kd.S_far (p := ⟨a3, 2, none⟩) (Kd.S_far (p := ⟨a3, 1, none⟩) (Kd.S_far (p := ⟨a3, 0, none⟩) (Kd.S_types a7.out b2.out (by decide)) (fun _ hk => hk.2) (.int .i64 a1_0)) (fun _ hk => hk.2) (.int .i64 a1_1)) (fun _ hk => hk.2) (.int .i64 0)) (fun _ hk => hk.2) (.bool (e4 != e2))) (fun _ hk => trivial)⟩
   have n2_ : Aside0 (((((w56.setCell ⟨a3, 0, none⟩ (.int .i64 a1_0)).setCell ⟨a3, 1, none⟩ (.int .i64 a1_1)).setCell ⟨a3, 2, none⟩ (.int .i64 0)).setCell ⟨a3, 3, none⟩ (.bool (e4 != e2))).heap[d4]? = some (.cells #[.int .i64 a0_0, .slice A0_1 l0_1.length c0_1] 29 (0, 0))) := ⟨qf_ a1⟩
   have n3_ : Aside0 (((((w56.setCell ⟨a3, 0, none⟩ (.int .i64 a1_0)).setCell ⟨a3, 1, none⟩ (.int .i64 a1_1)).setCell ⟨a3, 2, none⟩ (.int .i64 0)).setCell ⟨a3, 3, none⟩ (.bool (e4 != e2))).heap[b4]? = some (.cells #[.int .i64 a1_0, .int .i64 a1_1] 43 (0, 0))) := ⟨qf_ a0⟩
   have n4_ : Aside0 (((((w56.setCell ⟨a3, 0, none⟩ (.int .i64 a1_0)).setCell ⟨a3, 1, none⟩ (.int .i64 a1_1)).setCell ⟨a3, 2, none⟩ (.int .i64 0)).setCell ⟨a3, 3, none⟩ (.bool (e4 != e2))).heap[b6]? = some (.cells #[.int .i64 0, .slice none 0 0] 29 (0, 0))) := ⟨qf_ a4⟩
   have n5_ : Aside0 (((((w56.setCell ⟨a3, 0, none⟩ (.int .i64 a1_0)).setCell ⟨a3, 1, none⟩ (.int .i64 a1_1)).setCell ⟨a3, 2, none⟩ (.int .i64 0)).setCell ⟨a3, 3, none⟩ (.bool (e4 != e2))).heap[a9]? = some (.cells #[.int .i64 e5, .slice e6 e1.length e7] 69 (0, 0))) := ⟨qf_ a5⟩
   have n6_ : Aside0 (((((w56.setCell ⟨a3, 0, none⟩ (.int .i64 a1_0)).setCell ⟨a3, 1, none⟩ (.int .i64 a1_1)).setCell ⟨a3, 2, none⟩ (.int .i64 0)).setCell ⟨a3, 3, none⟩ (.bool (e4 != e2))).heap[b5]? = some (.cells #[.int .i64 d6, .slice d9 c5.length e0] 39 (0, 0))) := ⟨qf_ a6⟩
   have n7_ : Aside0 (((((w56.setCell ⟨a3, 0, none⟩ (.int .i64 a1_0)).setCell ⟨a3, 1, none⟩ (.int .i64 a1_1)).setCell ⟨a3, 2, none⟩ (.int .i64 0)).setCell ⟨a3, 3, none⟩ (.bool (e4 != e2))).heap[a3]? = some (.cells #[.int .i64 a1_0, .int .i64 a1_1, .int .i64 0, .bool (e4 != e2)] 72 (0, 0))) := ⟨by (with_reducible repeat (first | refine blk_drewN ?_ _ | refine blk_drew ?_ | refine blk_alloc ?_ _)); refine blk_put (cs := #[.int .i64 a1_0, .int .i64 a1_1, .int .i64 0, .bool false]) ?_ 3 _ rfl; (with_reducible repeat (first | refine blk_drewN ?_ _ | refine blk_drew ?_ | refine blk_alloc ?_ _)); refine blk_put (cs := #[.int .i64 a1_0, .int .i64 a1_1, .int .i64 0, .bool false]) ?_ 2 _ rfl; (with_reducible repeat (first | refine blk_drewN ?_ _ | refine blk_drew ?_ | refine blk_alloc ?_ _)); refine blk_put (cs := #[.int .i64 a1_0, .int .i64 0, .int .i64 0, .bool false]) ?_ 1 _ rfl; (with_reducible repeat (first | refine blk_drewN ?_ _ | refine blk_drew ?_ | refine blk_alloc ?_ _)); refine blk_put (cs := #[.int .i64 0, .int .i64 0, .int .i64 0, .bool false]) ?_ 0 _ rfl; exact qf_ b2⟩
   have n8_ : Aside0 (Below w.heap.size w ((((w56.setCell ⟨a3, 0, none⟩ (.int .i64 a1_0)).setCell ⟨a3, 1, none⟩ (.int .i64 a1_1)).setCell ⟨a3, 2, none⟩ (.int .i64 0)).setCell ⟨a3, 3, none⟩ (.bool (e4 != e2)))) := ⟨qB_⟩
   (try clear a2); (try clear a7); (try clear a1); (try clear a0); (try clear a4); (try clear a5); (try clear a6); (try clear b2); (try clear HB)
   generalize ((((w56.setCell ⟨a3, 0, none⟩ (.int .i64 a1_0)).setCell ⟨a3, 1, none⟩ (.int .i64 a1_1)).setCell ⟨a3, 2, none⟩ (.int .i64 0)).setCell ⟨a3, 3, none⟩ (.bool (e4 != e2))) = w61 at n0_ n1_ n2_ n3_ n4_ n5_ n6_ n7_ n8_ ⊢
   have a2 := n0_; have a7 := n1_; have a1 := n2_; have a0 := n3_; have a4 := n4_; have a5 := n5_; have a6 := n6_; have b2 := n7_; have HB := n8_; clear n0_ n1_ n2_ n3_ n4_ n5_ n6_ n7_ n8_
   replace a2 := am_ (Kd.R_drew a2.out); replace a7 := am_ (Kd.S_drew a7.out); replace a1 := am_ (blk_drew a1.out); replace a0 := am_ (blk_drew a0.out); replace a4 := am_ (blk_drew a4.out); replace a5 := am_ (blk_drew a5.out); replace a6 := am_ (blk_drew a6.out); replace b2 := am_ (blk_drew b2.out); replace HB := am_ (below_drew1 HB.out)
   refine start_ (n := 9) (S := fun w' => w'.cell? ⟨d4, 0, none⟩ = some (.int .i64 a0_0) ∧ w'.cell? ⟨d4, 1, none⟩ = some (.slice A0_1 l0_1.length c0_1) ∧ w'.cell? ⟨a3, 0, none⟩ = some (.int .i64 a1_0) ∧ w'.cell? ⟨a3, 1, none⟩ = some (.int .i64 a1_1) ∧ w'.cell? ⟨a3, 2, none⟩ = some (.int .i64 0) ∧ w'.cell? ⟨a3, 3, none⟩ = some (.bool (e4 != e2))) (ds := []) (bm 9 0) (by kernel_rfl) rfl (by kernel_rfl) ⟨bl_ a1 0, bl_ a1 1, bl_ b2 0, bl_ b2 1, bl_ b2 2, bl_ b2 3⟩ (fun hHeld => ?_); refine with_tabW spec_WebAdd.tab6 spec_WebAdd.bits6 (fun HT_ HW_ => ?_)
   generalize w61.drew = w62 at a2 a7 a1 a0 a4 a5 a6 b2 HB hHeld ⊢
   refine pz_ 0 45 9 1 ?_; refine pz_ 2 47 9 5 ?_; refine tz6_ 1 46 9 7 ?_; refine tz6_ 3 48 9 15 ?_; refine tz6_ 4 49 9 31 ?_
   refine o1_ 5 (some 50) 9 63 (fun K hK => ?_)
   refine gs_ Try.func88 #[.slice A0_1 l0_1.length c0_1, .agg #[.int .i64 a1_0, .int .i64 a1_1, .int .i64 0, .bool (e4 != e2)]] ?_
   with_reducible refine (spec_l08Put.calls kj4 _ _ l0_1 a1_0 a1_1 0 (e4 != e2) h0 _ ?side1 ?side2 A38.out).mono ?_
   (case side1 => exact qC_ HR0_1 HB)
   (case side2 => exact HC0_1.out)
   rintro e w63 ⟨x6, rfl, ho0, hb⟩
   refine ⟨_, rfl, ?_⟩
   have i1 := am_ (Kd.R_lower (Kd.R_newB ho0 (qk_ b2)) (below_size qB_)); replace a2 := kb_ a2 hb; replace a7 := am_ (Kd.S_below (qS_ a7) hb); replace a1 := qbl_ a1 hb; replace a0 := qbl_ a0 hb; replace a4 := qbl_ a4 hb; replace a5 := qbl_ a5 hb; replace a6 := qbl_ a6 hb; replace b2 := qbl_ b2 hb; replace HB := hs_ hb; (try clear hb); (try clear hb2); (try clear hk); (try clear hi); (try clear ho0)
   obtain ⟨k0, k1, k2⟩ := Kd.R_slice i1.out
   (first | subst k2 | (injection k2 with f1_ f2_ f3_; have f4_ := f1_.symm; have f5_ := f3_.symm; clear f1_ f2_ f3_; subst f4_; subst f5_))
   refine hK.out _ _ ⟨bl_ a1 0, bl_ a1 1, bl_ b2 0, bl_ b2 1, bl_ b2 2, bl_ b2 3⟩ (fun hHeld => ?_)
   clear hK K
   refine nm_ 50 ?_
   refine pz_ 6 51 9 127 ?_
   refine o1_ 7 none 9 255 (fun K hK => ?_)
   have hs65 : w63.cell? ⟨b6, 0, none⟩ = some (.int .i64 0) := bl_ a4 0
   have hfs65 := blk_frozen a4.out 0
   have q8 := d5.out; have q9 := f4.out; have r0 := c6.out; have r4 := f2.out; have r5 := a8.out; have r6 := f0.out; have r7 := f1.out; have r8 := c0.out; have r9 := f7.out; have s0 := b9.out
   have hs66 : w63.cell? ⟨b6, 1, none⟩ = some (.slice none 0 0) := bl_ a4 1
   have hfs66 := blk_frozen a4.out 1
   have s1 := d5.out; have s2 := f4.out; have s3 := c6.out; have s4 := f2.out; have s5 := a8.out; have s6 := f0.out; have s7 := f1.out; have s8 := c0.out; have s9 := f7.out; have t0 := b9.out
   refine skip_ (w1 := ?_) (by rfl) rfl ?_ ?_
   rotate_left
   ·go_simp
    rfl
   refine hK.out _ _ ⟨((cell_far (p := ⟨b6, _, none⟩) d5.out _).trans (((cell_far (p := ⟨b6, _, none⟩) d5.out _).trans (hHeld.1)))), ((cell_far (p := ⟨b6, _, none⟩) d5.out _).trans (((cell_far (p := ⟨b6, _, none⟩) d5.out _).trans (hHeld.2.1)))), ((cell_far (p := ⟨b6, _, none⟩) a8.out _).trans (((cell_far (p := ⟨b6, _, none⟩) a8.out _).trans (hHeld.2.2.1)))), ((cell_far (p := ⟨b6, _, none⟩) a8.out _).trans (((cell_far (p := ⟨b6, _, none⟩) a8.out _).trans (hHeld.2.2.2.1)))), ((cell_far (p := ⟨b6, _, none⟩) a8.out _).trans (((cell_far (p := ⟨b6, _, none⟩) a8.out _).trans (hHeld.2.2.2.2.1)))), ((cell_far (p := ⟨b6, _, none⟩) a8.out _).trans (((cell_far (p := ⟨b6, _, none⟩) a8.out _).trans (hHeld.2.2.2.2.2))))⟩ (fun hHeld => ?_)
   clear hK K; refine pz_ 8 5 9 511 ?_
   refine done_ (done_of HT_.out (by kernel_rfl)) ?_
   try go_wp2
   refine bodyPost_ret (results_ct rfl _ _ b6 29 #[.int .i64 a0_0, .slice k0 h0.length k1] (0, 0) _ rfl (by (with_reducible repeat (first | refine blk_drewN ?_ _ | refine blk_drew ?_ | refine blk_alloc ?_ _)); refine blk_put (cs := #[.int .i64 a0_0, .slice none 0 0]) ?_ 1 _ rfl; (with_reducible repeat (first | refine blk_drewN ?_ _ | refine blk_drew ?_ | refine blk_alloc ?_ _)); refine blk_put (cs := #[.int .i64 0, .slice none 0 0]) ?_ 0 _ rfl; exact qf_ a4) Try.underlying29 rfl (by kernel_rfl)) rfl ?_
   exact ⟨_, qr_, by (with_reducible repeat (first | apply Kd.R_alloc | apply Kd.R_drewN | apply Kd.R_drew)); exact Kd.R_mono (Kd.R_far (p := ⟨b6, 1, none⟩) (Kd.R_far (p := ⟨b6, 0, none⟩) (Kd.R_types i1.out a4.out (by decide)) (fun _ hk => hk.2) (.int .i64 a0_0)) (fun _ hk => hk.2) (.slice k0 h0.length k1)) (fun _ hk => trivial), qB_⟩
end Go.Proofs.Ytbkklafkoegdpaa.QFnExactWebAdd
