import Derived.Test.YtbkklafkoegdpaaQFnExactWebAddx20
import Derived.Test.YtbkklafkoegdpaaQFnExactWebAddx23
namespace Go.Proofs.Ytbkklafkoegdpaa.QFnExactWebAdd
open Go.RowKit Go.Proofs.YtbkklafkoegdpaaW.PrintWords Go.Proofs.YtbkklafkoegdpaaW.PrintLast Go.Proofs.YtbkklafkoegdpaaW.PrintMore
set_option maxHeartbeats 8000000
set_option maxRecDepth 100000
set_option linter.unusedVariables false
set_option linter.unusedSimpArgs false
mutual
def impl_WebAdd.j0 : Nat → Bool → Int → List (S72) → Int → Int → Option (Int × (List (S72)) × Bool)
  | 0, _, _, _, _, _ => none
  | k + 1, x24, x551000, x551001, x552000, x552001 => if x24 = true then (some (0, ([] : List (S72)), false)) else ((impl_labelsAt.f k x551000 x551001 0).bind fun t564 => (impl_WebAdd.l0 k t564 0 x551000 x551001 x552000 x552001))
def impl_WebAdd.l0 : Nat → List Int → Int → Int → List (S72) → Int → Int → Option (Int × (List (S72)) × Bool)
  | 0, _, _, _, _, _, _ => none
  | k + 1, x8, x9, x551000, x551001, x552000, x552001 => if x9 < (x551001.length : Int) then (if 0 ≤ x9 then ((impl_ahead.f ((rd_T72 x551001 x9).f0) ((rd_T72 x551001 x9).f1) x552000 x552001).bind fun t569 => (if t569 = true then (impl_WebAdd.l0 k x8 (wrap64 (x9 + 1)) x551000 x551001 x552000 x552001) else (if x9 ≤ (x551001.length : Int) then ((impl_copyWeb.f x551000 (x551001.take (x9 : Int).toNat)).bind fun bt574 => (if 0 ≤ x552000 then (if x552000 < (x8.length : Int) then (if 0 ≤ x552001 then (if x552001 < (x8.length : Int) then (if bt574.2.length < 4398046511104 then ((some (bt574.2 ++ [(⟨x552000, x552001, 0, ((rd x8 x552000) != (rd x8 x552001))⟩ : S72)] : List (S72))).bind fun y581 => ((some (x551001.drop (x9 : Int).toNat : List (S72))).bind fun y584 => (if y581.length + y584.length < 4398046511104 then (some (bt574.1, (y581 ++ y584), true)) else (none)))) else (none)) else (none)) else (none)) else (none)) else (none))) else (none)))) else (none)) else (if 0 ≤ x9 then (if x9 ≤ (x551001.length : Int) then ((impl_copyWeb.f x551000 (x551001.take (x9 : Int).toNat)).bind fun bt595 => (if 0 ≤ x552000 then (if x552000 < (x8.length : Int) then (if 0 ≤ x552001 then (if x552001 < (x8.length : Int) then (if bt595.2.length < 4398046511104 then ((some (bt595.2 ++ [(⟨x552000, x552001, 0, ((rd x8 x552000) != (rd x8 x552001))⟩ : S72)] : List (S72))).bind fun y602 => ((some (x551001.drop (x9 : Int).toNat : List (S72))).bind fun y605 => (if y602.length + y605.length < 4398046511104 then (some (bt595.1, (y602 ++ y605), true)) else (none)))) else (none)) else (none)) else (none)) else (none)) else (none))) else (none)) else (none))
end
def impl_WebAdd.f (k : Nat) (a0_0 : Int) (l0_1 : List (S72)) (a1_0 : Int) (a1_1 : Int) : Option (Int × (List (S72)) × Bool) := (impl_GraphOf.f k a0_0 l0_1).bind fun bt553 => ((impl_AddEdge.f k bt553.1 bt553.2 a1_0 a1_1).bind fun bt557 => ((impl_WebOk.f k a0_0 l0_1).bind fun t563 => (if t563 = true then (impl_WebAdd.j0 k (!bt557.2.2) a0_0 l0_1 a1_0 a1_1) else (impl_WebAdd.j0 k true a0_0 l0_1 a1_0 a1_1))))
theorem impl_WebAdd.mono_l : ∀ k, (∀ y0 y1 y2 y3 y4, LeO (impl_WebAdd.j0 k y0 y1 y2 y3 y4) (impl_WebAdd.j0 (k + 1) y0 y1 y2 y3 y4)) ∧ (∀ y0 y1 y2 y3 y4 y5, LeO (impl_WebAdd.l0 k y0 y1 y2 y3 y4 y5) (impl_WebAdd.l0 (k + 1) y0 y1 y2 y3 y4 y5))
  | 0 => ⟨fun _ _ _ _ _ r h => by simp [impl_WebAdd.j0] at h, fun _ _ _ _ _ _ r h => by simp [impl_WebAdd.l0] at h⟩
  | k + 1 => by
    obtain ⟨ih0, ih1⟩ := impl_WebAdd.mono_l k
    have m0 := @impl_AddEdge.mono; have m1 := @impl_GraphOf.mono; have m2 := @impl_WebOk.mono; have m3 := @impl_labelsAt.mono
    refine ⟨?_, ?_⟩ <;> (intros; first | unfold impl_WebAdd.j0 | unfold impl_WebAdd.l0) <;> exact lo_
theorem impl_WebAdd.mono : ∀ a0 a1 a2 a3 k, LeO (impl_WebAdd.f k a0 a1 a2 a3) (impl_WebAdd.f (k + 1) a0 a1 a2 a3) := by
  intro a0 a1 a2 a3 k
  obtain ⟨ih0, ih1⟩ := impl_WebAdd.mono_l k
  have m0 := @impl_AddEdge.mono; have m1 := @impl_GraphOf.mono; have m2 := @impl_WebOk.mono; have m3 := @impl_labelsAt.mono
  unfold impl_WebAdd.f
  exact lo_
def impl_WebAdd.T1 : Bool × List (List Nat × List Nat) := (true, [([], []), ([0], [0]), ([], []), ([1, 2, 1], [1, 2]), ([3], [3]), ([4], [4]), ([4], [4]), ([], []), ([7, 5, 3, 0, 1, 2, 3, 4, 5, 7], [5, 7]), ([6, 8, 0, 1, 2, 3, 4, 5, 6, 7, 8], [6])])
def impl_WebAdd.B1 : List Nat := [0, 1, 0, 7, 15, 31, 31, 0, 191, 511]
theorem impl_WebAdd.tab1 : rtab .any (opsOf Try.f39 1) = impl_WebAdd.T1 := by kernel_rfl
theorem impl_WebAdd.bits1 : waitsOk impl_WebAdd.T1.2 impl_WebAdd.B1 = true := by kernel_rfl
def impl_WebAdd.T6 : Bool × List (List Nat × List Nat) := (true, [([], []), ([], []), ([1], [1]), ([2], [2]), ([0, 3], [0, 3]), ([4], [4]), ([5], [5]), ([6, 5], [5, 6]), ([5], [5]), ([7, 8, 5], [5, 7, 8]), ([9, 5], [5, 9]), ([10, 5], [5, 10]), ([5], [5]), ([12, 5], [5, 12]), ([5], [5]), ([13, 14, 5], [5, 13, 14]), ([15, 5], [5, 15]), ([16, 5], [5, 16]), ([11, 17, 5], [5, 11, 17]), ([5], [5]), ([18, 19, 5, 5], [5, 18, 19]), ([5, 20], [5, 20])])
def impl_WebAdd.B6 : List Nat := [0, 0, 2, 6, 15, 31, 63, 127, 63, 511, 1023, 2047, 63, 4159, 63, 28735, 61503, 127039, 262143, 63, 1048575, 2097151]
theorem impl_WebAdd.tab6 : rtab .any (opsOf Try.f39 6) = impl_WebAdd.T6 := by kernel_rfl
theorem impl_WebAdd.bits6 : waitsOk impl_WebAdd.T6.2 impl_WebAdd.B6 = true := by kernel_rfl
def impl_WebAdd.T8 : Bool × List (List Nat × List Nat) := (true, [([], []), ([0], [0]), ([], []), ([2], [2]), ([], []), ([3, 4], [3, 4]), ([1, 5], [1, 5]), ([6], [6]), ([], []), ([8, 7, 7, 0, 1, 2, 3, 4, 5, 6, 7, 8], [7, 8])])
def impl_WebAdd.B8 : List Nat := [0, 1, 0, 4, 0, 28, 63, 127, 0, 511]
theorem impl_WebAdd.tab8 : rtab .any (opsOf Try.f39 8) = impl_WebAdd.T8 := by kernel_rfl
theorem impl_WebAdd.bits8 : waitsOk impl_WebAdd.T8.2 impl_WebAdd.B8 = true := by kernel_rfl
def impl_WebAdd.T9 : Bool × List (List Nat × List Nat) := (true, [([], []), ([0], [0]), ([], []), ([2], [2]), ([], []), ([4], [4]), ([], []), ([], []), ([7], [7]), ([6, 8], [6, 8]), ([9], [9]), ([], []), ([], []), ([12], [12]), ([11, 13], [11, 13]), ([14], [14]), ([10, 15], [10, 15]), ([3, 5, 16], [3, 5, 16]), ([17], [17]), ([1, 18], [1, 18]), ([], []), ([20], [20]), ([], []), ([21, 22], [21, 22]), ([19, 23, 19], [19, 23]), ([0, 1, 2, 3, 4, 5, 6, 7, 8, 9, 10, 11, 12, 13, 14, 15, 16, 17, 18, 19, 20, 21, 22, 23, 24], []), ([25, 24, 24, 0, 1, 2, 3, 4, 5, 6, 7, 8, 9, 10, 11, 12, 13, 14, 15, 16, 17, 18, 19, 20, 21, 22, 23, 24], [24, 25])])
def impl_WebAdd.B9 : List Nat := [0, 1, 0, 4, 0, 16, 0, 0, 128, 448, 960, 0, 0, 4096, 14336, 30720, 65472, 131068, 262140, 524287, 0, 1048576, 0, 7340032, 16777215, 33554431, 67108863]
theorem impl_WebAdd.tab9 : rtab .any (opsOf Try.f39 9) = impl_WebAdd.T9 := by kernel_rfl
theorem impl_WebAdd.bits9 : waitsOk impl_WebAdd.T9.2 impl_WebAdd.B9 = true := by kernel_rfl
theorem impl_WebAdd.calls (k : Nat) (a0_0 : Int) (A0_1 : Option Addr) (c0_1 : Nat) (l0_1 : List (S72)) (a1_0 : Int) (a1_1 : Int) (r1 : Int) (r2 : List (S72)) (r3 : Bool) (w : World) (hr0_1 : Kd.C k72 w A0_1 l0_1.length l0_1) (hc0_1 : l0_1.length ≤ c0_1) (h : impl_WebAdd.f k a0_0 l0_1 a1_0 a1_1 = some (r1, r2, r3)) :
  Calls Try.prog 39 #[.agg #[.int .i64 a0_0, .slice A0_1 l0_1.length c0_1], .agg #[.int .i64 a1_0, .int .i64 a1_1]] w fun e w' => ∃ v1_ : Value, e = .returned (.tuple #[.agg #[.int .i64 r1, v1_], .bool r3]) ∧ Kd.R k72 72 w' w.heap.size (fun _ => True) v1_ r2 ∧ Below w.heap.size w w' := by
 have hu29 := Try.underlying29; have hu43 := Try.underlying43; have hu69 := Try.underlying69; have hu72 := Try.underlying72
 have HR0_1 := am_ hr0_1
 have HC0_1 := am_ hc0_1
 clear hr0_1 hc0_1
 have HB := am_ (Below.refl w.heap.size w)
 have H : ((impl_GraphOf.f k a0_0 l0_1).bind fun o0 => ((impl_AddEdge.f k o0.1 o0.2 a1_0 a1_1).bind fun l7 => ((impl_WebOk.f k a0_0 l0_1).bind fun j5 => (if j5 = true then (impl_WebAdd.j0 k (!l7.2.2) a0_0 l0_1 a1_0 a1_1) else (impl_WebAdd.j0 k true a0_0 l0_1 a1_0 a1_1))))) = some (r1, r2, r3) := h
 clear h
 replace H := Option.bind_eq_some_iff.mp H
 obtain ⟨⟨i9, h4⟩, A30, H⟩ := H
 replace H : ((impl_AddEdge.f k i9 h4 a1_0 a1_1).bind fun l7 => ((impl_WebOk.f k a0_0 l0_1).bind fun j5 => (if j5 = true then (impl_WebAdd.j0 k (!l7.2.2) a0_0 l0_1 a1_0 a1_1) else (impl_WebAdd.j0 k true a0_0 l0_1 a1_0 a1_1)))) = some (r1, r2, r3) := H
 have A3 := am_ A30
 clear A30
 replace H := Option.bind_eq_some_iff.mp H
 obtain ⟨⟨g7, c7, j3⟩, A40, H⟩ := H
 replace H : ((impl_WebOk.f k a0_0 l0_1).bind fun j5 => (if j5 = true then (impl_WebAdd.j0 k (!j3) a0_0 l0_1 a1_0 a1_1) else (impl_WebAdd.j0 k true a0_0 l0_1 a1_0 a1_1))) = some (r1, r2, r3) := H
 have A4 := am_ A40
 clear A40
 have z7 := am_ H
 clear H
 go_enter Try.func39, Try.ntmps39
 try go_wp2_with (first | ((with_reducible refine gd_ 2 ?_); refine by_ 2 (cs := #[.int .i64 a0_0, .slice A0_1 l0_1.length c0_1]) (t := 29) ?_; intro a9 hg w6 a0 hb; have p6 := gw_ hg; replace HB := hs_ hb; clear hb hg) | ((with_reducible refine gd_ 3 ?_); refine by_ 3 (cs := #[.int .i64 a1_0, .int .i64 a1_1]) (t := 43) ?_; intro b0 hg w7 a1 hb; have p7 := gw_ hg; obtain ⟨i3, p4⟩ := qn_ a0 hg; replace a0 := qbl_ a0 hb; replace HB := hs_ hb; clear hb hg) | ((with_reducible refine gd_ 4 ?_); refine by_ 4 (cs := #[.int .i64 0, .slice none 0 0]) (t := 29) ?_; intro b9 hg w8 a3 hb; have p8 := gw_ hg; obtain ⟨i4, i5⟩ := qn_ a0 hg; obtain ⟨p5, i6⟩ := qn_ a1 hg; replace a0 := qbl_ a0 hb; replace a1 := qbl_ a1 hb; replace HB := hs_ hb; clear hb hg))
 replace a0 := am_ (blk_drew a0.out); replace a1 := am_ (blk_drew a1.out); replace a3 := am_ (blk_drew a3.out); replace HB := am_ (below_drew1 HB.out)
 refine start_ (n := 10) (S := fun w' => w'.cell? ⟨a9, 0, none⟩ = some (.int .i64 a0_0) ∧ w'.cell? ⟨a9, 1, none⟩ = some (.slice A0_1 l0_1.length c0_1) ∧ w'.cell? ⟨b0, 0, none⟩ = some (.int .i64 a1_0) ∧ w'.cell? ⟨b0, 1, none⟩ = some (.int .i64 a1_1)) (ds := []) (bm 10 0) (by kernel_rfl) rfl (by kernel_rfl) ⟨bl_ a0 0, bl_ a0 1, bl_ a1 0, bl_ a1 1⟩ (fun hHeld => ?_); refine with_tabW impl_WebAdd.tab1 impl_WebAdd.bits1 (fun HT_ HW_ => ?_)
 generalize w8.drew = w9 at a0 a1 a3 HB hHeld ⊢
 refine tz4_ 0 12 10 1 ?_; refine tz4_ 2 14 10 5 ?_
 refine join_ (σ := Value × Value × Nat) 2 #[true, true, true, true, true, true, true, true, false, false] (fun s_ => [(13, .agg #[.int .i64 i9, s_.1]), (15, .tuple #[.agg #[.int .i64 g7, s_.2.1], .bool j3]), (6, .pointer (some ⟨s_.2.2, 0, none⟩)), (11, .tuple #[.agg #[.int .i64 g7, s_.2.1], .bool j3]), (16, .agg #[.int .i64 g7, s_.2.1]), (17, .bool j3)]) (fun s_ w' => (w'.cell? ⟨a9, 0, none⟩ = some (.int .i64 a0_0) ∧ w'.cell? ⟨a9, 1, none⟩ = some (.slice A0_1 l0_1.length c0_1) ∧ w'.cell? ⟨b0, 0, none⟩ = some (.int .i64 a1_0) ∧ w'.cell? ⟨b0, 1, none⟩ = some (.int .i64 a1_1)) ∧ (Kd.R k43 43 w' w.heap.size (fun k_ => some k_ ≠ (s_.2.1 : Value).ownBlock ∧ k_ ≠ b0) s_.1 h4) ∧ (Kd.R k43 43 w' w.heap.size (fun k_ => some k_ ≠ (s_.1 : Value).ownBlock ∧ k_ ≠ b0) s_.2.1 c7) ∧ (w'.heap[a9]? = some (.cells #[.int .i64 a0_0, .slice A0_1 l0_1.length c0_1] 29 (0, 0))) ∧ (w'.heap[b0]? = some (.cells #[.int .i64 a1_0, .int .i64 a1_1] 43 (0, 0))) ∧ (w'.heap[b9]? = some (.cells #[.int .i64 0, .slice none 0 0] 29 (0, 0))) ∧ (w'.heap[s_.2.2]? = some (.cells #[.int .i64 0, .slice none 0 0] 69 (0, 0))) ∧ (w.heap.size ≤ s_.2.2) ∧ (w.heap.size ≤ s_.2.2) ∧ (a9 ≠ s_.2.2) ∧ (s_.2.2 ≠ a9) ∧ (b0 ≠ s_.2.2) ∧ (s_.2.2 ≠ b0) ∧ (b9 ≠ s_.2.2) ∧ (s_.2.2 ≠ b9) ∧ (Below w.heap.size w w')) ?_ ?_
 rotate_left
 ·intro hCont
  refine two_ (i := 1) (j := 7) (Ni := some 13) (Nj := some 6) (bm 10 7) #[true, false, true, false, false, false, false, true, false, false] rfl rfl rfl rfl (two_of HT_.out (by kernel_rfl)) (by decide) (by decide) (fun K hK => ?_) (fun K hK => ?_)
  ·skip
   refine gs_ Try.func63 #[.agg #[.int .i64 a0_0, .slice A0_1 l0_1.length c0_1]] ?_
   with_reducible refine (impl_GraphOf.calls k a0_0 _ _ l0_1 i9 h4 _ ?side1 ?side2 A3.out).mono ?_
   (case side1 => exact qC_ HR0_1 HB)
   (case side2 => exact HC0_1.out)
   rintro e w10 ⟨m9, rfl, ho0, hb⟩
   refine ⟨_, rfl, ?_⟩
   have b7 := am_ (Kd.R_lower (Kd.R_newB ho0 (qk_ a1)) (below_size qB_)); replace a0 := qbl_ a0 hb; replace a1 := qbl_ a1 hb; replace a3 := qbl_ a3 hb; replace HB := hs_ hb; (try clear hb); (try clear hb2); (try clear hk); (try clear hi); (try clear ho0)
   obtain ⟨p9, q0, q1⟩ := Kd.R_slice b7.out
   (first | subst q1 | (injection q1 with f1_ f2_ f3_; have f4_ := f1_.symm; have f5_ := f3_.symm; clear f1_ f2_ f3_; subst f4_; subst f5_))
   refine hK.out _ _ ⟨bl_ a0 0, bl_ a0 1, bl_ a1 0, bl_ a1 1⟩ (fun hHeld => ?_)
   clear hK K
   refine nm_ 13 ?_
   refine two_ (i := 3) (j := 7) (Ni := some 15) (Nj := some 6) (bm 10 15) #[true, true, true, false, false, false, false, true, false, false] rfl rfl rfl rfl (two_of HT_.out (by kernel_rfl)) (by decide) (by decide) (fun K hK => ?_) (fun K hK => ?_)
   ·skip
    refine gs_ Try.func89 #[.agg #[.int .i64 i9, .slice p9 h4.length q0], .agg #[.int .i64 a1_0, .int .i64 a1_1]] ?_
    with_reducible refine (impl_AddEdge.calls k i9 _ _ h4 a1_0 a1_1 g7 c7 j3 _ ?side1 ?side2 A4.out).mono ?_
    (case side1 => exact qD_ (Kd.R_reads' b7.out).2.2)
    (case side2 => exact (Kd.R_reads' b7.out).2.1)
    rintro e w12 ⟨j4, rfl, ho0, hb⟩
    refine ⟨_, rfl, ?_⟩
    have g6 := am_ (Kd.R_lower (Kd.R_newB (Kd.R_new' ho0 (Kd.R_lt (qR_ b7))) (qk_ a1)) (below_size qB_)); replace b7 := ke_ b7 ho0 hb; replace a0 := qbl_ a0 hb; replace a1 := qbl_ a1 hb; replace a3 := qbl_ a3 hb; replace HB := hs_ hb; (try clear hb); (try clear hb2); (try clear hk); (try clear hi); (try clear ho0)
    refine hK.out _ _ ⟨bl_ a0 0, bl_ a0 1, bl_ a1 0, bl_ a1 1⟩ (fun hHeld => ?_)
    clear hK K
    refine nm_ 15 ?_
    refine pz_ 4 11 10 31 ?_; refine pz_ 5 16 10 63 ?_; refine pz_ 6 17 10 127 ?_
    refine o1_ 7 (some 6) 10 255 (fun K hK => ?_)
    refine box_step ?hg (N := 6) ?hd (cs := #[.int .i64 0, .slice none 0 0]) (t := 69) ?hr ?_; (case hd => rfl); (case hg => rfl); (case hr => first | (go_simp; done) | (go_simp; rfl))
    intro a8 hg w13 hbox hb
    have a4 := am_ (hbox); have j1 := gw_ hg; have j2 := gw_ hg; have b3 := (qn_ a0 hg).1; have d1 := (qn_ a0 hg).2; have b8 := (qn_ a1 hg).1; have d2 := (qn_ a1 hg).2; have c0 := (qn_ a3 hg).1; have d3 := (qn_ a3 hg).2; replace b7 := kb_ b7 hb; replace g6 := kb_ g6 hb; replace a0 := qbl_ a0 hb; replace a1 := qbl_ a1 hb; replace a3 := qbl_ a3 hb; replace HB := hs_ hb; clear hb hbox hg
    refine hK.out _ _ ⟨bl_ a0 0, bl_ a0 1, bl_ a1 0, bl_ a1 1⟩ (fun hHeld => ?_)
    clear hK K
    refine nm_ 6 ?_
    exact norm_ (by simp only [putAll, Act.put, sA_, sB_, sC_]) (hCont (.slice p9 h4.length q0, j4, a8) _ ⟨hHeld, (by (with_reducible repeat (first | apply Kd.R_alloc | apply Kd.R_drewN | apply Kd.R_drew)); exact Kd.R_mono b7.out (fun _ hk => ⟨hk.2, hk.1.2⟩)), (by (with_reducible repeat (first | apply Kd.R_alloc | apply Kd.R_drewN | apply Kd.R_drew)); exact Kd.R_mono g6.out (fun _ hk => ⟨hk.1.2, hk.2⟩)), (qk_ a0), (qk_ a1), (qk_ a3), (qk_ a4), j1.out, j2.out, b3.out, d1.out, b8.out, d2.out, c0.out, d3.out, qB_⟩)
   skip
   refine box_step ?hg (N := 6) ?hd (cs := #[.int .i64 0, .slice none 0 0]) (t := 69) ?hr ?_; (case hd => rfl); (case hg => rfl); (case hr => first | (go_simp; done) | (go_simp; rfl))
   intro a8 hg w11 hbox hb
   have a4 := am_ (hbox); have j1 := gw_ hg; have j2 := gw_ hg; have b3 := (qn_ a0 hg).1; have d1 := (qn_ a0 hg).2; have b8 := (qn_ a1 hg).1; have d2 := (qn_ a1 hg).2; have c0 := (qn_ a3 hg).1; have d3 := (qn_ a3 hg).2; replace b7 := kb_ b7 hb; replace a0 := qbl_ a0 hb; replace a1 := qbl_ a1 hb; replace a3 := qbl_ a3 hb; replace HB := hs_ hb; clear hb hbox hg
   obtain ⟨l8, l9, m0⟩ := Kd.R_slice b7.out
   (first | subst m0 | (injection m0 with f1_ f2_ f3_; have f4_ := f1_.symm; have f5_ := f3_.symm; clear f1_ f2_ f3_; subst f4_; subst f5_))
   refine hK.out _ _ ⟨bl_ a0 0, bl_ a0 1, bl_ a1 0, bl_ a1 1⟩ (fun hHeld => ?_)
   clear hK K
   refine nm_ 6 ?_
   refine o1_ 3 (some 15) 10 143 (fun K hK => ?_)
   refine gs_ Try.func89 #[.agg #[.int .i64 i9, .slice l8 h4.length l9], .agg #[.int .i64 a1_0, .int .i64 a1_1]] ?_
   with_reducible refine (impl_AddEdge.calls k i9 _ _ h4 a1_0 a1_1 g7 c7 j3 _ ?side1 ?side2 A4.out).mono ?_
   (case side1 => exact qD_ (Kd.R_reads' b7.out).2.2)
   (case side2 => exact (Kd.R_reads' b7.out).2.1)
   rintro e w13 ⟨j4, rfl, ho0, hb⟩
   refine ⟨_, rfl, ?_⟩
   have g6 := am_ (Kd.R_lower (Kd.R_newB (Kd.R_new' ho0 (Kd.R_lt (qR_ b7))) (qk_ a1)) (below_size qB_)); replace b7 := ke_ b7 ho0 hb; replace a0 := qbl_ a0 hb; replace a1 := qbl_ a1 hb; replace a3 := qbl_ a3 hb; replace a4 := qbl_ a4 hb; replace HB := hs_ hb; (try clear hb); (try clear hb2); (try clear hk); (try clear hi); (try clear ho0)
   refine hK.out _ _ ⟨bl_ a0 0, bl_ a0 1, bl_ a1 0, bl_ a1 1⟩ (fun hHeld => ?_)
   clear hK K
   refine nm_ 15 ?_
   refine pz_ 4 11 10 159 ?_; refine pz_ 5 16 10 191 ?_; refine pz_ 6 17 10 255 ?_
   exact norm_ (by simp only [putAll, Act.put, sA_, sB_, sC_]) (hCont (.slice l8 h4.length l9, j4, a8) _ ⟨hHeld, (by (with_reducible repeat (first | apply Kd.R_alloc | apply Kd.R_drewN | apply Kd.R_drew)); exact Kd.R_mono b7.out (fun _ hk => ⟨hk.2, hk.1.2⟩)), (by (with_reducible repeat (first | apply Kd.R_alloc | apply Kd.R_drewN | apply Kd.R_drew)); exact Kd.R_mono g6.out (fun _ hk => ⟨hk.1.2, hk.2⟩)), (qk_ a0), (qk_ a1), (qk_ a3), (qk_ a4), j1.out, j2.out, b3.out, d1.out, b8.out, d2.out, c0.out, d3.out, qB_⟩)
  skip
  refine box_step ?hg (N := 6) ?hd (cs := #[.int .i64 0, .slice none 0 0]) (t := 69) ?hr ?_; (case hd => rfl); (case hg => rfl); (case hr => first | (go_simp; done) | (go_simp; rfl))
  intro a8 hg w10 hbox hb
  have a4 := am_ (hbox); have j1 := gw_ hg; have j2 := gw_ hg; have b3 := (qn_ a0 hg).1; have d1 := (qn_ a0 hg).2; have b8 := (qn_ a1 hg).1; have d2 := (qn_ a1 hg).2; have c0 := (qn_ a3 hg).1; have d3 := (qn_ a3 hg).2; replace a0 := qbl_ a0 hb; replace a1 := qbl_ a1 hb; replace a3 := qbl_ a3 hb; replace HB := hs_ hb; clear hb hbox hg
  refine hK.out _ _ ⟨bl_ a0 0, bl_ a0 1, bl_ a1 0, bl_ a1 1⟩ (fun hHeld => ?_)
  clear hK K
  refine nm_ 6 ?_
  refine o1_ 1 (some 13) 10 135 (fun K hK => ?_)
  refine gs_ Try.func63 #[.agg #[.int .i64 a0_0, .slice A0_1 l0_1.length c0_1]] ?_
  with_reducible refine (impl_GraphOf.calls k a0_0 _ _ l0_1 i9 h4 _ ?side1 ?side2 A3.out).mono ?_
  (case side1 => exact qC_ HR0_1 HB)
  (case side2 => exact HC0_1.out)
  rintro e w11 ⟨m9, rfl, ho0, hb⟩
  refine ⟨_, rfl, ?_⟩
  have b7 := am_ (Kd.R_lower (Kd.R_newB ho0 (qk_ a1)) (below_size qB_)); replace a0 := qbl_ a0 hb; replace a1 := qbl_ a1 hb; replace a3 := qbl_ a3 hb; replace a4 := qbl_ a4 hb; replace HB := hs_ hb; (try clear hb); (try clear hb2); (try clear hk); (try clear hi); (try clear ho0)
  obtain ⟨l8, l9, m0⟩ := Kd.R_slice b7.out
  (first | subst m0 | (injection m0 with f1_ f2_ f3_; have f4_ := f1_.symm; have f5_ := f3_.symm; clear f1_ f2_ f3_; subst f4_; subst f5_))
  refine hK.out _ _ ⟨bl_ a0 0, bl_ a0 1, bl_ a1 0, bl_ a1 1⟩ (fun hHeld => ?_)
  clear hK K
  refine nm_ 13 ?_
  refine o1_ 3 (some 15) 10 143 (fun K hK => ?_)
  refine gs_ Try.func89 #[.agg #[.int .i64 i9, .slice l8 h4.length l9], .agg #[.int .i64 a1_0, .int .i64 a1_1]] ?_
  with_reducible refine (impl_AddEdge.calls k i9 _ _ h4 a1_0 a1_1 g7 c7 j3 _ ?side1 ?side2 A4.out).mono ?_
  (case side1 => exact qD_ (Kd.R_reads' b7.out).2.2)
  (case side2 => exact (Kd.R_reads' b7.out).2.1)
  rintro e w13 ⟨j4, rfl, ho0, hb⟩
  refine ⟨_, rfl, ?_⟩
  have g6 := am_ (Kd.R_lower (Kd.R_newB (Kd.R_new' ho0 (Kd.R_lt (qR_ b7))) (qk_ a1)) (below_size qB_)); replace b7 := ke_ b7 ho0 hb; replace a0 := qbl_ a0 hb; replace a1 := qbl_ a1 hb; replace a3 := qbl_ a3 hb; replace a4 := qbl_ a4 hb; replace HB := hs_ hb; (try clear hb); (try clear hb2); (try clear hk); (try clear hi); (try clear ho0)
  refine hK.out _ _ ⟨bl_ a0 0, bl_ a0 1, bl_ a1 0, bl_ a1 1⟩ (fun hHeld => ?_)
  clear hK K
  refine nm_ 15 ?_
  refine pz_ 4 11 10 159 ?_; refine pz_ 5 16 10 191 ?_; refine pz_ 6 17 10 255 ?_
  exact norm_ (by simp only [putAll, Act.put, sA_, sB_, sC_]) (hCont (.slice l8 h4.length l9, j4, a8) _ ⟨hHeld, (by (with_reducible repeat (first | apply Kd.R_alloc | apply Kd.R_drewN | apply Kd.R_drew)); exact Kd.R_mono b7.out (fun _ hk => ⟨hk.2, hk.1.2⟩)), (by (with_reducible repeat (first | apply Kd.R_alloc | apply Kd.R_drewN | apply Kd.R_drew)); exact Kd.R_mono g6.out (fun _ hk => ⟨hk.1.2, hk.2⟩)), (qk_ a0), (qk_ a1), (qk_ a3), (qk_ a4), j1.out, j2.out, b3.out, d1.out, b8.out, d2.out, c0.out, d3.out, qB_⟩)
 rintro ⟨m9, j4, a8⟩ w14 ⟨hS_, h0_, h1_, h2_, h3_, h4_, h5_, h6_, h7_, h8_, h9_, h10_, h11_, h12_, h13_, h14_⟩
 have n0_ : Aside0 (Kd.R k43 43 w14 w.heap.size (fun k_ => some k_ ≠ (j4 : Value).ownBlock ∧ k_ ≠ b0) m9 h4) := ⟨h0_⟩
 have n1_ : Aside0 (Kd.R k43 43 w14 w.heap.size (fun k_ => some k_ ≠ (m9 : Value).ownBlock ∧ k_ ≠ b0) j4 c7) := ⟨h1_⟩
 have n2_ : Aside0 (w14.heap[a9]? = some (.cells #[.int .i64 a0_0, .slice A0_1 l0_1.length c0_1] 29 (0, 0))) := ⟨h2_⟩
 have n3_ : Aside0 (w14.heap[b0]? = some (.cells #[.int .i64 a1_0, .int .i64 a1_1] 43 (0, 0))) := ⟨h3_⟩
 have n4_ : Aside0 (w14.heap[b9]? = some (.cells #[.int .i64 0, .slice none 0 0] 29 (0, 0))) := ⟨h4_⟩
 have n5_ : Aside0 (w14.heap[a8]? = some (.cells #[.int .i64 0, .slice none 0 0] 69 (0, 0))) := ⟨h5_⟩
 have n6_ : Aside0 (w.heap.size ≤ a8) := ⟨h6_⟩
 have n7_ : Aside0 (w.heap.size ≤ a8) := ⟨h7_⟩
 have n8_ : Aside0 (a9 ≠ a8) := ⟨h8_⟩
 have n9_ : Aside0 (a8 ≠ a9) := ⟨h9_⟩
 have n10_ : Aside0 (b0 ≠ a8) := ⟨h10_⟩
 have n11_ : Aside0 (a8 ≠ b0) := ⟨h11_⟩
 have n12_ : Aside0 (b9 ≠ a8) := ⟨h12_⟩
 have n13_ : Aside0 (a8 ≠ b9) := ⟨h13_⟩
 have n14_ : Aside0 (Below w.heap.size w w14) := ⟨h14_⟩
 clear a0; clear a1; clear a3; clear HB; clear h0_ h1_ h2_ h3_ h4_ h5_ h6_ h7_ h8_ h9_ h10_ h11_ h12_ h13_ h14_; have b7 := n0_; have g6 := n1_; have a0 := n2_; have a1 := n3_; have a3 := n4_; have a4 := n5_; have j1 := n6_; have j2 := n7_; have b3 := n8_; have d1 := n9_; have b8 := n10_; have d2 := n11_; have c0 := n12_; have d3 := n13_; have HB := n14_; clear n0_ n1_ n2_ n3_ n4_ n5_ n6_ n7_ n8_ n9_ n10_ n11_ n12_ n13_ n14_
 have hHeld : w14.cell? ⟨a9, 0, none⟩ = some (.int .i64 a0_0) ∧ w14.cell? ⟨a9, 1, none⟩ = some (.slice A0_1 l0_1.length c0_1) ∧ w14.cell? ⟨b0, 0, none⟩ = some (.int .i64 a1_0) ∧ w14.cell? ⟨b0, 1, none⟩ = some (.int .i64 a1_1) := hS_
 obtain ⟨g8, g9, q2⟩ := Kd.R_slice g6.out
 (first | subst q2 | (injection q2 with f1_ f2_ f3_; have f4_ := f1_.symm; have f5_ := f3_.symm; clear f1_ f2_ f3_; subst f4_; subst f5_))
 refine norm_ (a' := ?_) ?_ ?_
 rotate_left
 ·simp only [putAll, Act.put, sA_, sB_, sC_]
  rfl
 refine o1_ 8 none 10 511 (fun K hK => ?_)
 have hs15 : w14.cell? ⟨a8, 0, none⟩ = some (.int .i64 0) := bl_ a4 0
 have hfs15 := blk_frozen a4.out 0
 have u6 := b3.out; have u7 := b8.out; have u8 := c0.out; have u9 := d1.out; have v0 := d2.out; have v1 := d3.out
 have hs17 : w14.cell? ⟨a8, 1, none⟩ = some (.slice none 0 0) := bl_ a4 1
 have hfs17 := blk_frozen a4.out 1
 have v2 := b3.out; have v3 := b8.out; have v4 := c0.out; have v5 := d1.out; have v6 := d2.out; have v7 := d3.out
 refine skip_ (w1 := ?_) (by rfl) rfl ?_ ?_
 rotate_left
 ·go_simp
  rfl
 refine hK.out _ _ ⟨((cell_far (p := ⟨a8, _, none⟩) b3.out _).trans (((cell_far (p := ⟨a8, _, none⟩) b3.out _).trans (hHeld.1)))), ((cell_far (p := ⟨a8, _, none⟩) b3.out _).trans (((cell_far (p := ⟨a8, _, none⟩) b3.out _).trans (hHeld.2.1)))), ((cell_far (p := ⟨a8, _, none⟩) b8.out _).trans (((cell_far (p := ⟨a8, _, none⟩) b8.out _).trans (hHeld.2.2.1)))), ((cell_far (p := ⟨a8, _, none⟩) b8.out _).trans (((cell_far (p := ⟨a8, _, none⟩) b8.out _).trans (hHeld.2.2.2))))⟩ (fun hHeld => ?_)
 clear hK K; refine pz_ 9 7 10 1023 ?_
 refine done_ (done_of HT_.out (by kernel_rfl)) ?_
 go_upto_region 2 with (fail)
 go_cut [24] (fun v24 wc => ∃ (kq : Nat) (x24_4 : Bool), v24 = .bool x24_4 ∧ Aside0 (impl_WebAdd.j0 kq x24_4 a0_0 l0_1 a1_0 a1_1 = some (r1, r2, r3)) ∧ Aside0 (kq ≤ k) ∧ Aside0 (Kd.R k43 43 wc w.heap.size (fun k_ => k_ ≠ b0) (.slice g8 c7.length g9) c7) ∧ Aside0 (wc.heap[a9]? = some (.cells #[.int .i64 a0_0, (.slice A0_1 l0_1.length c0_1)] 29 (0, 0))) ∧ Aside0 (wc.heap[b0]? = some (.cells #[.int .i64 a1_0, .int .i64 a1_1] 43 (0, 0))) ∧ Aside0 (wc.heap[b9]? = some (.cells #[.int .i64 0, (.slice none 0 0)] 29 (0, 0))) ∧ Aside0 (wc.heap[a8]? = some (.cells #[.int .i64 g7, (.slice g8 c7.length g9)] 69 (0, 0))) ∧ Aside0 (Below w.heap.size w wc))
 case first =>
  have H := z7.out; clear z7
  obtain ⟨j5, A18, H⟩ := bs_ H
  refine ie_ H ?_ ?_ <;> clear H <;> rintro rfl H
  ·have H' := am_ H; clear H; obtain ⟨C2, C3⟩ := nn_ i3; obtain ⟨C4, C5⟩ := nn_ i4; obtain ⟨C6, C7⟩ := nn_ b3
   obtain ⟨j9, k0, k1, k3⟩ := bc2_ a0
   go_wp2_with (first | ((with_reducible refine gc_ 16 ?_); refine gl_ (some 19) Try.func16 #[.agg #[.int .i64 a0_0, .slice A0_1 l0_1.length c0_1]] ?_; (with_reducible refine (impl_WebOk.calls k a0_0 _ _ l0_1 true _ ?_ ?_ A18.out).mono ?_); exact Kd.C_below HR0_1.out qB_; exact HC0_1.out; rintro e w24 ⟨rfl, hb⟩; refine ⟨_, rfl, ?_⟩; replace b7 := am_ (Kd.R_below (by (with_reducible repeat (first | apply Kd.R_alloc | apply Kd.R_drewN | apply Kd.R_drew)); exact (Kd.R_mono (Kd.R_far (p := ⟨a8, 1, none⟩) (Kd.R_far (p := ⟨a8, 0, none⟩) (Kd.R_types b7.out a4.out (by decide)) (fun _ hk => hk.2) (.int .i64 g7)) (fun _ hk => hk.2) (.slice g8 c7.length g9)) (fun _ h_ => h_.1))) hb); replace g6 := am_ (Kd.R_below (by (with_reducible repeat (first | apply Kd.R_alloc | apply Kd.R_drewN | apply Kd.R_drew)); exact (Kd.R_mono (Kd.R_far (p := ⟨a8, 1, none⟩) (Kd.R_far (p := ⟨a8, 0, none⟩) (Kd.R_types g6.out a4.out (by decide)) (fun _ hk => hk.2) (.int .i64 g7)) (fun _ hk => hk.2) (.slice g8 c7.length g9)) (fun _ h_ => h_.1))) hb); replace a0 := qbl_ a0 hb; replace a1 := qbl_ a1 hb; replace a3 := qbl_ a3 hb; replace a4 := am_ (blk_below (g := a8) (o := .cells #[.int .i64 g7, .slice g8 c7.length g9] 69 (0, 0)) (by (with_reducible repeat (first | refine blk_drewN ?_ _ | refine blk_drew ?_ | refine blk_alloc ?_ _)); refine blk_put (cs := #[.int .i64 g7, .slice none 0 0]) ?_ 1 _ rfl; (with_reducible repeat (first | refine blk_drewN ?_ _ | refine blk_drew ?_ | refine blk_alloc ?_ _)); refine blk_put (cs := #[.int .i64 0, .slice none 0 0]) ?_ 0 _ rfl; exact qf_ a4) hb); replace HB := hs_ hb; (try clear hb); (try clear hb2); (try clear hk); (try clear hi)))
   go_meet
   case rel => exact ⟨_, (!j3), qe_, H', ⟨qo_⟩, ⟨by (with_reducible repeat (first | apply Kd.R_alloc | apply Kd.R_drewN | apply Kd.R_drew)); exact Kd.R_mono g6.out (fun _ hk => hk.2)⟩, ⟨qk_ a0⟩, ⟨qk_ a1⟩, ⟨qk_ a3⟩, ⟨qk_ a4⟩, ⟨qB_⟩⟩
  have H' := am_ H; clear H; obtain ⟨C8, C9⟩ := nn_ i3; obtain ⟨D0, D1⟩ := nn_ i4; obtain ⟨D2, D3⟩ := nn_ b3
  obtain ⟨k4, k5, k6, k7⟩ := bc2_ a0
  go_wp2_with (first | ((with_reducible refine gc_ 16 ?_); refine gl_ (some 19) Try.func16 #[.agg #[.int .i64 a0_0, .slice A0_1 l0_1.length c0_1]] ?_; (with_reducible refine (impl_WebOk.calls k a0_0 _ _ l0_1 false _ ?_ ?_ A18.out).mono ?_); exact Kd.C_below HR0_1.out qB_; exact HC0_1.out; rintro e w29 ⟨rfl, hb⟩; refine ⟨_, rfl, ?_⟩; replace b7 := am_ (Kd.R_below (by (with_reducible repeat (first | apply Kd.R_alloc | apply Kd.R_drewN | apply Kd.R_drew)); exact (Kd.R_mono (Kd.R_far (p := ⟨a8, 1, none⟩) (Kd.R_far (p := ⟨a8, 0, none⟩) (Kd.R_types b7.out a4.out (by decide)) (fun _ hk => hk.2) (.int .i64 g7)) (fun _ hk => hk.2) (.slice g8 c7.length g9)) (fun _ h_ => h_.1))) hb); replace g6 := am_ (Kd.R_below (by (with_reducible repeat (first | apply Kd.R_alloc | apply Kd.R_drewN | apply Kd.R_drew)); exact (Kd.R_mono (Kd.R_far (p := ⟨a8, 1, none⟩) (Kd.R_far (p := ⟨a8, 0, none⟩) (Kd.R_types g6.out a4.out (by decide)) (fun _ hk => hk.2) (.int .i64 g7)) (fun _ hk => hk.2) (.slice g8 c7.length g9)) (fun _ h_ => h_.1))) hb); replace a0 := qbl_ a0 hb; replace a1 := qbl_ a1 hb; replace a3 := qbl_ a3 hb; replace a4 := am_ (blk_below (g := a8) (o := .cells #[.int .i64 g7, .slice g8 c7.length g9] 69 (0, 0)) (by (with_reducible repeat (first | refine blk_drewN ?_ _ | refine blk_drew ?_ | refine blk_alloc ?_ _)); refine blk_put (cs := #[.int .i64 g7, .slice none 0 0]) ?_ 1 _ rfl; (with_reducible repeat (first | refine blk_drewN ?_ _ | refine blk_drew ?_ | refine blk_alloc ?_ _)); refine blk_put (cs := #[.int .i64 0, .slice none 0 0]) ?_ 0 _ rfl; exact qf_ a4) hb); replace HB := hs_ hb; (try clear hb); (try clear hb2); (try clear hk); (try clear hi)))
  go_meet
  case rel => exact ⟨_, (true), qe_, H', ⟨qo_⟩, ⟨by (with_reducible repeat (first | apply Kd.R_alloc | apply Kd.R_drewN | apply Kd.R_drew)); exact Kd.R_mono g6.out (fun _ hk => hk.2)⟩, ⟨qk_ a0⟩, ⟨qk_ a1⟩, ⟨qk_ a3⟩, ⟨qk_ a4⟩, ⟨qB_⟩⟩
 case rest =>
  clear z7; (try clear c1); (try clear c2); (try clear p2); (try clear c3); (try clear c6); (try clear c8); (try clear c16); (try clear c19); (try clear c20); (try clear c21); (try clear c22); (try clear c25); (try clear c26); (try clear c27); (try clear j9 k0); (try clear k4 k5); (try clear k1 k3); (try clear k6 k7)
  obtain ⟨kq, x24_4, rfl, HA, D4, a2, a0, a1, a3, a4, HB⟩ := hcut
  cases kq with
  | zero => exact absurd HA.out (by simp [impl_WebAdd.j0])
  | succ kj4 =>
   have H := HA.out; clear HA
   simp only [impl_WebAdd.j0] at H
   refine ie_ H ?_ ?_ <;> clear H <;> rintro rfl H
   ·simp only [Option.some.injEq, Prod.mk.injEq] at H
    obtain ⟨rfl, rfl, rfl⟩ := H
    obtain ⟨D5, D6⟩ := nn_ i5; obtain ⟨D7, D8⟩ := nn_ i6; obtain ⟨D9, E0⟩ := nn_ c0
    obtain ⟨n0, n1, n2, n3⟩ := bc2_ a3
    go_wp2
    refine bodyPost_ret (results_ct rfl _ _ b9 29 #[.int .i64 0, .slice none 0 0] (0, 0) _ rfl (by (with_reducible repeat (first | refine blk_drewN ?_ _ | refine blk_drew ?_ | refine blk_alloc ?_ _)); refine blk_put (cs := #[.int .i64 0, .slice none 0 0]) ?_ 1 _ rfl; (with_reducible repeat (first | refine blk_drewN ?_ _ | refine blk_drew ?_ | refine blk_alloc ?_ _)); refine blk_put (cs := #[.int .i64 0, .slice none 0 0]) ?_ 0 _ rfl; exact qf_ a3) Try.underlying29 rfl (by kernel_rfl)) rfl ?_
    exact ⟨_, qr_, by first | exact Kd.R_nil _ _ _ _ _ | exact Kd.N_nil _ _ _ _ _ | exact Kd.V_nil _ _ _ _ _ | exact Kd.Q_nil _ _ _ _ _ | exact Kd.S_nil _ _ _ _ _, qB_⟩
   obtain ⟨b4, A35, H⟩ := bs_ H
   have H' := am_ H; clear H; obtain ⟨E1, E2⟩ := nn_ i3; obtain ⟨E3, E4⟩ := nn_ i4; obtain ⟨E5, E6⟩ := nn_ b3
   obtain ⟨n4, n5, n6, n7⟩ := bc2_ a0
   go_wp2_with (first | ((with_reducible refine gc_ 67 ?_); refine gl_ (some 27) Try.func67 #[.agg #[.int .i64 a0_0, .slice A0_1 l0_1.length c0_1], .int .i64 0] ?_; (with_reducible refine (impl_labelsAt.calls kj4 a0_0 _ _ l0_1 0 b4 _ ?_ ?_ A35.out).mono ?_); exact qC_ HR0_1 HB; exact HC0_1.out; rintro e w40 ⟨j6, rfl, ho0, hb⟩; refine ⟨_, rfl, ?_⟩; have o1 := am_ (Kd.R_lower ho0 (below_size qB_)); replace a2 := kb_ a2 hb; replace a0 := qbl_ a0 hb; replace a1 := qbl_ a1 hb; replace a3 := qbl_ a3 hb; replace a4 := qbl_ a4 hb; replace HB := hs_ hb; (try clear hb); (try clear hb2); (try clear hk); (try clear hi); (try clear ho0)))
   go_loopg [9] kj4 (fun kq v9 w' => ∃ (x9_2 : Int), v9 = .int .i64 x9_2 ∧ Aside0 (impl_WebAdd.l0 kq b4 x9_2 a0_0 l0_1 a1_0 a1_1 = some (r1, r2, r3)) ∧ Aside0 (kq ≤ kj4) ∧ Aside0 (Kd.R (Kd.int .i64) 3 w' w.heap.size (fun _ => True) j6 b4) ∧ Aside0 (Kd.R k43 43 w' w.heap.size (fun k_ => k_ ≠ b0) (.slice g8 c7.length g9) c7) ∧ Aside0 (w'.heap[a9]? = some (.cells #[.int .i64 a0_0, (.slice A0_1 l0_1.length c0_1)] 29 (0, 0))) ∧ Aside0 (w'.heap[b0]? = some (.cells #[.int .i64 a1_0, .int .i64 a1_1] 43 (0, 0))) ∧ Aside0 (w'.heap[b9]? = some (.cells #[.int .i64 0, (.slice none 0 0)] 29 (0, 0))) ∧ Aside0 (w'.heap[a8]? = some (.cells #[.int .i64 g7, (.slice g8 c7.length g9)] 69 (0, 0))) ∧ Aside0 (Below w.heap.size w w'))
   case atStart => exact ⟨(0), qe_, H', ⟨Nat.le_refl _⟩, ⟨ra_ o1⟩, ⟨ra_ a2⟩, ⟨qk_ a0⟩, ⟨qk_ a1⟩, ⟨qk_ a3⟩, ⟨qk_ a4⟩, ⟨qB_⟩⟩
   case round =>
    clear H'
    (try clear c1); (try clear c2); (try clear p2); (try clear c3); (try clear c6); (try clear c8); (try clear c16); (try clear c19); (try clear c20); (try clear c21); (try clear c22); (try clear c25); (try clear c26); (try clear c27); (try clear c30); (try clear c31); (try clear c32); (try clear c33); (try clear c36); (try clear c37); (try clear c38); (try clear j9 k0); (try clear k4 k5); (try clear n0 n1); (try clear n4 n5); (try clear k1 k3); (try clear k6 k7); (try clear n2 n3); (try clear n6 n7); (try clear p2)
    obtain ⟨x9_2, rfl, HA, HK2, a5, a2, a0, a1, a3, a4, HB⟩ := hrel
    cases gk with
    | zero => exact absurd HA.out (by simp [impl_WebAdd.l0])
    | succ k2 =>
     have H := HA.out; clear HA
     simp only [impl_WebAdd.l0] at H
     refine ib_ H ?_ ?_ <;> clear H <;> intro c41b0 H
     ·refine jg_ H ?_; clear H; intro c85 H
      have c85b0 := eq_true c85
      have c85b1 := decide_eq_true c85
      clear c85
      refine jg_ H ?_; clear H; intro c86 H
      have c86b0 := eq_true c86
      have c86b1 := decide_eq_true c86
      clear c86
      obtain ⟨j7, hy591⟩ : ∃ y_ : List (S72), y_ = (l0_1.take (x9_2 : Int).toNat) := ⟨_, rfl⟩
      replace H : ((impl_copyWeb.f a0_0 j7).bind fun m1 => (if 0 ≤ a1_0 then (if a1_0 < (b4.length : Int) then (if 0 ≤ a1_1 then (if a1_1 < (b4.length : Int) then (if m1.2.length < 4398046511104 then ((some (m1.2 ++ [(⟨a1_0, a1_1, 0, ((rd b4 a1_0) != (rd b4 a1_1))⟩ : S72)] : List (S72))).bind fun i7 => ((some (l0_1.drop (x9_2 : Int).toNat : List (S72))).bind fun h0 => (if i7.length + h0.length < 4398046511104 then (some (m1.1, (i7 ++ h0), true)) else (none)))) else (none)) else (none)) else (none)) else (none)) else (none))) = some (r1, r2, r3) := hq_ hy591 H
      have Ny591 := am_ hy591
      clear hy591
      replace H := Option.bind_eq_some_iff.mp H
      obtain ⟨⟨f6, e2⟩, q5, H⟩ := H
      replace H : (if 0 ≤ a1_0 then (if a1_0 < (b4.length : Int) then (if 0 ≤ a1_1 then (if a1_1 < (b4.length : Int) then (if e2.length < 4398046511104 then ((some (e2 ++ [(⟨a1_0, a1_1, 0, ((rd b4 a1_0) != (rd b4 a1_1))⟩ : S72)] : List (S72))).bind fun i7 => ((some (l0_1.drop (x9_2 : Int).toNat : List (S72))).bind fun h0 => (if i7.length + h0.length < 4398046511104 then (some (f6, (i7 ++ h0), true)) else (none)))) else (none)) else (none)) else (none)) else (none)) else (none)) = some (r1, r2, r3) := H
      have A87 := am_ q5
      clear q5
      refine ig_ H ?_; clear H; intro c88b0 H
      refine ig_ H ?_; clear H; intro c89b0 H
      refine ig_ H ?_; clear H; intro c90b0 H
      refine ig_ H ?_; clear H; intro c91b0 H
      refine jg_ H ?_; clear H; intro c92 H
      have LMc92 := am_ c92
      clear c92
      obtain ⟨i7, hy602⟩ : ∃ y_ : List (S72), y_ = (e2 ++ [(⟨a1_0, a1_1, 0, ((rd b4 a1_0) != (rd b4 a1_1))⟩ : S72)]) := ⟨_, rfl⟩
      replace H : ((some (l0_1.drop (x9_2 : Int).toNat : List (S72))).bind fun h0 => (if i7.length + h0.length < 4398046511104 then (some (f6, (i7 ++ h0), true)) else (none))) = some (r1, r2, r3) := hq_ hy602 H
      have Ny602 := am_ hy602
      clear hy602
      have c93b0 := eq_true (of_decide_eq_true qa_ : 0 ≤ x9_2)
      have c94b0 := eq_true (of_decide_eq_true qa_ : x9_2 ≤ (l0_1.length : Int))
      obtain ⟨h0, hy605⟩ : ∃ y_ : List (S72), y_ = (l0_1.drop (x9_2 : Int).toNat) := ⟨_, rfl⟩
      replace H : (if i7.length + h0.length < 4398046511104 then (some (f6, (i7 ++ h0), true)) else (none)) = some (r1, r2, r3) := hq_ hy605 H
      have Ny605 := am_ hy605
      clear hy605
      refine jg_ H ?_; clear H; intro c95 H
      have LMc95 := am_ c95
      clear c95
      obtain ⟨n8, hy609⟩ : ∃ y_ : List (S72), y_ = (i7 ++ h0) := ⟨_, rfl⟩
      replace H : (some (f6, n8, true)) = some (r1, r2, r3) := hq_ hy609 H
      have Ny609 := am_ hy609
      clear hy609
      simp only [Option.some.injEq, Prod.mk.injEq] at H
      obtain ⟨rfl, rfl, rfl⟩ := H
      try go_wp2
      replace a5 := am_ (Kd.R_drew a5.out); replace a2 := am_ (Kd.R_drew a2.out); replace a0 := am_ (blk_drew a0.out); replace a1 := am_ (blk_drew a1.out); replace a3 := am_ (blk_drew a3.out); replace a4 := am_ (blk_drew a4.out); replace HB := am_ (below_drew1 HB.out)
      refine start_ (n := 22) (S := fun w' => w'.cell? ⟨a9, 0, none⟩ = some (.int .i64 a0_0) ∧ w'.cell? ⟨a9, 1, none⟩ = some (.slice A0_1 l0_1.length c0_1)) (ds := []) (bm 22 0) (by kernel_rfl) rfl (by kernel_rfl) ⟨bl_ a0 0, bl_ a0 1⟩ (fun hHeld => ?_); refine with_tabW impl_WebAdd.tab6 impl_WebAdd.bits6 (fun HT_ HW_ => ?_)
      generalize wr.drew = w96 at a5 a2 a0 a1 a3 a4 HB hHeld ⊢
      refine pz_ 0 28 22 1 ?_; refine pz_ 1 29 22 3 ?_; refine tz2_ 2 30 22 7 ?_; refine pz_ 3 31 22 15 ?_; refine pz_ 4 32 22 31 ?_; refine pz_ 5 33 22 63 ?_
      refine pu_ 6 34 22 127 ?_
      refine pu_ 7 35 22 255 ?_
      refine pu_ 8 36 22 511 ?_
      refine pu_ 9 37 22 1023 ?_
      refine pu_ 10 38 22 2047 ?_
      refine pu_ 11 39 22 4095 ?_
      refine pu_ 12 40 22 8191 ?_
      refine pu_ 13 41 22 16383 ?_
      refine pu_ 14 42 22 32767 ?_
      refine pu_ 15 43 22 65535 ?_
      refine pu_ 16 44 22 131071 ?_
      refine pu_ 17 45 22 262143 ?_
      refine pu_ 18 46 22 524287 ?_
      refine pu_ 19 47 22 1048575 ?_
      refine pu_ 20 48 22 2097151 ?_
      refine pz_ 21 49 22 4194303 ?_
      refine done_ (done_of HT_.out (by kernel_rfl)) ?_
      try go_wp2
      replace a5 := am_ (Kd.R_drew a5.out); replace a2 := am_ (Kd.R_drew a2.out); replace a0 := am_ (blk_drew a0.out); replace a1 := am_ (blk_drew a1.out); replace a3 := am_ (blk_drew a3.out); replace a4 := am_ (blk_drew a4.out); replace HB := am_ (below_drew1 HB.out)
      have q98 : (x9_2 : Int) ≤ ((l0_1.length : Int) : Int) := of_decide_eq_true qa_
      obtain ⟨i098, hi098, _, hsz98, _⟩ := info_parts info72
      have hroom98 : l0_1.length ≤ c0_1 := HC0_1.out
      have hC98 : Kd.C k72 _ A0_1 l0_1.length l0_1 := HR0_1.out
      have hcut98 := cut_to (P := Try.prog) 27 72 .i64 Try.underlying27 hi098 A0_1 l0_1.length c0_1 x9_2 (of_decide_eq_true qa_) q98 hroom98
      have hr98 := Kd.C_take (m := (x9_2 : Int).toNat) hC98 (by omega)
      have hy98 : j7.length = (x9_2 : Int).toNat := (by rw [Ny591.out, List.length_take]; omega)
      rw [← Ny591.out] at hr98
      rw [← hy98] at hcut98
      have m2 := am_ hr98
      have o2 := am_ (show j7.length ≤ c0_1 from by omega)
      clear hr98 hC98 hroom98 hi098 hsz98
      have KY98 := am_ hy98
      clear hy98; replace q98 := eq_true q98
      refine start_ (n := 10) (S := fun w' => w'.cell? ⟨a9, 0, none⟩ = some (.int .i64 a0_0) ∧ w'.cell? ⟨a9, 1, none⟩ = some (.slice A0_1 l0_1.length c0_1)) (ds := []) (bm 10 0) (by kernel_rfl) rfl (by kernel_rfl) ⟨bl_ a0 0, bl_ a0 1⟩ (fun hHeld => ?_); refine with_tabW impl_WebAdd.tab8 impl_WebAdd.bits8 (fun HT_ HW_ => ?_)
      generalize w96.drew = w97 at a5 a2 a0 a1 a3 a4 HB m2 hHeld ⊢
      refine pz_ 0 52 10 1 ?_; refine pz_ 2 54 10 5 ?_; refine pz_ 4 56 10 21 ?_; refine tz2_ 1 53 10 23 ?_; refine tz2_ 3 55 10 31 ?_; refine pz_ 5 57 10 63 ?_; refine pz_ 6 58 10 127 ?_
      refine join_ (σ := Value × Nat) 1 #[true, true, true, true, true, true, true, true, true, false] (fun s_ => [(59, .agg #[.int .i64 f6, s_.1]), (10, .pointer (some ⟨s_.2, 0, none⟩))]) (fun s_ w' => (w'.cell? ⟨a9, 0, none⟩ = some (.int .i64 a0_0) ∧ w'.cell? ⟨a9, 1, none⟩ = some (.slice A0_1 l0_1.length c0_1)) ∧ (Kd.R k72 72 w' w.heap.size (fun _ => True) s_.1 e2) ∧ (Kd.R k43 43 w' w.heap.size (fun k_ => k_ ≠ b0) (.slice g8 c7.length g9) c7) ∧ (Kd.R (Kd.int .i64) 3 w' w.heap.size (fun _ => True) j6 b4) ∧ (w'.heap[a9]? = some (.cells #[.int .i64 a0_0, .slice A0_1 l0_1.length c0_1] 29 (0, 0))) ∧ (w'.heap[b0]? = some (.cells #[.int .i64 a1_0, .int .i64 a1_1] 43 (0, 0))) ∧ (w'.heap[b9]? = some (.cells #[.int .i64 0, .slice none 0 0] 29 (0, 0))) ∧ (w'.heap[a8]? = some (.cells #[.int .i64 g7, .slice g8 c7.length g9] 69 (0, 0))) ∧ (w'.heap[s_.2]? = some (.cells #[.int .i64 0, .slice none 0 0] 29 (0, 0))) ∧ (w.heap.size ≤ s_.2) ∧ (w.heap.size ≤ s_.2) ∧ (a9 ≠ s_.2) ∧ (s_.2 ≠ a9) ∧ (b0 ≠ s_.2) ∧ (s_.2 ≠ b0) ∧ (b9 ≠ s_.2) ∧ (s_.2 ≠ b9) ∧ (a8 ≠ s_.2) ∧ (s_.2 ≠ a8) ∧ (Below w.heap.size w w')) ?_ ?_
      rotate_left
      ·intro hCont
       refine two_ (i := 7) (j := 8) (Ni := some 59) (Nj := some 10) (bm 10 255) #[true, true, true, true, true, true, true, false, true, false] rfl rfl rfl rfl (two_of HT_.out (by kernel_rfl)) (by decide) (by decide) (fun K hK => ?_) (fun K hK => ?_)
       ·skip
        refine gs_ Try.func91 #[.agg #[.int .i64 a0_0, .slice A0_1 j7.length c0_1]] ?_
        with_reducible refine (impl_copyWeb.calls a0_0 _ _ j7 f6 e2 _ ?side1 ?side2 A87.out).mono ?_
        (case side1 => exact qC_ m2 HB)
        (case side2 => exact o2.out)
        rintro e w99 ⟨m3, rfl, ho0, hb⟩
        refine ⟨_, rfl, ?_⟩
        have b5 := am_ (Kd.R_lower ho0 (below_size qB_)); replace a5 := kb_ a5 hb; replace a2 := kb_ a2 hb; replace a0 := qbl_ a0 hb; replace a1 := qbl_ a1 hb; replace a3 := qbl_ a3 hb; replace a4 := qbl_ a4 hb; replace HB := hs_ hb; (try clear hb); (try clear hb2); (try clear hk); (try clear hi); (try clear ho0)
        refine hK.out _ _ ⟨bl_ a0 0, bl_ a0 1⟩ (fun hHeld => ?_)
        clear hK K
        refine nm_ 59 ?_
        refine o1_ 8 (some 10) 10 511 (fun K hK => ?_)
        refine box_step ?hg (N := 10) ?hd (cs := #[.int .i64 0, .slice none 0 0]) (t := 29) ?hr ?_; (case hd => rfl); (case hg => rfl); (case hr => first | (go_simp; done) | (go_simp; rfl))
        intro a6 hg w100 hbox hb
        have b1 := am_ (hbox); have k8 := gw_ hg; have k9 := gw_ hg; have c4 := (qn_ a0 hg).1; have d4 := (qn_ a0 hg).2; have e6 := (qn_ a1 hg).1; have d5 := (qn_ a1 hg).2; have e7 := (qn_ a3 hg).1; have d6 := (qn_ a3 hg).2; have e8 := (qn_ a4 hg).1; have d7 := (qn_ a4 hg).2; replace a5 := kb_ a5 hb; replace a2 := kb_ a2 hb; replace b5 := kb_ b5 hb; replace a0 := qbl_ a0 hb; replace a1 := qbl_ a1 hb; replace a3 := qbl_ a3 hb; replace a4 := qbl_ a4 hb; replace HB := hs_ hb; clear hb hbox hg
        refine hK.out _ _ ⟨bl_ a0 0, bl_ a0 1⟩ (fun hHeld => ?_)
        clear hK K
        refine nm_ 10 ?_
        exact norm_ (by simp only [putAll, Act.put, sA_, sB_, sC_]) (hCont (m3, a6) _ ⟨hHeld, (qR_ b5), (qR_ a2), (qR_ a5), (qk_ a0), (qk_ a1), (qk_ a3), (qk_ a4), (qk_ b1), k8.out, k9.out, c4.out, d4.out, e6.out, d5.out, e7.out, d6.out, e8.out, d7.out, qB_⟩)
       skip
       refine box_step ?hg (N := 10) ?hd (cs := #[.int .i64 0, .slice none 0 0]) (t := 29) ?hr ?_; (case hd => rfl); (case hg => rfl); (case hr => first | (go_simp; done) | (go_simp; rfl))
       intro a6 hg w99 hbox hb
       have b1 := am_ (hbox); have k8 := gw_ hg; have k9 := gw_ hg; have c4 := (qn_ a0 hg).1; have d4 := (qn_ a0 hg).2; have e6 := (qn_ a1 hg).1; have d5 := (qn_ a1 hg).2; have e7 := (qn_ a3 hg).1; have d6 := (qn_ a3 hg).2; have e8 := (qn_ a4 hg).1; have d7 := (qn_ a4 hg).2; replace a5 := kb_ a5 hb; replace a2 := kb_ a2 hb; replace a0 := qbl_ a0 hb; replace a1 := qbl_ a1 hb; replace a3 := qbl_ a3 hb; replace a4 := qbl_ a4 hb; replace HB := hs_ hb; clear hb hbox hg
       refine hK.out _ _ ⟨bl_ a0 0, bl_ a0 1⟩ (fun hHeld => ?_)
       clear hK K
       refine nm_ 10 ?_
       refine o1_ 7 (some 59) 10 511 (fun K hK => ?_)
       refine gs_ Try.func91 #[.agg #[.int .i64 a0_0, .slice A0_1 j7.length c0_1]] ?_
       with_reducible refine (impl_copyWeb.calls a0_0 _ _ j7 f6 e2 _ ?side1 ?side2 A87.out).mono ?_
       (case side1 => exact qC_ m2 HB)
       (case side2 => exact o2.out)
       rintro e w100 ⟨m3, rfl, ho0, hb⟩
       refine ⟨_, rfl, ?_⟩
       have b5 := am_ (Kd.R_lower ho0 (below_size qB_)); replace a5 := kb_ a5 hb; replace a2 := kb_ a2 hb; replace a0 := qbl_ a0 hb; replace a1 := qbl_ a1 hb; replace a3 := qbl_ a3 hb; replace a4 := qbl_ a4 hb; replace b1 := qbl_ b1 hb; replace HB := hs_ hb; (try clear hb); (try clear hb2); (try clear hk); (try clear hi); (try clear ho0)
       refine hK.out _ _ ⟨bl_ a0 0, bl_ a0 1⟩ (fun hHeld => ?_)
       clear hK K
       refine nm_ 59 ?_
       exact norm_ (by simp only [putAll, Act.put, sA_, sB_, sC_]) (hCont (m3, a6) _ ⟨hHeld, (qR_ b5), (qR_ a2), (qR_ a5), (qk_ a0), (qk_ a1), (qk_ a3), (qk_ a4), (qk_ b1), k8.out, k9.out, c4.out, d4.out, e6.out, d5.out, e7.out, d6.out, e8.out, d7.out, qB_⟩)
      rintro ⟨m3, a6⟩ w101 ⟨hS_, h0_, h1_, h2_, h3_, h4_, h5_, h6_, h7_, h8_, h9_, h10_, h11_, h12_, h13_, h14_, h15_, h16_, h17_, h18_⟩
      have n0_ : Aside0 (Kd.R k72 72 w101 w.heap.size (fun _ => True) m3 e2) := ⟨h0_⟩
      have n1_ : Aside0 (Kd.R k43 43 w101 w.heap.size (fun k_ => k_ ≠ b0) (.slice g8 c7.length g9) c7) := ⟨h1_⟩
      have n2_ : Aside0 (Kd.R (Kd.int .i64) 3 w101 w.heap.size (fun _ => True) j6 b4) := ⟨h2_⟩
      have n3_ : Aside0 (w101.heap[a9]? = some (.cells #[.int .i64 a0_0, .slice A0_1 l0_1.length c0_1] 29 (0, 0))) := ⟨h3_⟩
      have n4_ : Aside0 (w101.heap[b0]? = some (.cells #[.int .i64 a1_0, .int .i64 a1_1] 43 (0, 0))) := ⟨h4_⟩
      have n5_ : Aside0 (w101.heap[b9]? = some (.cells #[.int .i64 0, .slice none 0 0] 29 (0, 0))) := ⟨h5_⟩
      have n6_ : Aside0 (w101.heap[a8]? = some (.cells #[.int .i64 g7, .slice g8 c7.length g9] 69 (0, 0))) := ⟨h6_⟩
      have n7_ : Aside0 (w101.heap[a6]? = some (.cells #[.int .i64 0, .slice none 0 0] 29 (0, 0))) := ⟨h7_⟩
      have n8_ : Aside0 (w.heap.size ≤ a6) := ⟨h8_⟩
      have n9_ : Aside0 (w.heap.size ≤ a6) := ⟨h9_⟩
      have n10_ : Aside0 (a9 ≠ a6) := ⟨h10_⟩
      have n11_ : Aside0 (a6 ≠ a9) := ⟨h11_⟩
      have n12_ : Aside0 (b0 ≠ a6) := ⟨h12_⟩
      have n13_ : Aside0 (a6 ≠ b0) := ⟨h13_⟩
      have n14_ : Aside0 (b9 ≠ a6) := ⟨h14_⟩
      have n15_ : Aside0 (a6 ≠ b9) := ⟨h15_⟩
      have n16_ : Aside0 (a8 ≠ a6) := ⟨h16_⟩
      have n17_ : Aside0 (a6 ≠ a8) := ⟨h17_⟩
      have n18_ : Aside0 (Below w.heap.size w w101) := ⟨h18_⟩
      clear a5; clear a2; clear a0; clear a1; clear a3; clear a4; clear HB; clear h0_ h1_ h2_ h3_ h4_ h5_ h6_ h7_ h8_ h9_ h10_ h11_ h12_ h13_ h14_ h15_ h16_ h17_ h18_; have b5 := n0_; have a2 := n1_; have a5 := n2_; have a0 := n3_; have a1 := n4_; have a3 := n5_; have a4 := n6_; have b1 := n7_; have k8 := n8_; have k9 := n9_; have c4 := n10_; have d4 := n11_; have e6 := n12_; have d5 := n13_; have e7 := n14_; have d6 := n15_; have e8 := n16_; have d7 := n17_; have HB := n18_; clear n0_ n1_ n2_ n3_ n4_ n5_ n6_ n7_ n8_ n9_ n10_ n11_ n12_ n13_ n14_ n15_ n16_ n17_ n18_
      have hHeld : w101.cell? ⟨a9, 0, none⟩ = some (.int .i64 a0_0) ∧ w101.cell? ⟨a9, 1, none⟩ = some (.slice A0_1 l0_1.length c0_1) := hS_
      obtain ⟨e4, e5, o3⟩ := Kd.R_slice b5.out
      (first | subst o3 | (injection o3 with f1_ f2_ f3_; have f4_ := f1_.symm; have f5_ := f3_.symm; clear f1_ f2_ f3_; subst f4_; subst f5_))
      refine norm_ (a' := ?_) ?_ ?_
      rotate_left
      ·simp only [putAll, Act.put, sA_, sB_, sC_]
       rfl
      refine o1_ 9 none 10 1023 (fun K hK => ?_)
      have hs102 : w101.cell? ⟨a6, 0, none⟩ = some (.int .i64 0) := bl_ b1 0
      have hfs102 := blk_frozen b1.out 0
      have q6 := c4.out; have q7 := e6.out; have q8 := e7.out; have q9 := e8.out; have r0 := d4.out; have r4 := d5.out; have r5 := d6.out; have r6 := d7.out
      have hs104 : w101.cell? ⟨a6, 1, none⟩ = some (.slice none 0 0) := bl_ b1 1
      have hfs104 := blk_frozen b1.out 1
      have r7 := c4.out; have r8 := e6.out; have r9 := e7.out; have s0 := e8.out; have s1 := d4.out; have s2 := d5.out; have s3 := d6.out; have s4 := d7.out
      refine skip_ (w1 := ?_) (by rfl) rfl ?_ ?_
      rotate_left
      ·go_simp
       rfl
      refine hK.out _ _ ⟨((cell_far (p := ⟨a6, _, none⟩) c4.out _).trans (((cell_far (p := ⟨a6, _, none⟩) c4.out _).trans (hHeld.1)))), ((cell_far (p := ⟨a6, _, none⟩) c4.out _).trans (((cell_far (p := ⟨a6, _, none⟩) c4.out _).trans (hHeld.2))))⟩ (fun hHeld => ?_)
      clear hK K
      refine done_ (done_of HT_.out (by kernel_rfl)) ?_
      try go_wp2
      have n0_ : Aside0 (Kd.R (Kd.int .i64) 3 ((w101.setCell ⟨a6, 0, none⟩ (.int .i64 f6)).setCell ⟨a6, 1, none⟩ (.slice e4 e2.length e5)) w.heap.size (fun _ => True) j6 b4) := ⟨by (with_reducible repeat (first | apply Kd.R_alloc | apply Kd.R_drewN | apply Kd.R_drew)); exact Kd.R_mono (Kd.R_far (p := ⟨a6, 1, none⟩) (Kd.R_far (p := ⟨a6, 0, none⟩) (Kd.R_types a5.out b1.out (by decide)) (fun _ hk => hk.2) (.int .i64 f6)) (fun _ hk => hk.2) (.slice e4 e2.length e5)) (fun _ hk => trivial)⟩
      have n1_ : Aside0 (Kd.R k43 43 ((w101.setCell ⟨a6, 0, none⟩ (.int .i64 f6)).setCell ⟨a6, 1, none⟩ (.slice e4 e2.length e5)) w.heap.size (fun k_ => k_ ≠ b0) (.slice g8 c7.length g9) c7) := ⟨by (with_reducible repeat (first | apply Kd.R_alloc | apply Kd.R_drewN | apply Kd.R_drew)); exact Kd.R_mono (Kd.R_far (p := ⟨a6, 1, none⟩) (Kd.R_far (p := ⟨a6, 0, none⟩) (Kd.R_types a2.out b1.out (by decide)) (fun _ hk => hk.2) (.int .i64 f6)) (fun _ hk => hk.2) (.slice e4 e2.length e5)) (fun _ hk => hk.1)⟩
      have n2_ : Aside0 (Kd.R k72 72 ((w101.setCell ⟨a6, 0, none⟩ (.int .i64 f6)).setCell ⟨a6, 1, none⟩ (.slice e4 e2.length e5)) w.heap.size (fun _ => True) (.slice e4 e2.length e5) e2) := ⟨by (with_reducible repeat (first | apply Kd.R_alloc | apply Kd.R_drewN | apply Kd.R_drew)); exact Kd.R_mono (Kd.R_far (p := ⟨a6, 1, none⟩) (Kd.R_far (p := ⟨a6, 0, none⟩) (Kd.R_types b5.out b1.out (by decide)) (fun _ hk => hk.2) (.int .i64 f6)) (fun _ hk => hk.2) (.slice e4 e2.length e5)) (fun _ hk => trivial)⟩
      have n3_ : Aside0 (((w101.setCell ⟨a6, 0, none⟩ (.int .i64 f6)).setCell ⟨a6, 1, none⟩ (.slice e4 e2.length e5)).heap[a9]? = some (.cells #[.int .i64 a0_0, .slice A0_1 l0_1.length c0_1] 29 (0, 0))) := ⟨qf_ a0⟩
      have n4_ : Aside0 (((w101.setCell ⟨a6, 0, none⟩ (.int .i64 f6)).setCell ⟨a6, 1, none⟩ (.slice e4 e2.length e5)).heap[b0]? = some (.cells #[.int .i64 a1_0, .int .i64 a1_1] 43 (0, 0))) := ⟨qf_ a1⟩
      have n5_ : Aside0 (((w101.setCell ⟨a6, 0, none⟩ (.int .i64 f6)).setCell ⟨a6, 1, none⟩ (.slice e4 e2.length e5)).heap[b9]? = some (.cells #[.int .i64 0, .slice none 0 0] 29 (0, 0))) := ⟨qf_ a3⟩
      have n6_ : Aside0 (((w101.setCell ⟨a6, 0, none⟩ (.int .i64 f6)).setCell ⟨a6, 1, none⟩ (.slice e4 e2.length e5)).heap[a8]? = some (.cells #[.int .i64 g7, .slice g8 c7.length g9] 69 (0, 0))) := ⟨qf_ a4⟩
      have n7_ : Aside0 (((w101.setCell ⟨a6, 0, none⟩ (.int .i64 f6)).setCell ⟨a6, 1, none⟩ (.slice e4 e2.length e5)).heap[a6]? = some (.cells #[.int .i64 f6, .slice e4 e2.length e5] 29 (0, 0))) := ⟨by (with_reducible repeat (first | refine blk_drewN ?_ _ | refine blk_drew ?_ | refine blk_alloc ?_ _)); refine blk_put (cs := #[.int .i64 f6, .slice none 0 0]) ?_ 1 _ rfl; (with_reducible repeat (first | refine blk_drewN ?_ _ | refine blk_drew ?_ | refine blk_alloc ?_ _)); refine blk_put (cs := #[.int .i64 0, .slice none 0 0]) ?_ 0 _ rfl; exact qf_ b1⟩
      have n8_ : Aside0 (Below w.heap.size w ((w101.setCell ⟨a6, 0, none⟩ (.int .i64 f6)).setCell ⟨a6, 1, none⟩ (.slice e4 e2.length e5))) := ⟨qB_⟩
      (try clear a5); (try clear a2); (try clear b5); (try clear a0); (try clear a1); (try clear a3); (try clear a4); (try clear b1); (try clear HB)
      generalize ((w101.setCell ⟨a6, 0, none⟩ (.int .i64 f6)).setCell ⟨a6, 1, none⟩ (.slice e4 e2.length e5)) = w105 at n0_ n1_ n2_ n3_ n4_ n5_ n6_ n7_ n8_ ⊢
      have a5 := n0_; have a2 := n1_; have b5 := n2_; have a0 := n3_; have a1 := n4_; have a3 := n5_; have a4 := n6_; have b1 := n7_; have HB := n8_; clear n0_ n1_ n2_ n3_ n4_ n5_ n6_ n7_ n8_
      replace a5 := am_ (Kd.R_drew a5.out); replace a2 := am_ (Kd.R_drew a2.out); replace b5 := am_ (Kd.R_drew b5.out); replace a0 := am_ (blk_drew a0.out); replace a1 := am_ (blk_drew a1.out); replace a3 := am_ (blk_drew a3.out); replace a4 := am_ (blk_drew a4.out); replace b1 := am_ (blk_drew b1.out); replace HB := am_ (below_drew1 HB.out)
      obtain ⟨E7, E8, o4⟩ := Kd.R_slice a5.out
      (first | subst o4 | (injection o4 with f1_ f2_ f3_; have f4_ := f1_.symm; have f5_ := f3_.symm; clear f1_ f2_ f3_; subst f4_; subst f5_))
      have p600 := dp_ a1_0
      have q600 := dl_ a1_0 b4.length
      obtain ⟨ad600, e600, l1⟩ := Kd.at_int (Kd.R_reads' a5.out).2.2 a1_0 p600 q600
      cases e600; replace p600 := eq_true p600; replace q600 := eq_true q600
      have p601 := dp_ a1_1
      have q601 := dl_ a1_1 b4.length
      obtain ⟨ad601, e601, l2⟩ := Kd.at_int (Kd.R_reads' a5.out).2.2 a1_1 p601 q601
      obtain rfl : ad600 = ad601 := (by injection e601)
      replace p601 := eq_true p601; replace q601 := eq_true q601
      have q108 : (x9_2 : Int) ≤ ((l0_1.length : Int) : Int) := of_decide_eq_true qa_
      obtain ⟨i0108, hi0108, _, hsz108, _⟩ := info_parts info72
      have hroom108 : l0_1.length ≤ c0_1 := HC0_1.out
      have hC108 : Kd.C k72 _ A0_1 l0_1.length l0_1 := HR0_1.out
      have q0108 : (0 : Int) ≤ (x9_2 : Int) := of_decide_eq_true qa_
      have hcut108 := cut_from (P := Try.prog) 27 72 .i64 Try.underlying27 hi0108 4 hsz108 A0_1 l0_1.length c0_1 x9_2 q0108 q108
      have hr108 := Kd.C_drop (m := (x9_2 : Int).toNat) (c := c0_1) hC108 (by omega) hroom108
      obtain ⟨z8, hA108⟩ : ∃ A1, A1 = (if c0_1 = (x9_2 : Int).toNat then A0_1 else (A0_1 : Option Addr).map (·.add ((x9_2 : Int).toNat * 4))) := ⟨_, rfl⟩
      obtain ⟨c108, hc108⟩ : ∃ c1, c1 = c0_1 - (x9_2 : Int).toNat := ⟨_, rfl⟩
      have hy108 : h0.length = l0_1.length - (x9_2 : Int).toNat := (by rw [Ny605.out, List.length_drop] <;> omega)
      rw [show (l0_1).drop (x9_2 : Int).toNat = h0 from Ny605.out.symm] at hr108
      replace hr108 : Kd.C k72 _ z8 h0.length h0 := (by rw [hA108]; exact hr108)
      rw [← hy108, ← hA108, ← hc108] at hcut108
      have o5 := am_ hr108
      have E9 := am_ (show h0.length ≤ c108 from by rw [hy108, hc108]; exact Nat.sub_le_sub_right hroom108 _)
      clear hr108 hC108 hroom108 hi0108 hsz108 hc108
      have KY108 := am_ hy108
      have KA108 := am_ hA108
      clear hy108 hA108; replace q108 := eq_true q108
      refine start_ (n := 27) (S := fun w' => w'.cell? ⟨a6, 0, none⟩ = some (.int .i64 f6) ∧ w'.cell? ⟨a6, 1, none⟩ = some (.slice e4 e2.length e5) ∧ w'.cell? ⟨b0, 0, none⟩ = some (.int .i64 a1_0) ∧ w'.cell? ⟨b0, 1, none⟩ = some (.int .i64 a1_1) ∧ w'.cell? ⟨a9, 0, none⟩ = some (.int .i64 a0_0) ∧ w'.cell? ⟨a9, 1, none⟩ = some (.slice A0_1 l0_1.length c0_1) ∧ w'.cell? (ad600.add (a1_0).toNat) = some (.int .i64 (rd b4 a1_0)) ∧ w'.cell? (ad600.add (a1_1).toNat) = some (.int .i64 (rd b4 a1_1))) (ds := [26]) (bm 27 0) (by kernel_rfl) rfl (by kernel_rfl) ⟨bl_ b1 0, bl_ b1 1, bl_ a1 0, bl_ a1 1, bl_ a0 0, bl_ a0 1, l1, l2⟩ (fun hHeld => ?_); refine with_tabW impl_WebAdd.tab9 impl_WebAdd.bits9 (fun HT_ HW_ => ?_)
      generalize w105.drew = w106 at a5 a2 b5 a0 a1 a3 a4 b1 HB o5 l1 l2 hHeld ⊢
      refine pz_ 0 60 27 1 ?_; refine pz_ 2 62 27 5 ?_; refine pz_ 4 64 27 21 ?_; refine pz_ 6 66 27 85 ?_; refine pz_ 7 67 27 213 ?_; refine pz_ 11 71 27 2261 ?_; refine pz_ 12 72 27 6357 ?_; refine pz_ 20 80 27 1054933 ?_; refine pz_ 22 82 27 5249237 ?_; refine tz8_ 1 61 27 5249239 ?_; refine tz8_ 3 63 27 5249247 ?_; refine tz8_ 5 65 27 5249279 ?_; refine tz8_ 8 68 27 5249535 ?_; refine pz_ 9 69 27 5250047 ?_; refine tz8_ 10 70 27 5251071 ?_; refine tz8_ 13 73 27 5259263 ?_; refine pz_ 14 74 27 5275647 ?_; refine tz8_ 15 75 27 5308415 ?_; refine pz_ 16 76 27 5373951 ?_; refine pz_ 17 77 27 5505023 ?_; refine tz8_ 21 81 27 7602175 ?_; refine pz_ 23 83 27 15990783 ?_
      refine o1_ 18 (some 78) 27 16252927 (fun K hK => ?_)
      refine value_ (w1 := ?_) (v := ?_) (by rfl) rfl ?_ ?_
      rotate_left 2
      ·go_simp
       constructor
       ·rfl
       rfl
      refine hK.out _ _ ⟨(blk_cell (blk_alloc b1.out _) 0).trans rfl, (blk_cell (blk_alloc b1.out _) 1).trans rfl, (blk_cell (blk_alloc a1.out _) 0).trans rfl, (blk_cell (blk_alloc a1.out _) 1).trans rfl, (blk_cell (blk_alloc a0.out _) 0).trans rfl, (blk_cell (blk_alloc a0.out _) 1).trans rfl, (World.cell?_alloc_lt _ _ _ (World.block_lt_of_cell? _ _ (hHeld.2.2.2.2.2.2.1))).trans (hHeld.2.2.2.2.2.2.1), (World.cell?_alloc_lt _ _ _ (World.block_lt_of_cell? _ _ (hHeld.2.2.2.2.2.2.2))).trans (hHeld.2.2.2.2.2.2.2)⟩ (fun hHeld => ?_)
      clear hK K
      refine nm_ 78 ?_
      refine o1_ 19 (some 79) 27 16777215 (fun K hK => ?_)
      refine Kd.R_append_step k72 (w0 := w) w.heap.size (by rfl) (.tmp 61) (.tmp 78) 27 72 (.agg #[(.int .i64 0), (.int .i64 0), (.int .i64 0), (.bool false)]) 32 rfl Try.underlying27 info72 rfl (by decide) (by omega) (.slice e4 e2.length e5) e2 (⟨a1_0, a1_1, 0, ((rd b4 a1_0) != (rd b4 a1_1))⟩ : S72) [.int .i64 a1_0, .int .i64 a1_1, .int .i64 0, .bool ((rd b4 a1_0) != (rd b4 a1_1))] (fun _ => True) (fun _ => False) rfl rfl ?aP (fun _ hk => hk.elim) ?aF ?aO ?aB ?aS ?aL ?_
      (case aP => exact k72_mkM _ _ _ (⟨a1_0, a1_1, 0, ((rd b4 a1_0) != (rd b4 a1_1))⟩ : S72))
      (case aB => exact qB_)
      (case aF => exact (fun _ _ => trivial))
      (case aO => exact (qR_ b5))
      (case aS => exact (below_size qB_))
      (case aL => have := LMc92.out; omega)
      intro z9 w109 ho hb hg hat
      (first | have HS6_ := cell_grown hg (hHeld.2.2.2.2.2.2.1) (by first | (rw [add_block]; exact ((Kd.R_apart' a5.out (Kd.R_typed b5.out) (by decide)).1 _ rfl).2) | (show some (Addr.add _ _).block ≠ _; rw [add_block]; exact ((Kd.R_apart' a5.out (Kd.R_typed b5.out) (by decide)).1 _ rfl).2) | exact ((Kd.R_apart' a5.out (Kd.R_typed b5.out) (by decide)).1 _ rfl).2) | have HS6_ := cell_grown hg (cell_unalloc (hHeld.2.2.2.2.2.2.1) (by first | (rw [add_block]; exact Kd.R_lt a5.out _ rfl) | (show (Addr.add _ _).block < _; rw [add_block]; exact Kd.R_lt a5.out _ rfl) | exact Kd.R_lt a5.out _ rfl)) (by first | (rw [add_block]; exact ((Kd.R_apart' a5.out (Kd.R_typed b5.out) (by decide)).1 _ rfl).2) | (show some (Addr.add _ _).block ≠ _; rw [add_block]; exact ((Kd.R_apart' a5.out (Kd.R_typed b5.out) (by decide)).1 _ rfl).2) | exact ((Kd.R_apart' a5.out (Kd.R_typed b5.out) (by decide)).1 _ rfl).2))
      (first | have HS7_ := cell_grown hg (hHeld.2.2.2.2.2.2.2) (by first | (rw [add_block]; exact ((Kd.R_apart' a5.out (Kd.R_typed b5.out) (by decide)).1 _ rfl).2) | (show some (Addr.add _ _).block ≠ _; rw [add_block]; exact ((Kd.R_apart' a5.out (Kd.R_typed b5.out) (by decide)).1 _ rfl).2) | exact ((Kd.R_apart' a5.out (Kd.R_typed b5.out) (by decide)).1 _ rfl).2) | have HS7_ := cell_grown hg (cell_unalloc (hHeld.2.2.2.2.2.2.2) (by first | (rw [add_block]; exact Kd.R_lt a5.out _ rfl) | (show (Addr.add _ _).block < _; rw [add_block]; exact Kd.R_lt a5.out _ rfl) | exact Kd.R_lt a5.out _ rfl)) (by first | (rw [add_block]; exact ((Kd.R_apart' a5.out (Kd.R_typed b5.out) (by decide)).1 _ rfl).2) | (show some (Addr.add _ _).block ≠ _; rw [add_block]; exact ((Kd.R_apart' a5.out (Kd.R_typed b5.out) (by decide)).1 _ rfl).2) | exact ((Kd.R_apart' a5.out (Kd.R_typed b5.out) (by decide)).1 _ rfl).2))
      rw [← Ny602.out] at ho
      have c9 := am_ (ho); replace a5 := am_ (Kd.R_over' (qR_ a5) (Kd.R_typed (qR_ b5)) (by decide) hg); replace a2 := am_ (Kd.R_over' (qR_ a2) (Kd.R_typed (qR_ b5)) (by decide) hg); replace a0 := am_ (blk_grown (qk_ a0) hg (Kd.R_ne b5.out a0.out (by decide))); replace a1 := am_ (blk_grown (qk_ a1) hg (Kd.R_ne b5.out a1.out (by decide))); replace a3 := am_ (blk_grown (qk_ a3) hg (Kd.R_ne b5.out a3.out (by decide))); replace a4 := am_ (blk_grown (qk_ a4) hg (Kd.R_ne b5.out a4.out (by decide))); replace b1 := am_ (blk_grown (qk_ b1) hg (Kd.R_ne b5.out b1.out (by decide))); replace HB := am_ (hb); clear b5; clear ho hb hg hat
      refine hK.out _ _ ⟨bl_ b1 0, bl_ b1 1, bl_ a1 0, bl_ a1 1, bl_ a0 0, bl_ a0 1, HS6_, HS7_⟩ (fun hHeld => ?_)
      clear hK K
      refine nm_ 79 ?_
      refine o1_ 24 (some 84) 27 33554431 (fun K hK => ?_)
      refine Kd.R_append_rows_step k72 (w0 := w) w.heap.size (by rfl) (.tmp 79) (.tmp 83) 27 72 (.agg #[(.int .i64 0), (.int .i64 0), (.int .i64 0), (.bool false)]) 32 rfl Try.underlying27 info72 rfl (by decide) (by omega) z9 i7 h0 _ _ _ (fun _ => True) (fun _ => False) rfl rfl ?aO ?aR (fun _ _ h => h) (fun _ h => h.elim) ?aF ?aB ?aS ?aL ?_
      (case aR => repeat (first | exact (Kd.C_below o5.out HB.out) | (with_reducible refine Kd.C_alloc ?_ _) | (with_reducible refine Kd.C_drewN ?_ _) | (with_reducible refine Kd.C_drew ?_)))
      (case aB => exact qB_)
      (case aF => exact (fun _ _ => trivial))
      (case aO => exact (qR_ c9))
      (case aS => exact (below_size qB_))
      (case aL => have := LMc95.out; omega)
      intro G5 w110 ho hb hg hat
      (first | have HS6_ := cell_grown hg (hHeld.2.2.2.2.2.2.1) (by first | (rw [add_block]; exact ((Kd.R_apart' a5.out (Kd.R_typed c9.out) (by decide)).1 _ rfl).2) | (show some (Addr.add _ _).block ≠ _; rw [add_block]; exact ((Kd.R_apart' a5.out (Kd.R_typed c9.out) (by decide)).1 _ rfl).2) | exact ((Kd.R_apart' a5.out (Kd.R_typed c9.out) (by decide)).1 _ rfl).2) | have HS6_ := cell_grown hg (cell_unalloc (hHeld.2.2.2.2.2.2.1) (by first | (rw [add_block]; exact Kd.R_lt a5.out _ rfl) | (show (Addr.add _ _).block < _; rw [add_block]; exact Kd.R_lt a5.out _ rfl) | exact Kd.R_lt a5.out _ rfl)) (by first | (rw [add_block]; exact ((Kd.R_apart' a5.out (Kd.R_typed c9.out) (by decide)).1 _ rfl).2) | (show some (Addr.add _ _).block ≠ _; rw [add_block]; exact ((Kd.R_apart' a5.out (Kd.R_typed c9.out) (by decide)).1 _ rfl).2) | exact ((Kd.R_apart' a5.out (Kd.R_typed c9.out) (by decide)).1 _ rfl).2))
      (first | have HS7_ := cell_grown hg (hHeld.2.2.2.2.2.2.2) (by first | (rw [add_block]; exact ((Kd.R_apart' a5.out (Kd.R_typed c9.out) (by decide)).1 _ rfl).2) | (show some (Addr.add _ _).block ≠ _; rw [add_block]; exact ((Kd.R_apart' a5.out (Kd.R_typed c9.out) (by decide)).1 _ rfl).2) | exact ((Kd.R_apart' a5.out (Kd.R_typed c9.out) (by decide)).1 _ rfl).2) | have HS7_ := cell_grown hg (cell_unalloc (hHeld.2.2.2.2.2.2.2) (by first | (rw [add_block]; exact Kd.R_lt a5.out _ rfl) | (show (Addr.add _ _).block < _; rw [add_block]; exact Kd.R_lt a5.out _ rfl) | exact Kd.R_lt a5.out _ rfl)) (by first | (rw [add_block]; exact ((Kd.R_apart' a5.out (Kd.R_typed c9.out) (by decide)).1 _ rfl).2) | (show some (Addr.add _ _).block ≠ _; rw [add_block]; exact ((Kd.R_apart' a5.out (Kd.R_typed c9.out) (by decide)).1 _ rfl).2) | exact ((Kd.R_apart' a5.out (Kd.R_typed c9.out) (by decide)).1 _ rfl).2))
      rw [← Ny609.out] at ho
      have o6 := am_ (ho); replace a5 := am_ (Kd.R_over' (qR_ a5) (Kd.R_typed (qR_ c9)) (by decide) hg); replace a2 := am_ (Kd.R_over' (qR_ a2) (Kd.R_typed (qR_ c9)) (by decide) hg); replace a0 := am_ (blk_grown (qk_ a0) hg (Kd.R_ne c9.out a0.out (by decide))); replace a1 := am_ (blk_grown (qk_ a1) hg (Kd.R_ne c9.out a1.out (by decide))); replace a3 := am_ (blk_grown (qk_ a3) hg (Kd.R_ne c9.out a3.out (by decide))); replace a4 := am_ (blk_grown (qk_ a4) hg (Kd.R_ne c9.out a4.out (by decide))); replace b1 := am_ (blk_grown (qk_ b1) hg (Kd.R_ne c9.out b1.out (by decide))); replace HB := am_ (hb); clear c9; clear ho hb hg hat
      obtain ⟨m4, m5, o7⟩ := Kd.R_slice o6.out
      (first | subst o7 | (injection o7 with f1_ f2_ f3_; have f4_ := f1_.symm; have f5_ := f3_.symm; clear f1_ f2_ f3_; subst f4_; subst f5_))
      refine hK.out _ _ ⟨bl_ b1 0, bl_ b1 1, bl_ a1 0, bl_ a1 1, bl_ a0 0, bl_ a0 1, HS6_, HS7_⟩ (fun hHeld => ?_)
      clear hK K
      refine nm_ 84 ?_
      refine pz_ 25 85 27 67108863 ?_
      refine last_ (i := 26) (N := none) (bm 27 134217727) rfl rfl (one_of HT_.out (by kernel_rfl)) (by decide) (fun K hK => ?_)
      have hs112 : w110.cell? ⟨a6, 1, none⟩ = some (.slice e4 e2.length e5) := bl_ b1 1
      have hfs112 := blk_frozen b1.out 1
      have s5 := c4.out; have s6 := e6.out; have s7 := e7.out; have s8 := e8.out; have s9 := d4.out; have t0 := d5.out; have t1 := d6.out; have t2 := d7.out
      refine skip_ (w1 := ?_) (by rfl) rfl ?_ ?_
      rotate_left
      ·go_simp
       rfl
      refine hK.out _ _ ?_
      clear hK K
      refine done_ (done_of HT_.out (by kernel_rfl)) ?_
      obtain ⟨A0, A2⟩ := nn_ d4; obtain ⟨A5, A6⟩ := nn_ d5; obtain ⟨A7, A8⟩ := nn_ d6; obtain ⟨A9, B0⟩ := nn_ d7
      obtain ⟨t3, t4, t5, t6⟩ := bc2_ b1
      obtain ⟨B1, B2⟩ := nn_ i5; obtain ⟨B3, B4⟩ := nn_ i6; obtain ⟨B5, B6⟩ := nn_ c0
      obtain ⟨t7, t8, t9, u0⟩ := bc2_ a3
      try go_wp2
      refine bodyPost_ret (results_ct rfl _ _ b9 29 #[.int .i64 f6, .slice m4 n8.length m5] (0, 0) _ rfl (by (with_reducible repeat (first | refine blk_drewN ?_ _ | refine blk_drew ?_ | refine blk_alloc ?_ _)); refine blk_put (cs := #[.int .i64 f6, .slice none 0 0]) ?_ 1 _ rfl; (with_reducible repeat (first | refine blk_drewN ?_ _ | refine blk_drew ?_ | refine blk_alloc ?_ _)); refine blk_put (cs := #[.int .i64 0, .slice none 0 0]) ?_ 0 _ rfl; exact qf_ a3) Try.underlying29 rfl (by kernel_rfl)) rfl ?_
      exact ⟨_, qr_, by (with_reducible repeat (first | apply Kd.R_alloc | apply Kd.R_drewN | apply Kd.R_drew)); exact Kd.R_mono (Kd.R_far (p := ⟨b9, 1, none⟩) (Kd.R_far (p := ⟨b9, 0, none⟩) (Kd.R_far (p := ⟨a6, 1, none⟩) (Kd.R_types (Kd.R_types o6.out b1.out (by decide)) a3.out (by decide)) (fun _ hk => hk.1.2) (.slice m4 n8.length m5)) (fun _ hk => hk.2) (.int .i64 f6)) (fun _ hk => hk.2) (.slice m4 n8.length m5)) (fun _ hk => trivial), qB_⟩
     refine ig_ H ?_; clear H; intro c42b0 H
     obtain ⟨B7, A43, H⟩ := bs_ H
     refine ie_ H ?_ ?_ <;> clear H <;> rintro rfl H
     ·have H' := am_ H; clear H
      try go_wp2
      replace a5 := am_ (Kd.R_drew a5.out); replace a2 := am_ (Kd.R_drew a2.out); replace a0 := am_ (blk_drew a0.out); replace a1 := am_ (blk_drew a1.out); replace a3 := am_ (blk_drew a3.out); replace a4 := am_ (blk_drew a4.out); replace HB := am_ (below_drew1 HB.out)
      have p567 := dp_ x9_2
      have q567 := dl_ x9_2 l0_1.length
      obtain ⟨ad567, e567, f8, f9, g0, g1⟩ := at_T72 HR0_1.out x9_2 p567 q567
      have h5 := g1; have h6 := g0; have h7 := f9; have h8 := f8; cases e567
      replace f8 := qx_ HB f8
      replace f9 := qx_ HB f9
      replace g0 := qx_ HB g0
      replace g1 := qx_ HB g1
      replace p567 := eq_true p567; replace q567 := eq_true q567
      have p568 := dp_ x9_2
      have q568 := dl_ x9_2 l0_1.length
      obtain ⟨ad568, e568, g2, g3, g4, g5⟩ := at_T72 HR0_1.out x9_2 p568 q568
      have h9 := g5; have i0 := g4; have i1 := g3; have i2 := g2
      obtain rfl : ad567 = ad568 := (by injection e568)
      replace g2 := qx_ HB g2
      replace g3 := qx_ HB g3
      replace g4 := qx_ HB g4
      replace g5 := qx_ HB g5
      replace p568 := eq_true p568; replace q568 := eq_true q568
      refine start_ (n := 22) (S := fun w' => w'.cell? ⟨a9, 0, none⟩ = some (.int .i64 a0_0) ∧ w'.cell? ⟨a9, 1, none⟩ = some (.slice (some ad567) l0_1.length c0_1) ∧ w'.cell? ⟨b0, 0, none⟩ = some (.int .i64 a1_0) ∧ w'.cell? ⟨b0, 1, none⟩ = some (.int .i64 a1_1) ∧ w'.cell? (ad567.add ((x9_2).toNat * 4)) = some (.int .i64 ((rd_T72 l0_1 x9_2).f0)) ∧ w'.cell? ⟨(ad567.add ((x9_2).toNat * 4)).block, (ad567.add ((x9_2).toNat * 4)).off + 1, none⟩ = some (.int .i64 ((rd_T72 l0_1 x9_2).f1)) ∧ w'.cell? ⟨(ad567.add ((x9_2).toNat * 4)).block, (ad567.add ((x9_2).toNat * 4)).off + 2, none⟩ = some (.int .i64 ((rd_T72 l0_1 x9_2).f2)) ∧ w'.cell? ⟨(ad567.add ((x9_2).toNat * 4)).block, (ad567.add ((x9_2).toNat * 4)).off + 3, none⟩ = some (.bool ((rd_T72 l0_1 x9_2).f3)) ∧ w'.cell? (ad567.add ((x9_2).toNat * 4)) = some (.int .i64 ((rd_T72 l0_1 x9_2).f0)) ∧ w'.cell? ⟨(ad567.add ((x9_2).toNat * 4)).block, (ad567.add ((x9_2).toNat * 4)).off + 1, none⟩ = some (.int .i64 ((rd_T72 l0_1 x9_2).f1)) ∧ w'.cell? ⟨(ad567.add ((x9_2).toNat * 4)).block, (ad567.add ((x9_2).toNat * 4)).off + 2, none⟩ = some (.int .i64 ((rd_T72 l0_1 x9_2).f2)) ∧ w'.cell? ⟨(ad567.add ((x9_2).toNat * 4)).block, (ad567.add ((x9_2).toNat * 4)).off + 3, none⟩ = some (.bool ((rd_T72 l0_1 x9_2).f3))) (ds := []) (bm 22 0) (by kernel_rfl) rfl (by kernel_rfl) ⟨bl_ a0 0, bl_ a0 1, bl_ a1 0, bl_ a1 1, ((qx_ HB h8).trans rfl), ((qx_ HB h7).trans rfl), ((qx_ HB h6).trans rfl), ((qx_ HB h5).trans rfl), ((qx_ HB i2).trans rfl), ((qx_ HB i1).trans rfl), ((qx_ HB i0).trans rfl), ((qx_ HB h9).trans rfl)⟩ (fun hHeld => ?_); refine with_tabW impl_WebAdd.tab6 impl_WebAdd.bits6 (fun HT_ HW_ => ?_)
      generalize wr.drew = w45 at a5 a2 a0 a1 a3 a4 HB f8 f9 g0 g1 g2 g3 g4 g5 hHeld ⊢
      refine pz_ 0 28 22 1 ?_; refine pz_ 1 29 22 3 ?_; refine tz12_ 2 30 (bm 22 7) ?_; refine pz_ 3 31 22 15 ?_; refine pz_ 4 32 22 31 ?_; refine pz_ 5 33 22 63 ?_; refine pz_ 6 34 22 127 ?_; refine pz_ 8 36 22 383 ?_; refine pz_ 12 40 22 4479 ?_; refine pz_ 14 42 22 20863 ?_; refine tz12_ 7 35 (bm 22 20991) ?_; refine pz_ 9 37 22 21503 ?_; refine pz_ 10 38 22 22527 ?_; refine tz12_ 11 39 (bm 22 24575) ?_; refine tz12_ 13 41 (bm 22 32767) ?_; refine pz_ 15 43 22 65535 ?_; refine pz_ 16 44 22 131071 ?_; refine tz12_ 17 45 (bm 22 262143) ?_; refine pz_ 18 46 22 524287 ?_; refine tz12_ 19 47 (bm 22 1048575) ?_
      refine o1_ 20 (some 48) 22 2097151 (fun K hK => ?_)
      refine gs_ Try.func90 #[.agg #[.int .i64 ((rd_T72 l0_1 x9_2).f0), .int .i64 ((rd_T72 l0_1 x9_2).f1)], .agg #[.int .i64 a1_0, .int .i64 a1_1]] ?_
      with_reducible refine (impl_ahead.calls ((rd_T72 l0_1 x9_2).f0) ((rd_T72 l0_1 x9_2).f1) a1_0 a1_1 true _ A43.out).mono ?_
      rintro e w46 ⟨rfl, hb⟩
      refine ⟨_, rfl, ?_⟩
      replace a5 := kb_ a5 hb; replace a2 := kb_ a2 hb; replace a0 := qbl_ a0 hb; replace a1 := qbl_ a1 hb; replace a3 := qbl_ a3 hb; replace a4 := qbl_ a4 hb; replace HB := hs_ hb; (try clear hb); (try clear hb2); (try clear hk); (try clear hi)
      refine hK.out _ _ ⟨bl_ a0 0, bl_ a0 1, bl_ a1 0, bl_ a1 1, ((qx_ HB h8).trans rfl), ((qx_ HB h7).trans rfl), ((qx_ HB h6).trans rfl), ((qx_ HB h5).trans rfl), ((qx_ HB i2).trans rfl), ((qx_ HB i1).trans rfl), ((qx_ HB i0).trans rfl), ((qx_ HB h9).trans rfl)⟩ (fun hHeld => ?_)
      clear hK K
      refine nm_ 48 ?_
      refine pz_ 21 49 22 4194303 ?_
      refine done_ (done_of HT_.out (by kernel_rfl)) ?_
      try go_wp2
      go_roundg k2
      case measure => have := D4.out; have := HK2.out; omega
      case rel => exact ⟨(wrap64 (x9_2 + 1)), qe_, H', ⟨by have := D4.out; have := HK2.out; omega⟩, ⟨ra_ a5⟩, ⟨ra_ a2⟩, ⟨qk_ a0⟩, ⟨qk_ a1⟩, ⟨qk_ a3⟩, ⟨qk_ a4⟩, ⟨qB_⟩⟩
     have c47b0 := eq_true (of_decide_eq_true qa_ : 0 ≤ x9_2)
     refine jg_ H ?_; clear H; intro c48 H
     have c48b0 := eq_true c48
     have c48b1 := decide_eq_true c48
     clear c48
     obtain ⟨j8, hy570⟩ : ∃ y_ : List (S72), y_ = (l0_1.take (x9_2 : Int).toNat) := ⟨_, rfl⟩
     replace H : ((impl_copyWeb.f a0_0 j8).bind fun m6 => (if 0 ≤ a1_0 then (if a1_0 < (b4.length : Int) then (if 0 ≤ a1_1 then (if a1_1 < (b4.length : Int) then (if m6.2.length < 4398046511104 then ((some (m6.2 ++ [(⟨a1_0, a1_1, 0, ((rd b4 a1_0) != (rd b4 a1_1))⟩ : S72)] : List (S72))).bind fun i8 => ((some (l0_1.drop (x9_2 : Int).toNat : List (S72))).bind fun h1 => (if i8.length + h1.length < 4398046511104 then (some (m6.1, (i8 ++ h1), true)) else (none)))) else (none)) else (none)) else (none)) else (none)) else (none))) = some (r1, r2, r3) := hq_ hy570 H
     have Ny570 := am_ hy570
     clear hy570
     replace H := Option.bind_eq_some_iff.mp H
     obtain ⟨⟨f7, e3⟩, u2, H⟩ := H
     replace H : (if 0 ≤ a1_0 then (if a1_0 < (b4.length : Int) then (if 0 ≤ a1_1 then (if a1_1 < (b4.length : Int) then (if e3.length < 4398046511104 then ((some (e3 ++ [(⟨a1_0, a1_1, 0, ((rd b4 a1_0) != (rd b4 a1_1))⟩ : S72)] : List (S72))).bind fun i8 => ((some (l0_1.drop (x9_2 : Int).toNat : List (S72))).bind fun h1 => (if i8.length + h1.length < 4398046511104 then (some (f7, (i8 ++ h1), true)) else (none)))) else (none)) else (none)) else (none)) else (none)) else (none)) = some (r1, r2, r3) := H
     have A49 := am_ u2
     clear u2
     refine ig_ H ?_; clear H; intro c50b0 H
     refine ig_ H ?_; clear H; intro c51b0 H
     refine ig_ H ?_; clear H; intro c52b0 H
     refine ig_ H ?_; clear H; intro c53b0 H
     refine jg_ H ?_; clear H; intro c54 H
     have LMc54 := am_ c54
     clear c54
     obtain ⟨i8, hy581⟩ : ∃ y_ : List (S72), y_ = (e3 ++ [(⟨a1_0, a1_1, 0, ((rd b4 a1_0) != (rd b4 a1_1))⟩ : S72)]) := ⟨_, rfl⟩
     replace H : ((some (l0_1.drop (x9_2 : Int).toNat : List (S72))).bind fun h1 => (if i8.length + h1.length < 4398046511104 then (some (f7, (i8 ++ h1), true)) else (none))) = some (r1, r2, r3) := hq_ hy581 H
     have Ny581 := am_ hy581
     clear hy581
     have c55b0 := eq_true (of_decide_eq_true qa_ : 0 ≤ x9_2)
     have c56b0 := eq_true (of_decide_eq_true qa_ : x9_2 ≤ (l0_1.length : Int))
     obtain ⟨h1, hy584⟩ : ∃ y_ : List (S72), y_ = (l0_1.drop (x9_2 : Int).toNat) := ⟨_, rfl⟩
     replace H : (if i8.length + h1.length < 4398046511104 then (some (f7, (i8 ++ h1), true)) else (none)) = some (r1, r2, r3) := hq_ hy584 H
     have Ny584 := am_ hy584
     clear hy584
     refine jg_ H ?_; clear H; intro c57 H
     have LMc57 := am_ c57
     clear c57
     obtain ⟨n9, hy588⟩ : ∃ y_ : List (S72), y_ = (i8 ++ h1) := ⟨_, rfl⟩
     replace H : (some (f7, n9, true)) = some (r1, r2, r3) := hq_ hy588 H
     have Ny588 := am_ hy588
     clear hy588
     simp only [Option.some.injEq, Prod.mk.injEq] at H
     obtain ⟨rfl, rfl, rfl⟩ := H
     try go_wp2
     replace a5 := am_ (Kd.R_drew a5.out); replace a2 := am_ (Kd.R_drew a2.out); replace a0 := am_ (blk_drew a0.out); replace a1 := am_ (blk_drew a1.out); replace a3 := am_ (blk_drew a3.out); replace a4 := am_ (blk_drew a4.out); replace HB := am_ (below_drew1 HB.out)
     have p567 := dp_ x9_2
     have q567 := dl_ x9_2 l0_1.length
     obtain ⟨ad567, e567, f8, f9, g0, g1⟩ := at_T72 HR0_1.out x9_2 p567 q567
     have h5 := g1; have h6 := g0; have h7 := f9; have h8 := f8; cases e567
     replace f8 := qx_ HB f8
     replace f9 := qx_ HB f9
     replace g0 := qx_ HB g0
     replace g1 := qx_ HB g1
     replace p567 := eq_true p567; replace q567 := eq_true q567
     have p568 := dp_ x9_2
     have q568 := dl_ x9_2 l0_1.length
     obtain ⟨ad568, e568, g2, g3, g4, g5⟩ := at_T72 HR0_1.out x9_2 p568 q568
     have h9 := g5; have i0 := g4; have i1 := g3; have i2 := g2
     obtain rfl : ad567 = ad568 := (by injection e568)
     replace g2 := qx_ HB g2
     replace g3 := qx_ HB g3
     replace g4 := qx_ HB g4
     replace g5 := qx_ HB g5
     replace p568 := eq_true p568; replace q568 := eq_true q568
     refine start_ (n := 22) (S := fun w' => w'.cell? ⟨a9, 0, none⟩ = some (.int .i64 a0_0) ∧ w'.cell? ⟨a9, 1, none⟩ = some (.slice (some ad567) l0_1.length c0_1) ∧ w'.cell? ⟨b0, 0, none⟩ = some (.int .i64 a1_0) ∧ w'.cell? ⟨b0, 1, none⟩ = some (.int .i64 a1_1) ∧ w'.cell? (ad567.add ((x9_2).toNat * 4)) = some (.int .i64 ((rd_T72 l0_1 x9_2).f0)) ∧ w'.cell? ⟨(ad567.add ((x9_2).toNat * 4)).block, (ad567.add ((x9_2).toNat * 4)).off + 1, none⟩ = some (.int .i64 ((rd_T72 l0_1 x9_2).f1)) ∧ w'.cell? ⟨(ad567.add ((x9_2).toNat * 4)).block, (ad567.add ((x9_2).toNat * 4)).off + 2, none⟩ = some (.int .i64 ((rd_T72 l0_1 x9_2).f2)) ∧ w'.cell? ⟨(ad567.add ((x9_2).toNat * 4)).block, (ad567.add ((x9_2).toNat * 4)).off + 3, none⟩ = some (.bool ((rd_T72 l0_1 x9_2).f3)) ∧ w'.cell? (ad567.add ((x9_2).toNat * 4)) = some (.int .i64 ((rd_T72 l0_1 x9_2).f0)) ∧ w'.cell? ⟨(ad567.add ((x9_2).toNat * 4)).block, (ad567.add ((x9_2).toNat * 4)).off + 1, none⟩ = some (.int .i64 ((rd_T72 l0_1 x9_2).f1)) ∧ w'.cell? ⟨(ad567.add ((x9_2).toNat * 4)).block, (ad567.add ((x9_2).toNat * 4)).off + 2, none⟩ = some (.int .i64 ((rd_T72 l0_1 x9_2).f2)) ∧ w'.cell? ⟨(ad567.add ((x9_2).toNat * 4)).block, (ad567.add ((x9_2).toNat * 4)).off + 3, none⟩ = some (.bool ((rd_T72 l0_1 x9_2).f3))) (ds := []) (bm 22 0) (by kernel_rfl) rfl (by kernel_rfl) ⟨bl_ a0 0, bl_ a0 1, bl_ a1 0, bl_ a1 1, ((qx_ HB h8).trans rfl), ((qx_ HB h7).trans rfl), ((qx_ HB h6).trans rfl), ((qx_ HB h5).trans rfl), ((qx_ HB i2).trans rfl), ((qx_ HB i1).trans rfl), ((qx_ HB i0).trans rfl), ((qx_ HB h9).trans rfl)⟩ (fun hHeld => ?_); refine with_tabW impl_WebAdd.tab6 impl_WebAdd.bits6 (fun HT_ HW_ => ?_)
     generalize wr.drew = w58 at a5 a2 a0 a1 a3 a4 HB f8 f9 g0 g1 g2 g3 g4 g5 hHeld ⊢
     refine pz_ 0 28 22 1 ?_; refine pz_ 1 29 22 3 ?_; refine tz12_ 2 30 (bm 22 7) ?_; refine pz_ 3 31 22 15 ?_; refine pz_ 4 32 22 31 ?_; refine pz_ 5 33 22 63 ?_; refine pz_ 6 34 22 127 ?_; refine pz_ 8 36 22 383 ?_; refine pz_ 12 40 22 4479 ?_; refine pz_ 14 42 22 20863 ?_; refine tz12_ 7 35 (bm 22 20991) ?_; refine pz_ 9 37 22 21503 ?_; refine pz_ 10 38 22 22527 ?_; refine tz12_ 11 39 (bm 22 24575) ?_; refine tz12_ 13 41 (bm 22 32767) ?_; refine pz_ 15 43 22 65535 ?_; refine pz_ 16 44 22 131071 ?_; refine tz12_ 17 45 (bm 22 262143) ?_; refine pz_ 18 46 22 524287 ?_; refine tz12_ 19 47 (bm 22 1048575) ?_
     refine o1_ 20 (some 48) 22 2097151 (fun K hK => ?_)
     refine gs_ Try.func90 #[.agg #[.int .i64 ((rd_T72 l0_1 x9_2).f0), .int .i64 ((rd_T72 l0_1 x9_2).f1)], .agg #[.int .i64 a1_0, .int .i64 a1_1]] ?_
     with_reducible refine (impl_ahead.calls ((rd_T72 l0_1 x9_2).f0) ((rd_T72 l0_1 x9_2).f1) a1_0 a1_1 false _ A43.out).mono ?_
     rintro e w59 ⟨rfl, hb⟩
     refine ⟨_, rfl, ?_⟩
     replace a5 := kb_ a5 hb; replace a2 := kb_ a2 hb; replace a0 := qbl_ a0 hb; replace a1 := qbl_ a1 hb; replace a3 := qbl_ a3 hb; replace a4 := qbl_ a4 hb; replace HB := hs_ hb; (try clear hb); (try clear hb2); (try clear hk); (try clear hi)
     refine hK.out _ _ ⟨bl_ a0 0, bl_ a0 1, bl_ a1 0, bl_ a1 1, ((qx_ HB h8).trans rfl), ((qx_ HB h7).trans rfl), ((qx_ HB h6).trans rfl), ((qx_ HB h5).trans rfl), ((qx_ HB i2).trans rfl), ((qx_ HB i1).trans rfl), ((qx_ HB i0).trans rfl), ((qx_ HB h9).trans rfl)⟩ (fun hHeld => ?_)
     clear hK K
     refine nm_ 48 ?_
     refine pz_ 21 49 22 4194303 ?_
     refine done_ (done_of HT_.out (by kernel_rfl)) ?_
     try go_wp2
     replace a5 := am_ (Kd.R_drew a5.out); replace a2 := am_ (Kd.R_drew a2.out); replace a0 := am_ (blk_drew a0.out); replace a1 := am_ (blk_drew a1.out); replace a3 := am_ (blk_drew a3.out); replace a4 := am_ (blk_drew a4.out); replace HB := am_ (below_drew1 HB.out)
     have q61 : (x9_2 : Int) ≤ ((l0_1.length : Int) : Int) := of_decide_eq_true qa_
     obtain ⟨i061, hi061, _, hsz61, _⟩ := info_parts info72
     have hroom61 : l0_1.length ≤ c0_1 := HC0_1.out
     have hC61 : Kd.C k72 _ (some ad567) l0_1.length l0_1 := HR0_1.out
     have hcut61 := cut_to (P := Try.prog) 27 72 .i64 Try.underlying27 hi061 (some ad567) l0_1.length c0_1 x9_2 (of_decide_eq_true qa_) q61 hroom61
     have hr61 := Kd.C_take (m := (x9_2 : Int).toNat) hC61 (by omega)
     have hy61 : j8.length = (x9_2 : Int).toNat := (by rw [Ny570.out, List.length_take]; omega)
     rw [← Ny570.out] at hr61
     rw [← hy61] at hcut61
     have m7 := am_ hr61
     have o8 := am_ (show j8.length ≤ c0_1 from by omega)
     clear hr61 hC61 hroom61 hi061 hsz61
     have KY61 := am_ hy61
     clear hy61; replace q61 := eq_true q61
     refine start_ (n := 10) (S := fun w' => w'.cell? ⟨a9, 0, none⟩ = some (.int .i64 a0_0) ∧ w'.cell? ⟨a9, 1, none⟩ = some (.slice (some ad567) l0_1.length c0_1)) (ds := []) (bm 10 0) (by kernel_rfl) rfl (by kernel_rfl) ⟨bl_ a0 0, bl_ a0 1⟩ (fun hHeld => ?_); refine with_tabW impl_WebAdd.tab8 impl_WebAdd.bits8 (fun HT_ HW_ => ?_)
     generalize w59.drew = w60 at a5 a2 a0 a1 a3 a4 HB m7 hHeld ⊢
     refine pz_ 0 52 10 1 ?_; refine pz_ 2 54 10 5 ?_; refine pz_ 4 56 10 21 ?_; refine tz2_ 1 53 10 23 ?_; refine tz2_ 3 55 10 31 ?_; refine pz_ 5 57 10 63 ?_; refine pz_ 6 58 10 127 ?_
     refine join_ (σ := Value × Nat) 1 #[true, true, true, true, true, true, true, true, true, false] (fun s_ => [(59, .agg #[.int .i64 f7, s_.1]), (10, .pointer (some ⟨s_.2, 0, none⟩))]) (fun s_ w' => (w'.cell? ⟨a9, 0, none⟩ = some (.int .i64 a0_0) ∧ w'.cell? ⟨a9, 1, none⟩ = some (.slice (some ad567) l0_1.length c0_1)) ∧ (Kd.R k72 72 w' w.heap.size (fun _ => True) s_.1 e3) ∧ (Kd.R k43 43 w' w.heap.size (fun k_ => k_ ≠ b0) (.slice g8 c7.length g9) c7) ∧ (Kd.R (Kd.int .i64) 3 w' w.heap.size (fun _ => True) j6 b4) ∧ (w'.heap[a9]? = some (.cells #[.int .i64 a0_0, .slice (some ad567) l0_1.length c0_1] 29 (0, 0))) ∧ (w'.heap[b0]? = some (.cells #[.int .i64 a1_0, .int .i64 a1_1] 43 (0, 0))) ∧ (w'.heap[b9]? = some (.cells #[.int .i64 0, .slice none 0 0] 29 (0, 0))) ∧ (w'.heap[a8]? = some (.cells #[.int .i64 g7, .slice g8 c7.length g9] 69 (0, 0))) ∧ (w'.heap[s_.2]? = some (.cells #[.int .i64 0, .slice none 0 0] 29 (0, 0))) ∧ (w.heap.size ≤ s_.2) ∧ (w.heap.size ≤ s_.2) ∧ (a9 ≠ s_.2) ∧ (s_.2 ≠ a9) ∧ (b0 ≠ s_.2) ∧ (s_.2 ≠ b0) ∧ (b9 ≠ s_.2) ∧ (s_.2 ≠ b9) ∧ (a8 ≠ s_.2) ∧ (s_.2 ≠ a8) ∧ (Below w.heap.size w w')) ?_ ?_
     rotate_left
     ·intro hCont
      refine two_ (i := 7) (j := 8) (Ni := some 59) (Nj := some 10) (bm 10 255) #[true, true, true, true, true, true, true, false, true, false] rfl rfl rfl rfl (two_of HT_.out (by kernel_rfl)) (by decide) (by decide) (fun K hK => ?_) (fun K hK => ?_)
      ·skip
       refine gs_ Try.func91 #[.agg #[.int .i64 a0_0, .slice (some ad567) j8.length c0_1]] ?_
       with_reducible refine (impl_copyWeb.calls a0_0 _ _ j8 f7 e3 _ ?side1 ?side2 A49.out).mono ?_
       (case side1 => exact qC_ m7 HB)
       (case side2 => exact o8.out)
       rintro e w62 ⟨m8, rfl, ho0, hb⟩
       refine ⟨_, rfl, ?_⟩
       have b6 := am_ (Kd.R_lower ho0 (below_size qB_)); replace a5 := kb_ a5 hb; replace a2 := kb_ a2 hb; replace a0 := qbl_ a0 hb; replace a1 := qbl_ a1 hb; replace a3 := qbl_ a3 hb; replace a4 := qbl_ a4 hb; replace HB := hs_ hb; (try clear hb); (try clear hb2); (try clear hk); (try clear hi); (try clear ho0)
       refine hK.out _ _ ⟨bl_ a0 0, bl_ a0 1⟩ (fun hHeld => ?_)
       clear hK K
       refine nm_ 59 ?_
       refine o1_ 8 (some 10) 10 511 (fun K hK => ?_)
       refine box_step ?hg (N := 10) ?hd (cs := #[.int .i64 0, .slice none 0 0]) (t := 29) ?hr ?_; (case hd => rfl); (case hg => rfl); (case hr => first | (go_simp; done) | (go_simp; rfl))
       intro a7 hg w63 hbox hb
       have b2 := am_ (hbox); have l3 := gw_ hg; have l4 := gw_ hg; have c5 := (qn_ a0 hg).1; have d8 := (qn_ a0 hg).2; have e9 := (qn_ a1 hg).1; have d9 := (qn_ a1 hg).2; have f4 := (qn_ a3 hg).1; have e0 := (qn_ a3 hg).2; have f5 := (qn_ a4 hg).1; have e1 := (qn_ a4 hg).2; replace a5 := kb_ a5 hb; replace a2 := kb_ a2 hb; replace b6 := kb_ b6 hb; replace a0 := qbl_ a0 hb; replace a1 := qbl_ a1 hb; replace a3 := qbl_ a3 hb; replace a4 := qbl_ a4 hb; replace HB := hs_ hb; clear hb hbox hg
       refine hK.out _ _ ⟨bl_ a0 0, bl_ a0 1⟩ (fun hHeld => ?_)
       clear hK K
       refine nm_ 10 ?_
       exact norm_ (by simp only [putAll, Act.put, sA_, sB_, sC_]) (hCont (m8, a7) _ ⟨hHeld, (qR_ b6), (qR_ a2), (qR_ a5), (qk_ a0), (qk_ a1), (qk_ a3), (qk_ a4), (qk_ b2), l3.out, l4.out, c5.out, d8.out, e9.out, d9.out, f4.out, e0.out, f5.out, e1.out, qB_⟩)
      skip
      refine box_step ?hg (N := 10) ?hd (cs := #[.int .i64 0, .slice none 0 0]) (t := 29) ?hr ?_; (case hd => rfl); (case hg => rfl); (case hr => first | (go_simp; done) | (go_simp; rfl))
      intro a7 hg w62 hbox hb
      have b2 := am_ (hbox); have l3 := gw_ hg; have l4 := gw_ hg; have c5 := (qn_ a0 hg).1; have d8 := (qn_ a0 hg).2; have e9 := (qn_ a1 hg).1; have d9 := (qn_ a1 hg).2; have f4 := (qn_ a3 hg).1; have e0 := (qn_ a3 hg).2; have f5 := (qn_ a4 hg).1; have e1 := (qn_ a4 hg).2; replace a5 := kb_ a5 hb; replace a2 := kb_ a2 hb; replace a0 := qbl_ a0 hb; replace a1 := qbl_ a1 hb; replace a3 := qbl_ a3 hb; replace a4 := qbl_ a4 hb; replace HB := hs_ hb; clear hb hbox hg
      refine hK.out _ _ ⟨bl_ a0 0, bl_ a0 1⟩ (fun hHeld => ?_)
      clear hK K
      refine nm_ 10 ?_
      refine o1_ 7 (some 59) 10 511 (fun K hK => ?_)
      refine gs_ Try.func91 #[.agg #[.int .i64 a0_0, .slice (some ad567) j8.length c0_1]] ?_
      with_reducible refine (impl_copyWeb.calls a0_0 _ _ j8 f7 e3 _ ?side1 ?side2 A49.out).mono ?_
      (case side1 => exact qC_ m7 HB)
      (case side2 => exact o8.out)
      rintro e w63 ⟨m8, rfl, ho0, hb⟩
      refine ⟨_, rfl, ?_⟩
      have b6 := am_ (Kd.R_lower ho0 (below_size qB_)); replace a5 := kb_ a5 hb; replace a2 := kb_ a2 hb; replace a0 := qbl_ a0 hb; replace a1 := qbl_ a1 hb; replace a3 := qbl_ a3 hb; replace a4 := qbl_ a4 hb; replace b2 := qbl_ b2 hb; replace HB := hs_ hb; (try clear hb); (try clear hb2); (try clear hk); (try clear hi); (try clear ho0)
      refine hK.out _ _ ⟨bl_ a0 0, bl_ a0 1⟩ (fun hHeld => ?_)
      clear hK K
      refine nm_ 59 ?_
      exact norm_ (by simp only [putAll, Act.put, sA_, sB_, sC_]) (hCont (m8, a7) _ ⟨hHeld, (qR_ b6), (qR_ a2), (qR_ a5), (qk_ a0), (qk_ a1), (qk_ a3), (qk_ a4), (qk_ b2), l3.out, l4.out, c5.out, d8.out, e9.out, d9.out, f4.out, e0.out, f5.out, e1.out, qB_⟩)
     rintro ⟨m8, a7⟩ w64 ⟨hS_, h0_, h1_, h2_, h3_, h4_, h5_, h6_, h7_, h8_, h9_, h10_, h11_, h12_, h13_, h14_, h15_, h16_, h17_, h18_⟩
     have n0_ : Aside0 (Kd.R k72 72 w64 w.heap.size (fun _ => True) m8 e3) := ⟨h0_⟩
     have n1_ : Aside0 (Kd.R k43 43 w64 w.heap.size (fun k_ => k_ ≠ b0) (.slice g8 c7.length g9) c7) := ⟨h1_⟩
     have n2_ : Aside0 (Kd.R (Kd.int .i64) 3 w64 w.heap.size (fun _ => True) j6 b4) := ⟨h2_⟩
     have n3_ : Aside0 (w64.heap[a9]? = some (.cells #[.int .i64 a0_0, .slice (some ad567) l0_1.length c0_1] 29 (0, 0))) := ⟨h3_⟩
     have n4_ : Aside0 (w64.heap[b0]? = some (.cells #[.int .i64 a1_0, .int .i64 a1_1] 43 (0, 0))) := ⟨h4_⟩
     have n5_ : Aside0 (w64.heap[b9]? = some (.cells #[.int .i64 0, .slice none 0 0] 29 (0, 0))) := ⟨h5_⟩
     have n6_ : Aside0 (w64.heap[a8]? = some (.cells #[.int .i64 g7, .slice g8 c7.length g9] 69 (0, 0))) := ⟨h6_⟩
     have n7_ : Aside0 (w64.heap[a7]? = some (.cells #[.int .i64 0, .slice none 0 0] 29 (0, 0))) := ⟨h7_⟩
     have n8_ : Aside0 (w.heap.size ≤ a7) := ⟨h8_⟩
     have n9_ : Aside0 (w.heap.size ≤ a7) := ⟨h9_⟩
     have n10_ : Aside0 (a9 ≠ a7) := ⟨h10_⟩
     have n11_ : Aside0 (a7 ≠ a9) := ⟨h11_⟩
     have n12_ : Aside0 (b0 ≠ a7) := ⟨h12_⟩
     have n13_ : Aside0 (a7 ≠ b0) := ⟨h13_⟩
     have n14_ : Aside0 (b9 ≠ a7) := ⟨h14_⟩
     have n15_ : Aside0 (a7 ≠ b9) := ⟨h15_⟩
     have n16_ : Aside0 (a8 ≠ a7) := ⟨h16_⟩
     have n17_ : Aside0 (a7 ≠ a8) := ⟨h17_⟩
     have n18_ : Aside0 (Below w.heap.size w w64) := ⟨h18_⟩
     clear a5; clear a2; clear a0; clear a1; clear a3; clear a4; clear HB; clear h0_ h1_ h2_ h3_ h4_ h5_ h6_ h7_ h8_ h9_ h10_ h11_ h12_ h13_ h14_ h15_ h16_ h17_ h18_; have b6 := n0_; have a2 := n1_; have a5 := n2_; have a0 := n3_; have a1 := n4_; have a3 := n5_; have a4 := n6_; have b2 := n7_; have l3 := n8_; have l4 := n9_; have c5 := n10_; have d8 := n11_; have e9 := n12_; have d9 := n13_; have f4 := n14_; have e0 := n15_; have f5 := n16_; have e1 := n17_; have HB := n18_; clear n0_ n1_ n2_ n3_ n4_ n5_ n6_ n7_ n8_ n9_ n10_ n11_ n12_ n13_ n14_ n15_ n16_ n17_ n18_
     have hHeld : w64.cell? ⟨a9, 0, none⟩ = some (.int .i64 a0_0) ∧ w64.cell? ⟨a9, 1, none⟩ = some (.slice (some ad567) l0_1.length c0_1) := hS_
     obtain ⟨h2, h3, u3⟩ := Kd.R_slice b6.out
     (first | subst u3 | (injection u3 with f1_ f2_ f3_; have f4_ := f1_.symm; have f5_ := f3_.symm; clear f1_ f2_ f3_; subst f4_; subst f5_))
     refine norm_ (a' := ?_) ?_ ?_
     rotate_left
     ·simp only [putAll, Act.put, sA_, sB_, sC_]
      rfl
     refine o1_ 9 none 10 1023 (fun K hK => ?_)
     have hs65 : w64.cell? ⟨a7, 0, none⟩ = some (.int .i64 0) := bl_ b2 0
     have hfs65 := blk_frozen b2.out 0
     have v8 := c5.out; have w2 := e9.out; have w3 := f4.out; have w4 := f5.out; have w5 := d8.out; have x0 := d9.out; have x1 := e0.out; have x2 := e1.out
     have hs67 : w64.cell? ⟨a7, 1, none⟩ = some (.slice none 0 0) := bl_ b2 1
     have hfs67 := blk_frozen b2.out 1
     have x3 := c5.out; have x4 := e9.out; have x5 := f4.out; have x6 := f5.out; have x7 := d8.out; have x8 := d9.out; have x9 := e0.out; have y0 := e1.out
     refine skip_ (w1 := ?_) (by rfl) rfl ?_ ?_
     rotate_left
     ·go_simp
      rfl
     refine hK.out _ _ ⟨((cell_far (p := ⟨a7, _, none⟩) c5.out _).trans (((cell_far (p := ⟨a7, _, none⟩) c5.out _).trans (hHeld.1)))), ((cell_far (p := ⟨a7, _, none⟩) c5.out _).trans (((cell_far (p := ⟨a7, _, none⟩) c5.out _).trans (hHeld.2))))⟩ (fun hHeld => ?_)
     clear hK K
     refine done_ (done_of HT_.out (by kernel_rfl)) ?_
     try go_wp2
     have n0_ : Aside0 (Kd.R (Kd.int .i64) 3 ((w64.setCell ⟨a7, 0, none⟩ (.int .i64 f7)).setCell ⟨a7, 1, none⟩ (.slice h2 e3.length h3)) w.heap.size (fun _ => True) j6 b4) := ⟨by (with_reducible repeat (first | apply Kd.R_alloc | apply Kd.R_drewN | apply Kd.R_drew)); exact Kd.R_mono (Kd.R_far (p := ⟨a7, 1, none⟩) (Kd.R_far (p := ⟨a7, 0, none⟩) (Kd.R_types a5.out b2.out (by decide)) (fun _ hk => hk.2) (.int .i64 f7)) (fun _ hk => hk.2) (.slice h2 e3.length h3)) (fun _ hk => trivial)⟩
     have n1_ : Aside0 (Kd.R k43 43 ((w64.setCell ⟨a7, 0, none⟩ (.int .i64 f7)).setCell ⟨a7, 1, none⟩ (.slice h2 e3.length h3)) w.heap.size (fun k_ => k_ ≠ b0) (.slice g8 c7.length g9) c7) := ⟨by (with_reducible repeat (first | apply Kd.R_alloc | apply Kd.R_drewN | apply Kd.R_drew)); exact Kd.R_mono (Kd.R_far (p := ⟨a7, 1, none⟩) (Kd.R_far (p := ⟨a7, 0, none⟩) (Kd.R_types a2.out b2.out (by decide)) (fun _ hk => hk.2) (.int .i64 f7)) (fun _ hk => hk.2) (.slice h2 e3.length h3)) (fun _ hk => hk.1)⟩
     have n2_ : Aside0 (Kd.R k72 72 ((w64.setCell ⟨a7, 0, none⟩ (.int .i64 f7)).setCell ⟨a7, 1, none⟩ (.slice h2 e3.length h3)) w.heap.size (fun _ => True) (.slice h2 e3.length h3) e3) := ⟨by (with_reducible repeat (first | apply Kd.R_alloc | apply Kd.R_drewN | apply Kd.R_drew)); exact Kd.R_mono (Kd.R_far (p := ⟨a7, 1, none⟩) (Kd.R_far (p := ⟨a7, 0, none⟩) (Kd.R_types b6.out b2.out (by decide)) (fun _ hk => hk.2) (.int .i64 f7)) (fun _ hk => hk.2) (.slice h2 e3.length h3)) (fun _ hk => trivial)⟩
     have n3_ : Aside0 (((w64.setCell ⟨a7, 0, none⟩ (.int .i64 f7)).setCell ⟨a7, 1, none⟩ (.slice h2 e3.length h3)).heap[a9]? = some (.cells #[.int .i64 a0_0, .slice (some ad567) l0_1.length c0_1] 29 (0, 0))) := ⟨qf_ a0⟩
     have n4_ : Aside0 (((w64.setCell ⟨a7, 0, none⟩ (.int .i64 f7)).setCell ⟨a7, 1, none⟩ (.slice h2 e3.length h3)).heap[b0]? = some (.cells #[.int .i64 a1_0, .int .i64 a1_1] 43 (0, 0))) := ⟨qf_ a1⟩
     have n5_ : Aside0 (((w64.setCell ⟨a7, 0, none⟩ (.int .i64 f7)).setCell ⟨a7, 1, none⟩ (.slice h2 e3.length h3)).heap[b9]? = some (.cells #[.int .i64 0, .slice none 0 0] 29 (0, 0))) := ⟨qf_ a3⟩
     have n6_ : Aside0 (((w64.setCell ⟨a7, 0, none⟩ (.int .i64 f7)).setCell ⟨a7, 1, none⟩ (.slice h2 e3.length h3)).heap[a8]? = some (.cells #[.int .i64 g7, .slice g8 c7.length g9] 69 (0, 0))) := ⟨qf_ a4⟩
     have n7_ : Aside0 (((w64.setCell ⟨a7, 0, none⟩ (.int .i64 f7)).setCell ⟨a7, 1, none⟩ (.slice h2 e3.length h3)).heap[a7]? = some (.cells #[.int .i64 f7, .slice h2 e3.length h3] 29 (0, 0))) := ⟨by (with_reducible repeat (first | refine blk_drewN ?_ _ | refine blk_drew ?_ | refine blk_alloc ?_ _)); refine blk_put (cs := #[.int .i64 f7, .slice none 0 0]) ?_ 1 _ rfl; (with_reducible repeat (first | refine blk_drewN ?_ _ | refine blk_drew ?_ | refine blk_alloc ?_ _)); refine blk_put (cs := #[.int .i64 0, .slice none 0 0]) ?_ 0 _ rfl; exact qf_ b2⟩
     have n8_ : Aside0 (Below w.heap.size w ((w64.setCell ⟨a7, 0, none⟩ (.int .i64 f7)).setCell ⟨a7, 1, none⟩ (.slice h2 e3.length h3))) := ⟨qB_⟩
     (try clear a5); (try clear a2); (try clear b6); (try clear a0); (try clear a1); (try clear a3); (try clear a4); (try clear b2); (try clear HB)
     generalize ((w64.setCell ⟨a7, 0, none⟩ (.int .i64 f7)).setCell ⟨a7, 1, none⟩ (.slice h2 e3.length h3)) = w68 at n0_ n1_ n2_ n3_ n4_ n5_ n6_ n7_ n8_ ⊢
     have a5 := n0_; have a2 := n1_; have b6 := n2_; have a0 := n3_; have a1 := n4_; have a3 := n5_; have a4 := n6_; have b2 := n7_; have HB := n8_; clear n0_ n1_ n2_ n3_ n4_ n5_ n6_ n7_ n8_
     replace a5 := am_ (Kd.R_drew a5.out); replace a2 := am_ (Kd.R_drew a2.out); replace b6 := am_ (Kd.R_drew b6.out); replace a0 := am_ (blk_drew a0.out); replace a1 := am_ (blk_drew a1.out); replace a3 := am_ (blk_drew a3.out); replace a4 := am_ (blk_drew a4.out); replace b2 := am_ (blk_drew b2.out); replace HB := am_ (below_drew1 HB.out)
     obtain ⟨G6, G7, u4⟩ := Kd.R_slice a5.out
     (first | subst u4 | (injection u4 with f1_ f2_ f3_; have f4_ := f1_.symm; have f5_ := f3_.symm; clear f1_ f2_ f3_; subst f4_; subst f5_))
     have p579 := dp_ a1_0
     have q579 := dl_ a1_0 b4.length
     obtain ⟨ad579, e579, l5⟩ := Kd.at_int (Kd.R_reads' a5.out).2.2 a1_0 p579 q579
     cases e579; replace p579 := eq_true p579; replace q579 := eq_true q579
     have p580 := dp_ a1_1
     have q580 := dl_ a1_1 b4.length
     obtain ⟨ad580, e580, l6⟩ := Kd.at_int (Kd.R_reads' a5.out).2.2 a1_1 p580 q580
     obtain rfl : ad579 = ad580 := (by injection e580)
     replace p580 := eq_true p580; replace q580 := eq_true q580
     have q71 : (x9_2 : Int) ≤ ((l0_1.length : Int) : Int) := of_decide_eq_true qa_
     obtain ⟨i071, hi071, _, hsz71, _⟩ := info_parts info72
     have hroom71 : l0_1.length ≤ c0_1 := HC0_1.out
     have hC71 : Kd.C k72 _ (some ad567) l0_1.length l0_1 := HR0_1.out
     have q071 : (0 : Int) ≤ (x9_2 : Int) := of_decide_eq_true qa_
     have hcut71 := cut_from (P := Try.prog) 27 72 .i64 Try.underlying27 hi071 4 hsz71 (some ad567) l0_1.length c0_1 x9_2 q071 q71
     have hr71 := Kd.C_drop (m := (x9_2 : Int).toNat) (c := c0_1) hC71 (by omega) hroom71
     obtain ⟨A71, hA71⟩ : ∃ A1, A1 = (if c0_1 = (x9_2 : Int).toNat then (some ad567) else ((some ad567) : Option Addr).map (·.add ((x9_2 : Int).toNat * 4))) := ⟨_, rfl⟩
     obtain ⟨c71, hc71⟩ : ∃ c1, c1 = c0_1 - (x9_2 : Int).toNat := ⟨_, rfl⟩
     have hy71 : h1.length = l0_1.length - (x9_2 : Int).toNat := (by rw [Ny584.out, List.length_drop] <;> omega)
     rw [show (l0_1).drop (x9_2 : Int).toNat = h1 from Ny584.out.symm] at hr71
     replace hr71 : Kd.C k72 _ A71 h1.length h1 := (by rw [hA71]; exact hr71)
     rw [← hy71, ← hA71, ← hc71] at hcut71
     have o9 := am_ hr71
     have F0 := am_ (show h1.length ≤ c71 from by rw [hy71, hc71]; exact Nat.sub_le_sub_right hroom71 _)
     clear hr71 hC71 hroom71 hi071 hsz71 hc71
     have KY71 := am_ hy71
     have KA71 := am_ hA71
     clear hy71 hA71; replace q71 := eq_true q71
     refine start_ (n := 27) (S := fun w' => w'.cell? ⟨a7, 0, none⟩ = some (.int .i64 f7) ∧ w'.cell? ⟨a7, 1, none⟩ = some (.slice h2 e3.length h3) ∧ w'.cell? ⟨b0, 0, none⟩ = some (.int .i64 a1_0) ∧ w'.cell? ⟨b0, 1, none⟩ = some (.int .i64 a1_1) ∧ w'.cell? ⟨a9, 0, none⟩ = some (.int .i64 a0_0) ∧ w'.cell? ⟨a9, 1, none⟩ = some (.slice (some ad567) l0_1.length c0_1) ∧ w'.cell? (ad579.add (a1_0).toNat) = some (.int .i64 (rd b4 a1_0)) ∧ w'.cell? (ad579.add (a1_1).toNat) = some (.int .i64 (rd b4 a1_1))) (ds := [26]) (bm 27 0) (by kernel_rfl) rfl (by kernel_rfl) ⟨bl_ b2 0, bl_ b2 1, bl_ a1 0, bl_ a1 1, bl_ a0 0, bl_ a0 1, l5, l6⟩ (fun hHeld => ?_); refine with_tabW impl_WebAdd.tab9 impl_WebAdd.bits9 (fun HT_ HW_ => ?_)
     generalize w68.drew = w69 at a5 a2 b6 a0 a1 a3 a4 b2 HB o9 l5 l6 hHeld ⊢
     refine pz_ 0 60 27 1 ?_; refine pz_ 2 62 27 5 ?_; refine pz_ 4 64 27 21 ?_; refine pz_ 6 66 27 85 ?_; refine pz_ 7 67 27 213 ?_; refine pz_ 11 71 27 2261 ?_; refine pz_ 12 72 27 6357 ?_; refine pz_ 20 80 27 1054933 ?_; refine pz_ 22 82 27 5249237 ?_; refine tz8_ 1 61 27 5249239 ?_; refine tz8_ 3 63 27 5249247 ?_; refine tz8_ 5 65 27 5249279 ?_; refine tz8_ 8 68 27 5249535 ?_; refine pz_ 9 69 27 5250047 ?_; refine tz8_ 10 70 27 5251071 ?_; refine tz8_ 13 73 27 5259263 ?_; refine pz_ 14 74 27 5275647 ?_; refine tz8_ 15 75 27 5308415 ?_; refine pz_ 16 76 27 5373951 ?_; refine pz_ 17 77 27 5505023 ?_; refine tz8_ 21 81 27 7602175 ?_; refine pz_ 23 83 27 15990783 ?_
     refine o1_ 18 (some 78) 27 16252927 (fun K hK => ?_)
     refine value_ (w1 := ?_) (v := ?_) (by rfl) rfl ?_ ?_
     rotate_left 2
     ·go_simp
      constructor
      ·rfl
      rfl
     refine hK.out _ _ ⟨(blk_cell (blk_alloc b2.out _) 0).trans rfl, (blk_cell (blk_alloc b2.out _) 1).trans rfl, (blk_cell (blk_alloc a1.out _) 0).trans rfl, (blk_cell (blk_alloc a1.out _) 1).trans rfl, (blk_cell (blk_alloc a0.out _) 0).trans rfl, (blk_cell (blk_alloc a0.out _) 1).trans rfl, (World.cell?_alloc_lt _ _ _ (World.block_lt_of_cell? _ _ (hHeld.2.2.2.2.2.2.1))).trans (hHeld.2.2.2.2.2.2.1), (World.cell?_alloc_lt _ _ _ (World.block_lt_of_cell? _ _ (hHeld.2.2.2.2.2.2.2))).trans (hHeld.2.2.2.2.2.2.2)⟩ (fun hHeld => ?_)
     clear hK K
     refine nm_ 78 ?_
     refine o1_ 19 (some 79) 27 16777215 (fun K hK => ?_)
     refine Kd.R_append_step k72 (w0 := w) w.heap.size (by rfl) (.tmp 61) (.tmp 78) 27 72 (.agg #[(.int .i64 0), (.int .i64 0), (.int .i64 0), (.bool false)]) 32 rfl Try.underlying27 info72 rfl (by decide) (by omega) (.slice h2 e3.length h3) e3 (⟨a1_0, a1_1, 0, ((rd b4 a1_0) != (rd b4 a1_1))⟩ : S72) [.int .i64 a1_0, .int .i64 a1_1, .int .i64 0, .bool ((rd b4 a1_0) != (rd b4 a1_1))] (fun _ => True) (fun _ => False) rfl rfl ?aP (fun _ hk => hk.elim) ?aF ?aO ?aB ?aS ?aL ?_
     (case aP => exact k72_mkM _ _ _ (⟨a1_0, a1_1, 0, ((rd b4 a1_0) != (rd b4 a1_1))⟩ : S72))
     (case aB => exact qB_)
     (case aF => exact (fun _ _ => trivial))
     (case aO => exact (qR_ b6))
     (case aS => exact (below_size qB_))
     (case aL => have := LMc54.out; omega)
     intro B8 w72 ho hb hg hat
     (first | have HS6_ := cell_grown hg (hHeld.2.2.2.2.2.2.1) (by first | (rw [add_block]; exact ((Kd.R_apart' a5.out (Kd.R_typed b6.out) (by decide)).1 _ rfl).2) | (show some (Addr.add _ _).block ≠ _; rw [add_block]; exact ((Kd.R_apart' a5.out (Kd.R_typed b6.out) (by decide)).1 _ rfl).2) | exact ((Kd.R_apart' a5.out (Kd.R_typed b6.out) (by decide)).1 _ rfl).2) | have HS6_ := cell_grown hg (cell_unalloc (hHeld.2.2.2.2.2.2.1) (by first | (rw [add_block]; exact Kd.R_lt a5.out _ rfl) | (show (Addr.add _ _).block < _; rw [add_block]; exact Kd.R_lt a5.out _ rfl) | exact Kd.R_lt a5.out _ rfl)) (by first | (rw [add_block]; exact ((Kd.R_apart' a5.out (Kd.R_typed b6.out) (by decide)).1 _ rfl).2) | (show some (Addr.add _ _).block ≠ _; rw [add_block]; exact ((Kd.R_apart' a5.out (Kd.R_typed b6.out) (by decide)).1 _ rfl).2) | exact ((Kd.R_apart' a5.out (Kd.R_typed b6.out) (by decide)).1 _ rfl).2))
     (first | have HS7_ := cell_grown hg (hHeld.2.2.2.2.2.2.2) (by first | (rw [add_block]; exact ((Kd.R_apart' a5.out (Kd.R_typed b6.out) (by decide)).1 _ rfl).2) | (show some (Addr.add _ _).block ≠ _; rw [add_block]; exact ((Kd.R_apart' a5.out (Kd.R_typed b6.out) (by decide)).1 _ rfl).2) | exact ((Kd.R_apart' a5.out (Kd.R_typed b6.out) (by decide)).1 _ rfl).2) | have HS7_ := cell_grown hg (cell_unalloc (hHeld.2.2.2.2.2.2.2) (by first | (rw [add_block]; exact Kd.R_lt a5.out _ rfl) | (show (Addr.add _ _).block < _; rw [add_block]; exact Kd.R_lt a5.out _ rfl) | exact Kd.R_lt a5.out _ rfl)) (by first | (rw [add_block]; exact ((Kd.R_apart' a5.out (Kd.R_typed b6.out) (by decide)).1 _ rfl).2) | (show some (Addr.add _ _).block ≠ _; rw [add_block]; exact ((Kd.R_apart' a5.out (Kd.R_typed b6.out) (by decide)).1 _ rfl).2) | exact ((Kd.R_apart' a5.out (Kd.R_typed b6.out) (by decide)).1 _ rfl).2))
     rw [← Ny581.out] at ho
     have d0 := am_ (ho); replace a5 := am_ (Kd.R_over' (qR_ a5) (Kd.R_typed (qR_ b6)) (by decide) hg); replace a2 := am_ (Kd.R_over' (qR_ a2) (Kd.R_typed (qR_ b6)) (by decide) hg); replace a0 := am_ (blk_grown (qk_ a0) hg (Kd.R_ne b6.out a0.out (by decide))); replace a1 := am_ (blk_grown (qk_ a1) hg (Kd.R_ne b6.out a1.out (by decide))); replace a3 := am_ (blk_grown (qk_ a3) hg (Kd.R_ne b6.out a3.out (by decide))); replace a4 := am_ (blk_grown (qk_ a4) hg (Kd.R_ne b6.out a4.out (by decide))); replace b2 := am_ (blk_grown (qk_ b2) hg (Kd.R_ne b6.out b2.out (by decide))); replace HB := am_ (hb); clear b6; clear ho hb hg hat
     refine hK.out _ _ ⟨bl_ b2 0, bl_ b2 1, bl_ a1 0, bl_ a1 1, bl_ a0 0, bl_ a0 1, HS6_, HS7_⟩ (fun hHeld => ?_)
     clear hK K
     refine nm_ 79 ?_
     refine o1_ 24 (some 84) 27 33554431 (fun K hK => ?_)
     refine Kd.R_append_rows_step k72 (w0 := w) w.heap.size (by rfl) (.tmp 79) (.tmp 83) 27 72 (.agg #[(.int .i64 0), (.int .i64 0), (.int .i64 0), (.bool false)]) 32 rfl Try.underlying27 info72 rfl (by decide) (by omega) B8 i8 h1 _ _ _ (fun _ => True) (fun _ => False) rfl rfl ?aO ?aR (fun _ _ h => h) (fun _ h => h.elim) ?aF ?aB ?aS ?aL ?_
     (case aR => repeat (first | exact (Kd.C_below o9.out HB.out) | (with_reducible refine Kd.C_alloc ?_ _) | (with_reducible refine Kd.C_drewN ?_ _) | (with_reducible refine Kd.C_drew ?_)))
     (case aB => exact qB_)
     (case aF => exact (fun _ _ => trivial))
     (case aO => exact (qR_ d0))
     (case aS => exact (below_size qB_))
     (case aL => have := LMc57.out; omega)
     intro G8 w73 ho hb hg hat
     (first | have HS6_ := cell_grown hg (hHeld.2.2.2.2.2.2.1) (by first | (rw [add_block]; exact ((Kd.R_apart' a5.out (Kd.R_typed d0.out) (by decide)).1 _ rfl).2) | (show some (Addr.add _ _).block ≠ _; rw [add_block]; exact ((Kd.R_apart' a5.out (Kd.R_typed d0.out) (by decide)).1 _ rfl).2) | exact ((Kd.R_apart' a5.out (Kd.R_typed d0.out) (by decide)).1 _ rfl).2) | have HS6_ := cell_grown hg (cell_unalloc (hHeld.2.2.2.2.2.2.1) (by first | (rw [add_block]; exact Kd.R_lt a5.out _ rfl) | (show (Addr.add _ _).block < _; rw [add_block]; exact Kd.R_lt a5.out _ rfl) | exact Kd.R_lt a5.out _ rfl)) (by first | (rw [add_block]; exact ((Kd.R_apart' a5.out (Kd.R_typed d0.out) (by decide)).1 _ rfl).2) | (show some (Addr.add _ _).block ≠ _; rw [add_block]; exact ((Kd.R_apart' a5.out (Kd.R_typed d0.out) (by decide)).1 _ rfl).2) | exact ((Kd.R_apart' a5.out (Kd.R_typed d0.out) (by decide)).1 _ rfl).2))
     (first | have HS7_ := cell_grown hg (hHeld.2.2.2.2.2.2.2) (by first | (rw [add_block]; exact ((Kd.R_apart' a5.out (Kd.R_typed d0.out) (by decide)).1 _ rfl).2) | (show some (Addr.add _ _).block ≠ _; rw [add_block]; exact ((Kd.R_apart' a5.out (Kd.R_typed d0.out) (by decide)).1 _ rfl).2) | exact ((Kd.R_apart' a5.out (Kd.R_typed d0.out) (by decide)).1 _ rfl).2) | have HS7_ := cell_grown hg (cell_unalloc (hHeld.2.2.2.2.2.2.2) (by first | (rw [add_block]; exact Kd.R_lt a5.out _ rfl) | (show (Addr.add _ _).block < _; rw [add_block]; exact Kd.R_lt a5.out _ rfl) | exact Kd.R_lt a5.out _ rfl)) (by first | (rw [add_block]; exact ((Kd.R_apart' a5.out (Kd.R_typed d0.out) (by decide)).1 _ rfl).2) | (show some (Addr.add _ _).block ≠ _; rw [add_block]; exact ((Kd.R_apart' a5.out (Kd.R_typed d0.out) (by decide)).1 _ rfl).2) | exact ((Kd.R_apart' a5.out (Kd.R_typed d0.out) (by decide)).1 _ rfl).2))
     rw [← Ny588.out] at ho
     have p0 := am_ (ho); replace a5 := am_ (Kd.R_over' (qR_ a5) (Kd.R_typed (qR_ d0)) (by decide) hg); replace a2 := am_ (Kd.R_over' (qR_ a2) (Kd.R_typed (qR_ d0)) (by decide) hg); replace a0 := am_ (blk_grown (qk_ a0) hg (Kd.R_ne d0.out a0.out (by decide))); replace a1 := am_ (blk_grown (qk_ a1) hg (Kd.R_ne d0.out a1.out (by decide))); replace a3 := am_ (blk_grown (qk_ a3) hg (Kd.R_ne d0.out a3.out (by decide))); replace a4 := am_ (blk_grown (qk_ a4) hg (Kd.R_ne d0.out a4.out (by decide))); replace b2 := am_ (blk_grown (qk_ b2) hg (Kd.R_ne d0.out b2.out (by decide))); replace HB := am_ (hb); clear d0; clear ho hb hg hat
     obtain ⟨p1, p3, u5⟩ := Kd.R_slice p0.out
     (first | subst u5 | (injection u5 with f1_ f2_ f3_; have f4_ := f1_.symm; have f5_ := f3_.symm; clear f1_ f2_ f3_; subst f4_; subst f5_))
     refine hK.out _ _ ⟨bl_ b2 0, bl_ b2 1, bl_ a1 0, bl_ a1 1, bl_ a0 0, bl_ a0 1, HS6_, HS7_⟩ (fun hHeld => ?_)
     clear hK K
     refine nm_ 84 ?_
     refine pz_ 25 85 27 67108863 ?_
     refine last_ (i := 26) (N := none) (bm 27 134217727) rfl rfl (one_of HT_.out (by kernel_rfl)) (by decide) (fun K hK => ?_)
     have hs75 : w73.cell? ⟨a7, 1, none⟩ = some (.slice h2 e3.length h3) := bl_ b2 1
     have hfs75 := blk_frozen b2.out 1
     have y1 := c5.out; have y2 := e9.out; have y3 := f4.out; have y4 := f5.out; have y5 := d8.out; have y6 := d9.out; have y7 := e0.out; have y8 := e1.out
     refine skip_ (w1 := ?_) (by rfl) rfl ?_ ?_
     rotate_left
     ·go_simp
      rfl
     refine hK.out _ _ ?_
     clear hK K
     refine done_ (done_of HT_.out (by kernel_rfl)) ?_
     obtain ⟨F1, F2⟩ := nn_ d8; obtain ⟨F3, F4⟩ := nn_ d9; obtain ⟨F5, F6⟩ := nn_ e0; obtain ⟨F7, F8⟩ := nn_ e1
     obtain ⟨y9, z0, z1, z2⟩ := bc2_ b2
     obtain ⟨F9, G0⟩ := nn_ i5; obtain ⟨G1, G2⟩ := nn_ i6; obtain ⟨G3, G4⟩ := nn_ c0
     obtain ⟨z3, z4, z5, z6⟩ := bc2_ a3
     try go_wp2
     refine bodyPost_ret (results_ct rfl _ _ b9 29 #[.int .i64 f7, .slice p1 n9.length p3] (0, 0) _ rfl (by (with_reducible repeat (first | refine blk_drewN ?_ _ | refine blk_drew ?_ | refine blk_alloc ?_ _)); refine blk_put (cs := #[.int .i64 f7, .slice none 0 0]) ?_ 1 _ rfl; (with_reducible repeat (first | refine blk_drewN ?_ _ | refine blk_drew ?_ | refine blk_alloc ?_ _)); refine blk_put (cs := #[.int .i64 0, .slice none 0 0]) ?_ 0 _ rfl; exact qf_ a3) Try.underlying29 rfl (by kernel_rfl)) rfl ?_
     exact ⟨_, qr_, by (with_reducible repeat (first | apply Kd.R_alloc | apply Kd.R_drewN | apply Kd.R_drew)); exact Kd.R_mono (Kd.R_far (p := ⟨b9, 1, none⟩) (Kd.R_far (p := ⟨b9, 0, none⟩) (Kd.R_far (p := ⟨a7, 1, none⟩) (Kd.R_types (Kd.R_types p0.out b2.out (by decide)) a3.out (by decide)) (fun _ hk => hk.1.2) (.slice p1 n9.length p3)) (fun _ hk => hk.2) (.int .i64 f7)) (fun _ hk => hk.2) (.slice p1 n9.length p3)) (fun _ hk => trivial), qB_⟩
end Go.Proofs.Ytbkklafkoegdpaa.QFnExactWebAdd
