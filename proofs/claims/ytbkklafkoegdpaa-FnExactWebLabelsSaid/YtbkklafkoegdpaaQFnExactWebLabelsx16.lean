-- printed for this claim by a program of the session's own (no text of the kit's print)
import Derived.Test.YtbkklafkoegdpaaQFnExactWebLabelsx0
import Derived.Test.YtbkklafkoegdpaaQFnExactWebLabelsx12
import Derived.Test.YtbkklafkoegdpaaQFnExactWebLabelsx14
import Derived.Test.YtbkklafkoegdpaaQFnExactWebLabelsx15
namespace Go.Proofs.Ytbkklafkoegdpaa.QFnExactWebLabels
open Go.RowKit Go.Proofs.YtbkklafkoegdpaaW.PrintWords Go.Proofs.YtbkklafkoegdpaaW.PrintLast Go.Proofs.YtbkklafkoegdpaaW.PrintMore
attribute [local go_sem] max2_int min2_int max_two min_two max_three min_three max_four min_four   -- for this text's walks alone
set_option linter.unusedVariables false
set_option linter.unusedSimpArgs false

/-! ### impl_WebOk: function 16 -/
mutual
def impl_WebOk.j0 : Nat → Bool → Int → List (S72) → Option (Bool)
  | 0, _, _, _ => none
  | k + 1, x17, x393000, x393001 => if x17 = true then (some false) else (impl_WebOk.l0 k x393001 (x393001.length : Int) 0 x393000 x393001)
def impl_WebOk.l0 : Nat → List (S72) → Int → Int → Int → List (S72) → Option (Bool)
  | 0, _, _, _, _, _ => none
  | k + 1, x19, x20, x21, x393000, x393001 => if x21 < x20 then (if 0 ≤ x21 then (if x21 < (x19.length : Int) then ((impl_in.f ((rd_T72 x19 x21).f2) 0 4).bind fun t404 => (if t404 = true then ((impl_labelsAt.f k x393000 x393001 ((rd_T72 x19 x21).f2)).bind fun t405 => (if ((rd_T72 x19 x21).f3 = true) then (impl_WebOk.l0 k x19 x20 (wrap64 (x21 + 1)) x393000 x393001) else (if 0 ≤ ((rd_T72 x19 x21).f0) then (if ((rd_T72 x19 x21).f0) < (t405.length : Int) then (if 0 ≤ ((rd_T72 x19 x21).f1) then (if ((rd_T72 x19 x21).f1) < (t405.length : Int) then (if (rd t405 ((rd_T72 x19 x21).f0)) = (rd t405 ((rd_T72 x19 x21).f1)) then (impl_WebOk.l0 k x19 x20 (wrap64 (x21 + 1)) x393000 x393001) else (some false)) else (none)) else (none)) else (none)) else (none)))) else (some false))) else (none)) else (none)) else (impl_WebOk.l1 k 1 x393000 x393001)
def impl_WebOk.l1 : Nat → Int → Int → List (S72) → Option (Bool)
  | 0, _, _, _ => none
  | k + 1, x6, x393000, x393001 => if x6 ≤ 4 then ((impl_levelOk.f k x393000 x393001 x6).bind fun t410 => (if t410 = true then (impl_WebOk.l1 k (wrap64 (x6 + 1)) x393000 x393001) else (some false))) else (some true)
end
def impl_WebOk.f (k : Nat) (a0_0 : Int) (l0_1 : List (S72)) : Option (Bool) := (impl_GraphOf.f k a0_0 l0_1).bind fun bt393 => ((impl_GraphOk.f k bt393.1 bt393.2).bind fun t397 => (if t397 = true then ((impl_treeEdges.f k a0_0 l0_1).bind fun t398 => ((impl_rings.f k a0_0 t398).bind fun t401 => (impl_WebOk.j0 k t401 a0_0 l0_1))) else (impl_WebOk.j0 k true a0_0 l0_1)))
theorem impl_WebOk.mono_l : ∀ k, (∀ y0 y1 y2, LeO (impl_WebOk.j0 k y0 y1 y2) (impl_WebOk.j0 (k + 1) y0 y1 y2)) ∧ (∀ y0 y1 y2 y3 y4, LeO (impl_WebOk.l0 k y0 y1 y2 y3 y4) (impl_WebOk.l0 (k + 1) y0 y1 y2 y3 y4)) ∧ (∀ y0 y1 y2, LeO (impl_WebOk.l1 k y0 y1 y2) (impl_WebOk.l1 (k + 1) y0 y1 y2))
  | 0 => ⟨fun _ _ _ r h => by simp [impl_WebOk.j0] at h, fun _ _ _ _ _ r h => by simp [impl_WebOk.l0] at h, fun _ _ _ r h => by simp [impl_WebOk.l1] at h⟩
  | k + 1 => by
    obtain ⟨ih0, ih1, ih2⟩ := impl_WebOk.mono_l k
    refine ⟨?_, ?_, ?_⟩ <;> (intros; first | unfold impl_WebOk.j0 | unfold impl_WebOk.l0 | unfold impl_WebOk.l1) <;> repeat' first
    | (with_reducible exact ih0 _ _ _)
    | (with_reducible exact ih1 _ _ _ _ _)
    | (with_reducible exact ih2 _ _ _)
    | (with_reducible exact impl_GraphOf.mono _ _ _)
    | (with_reducible exact impl_GraphOk.mono _ _ _)
    | (with_reducible exact impl_labelsAt.mono _ _ _ _)
    | (with_reducible exact impl_levelOk.mono _ _ _ _)
    | (with_reducible exact impl_rings.mono _ _ _)
    | (with_reducible exact impl_treeEdges.mono _ _ _)
    | (with_reducible exact LeO.refl _)
    | (with_reducible exact LeO.none _)
    | (with_reducible refine LeO.ite ?_ ?_)
    | (with_reducible refine LeO.bind ?_ (fun _ => ?_))
    | exact ih0 _ _ _
    | exact ih1 _ _ _ _ _
    | exact ih2 _ _ _
    | exact impl_GraphOf.mono _ _ _
    | exact impl_GraphOk.mono _ _ _
    | exact impl_labelsAt.mono _ _ _ _
    | exact impl_levelOk.mono _ _ _ _
    | exact impl_rings.mono _ _ _
    | exact impl_treeEdges.mono _ _ _
    | exact LeO.none _
    | refine LeO.ite ?_ ?_
    | refine LeO.bind ?_ (fun _ => ?_)
theorem impl_WebOk.mono : ∀ a0 a1 k, LeO (impl_WebOk.f k a0 a1) (impl_WebOk.f (k + 1) a0 a1) := by
  intro a0 a1 k
  obtain ⟨ih0, ih1, ih2⟩ := impl_WebOk.mono_l k
  unfold impl_WebOk.f
  repeat' first
      | (with_reducible exact ih0 _ _ _)
      | (with_reducible exact ih1 _ _ _ _ _)
      | (with_reducible exact ih2 _ _ _)
      | (with_reducible exact impl_GraphOf.mono _ _ _)
      | (with_reducible exact impl_GraphOk.mono _ _ _)
      | (with_reducible exact impl_labelsAt.mono _ _ _ _)
      | (with_reducible exact impl_levelOk.mono _ _ _ _)
      | (with_reducible exact impl_rings.mono _ _ _)
      | (with_reducible exact impl_treeEdges.mono _ _ _)
      | (with_reducible exact LeO.refl _)
      | (with_reducible exact LeO.none _)
      | (with_reducible refine LeO.ite ?_ ?_)
      | (with_reducible refine LeO.bind ?_ (fun _ => ?_))
      | exact ih0 _ _ _
      | exact ih1 _ _ _ _ _
      | exact ih2 _ _ _
      | exact impl_GraphOf.mono _ _ _
      | exact impl_GraphOk.mono _ _ _
      | exact impl_labelsAt.mono _ _ _ _
      | exact impl_levelOk.mono _ _ _ _
      | exact impl_rings.mono _ _ _
      | exact impl_treeEdges.mono _ _ _
      | exact LeO.none _
      | refine LeO.ite ?_ ?_
      | refine LeO.bind ?_ (fun _ => ?_)
def impl_WebOk.T1 : Bool × List (List Nat × List Nat) := (true, [([], []), ([0], [0]), ([1, 1], [1]), ([2], [2]), ([3, 2], [3]), ([4], [4]), ([5, 4], [4, 5]), ([4], [4]), ([7, 4, 4], [4, 7]), ([6, 8, 8, 4], [4, 6, 8]), ([4, 9], [4, 9])])
def impl_WebOk.B1 : List Nat := [0, 1, 3, 7, 15, 31, 63, 31, 159, 511, 1023]
theorem impl_WebOk.tab1 : rtab .any (opsOf Try.f16 1) = impl_WebOk.T1 := by kernel_rfl
theorem impl_WebOk.bits1 : waitsOk impl_WebOk.T1.2 impl_WebOk.B1 = true := by kernel_rfl
def impl_WebOk.T9 : Bool × List (List Nat × List Nat) := (true, [([], []), ([0], [0]), ([1], [1]), ([2], [2]), ([3], [3]), ([3], [3]), ([5, 3], [3, 5]), ([4, 6, 3], [3, 4, 6]), ([7, 3], [3, 7]), ([3], [3]), ([3], [3]), ([10, 3], [3, 10]), ([9, 11, 3], [3, 9, 11]), ([12, 3], [3, 12]), ([8, 13, 3], [3, 8, 13]), ([3, 14], [3, 14])])
def impl_WebOk.B9 : List Nat := [0, 1, 3, 7, 15, 15, 47, 127, 255, 15, 15, 1039, 3599, 7695, 16383, 32767]
theorem impl_WebOk.tab9 : rtab .any (opsOf Try.f16 9) = impl_WebOk.T9 := by kernel_rfl
theorem impl_WebOk.bits9 : waitsOk impl_WebOk.T9.2 impl_WebOk.B9 = true := by kernel_rfl
set_option maxHeartbeats 8000000 in
set_option maxRecDepth 100000 in
theorem impl_WebOk.calls (k : Nat) (a0_0 : Int) (A0_1 : Option Addr) (c0_1 : Nat) (l0_1 : List (S72)) (r : Bool) (w : World) (hr0_1 : Kd.C k72 w A0_1 l0_1.length l0_1) (hc0_1 : l0_1.length ≤ c0_1) (h : impl_WebOk.f k a0_0 l0_1 = some r) :
  Calls Try.prog 16 #[.agg #[.int .i64 a0_0, .slice A0_1 l0_1.length c0_1]] w fun e w' => e = .returned (.bool r) ∧ Below w.heap.size w w' := by
 have hu29 := Try.underlying29; have hu72 := Try.underlying72
 have HR0_1 := Aside0.mk hr0_1
 have HC0_1 := Aside0.mk hc0_1
 clear hr0_1 hc0_1
 have HB := Aside0.mk (Below.refl w.heap.size w)
 have H : ((impl_GraphOf.f k a0_0 l0_1).bind fun bt393 => ((impl_GraphOk.f k bt393.1 bt393.2).bind fun t397 => (if t397 = true then ((impl_treeEdges.f k a0_0 l0_1).bind fun t398 => ((impl_rings.f k a0_0 t398).bind fun t401 => (impl_WebOk.j0 k t401 a0_0 l0_1))) else (impl_WebOk.j0 k true a0_0 l0_1)))) = some r := h
 clear h
 have HC2 := Aside0.mk H
 clear H
 go_enter Try.func16, Try.ntmps16
 go_upto_region 1 with (first | ((with_reducible refine gate_dst (N := 1) rfl ?_); refine bx_ 1 (cs := #[.int .i64 a0_0, .slice A0_1 l0_1.length c0_1]) (t := 29) ?_; intro gb392 hg w3 hbox hb; have BK392 := Aside0.mk (hbox); have GW392 := Aside0.mk ((qs_ : w.heap.size ≤ gb392)); have GE392 := Aside0.mk ((qs_ : w.heap.size ≤ gb392)); replace HB := Aside0.mk (below_step qB_ hb); clear hb hbox hg))
 (try simp only [Act.put, List.setIfInBounds_toArray, List.set_cons_zero, List.set_cons_succ])
 go_cut [17] (fun v17 wc => ∃ (kq : Nat) (x17_1 : Bool), v17 = .bool x17_1 ∧ Aside0 (impl_WebOk.j0 kq x17_1 a0_0 l0_1 = some r) ∧ Aside0 (kq ≤ k) ∧ Aside0 (wc.heap[gb392]? = some (.cells #[.int .i64 a0_0, (.slice A0_1 l0_1.length c0_1)] 29 (0, 0))) ∧ Aside0 (Below w.heap.size w wc))
 case first =>
  have H := HC2.out; clear HC2
  replace H := Option.bind_eq_some_iff.mp H
  obtain ⟨⟨t393, t394⟩, A40, H⟩ := H
  replace H : ((impl_GraphOk.f k t393 t394).bind fun t397 => (if t397 = true then ((impl_treeEdges.f k a0_0 l0_1).bind fun t398 => ((impl_rings.f k a0_0 t398).bind fun t401 => (impl_WebOk.j0 k t401 a0_0 l0_1))) else (impl_WebOk.j0 k true a0_0 l0_1))) = some r := H
  have A4 := Aside0.mk A40
  clear A40
  obtain ⟨t397, A50, H⟩ := Option.bind_eq_some_iff.mp H; have A5 := Aside0.mk A50; clear A50
  by_cases c6 : t397 = true
  ·subst c6
   rw [if_pos rfl] at H
   obtain ⟨t398, A70, H⟩ := Option.bind_eq_some_iff.mp H; have A7 := Aside0.mk A70; clear A70
   obtain ⟨t401, A80, H⟩ := Option.bind_eq_some_iff.mp H; have A8 := Aside0.mk A80; clear A80
   have H' := Aside0.mk H; clear H
   try go_wp2
   have n0_ := Aside0.mk (blk_drew BK392.out)
   have n1_ := Aside0.mk (below_drew1 HB.out)
   clear BK392; clear HB; have BK392 := n0_; have HB := n1_; clear n0_ n1_
   refine start_ (n := 11) (S := fun w' => w'.cell? ⟨gb392, 0, none⟩ = some (.int .i64 a0_0) ∧ w'.cell? ⟨gb392, 1, none⟩ = some (.slice A0_1 l0_1.length c0_1)) (ds := []) (bm 11 0) (by kernel_rfl) rfl (by kernel_rfl) ⟨(blk_cell BK392.out 0).trans rfl, (blk_cell BK392.out 1).trans rfl⟩ (fun hHeld => ?_); refine with_tabW impl_WebOk.tab1 impl_WebOk.bits1 (fun HT_ HW_ => ?_)
   generalize w3.drew = w9 at BK392 HB hHeld ⊢
   refine tz2_ 0 7 (bm 11 1) ?_
   refine one_ (i := 1) (N := some 8) (bm 11 3) rfl rfl (one_of HT_.out (by kernel_rfl)) (by decide) (fun K hK => ?_)
   refine goes_ Try.func63 (by kernel_rfl) rfl #[.agg #[.int .i64 a0_0, .slice A0_1 l0_1.length c0_1]] (by rfl) rfl rfl (by (try simp only [List.map_toArray, List.map_cons, List.map_nil]); first | done | rfl | (simp only [List.length_drop, List.length_take]; rfl)) ?_
   with_reducible refine (impl_GraphOf.calls k a0_0 _ _ l0_1 t393 t394 _ ?side1 ?side2 A4.out).mono ?_
   (case side1 => exact qC_ HR0_1 HB)
   (case side2 => exact HC0_1.out)
   rintro e w10 ⟨v395, rfl, ho0, hb⟩
   refine ⟨_, rfl, ?_⟩
   have n0_ := Aside0.mk (Kd.R_lower ho0 (below_size qB_))
   have n1_ := Aside0.mk (blk_below (qk_ BK392) hb)
   have n2_ := Aside0.mk (below_step qB_ hb)
   clear BK392; clear HB; have HO396 := n0_; have BK392 := n1_; have HB := n2_; clear n0_ n1_ n2_; (try clear hb); (try clear hb2); (try clear hk); (try clear hi); (try clear ho0)
   obtain ⟨Ao11, co11, eo11⟩ := Kd.R_slice HO396.out
   (first | subst eo11 | (injection eo11 with f1_ f2_ f3_; have f4_ := f1_.symm; have f5_ := f3_.symm; clear f1_ f2_ f3_; subst f4_; subst f5_))
   refine hK.out _ _ ⟨(blk_cell BK392.out 0).trans rfl, (blk_cell BK392.out 1).trans rfl⟩ (fun hHeld => ?_)
   clear hK K
   refine norm_ (a' := ?_) ?_ ?_
   rotate_left
   ·show Act.put _ (some 8) _ = _
    simp only [Act.put, List.setIfInBounds_toArray, List.set_cons_zero, List.set_cons_succ, i64_w, i32_w]
    rfl
   refine one_ (i := 2) (N := some 9) (bm 11 7) rfl rfl (one_of HT_.out (by kernel_rfl)) (by decide) (fun K hK => ?_)
   refine goes_ Try.func62 (by kernel_rfl) rfl #[.agg #[.int .i64 t393, .slice Ao11 t394.length co11]] (by rfl) rfl rfl (by (try simp only [List.map_toArray, List.map_cons, List.map_nil]); first | done | rfl | (simp only [List.length_drop, List.length_take]; rfl)) ?_
   with_reducible refine (impl_GraphOk.calls k t393 _ _ t394 true _ ?side1 ?side2 A5.out).mono ?_
   (case side1 => exact qD_ (Kd.R_reads' HO396.out).2.2)
   (case side2 => exact (Kd.R_reads' HO396.out).2.1)
   rintro e w12 ⟨rfl, hb⟩
   refine ⟨_, rfl, ?_⟩
   have n0_ := Aside0.mk (Kd.R_below (qR_ HO396) hb)
   have n1_ := Aside0.mk (blk_below (qk_ BK392) hb)
   have n2_ := Aside0.mk (below_step qB_ hb)
   clear HO396; clear BK392; clear HB; have HO396 := n0_; have BK392 := n1_; have HB := n2_; clear n0_ n1_ n2_; (try clear hb); (try clear hb2); (try clear hk); (try clear hi)
   refine hK.out _ _ ⟨(blk_cell BK392.out 0).trans rfl, (blk_cell BK392.out 1).trans rfl⟩ (fun hHeld => ?_)
   clear hK K
   refine norm_ (a' := ?_) ?_ ?_
   rotate_left
   ·show Act.put _ (some 9) _ = _
    simp only [Act.put, List.setIfInBounds_toArray, List.set_cons_zero, List.set_cons_succ, i64_w, i32_w]
    rfl
   refine pz_ 3 10 (bm 11 15) ?_; refine pz_ 4 11 (bm 11 31) ?_; refine pz_ 5 12 (bm 11 63) ?_; refine tz2_ 6 13 (bm 11 127) ?_; refine tz2_ 7 14 (bm 11 255) ?_
   refine one_ (i := 8) (N := some 15) (bm 11 511) rfl rfl (one_of HT_.out (by kernel_rfl)) (by decide) (fun K hK => ?_)
   refine goes_ Try.func65 (by kernel_rfl) rfl #[.agg #[.int .i64 a0_0, .slice A0_1 l0_1.length c0_1]] (by rfl) rfl rfl (by (try simp only [List.map_toArray, List.map_cons, List.map_nil]); first | done | rfl | (simp only [List.length_drop, List.length_take]; rfl)) ?_
   with_reducible refine (impl_treeEdges.calls k a0_0 _ _ l0_1 t398 _ ?side1 ?side2 A7.out).mono ?_
   (case side1 => exact qC_ HR0_1 HB)
   (case side2 => exact HC0_1.out)
   rintro e w13 ⟨v399, rfl, ho0, hb⟩
   refine ⟨_, rfl, ?_⟩
   have n0_ := Aside0.mk (Kd.R_elder' (qR_ HO396) (Kd.R_base ho0) hb)
   have n1_ := Aside0.mk (Kd.R_lower (Kd.R_new' ho0 (Kd.R_lt (qR_ HO396))) (below_size qB_))
   have n2_ := Aside0.mk (blk_below (qk_ BK392) hb)
   have n3_ := Aside0.mk (below_step qB_ hb)
   clear HO396; clear BK392; clear HB; have HO396 := n0_; have HO400 := n1_; have BK392 := n2_; have HB := n3_; clear n0_ n1_ n2_ n3_; (try clear hb); (try clear hb2); (try clear hk); (try clear hi); (try clear ho0)
   obtain ⟨Ao14, co14, eo14⟩ := Kd.R_slice HO400.out
   (first | subst eo14 | (injection eo14 with f1_ f2_ f3_; have f4_ := f1_.symm; have f5_ := f3_.symm; clear f1_ f2_ f3_; subst f4_; subst f5_))
   refine hK.out _ _ ⟨(blk_cell BK392.out 0).trans rfl, (blk_cell BK392.out 1).trans rfl⟩ (fun hHeld => ?_)
   clear hK K
   refine norm_ (a' := ?_) ?_ ?_
   rotate_left
   ·show Act.put _ (some 15) _ = _
    simp only [Act.put, List.setIfInBounds_toArray, List.set_cons_zero, List.set_cons_succ, i64_w, i32_w]
    rfl
   refine one_ (i := 9) (N := some 16) (bm 11 1023) rfl rfl (one_of HT_.out (by kernel_rfl)) (by decide) (fun K hK => ?_)
   refine goes_ Try.func64 (by kernel_rfl) rfl #[.int .i64 a0_0, .slice Ao14 t398.length co14] (by rfl) rfl rfl (by (try simp only [List.map_toArray, List.map_cons, List.map_nil]); first | done | rfl | (simp only [List.length_drop, List.length_take]; rfl)) ?_
   with_reducible refine (impl_rings.calls k a0_0 _ _ t398 t401 _ ?side1 ?side2 A8.out).mono ?_
   (case side1 => exact qD_ (Kd.R_reads' HO400.out).2.2)
   (case side2 => exact (Kd.R_reads' HO400.out).2.1)
   rintro e w15 ⟨rfl, hb⟩
   refine ⟨_, rfl, ?_⟩
   have n0_ := Aside0.mk (Kd.R_below (qR_ HO396) hb)
   have n1_ := Aside0.mk (Kd.R_below (qR_ HO400) hb)
   have n2_ := Aside0.mk (blk_below (qk_ BK392) hb)
   have n3_ := Aside0.mk (below_step qB_ hb)
   clear HO396; clear HO400; clear BK392; clear HB; have HO396 := n0_; have HO400 := n1_; have BK392 := n2_; have HB := n3_; clear n0_ n1_ n2_ n3_; (try clear hb); (try clear hb2); (try clear hk); (try clear hi)
   refine hK.out _ _ ⟨(blk_cell BK392.out 0).trans rfl, (blk_cell BK392.out 1).trans rfl⟩ (fun hHeld => ?_)
   clear hK K
   refine norm_ (a' := ?_) ?_ ?_
   rotate_left
   ·show Act.put _ (some 16) _ = _
    simp only [Act.put, List.setIfInBounds_toArray, List.set_cons_zero, List.set_cons_succ, i64_w, i32_w]
    rfl
   refine pz_ 10 17 (bm 11 2047) ?_
   refine done_ (done_of HT_.out (by kernel_rfl)) ?_
   try go_wp2
   go_meet
   case rel => exact ⟨_, (t401), qe_, H', ⟨qo_⟩, ⟨qk_ BK392⟩, ⟨qB_⟩⟩
  ·replace c6 := Bool.eq_false_iff.mpr c6
   subst c6
   rw [if_neg (show ¬ (false = true) by decide)] at H; have H' := Aside0.mk H; clear H
   try go_wp2
   have n0_ := Aside0.mk (blk_drew BK392.out)
   have n1_ := Aside0.mk (below_drew1 HB.out)
   clear BK392; clear HB; have BK392 := n0_; have HB := n1_; clear n0_ n1_
   refine start_ (n := 11) (S := fun w' => w'.cell? ⟨gb392, 0, none⟩ = some (.int .i64 a0_0) ∧ w'.cell? ⟨gb392, 1, none⟩ = some (.slice A0_1 l0_1.length c0_1)) (ds := []) (bm 11 0) (by kernel_rfl) rfl (by kernel_rfl) ⟨(blk_cell BK392.out 0).trans rfl, (blk_cell BK392.out 1).trans rfl⟩ (fun hHeld => ?_); refine with_tabW impl_WebOk.tab1 impl_WebOk.bits1 (fun HT_ HW_ => ?_)
   generalize w3.drew = w16 at BK392 HB hHeld ⊢
   refine tz2_ 0 7 (bm 11 1) ?_
   refine one_ (i := 1) (N := some 8) (bm 11 3) rfl rfl (one_of HT_.out (by kernel_rfl)) (by decide) (fun K hK => ?_)
   refine goes_ Try.func63 (by kernel_rfl) rfl #[.agg #[.int .i64 a0_0, .slice A0_1 l0_1.length c0_1]] (by rfl) rfl rfl (by (try simp only [List.map_toArray, List.map_cons, List.map_nil]); first | done | rfl | (simp only [List.length_drop, List.length_take]; rfl)) ?_
   with_reducible refine (impl_GraphOf.calls k a0_0 _ _ l0_1 t393 t394 _ ?side1 ?side2 A4.out).mono ?_
   (case side1 => exact qC_ HR0_1 HB)
   (case side2 => exact HC0_1.out)
   rintro e w17 ⟨v395, rfl, ho0, hb⟩
   refine ⟨_, rfl, ?_⟩
   have n0_ := Aside0.mk (Kd.R_lower ho0 (below_size qB_))
   have n1_ := Aside0.mk (blk_below (qk_ BK392) hb)
   have n2_ := Aside0.mk (below_step qB_ hb)
   clear BK392; clear HB; have HO396 := n0_; have BK392 := n1_; have HB := n2_; clear n0_ n1_ n2_; (try clear hb); (try clear hb2); (try clear hk); (try clear hi); (try clear ho0)
   obtain ⟨Ao18, co18, eo18⟩ := Kd.R_slice HO396.out
   (first | subst eo18 | (injection eo18 with f1_ f2_ f3_; have f4_ := f1_.symm; have f5_ := f3_.symm; clear f1_ f2_ f3_; subst f4_; subst f5_))
   refine hK.out _ _ ⟨(blk_cell BK392.out 0).trans rfl, (blk_cell BK392.out 1).trans rfl⟩ (fun hHeld => ?_)
   clear hK K
   refine norm_ (a' := ?_) ?_ ?_
   rotate_left
   ·show Act.put _ (some 8) _ = _
    simp only [Act.put, List.setIfInBounds_toArray, List.set_cons_zero, List.set_cons_succ, i64_w, i32_w]
    rfl
   refine one_ (i := 2) (N := some 9) (bm 11 7) rfl rfl (one_of HT_.out (by kernel_rfl)) (by decide) (fun K hK => ?_)
   refine goes_ Try.func62 (by kernel_rfl) rfl #[.agg #[.int .i64 t393, .slice Ao18 t394.length co18]] (by rfl) rfl rfl (by (try simp only [List.map_toArray, List.map_cons, List.map_nil]); first | done | rfl | (simp only [List.length_drop, List.length_take]; rfl)) ?_
   with_reducible refine (impl_GraphOk.calls k t393 _ _ t394 false _ ?side1 ?side2 A5.out).mono ?_
   (case side1 => exact qD_ (Kd.R_reads' HO396.out).2.2)
   (case side2 => exact (Kd.R_reads' HO396.out).2.1)
   rintro e w19 ⟨rfl, hb⟩
   refine ⟨_, rfl, ?_⟩
   have n0_ := Aside0.mk (Kd.R_below (qR_ HO396) hb)
   have n1_ := Aside0.mk (blk_below (qk_ BK392) hb)
   have n2_ := Aside0.mk (below_step qB_ hb)
   clear HO396; clear BK392; clear HB; have HO396 := n0_; have BK392 := n1_; have HB := n2_; clear n0_ n1_ n2_; (try clear hb); (try clear hb2); (try clear hk); (try clear hi)
   refine hK.out _ _ ⟨(blk_cell BK392.out 0).trans rfl, (blk_cell BK392.out 1).trans rfl⟩ (fun hHeld => ?_)
   clear hK K
   refine norm_ (a' := ?_) ?_ ?_
   rotate_left
   ·show Act.put _ (some 9) _ = _
    simp only [Act.put, List.setIfInBounds_toArray, List.set_cons_zero, List.set_cons_succ, i64_w, i32_w]
    rfl
   refine pz_ 3 10 (bm 11 15) ?_; refine pz_ 4 11 (bm 11 31) ?_
   refine pure_ (i := 5) (N := some 12) (v := undef) (a' := ?_) (bm 11 63) rfl rfl (any_of HT_.out (by kernel_rfl)) (fun _ _ _ h => h) (Or.inr ⟨by rfl, rfl⟩) ?_ ?_
   rotate_left
   ·simp only [Act.put, List.setIfInBounds_toArray, List.set_cons_zero, List.set_cons_succ, i64_w, i32_w]
    rfl
   refine pure_ (i := 6) (N := some 13) (v := undef) (a' := ?_) (bm 11 127) rfl rfl (any_of HT_.out (by kernel_rfl)) (fun _ _ _ h => h) (Or.inr ⟨by rfl, rfl⟩) ?_ ?_
   rotate_left
   ·simp only [Act.put, List.setIfInBounds_toArray, List.set_cons_zero, List.set_cons_succ, i64_w, i32_w]
    rfl
   refine pure_ (i := 7) (N := some 14) (v := undef) (a' := ?_) (bm 11 255) rfl rfl (any_of HT_.out (by kernel_rfl)) (fun _ _ _ h => h) (Or.inr ⟨by rfl, rfl⟩) ?_ ?_
   rotate_left
   ·simp only [Act.put, List.setIfInBounds_toArray, List.set_cons_zero, List.set_cons_succ, i64_w, i32_w]
    rfl
   refine pure_ (i := 8) (N := some 15) (v := undef) (a' := ?_) (bm 11 511) rfl rfl (any_of HT_.out (by kernel_rfl)) (fun _ _ _ h => h) (Or.inr ⟨by rfl, rfl⟩) ?_ ?_
   rotate_left
   ·simp only [Act.put, List.setIfInBounds_toArray, List.set_cons_zero, List.set_cons_succ, i64_w, i32_w]
    rfl
   refine pure_ (i := 9) (N := some 16) (v := undef) (a' := ?_) (bm 11 1023) rfl rfl (any_of HT_.out (by kernel_rfl)) (fun _ _ _ h => h) (Or.inr ⟨by rfl, rfl⟩) ?_ ?_
   rotate_left
   ·simp only [Act.put, List.setIfInBounds_toArray, List.set_cons_zero, List.set_cons_succ, i64_w, i32_w]
    rfl
   refine pz_ 10 17 (bm 11 2047) ?_
   refine done_ (done_of HT_.out (by kernel_rfl)) ?_
   try go_wp2
   go_meet
   case rel => exact ⟨_, (true), qe_, H', ⟨qo_⟩, ⟨qk_ BK392⟩, ⟨qB_⟩⟩
 case rest =>
  clear HC2; (try clear c1); (try clear p2); (try clear c6); (try clear c16)
  obtain ⟨kq, x17_1, rfl, HA, HJ1, BK392, HB⟩ := hcut
  cases kq with
  | zero => exact absurd HA.out (by simp [impl_WebOk.j0])
  | succ kj1 =>
   have H := HA.out; clear HA
   simp only [impl_WebOk.j0] at H
   by_cases c20 : x17_1 = true
   ·subst c20
    rw [if_pos rfl] at H
    obtain rfl := Option.some.inj H
    go_wp2
    go_ret
    exact ⟨qr_, qB_⟩
   ·replace c20 := Bool.eq_false_iff.mpr c20
    subst c20
    rw [if_neg (show ¬ (false = true) by decide)] at H; have H' := Aside0.mk H; clear H
    obtain ⟨hcz21_0, hcz21_1, hfz21_0, hfz21_1⟩ := bc2_ BK392
    go_wp2
    go_loopg [21] kj1 (fun kq v21 w' => ∃ (x21_2 : Int), v21 = .int .i64 x21_2 ∧ Aside0 (impl_WebOk.l0 kq l0_1 (l0_1.length : Int) x21_2 a0_0 l0_1 = some r) ∧ Aside0 (kq ≤ kj1) ∧ Aside0 (w'.heap[gb392]? = some (.cells #[.int .i64 a0_0, (.slice A0_1 l0_1.length c0_1)] 29 (0, 0))) ∧ Aside0 (Below w.heap.size w w'))
    case atStart => exact ⟨(0), qe_, H', ⟨Nat.le_refl _⟩, ⟨qk_ BK392⟩, ⟨qB_⟩⟩
    case round =>
     clear H'
     (try clear c1); (try clear c2); (try clear p2); (try clear c6); (try clear c16); (try clear c20); (try clear hcz21_0); (try clear hcz21_1); (try clear hfz21_0); (try clear hfz21_1); (try clear p2)
     obtain ⟨x21_2, rfl, HA, HK2, BK392, HB⟩ := hrel
     cases gk with
     | zero => exact absurd HA.out (by simp [impl_WebOk.l0])
     | succ k2 =>
      have H := HA.out; clear HA
      simp only [impl_WebOk.l0] at H
      by_cases c22 : x21_2 < (l0_1.length : Int)
      ·rw [if_pos c22] at H
       have c22b0 : decide (x21_2 < (l0_1.length : Int)) = true := decide_eq_true c22
       clear c22
       by_cases c23 : 0 ≤ x21_2
       ·rw [if_pos c23] at H
        have c23b0 : decide (0 ≤ x21_2) = true := decide_eq_true c23
        clear c23
        by_cases c24 : x21_2 < (l0_1.length : Int)
        ·rw [if_pos c24] at H
         have c24b0 : decide (x21_2 < (l0_1.length : Int)) = true := decide_eq_true c24
         clear c24
         obtain ⟨t404, A250, H⟩ := Option.bind_eq_some_iff.mp H; have A25 := Aside0.mk A250; clear A250
         by_cases c26 : t404 = true
         ·subst c26
          rw [if_pos rfl] at H
          obtain ⟨t405, A270, H⟩ := Option.bind_eq_some_iff.mp H; have A27 := Aside0.mk A270; clear A270
          obtain ⟨bq28, hbq28⟩ : ∃ b_ : Bool, b_ = ((rd_T72 l0_1 x21_2).f3) := ⟨_, rfl⟩
          replace H : (if (bq28 = true) then (impl_WebOk.l0 k2 l0_1 (l0_1.length : Int) (wrap64 (x21_2 + 1)) a0_0 l0_1) else (if 0 ≤ ((rd_T72 l0_1 x21_2).f0) then (if ((rd_T72 l0_1 x21_2).f0) < (t405.length : Int) then (if 0 ≤ ((rd_T72 l0_1 x21_2).f1) then (if ((rd_T72 l0_1 x21_2).f1) < (t405.length : Int) then (if (rd t405 ((rd_T72 l0_1 x21_2).f0)) = (rd t405 ((rd_T72 l0_1 x21_2).f1)) then (impl_WebOk.l0 k2 l0_1 (l0_1.length : Int) (wrap64 (x21_2 + 1)) a0_0 l0_1) else (some false)) else (none)) else (none)) else (none)) else (none))) = some r := by rw [← hbq28] at H; exact H
          have Nbq28 := Aside0.mk hbq28
          clear hbq28
          by_cases c29 : (bq28 = true)
          ·subst c29
           rw [if_pos rfl] at H; have H' := Aside0.mk H; clear H
           have p402 : 0 ≤ (x21_2 : Int) := of_decide_eq_true qa_
           have q402 : x21_2 < (l0_1.length : Int) := of_decide_eq_true qa_
           obtain ⟨ad402, e402, hx402_0, hx402_1, hx402_2, hx402_3⟩ := at_T72 HR0_1.out x21_2 p402 q402
           (try rw [← Nbq28.out] at hx402_3)
           cases e402
           replace hx402_0 := (HB.out.cell (World.block_lt_of_cell? w _ hx402_0)).trans hx402_0
           replace hx402_1 := (HB.out.cell (World.block_lt_of_cell? w _ hx402_1)).trans hx402_1
           replace hx402_2 := (HB.out.cell (World.block_lt_of_cell? w _ hx402_2)).trans hx402_2
           replace hx402_3 := (HB.out.cell (World.block_lt_of_cell? w _ hx402_3)).trans hx402_3
           replace p402 := eq_true p402; replace q402 := eq_true q402
           try go_wp2_with (first | ((with_reducible refine gate_dst (N := 4) rfl ?_); refine bx_ 4 (cs := #[.int .i64 0, .int .i64 0, .int .i64 0, .bool false]) (t := 72) ?_; intro gb403 hg w30 hbox hb; have BK403 := Aside0.mk (hbox); have GW403 := Aside0.mk ((qs_ : w.heap.size ≤ gb403)); have GE403 := Aside0.mk ((qs_ : w.heap.size ≤ gb403)); have NB392_403 := Aside0.mk ((by rw [hg]; exact Nat.ne_of_lt (blk_lt (qk_ BK392)) : gb392 ≠ gb403)); have NB403_392 := Aside0.mk ((by rw [hg]; exact Nat.ne_of_gt (blk_lt (qk_ BK392)) : gb403 ≠ gb392)); replace BK392 := Aside0.mk (blk_below (qk_ BK392) hb); replace HB := Aside0.mk (below_step qB_ hb); clear hb hbox hg; have hnb31 := NB403_392.out; have hnc31 := NB392_403.out; obtain ⟨hcz32_0, hcz32_1, hcz32_2, hcz32_3, hfz32_0, hfz32_1, hfz32_2, hfz32_3⟩ := bc4_ BK403) | ((with_reducible refine gate_callee (f := 66) rfl ?_); refine gl_ (some 27) Try.func66 #[.int .i64 ((rd_T72 l0_1 x21_2).f2), .int .i64 0, .int .i64 4] ?_; (with_reducible refine (impl_in.calls ((rd_T72 l0_1 x21_2).f2) 0 4 true _ A25.out).mono ?_); rintro e w' ⟨rfl, ⟨nd, rfl⟩⟩; refine ⟨_, rfl, ?_⟩; obtain ⟨hcz33_0, hcz33_1, hfz33_0, hfz33_1⟩ := bc2_ BK392) | ((with_reducible refine gate_callee (f := 67) rfl ?_); refine gl_ (some 32) Try.func67 #[.agg #[.int .i64 a0_0, .slice (some ad402) l0_1.length c0_1], .int .i64 ((rd_T72 l0_1 x21_2).f2)] ?_; (with_reducible refine (impl_labelsAt.calls k2 a0_0 _ _ l0_1 ((rd_T72 l0_1 x21_2).f2) t405 _ ?side1 ?side2 A27.out).mono ?_); (case side1 => exact Kd.C_below HR0_1.out qB_); (case side2 => exact HC0_1.out); rintro e w34 ⟨v406, rfl, ho0, hb⟩; refine ⟨_, rfl, ?_⟩; have HO407 := Aside0.mk (Kd.R_lower ho0 (below_size qB_)); replace BK392 := Aside0.mk (blk_below (g := gb392) (o := .cells #[.int .i64 a0_0, .slice (some ad402) l0_1.length c0_1] 29 (0, 0)) (by (with_reducible repeat (first | refine blk_drewN ?_ _ | refine blk_drew ?_ | refine blk_alloc ?_ _)); refine blk_far ?_ NB392_403.out _; (with_reducible repeat (first | refine blk_drewN ?_ _ | refine blk_drew ?_ | refine blk_alloc ?_ _)); refine blk_far ?_ NB392_403.out _; (with_reducible repeat (first | refine blk_drewN ?_ _ | refine blk_drew ?_ | refine blk_alloc ?_ _)); refine blk_far ?_ NB392_403.out _; (with_reducible repeat (first | refine blk_drewN ?_ _ | refine blk_drew ?_ | refine blk_alloc ?_ _)); refine blk_far ?_ NB392_403.out _; (with_reducible repeat (first | refine blk_drewN ?_ _ | refine blk_drew ?_ | refine blk_alloc ?_ _)); exact BK392.out) hb); replace BK403 := Aside0.mk (blk_below (g := gb403) (o := .cells #[.int .i64 ((rd_T72 l0_1 x21_2).f0), .int .i64 ((rd_T72 l0_1 x21_2).f1), .int .i64 ((rd_T72 l0_1 x21_2).f2), .bool true] 72 (0, 0)) (by (with_reducible repeat (first | refine blk_drewN ?_ _ | refine blk_drew ?_ | refine blk_alloc ?_ _)); refine blk_put (cs := #[.int .i64 ((rd_T72 l0_1 x21_2).f0), .int .i64 ((rd_T72 l0_1 x21_2).f1), .int .i64 ((rd_T72 l0_1 x21_2).f2), .bool false]) ?_ 3 _ rfl; (with_reducible repeat (first | refine blk_drewN ?_ _ | refine blk_drew ?_ | refine blk_alloc ?_ _)); refine blk_put (cs := #[.int .i64 ((rd_T72 l0_1 x21_2).f0), .int .i64 ((rd_T72 l0_1 x21_2).f1), .int .i64 0, .bool false]) ?_ 2 _ rfl; (with_reducible repeat (first | refine blk_drewN ?_ _ | refine blk_drew ?_ | refine blk_alloc ?_ _)); refine blk_put (cs := #[.int .i64 ((rd_T72 l0_1 x21_2).f0), .int .i64 0, .int .i64 0, .bool false]) ?_ 1 _ rfl; (with_reducible repeat (first | refine blk_drewN ?_ _ | refine blk_drew ?_ | refine blk_alloc ?_ _)); refine blk_put (cs := #[.int .i64 0, .int .i64 0, .int .i64 0, .bool false]) ?_ 0 _ rfl; (with_reducible repeat (first | refine blk_drewN ?_ _ | refine blk_drew ?_ | refine blk_alloc ?_ _)); exact BK403.out) hb); replace HB := Aside0.mk (below_step qB_ hb); (try clear hb); (try clear hb2); (try clear hk); (try clear hi); (try clear ho0)))
           have n0_ := Aside0.mk (Kd.R_drew HO407.out)
           have n1_ := Aside0.mk (blk_drew BK392.out)
           have n2_ := Aside0.mk (blk_drew BK403.out)
           have n3_ := Aside0.mk (below_drew1 HB.out)
           clear HO407; clear BK392; clear BK403; clear HB; have HO407 := n0_; have BK392 := n1_; have BK403 := n2_; have HB := n3_; clear n0_ n1_ n2_ n3_
           refine start_ (n := 16) (S := fun w' => w'.cell? ⟨gb403, 0, none⟩ = some (.int .i64 ((rd_T72 l0_1 x21_2).f0)) ∧ w'.cell? ⟨gb403, 1, none⟩ = some (.int .i64 ((rd_T72 l0_1 x21_2).f1)) ∧ w'.cell? ⟨gb403, 2, none⟩ = some (.int .i64 ((rd_T72 l0_1 x21_2).f2)) ∧ w'.cell? ⟨gb403, 3, none⟩ = some (.bool true)) (ds := []) (bm 16 0) (by kernel_rfl) rfl (by kernel_rfl) ⟨(blk_cell BK403.out 0).trans rfl, (blk_cell BK403.out 1).trans rfl, (blk_cell BK403.out 2).trans rfl, (blk_cell BK403.out 3).trans rfl⟩ (fun hHeld => ?_); refine with_tabW impl_WebOk.tab9 impl_WebOk.bits9 (fun HT_ HW_ => ?_)
           generalize w34.drew = w35 at HO407 BK392 BK403 HB hHeld ⊢
           refine pz_ 0 33 (bm 16 1) ?_; refine tz4_ 1 34 (bm 16 3) ?_; refine pz_ 2 35 (bm 16 7) ?_; refine pz_ 3 36 (bm 16 15) ?_
           refine pure_ (i := 4) (N := some 37) (v := undef) (a' := ?_) (bm 16 31) rfl rfl (any_of HT_.out (by kernel_rfl)) (fun _ _ _ h => h) (Or.inr ⟨by rfl, rfl⟩) ?_ ?_
           rotate_left
           ·simp only [Act.put, List.setIfInBounds_toArray, List.set_cons_zero, List.set_cons_succ, i64_w, i32_w]
            rfl
           refine pure_ (i := 5) (N := some 38) (v := undef) (a' := ?_) (bm 16 63) rfl rfl (any_of HT_.out (by kernel_rfl)) (fun _ _ _ h => h) (Or.inr ⟨by rfl, rfl⟩) ?_ ?_
           rotate_left
           ·simp only [Act.put, List.setIfInBounds_toArray, List.set_cons_zero, List.set_cons_succ, i64_w, i32_w]
            rfl
           refine pure_ (i := 6) (N := some 39) (v := undef) (a' := ?_) (bm 16 127) rfl rfl (any_of HT_.out (by kernel_rfl)) (fun _ _ _ h => h) (Or.inr ⟨by rfl, rfl⟩) ?_ ?_
           rotate_left
           ·simp only [Act.put, List.setIfInBounds_toArray, List.set_cons_zero, List.set_cons_succ, i64_w, i32_w]
            rfl
           refine pure_ (i := 7) (N := some 40) (v := undef) (a' := ?_) (bm 16 255) rfl rfl (any_of HT_.out (by kernel_rfl)) (fun _ _ _ h => h) (Or.inr ⟨by rfl, rfl⟩) ?_ ?_
           rotate_left
           ·simp only [Act.put, List.setIfInBounds_toArray, List.set_cons_zero, List.set_cons_succ, i64_w, i32_w]
            rfl
           refine pure_ (i := 8) (N := some 41) (v := undef) (a' := ?_) (bm 16 511) rfl rfl (any_of HT_.out (by kernel_rfl)) (fun _ _ _ h => h) (Or.inr ⟨by rfl, rfl⟩) ?_ ?_
           rotate_left
           ·simp only [Act.put, List.setIfInBounds_toArray, List.set_cons_zero, List.set_cons_succ, i64_w, i32_w]
            rfl
           refine pure_ (i := 9) (N := some 42) (v := undef) (a' := ?_) (bm 16 1023) rfl rfl (any_of HT_.out (by kernel_rfl)) (fun _ _ _ h => h) (Or.inr ⟨by rfl, rfl⟩) ?_ ?_
           rotate_left
           ·simp only [Act.put, List.setIfInBounds_toArray, List.set_cons_zero, List.set_cons_succ, i64_w, i32_w]
            rfl
           refine pure_ (i := 10) (N := some 43) (v := undef) (a' := ?_) (bm 16 2047) rfl rfl (any_of HT_.out (by kernel_rfl)) (fun _ _ _ h => h) (Or.inr ⟨by rfl, rfl⟩) ?_ ?_
           rotate_left
           ·simp only [Act.put, List.setIfInBounds_toArray, List.set_cons_zero, List.set_cons_succ, i64_w, i32_w]
            rfl
           refine pure_ (i := 11) (N := some 44) (v := undef) (a' := ?_) (bm 16 4095) rfl rfl (any_of HT_.out (by kernel_rfl)) (fun _ _ _ h => h) (Or.inr ⟨by rfl, rfl⟩) ?_ ?_
           rotate_left
           ·simp only [Act.put, List.setIfInBounds_toArray, List.set_cons_zero, List.set_cons_succ, i64_w, i32_w]
            rfl
           refine pure_ (i := 12) (N := some 45) (v := undef) (a' := ?_) (bm 16 8191) rfl rfl (any_of HT_.out (by kernel_rfl)) (fun _ _ _ h => h) (Or.inr ⟨by rfl, rfl⟩) ?_ ?_
           rotate_left
           ·simp only [Act.put, List.setIfInBounds_toArray, List.set_cons_zero, List.set_cons_succ, i64_w, i32_w]
            rfl
           refine pure_ (i := 13) (N := some 46) (v := undef) (a' := ?_) (bm 16 16383) rfl rfl (any_of HT_.out (by kernel_rfl)) (fun _ _ _ h => h) (Or.inr ⟨by rfl, rfl⟩) ?_ ?_
           rotate_left
           ·simp only [Act.put, List.setIfInBounds_toArray, List.set_cons_zero, List.set_cons_succ, i64_w, i32_w]
            rfl
           refine pure_ (i := 14) (N := some 47) (v := undef) (a' := ?_) (bm 16 32767) rfl rfl (any_of HT_.out (by kernel_rfl)) (fun _ _ _ h => h) (Or.inr ⟨by rfl, rfl⟩) ?_ ?_
           rotate_left
           ·simp only [Act.put, List.setIfInBounds_toArray, List.set_cons_zero, List.set_cons_succ, i64_w, i32_w]
            rfl
           refine pz_ 15 48 (bm 16 65535) ?_
           refine done_ (done_of HT_.out (by kernel_rfl)) ?_
           try go_wp2
           go_roundg k2
           case measure => have := HJ1.out; have := HK2.out; omega
           case rel => exact ⟨(wrap64 (x21_2 + 1)), qe_, H', ⟨by have := HJ1.out; have := HK2.out; omega⟩, ⟨qk_ BK392⟩, ⟨qB_⟩⟩
          ·replace c29 := Bool.eq_false_iff.mpr c29
           subst c29
           rw [if_neg (show ¬ (false = true) by decide)] at H
           by_cases c36 : 0 ≤ ((rd_T72 l0_1 x21_2).f0)
           ·rw [if_pos c36] at H
            have c36b0 : decide (0 ≤ ((rd_T72 l0_1 x21_2).f0)) = true := decide_eq_true c36
            clear c36
            by_cases c37 : ((rd_T72 l0_1 x21_2).f0) < (t405.length : Int)
            ·rw [if_pos c37] at H
             have c37b0 : decide (((rd_T72 l0_1 x21_2).f0) < (t405.length : Int)) = true := decide_eq_true c37
             clear c37
             by_cases c38 : 0 ≤ ((rd_T72 l0_1 x21_2).f1)
             ·rw [if_pos c38] at H
              have c38b0 : decide (0 ≤ ((rd_T72 l0_1 x21_2).f1)) = true := decide_eq_true c38
              clear c38
              by_cases c39 : ((rd_T72 l0_1 x21_2).f1) < (t405.length : Int)
              ·rw [if_pos c39] at H
               have c39b0 : decide (((rd_T72 l0_1 x21_2).f1) < (t405.length : Int)) = true := decide_eq_true c39
               clear c39
               by_cases c40 : (rd t405 ((rd_T72 l0_1 x21_2).f0)) = (rd t405 ((rd_T72 l0_1 x21_2).f1))
               ·rw [if_pos c40] at H
                have c40b0 : ((rd t405 ((rd_T72 l0_1 x21_2).f0)) == (rd t405 ((rd_T72 l0_1 x21_2).f1))) = true := beq_iff_eq.mpr c40
                have c40b1 : ((rd t405 ((rd_T72 l0_1 x21_2).f0)) != (rd t405 ((rd_T72 l0_1 x21_2).f1))) = false := bne_eq_false_iff_eq.mpr c40
                clear c40; have H' := Aside0.mk H; clear H
                have p402 : 0 ≤ (x21_2 : Int) := of_decide_eq_true qa_
                have q402 : x21_2 < (l0_1.length : Int) := of_decide_eq_true qa_
                obtain ⟨ad402, e402, hx402_0, hx402_1, hx402_2, hx402_3⟩ := at_T72 HR0_1.out x21_2 p402 q402
                (try rw [← Nbq28.out] at hx402_3)
                cases e402
                replace hx402_0 := (HB.out.cell (World.block_lt_of_cell? w _ hx402_0)).trans hx402_0
                replace hx402_1 := (HB.out.cell (World.block_lt_of_cell? w _ hx402_1)).trans hx402_1
                replace hx402_2 := (HB.out.cell (World.block_lt_of_cell? w _ hx402_2)).trans hx402_2
                replace hx402_3 := (HB.out.cell (World.block_lt_of_cell? w _ hx402_3)).trans hx402_3
                replace p402 := eq_true p402; replace q402 := eq_true q402
                try go_wp2_with (first | ((with_reducible refine gate_dst (N := 4) rfl ?_); refine bx_ 4 (cs := #[.int .i64 0, .int .i64 0, .int .i64 0, .bool false]) (t := 72) ?_; intro gb403 hg w41 hbox hb; have BK403 := Aside0.mk (hbox); have GW403 := Aside0.mk ((qs_ : w.heap.size ≤ gb403)); have GE403 := Aside0.mk ((qs_ : w.heap.size ≤ gb403)); have NB392_403 := Aside0.mk ((by rw [hg]; exact Nat.ne_of_lt (blk_lt (qk_ BK392)) : gb392 ≠ gb403)); have NB403_392 := Aside0.mk ((by rw [hg]; exact Nat.ne_of_gt (blk_lt (qk_ BK392)) : gb403 ≠ gb392)); replace BK392 := Aside0.mk (blk_below (qk_ BK392) hb); replace HB := Aside0.mk (below_step qB_ hb); clear hb hbox hg; have hnb42 := NB403_392.out; have hnc42 := NB392_403.out; obtain ⟨hcz43_0, hcz43_1, hcz43_2, hcz43_3, hfz43_0, hfz43_1, hfz43_2, hfz43_3⟩ := bc4_ BK403) | ((with_reducible refine gate_callee (f := 66) rfl ?_); refine gl_ (some 27) Try.func66 #[.int .i64 ((rd_T72 l0_1 x21_2).f2), .int .i64 0, .int .i64 4] ?_; (with_reducible refine (impl_in.calls ((rd_T72 l0_1 x21_2).f2) 0 4 true _ A25.out).mono ?_); rintro e w' ⟨rfl, ⟨nd, rfl⟩⟩; refine ⟨_, rfl, ?_⟩; obtain ⟨hcz44_0, hcz44_1, hfz44_0, hfz44_1⟩ := bc2_ BK392) | ((with_reducible refine gate_callee (f := 67) rfl ?_); refine gl_ (some 32) Try.func67 #[.agg #[.int .i64 a0_0, .slice (some ad402) l0_1.length c0_1], .int .i64 ((rd_T72 l0_1 x21_2).f2)] ?_; (with_reducible refine (impl_labelsAt.calls k2 a0_0 _ _ l0_1 ((rd_T72 l0_1 x21_2).f2) t405 _ ?side1 ?side2 A27.out).mono ?_); (case side1 => exact Kd.C_below HR0_1.out qB_); (case side2 => exact HC0_1.out); rintro e w45 ⟨v406, rfl, ho0, hb⟩; refine ⟨_, rfl, ?_⟩; have HO407 := Aside0.mk (Kd.R_lower ho0 (below_size qB_)); replace BK392 := Aside0.mk (blk_below (g := gb392) (o := .cells #[.int .i64 a0_0, .slice (some ad402) l0_1.length c0_1] 29 (0, 0)) (by (with_reducible repeat (first | refine blk_drewN ?_ _ | refine blk_drew ?_ | refine blk_alloc ?_ _)); refine blk_far ?_ NB392_403.out _; (with_reducible repeat (first | refine blk_drewN ?_ _ | refine blk_drew ?_ | refine blk_alloc ?_ _)); refine blk_far ?_ NB392_403.out _; (with_reducible repeat (first | refine blk_drewN ?_ _ | refine blk_drew ?_ | refine blk_alloc ?_ _)); refine blk_far ?_ NB392_403.out _; (with_reducible repeat (first | refine blk_drewN ?_ _ | refine blk_drew ?_ | refine blk_alloc ?_ _)); refine blk_far ?_ NB392_403.out _; (with_reducible repeat (first | refine blk_drewN ?_ _ | refine blk_drew ?_ | refine blk_alloc ?_ _)); exact BK392.out) hb); replace BK403 := Aside0.mk (blk_below (g := gb403) (o := .cells #[.int .i64 ((rd_T72 l0_1 x21_2).f0), .int .i64 ((rd_T72 l0_1 x21_2).f1), .int .i64 ((rd_T72 l0_1 x21_2).f2), .bool false] 72 (0, 0)) (by (with_reducible repeat (first | refine blk_drewN ?_ _ | refine blk_drew ?_ | refine blk_alloc ?_ _)); refine blk_put (cs := #[.int .i64 ((rd_T72 l0_1 x21_2).f0), .int .i64 ((rd_T72 l0_1 x21_2).f1), .int .i64 ((rd_T72 l0_1 x21_2).f2), .bool false]) ?_ 3 _ rfl; (with_reducible repeat (first | refine blk_drewN ?_ _ | refine blk_drew ?_ | refine blk_alloc ?_ _)); refine blk_put (cs := #[.int .i64 ((rd_T72 l0_1 x21_2).f0), .int .i64 ((rd_T72 l0_1 x21_2).f1), .int .i64 0, .bool false]) ?_ 2 _ rfl; (with_reducible repeat (first | refine blk_drewN ?_ _ | refine blk_drew ?_ | refine blk_alloc ?_ _)); refine blk_put (cs := #[.int .i64 ((rd_T72 l0_1 x21_2).f0), .int .i64 0, .int .i64 0, .bool false]) ?_ 1 _ rfl; (with_reducible repeat (first | refine blk_drewN ?_ _ | refine blk_drew ?_ | refine blk_alloc ?_ _)); refine blk_put (cs := #[.int .i64 0, .int .i64 0, .int .i64 0, .bool false]) ?_ 0 _ rfl; (with_reducible repeat (first | refine blk_drewN ?_ _ | refine blk_drew ?_ | refine blk_alloc ?_ _)); exact BK403.out) hb); replace HB := Aside0.mk (below_step qB_ hb); (try clear hb); (try clear hb2); (try clear hk); (try clear hi); (try clear ho0)))
                have n0_ := Aside0.mk (Kd.R_drew HO407.out)
                have n1_ := Aside0.mk (blk_drew BK392.out)
                have n2_ := Aside0.mk (blk_drew BK403.out)
                have n3_ := Aside0.mk (below_drew1 HB.out)
                clear HO407; clear BK392; clear BK403; clear HB; have HO407 := n0_; have BK392 := n1_; have BK403 := n2_; have HB := n3_; clear n0_ n1_ n2_ n3_
                obtain ⟨Ao47, co47, eo47⟩ := Kd.R_slice HO407.out
                (first | subst eo47 | (injection eo47 with f1_ f2_ f3_; have f4_ := f1_.symm; have f5_ := f3_.symm; clear f1_ f2_ f3_; subst f4_; subst f5_))
                have p408 : 0 ≤ (((rd_T72 l0_1 x21_2).f0) : Int) := of_decide_eq_true qa_
                have q408 : ((rd_T72 l0_1 x21_2).f0) < (t405.length : Int) := of_decide_eq_true qa_
                obtain ⟨ad408, e408, hx408_0⟩ := Kd.at_int (Kd.R_reads' HO407.out).2.2 ((rd_T72 l0_1 x21_2).f0) p408 q408
                cases e408; replace p408 := eq_true p408; replace q408 := eq_true q408
                have p409 : 0 ≤ (((rd_T72 l0_1 x21_2).f1) : Int) := of_decide_eq_true qa_
                have q409 : ((rd_T72 l0_1 x21_2).f1) < (t405.length : Int) := of_decide_eq_true qa_
                obtain ⟨ad409, e409, hx409_0⟩ := Kd.at_int (Kd.R_reads' HO407.out).2.2 ((rd_T72 l0_1 x21_2).f1) p409 q409
                obtain rfl : ad408 = ad409 := (by injection e409)
                replace p409 := eq_true p409; replace q409 := eq_true q409
                refine start_ (n := 16) (S := fun w' => w'.cell? ⟨gb403, 0, none⟩ = some (.int .i64 ((rd_T72 l0_1 x21_2).f0)) ∧ w'.cell? ⟨gb403, 1, none⟩ = some (.int .i64 ((rd_T72 l0_1 x21_2).f1)) ∧ w'.cell? ⟨gb403, 2, none⟩ = some (.int .i64 ((rd_T72 l0_1 x21_2).f2)) ∧ w'.cell? ⟨gb403, 3, none⟩ = some (.bool false) ∧ w'.cell? (ad408.add (((rd_T72 l0_1 x21_2).f0)).toNat) = some (.int .i64 (rd t405 ((rd_T72 l0_1 x21_2).f0))) ∧ w'.cell? (ad408.add (((rd_T72 l0_1 x21_2).f1)).toNat) = some (.int .i64 (rd t405 ((rd_T72 l0_1 x21_2).f1)))) (ds := []) (bm 16 0) (by kernel_rfl) rfl (by kernel_rfl) ⟨(blk_cell BK403.out 0).trans rfl, (blk_cell BK403.out 1).trans rfl, (blk_cell BK403.out 2).trans rfl, (blk_cell BK403.out 3).trans rfl, hx408_0, hx409_0⟩ (fun hHeld => ?_); refine with_tabW impl_WebOk.tab9 impl_WebOk.bits9 (fun HT_ HW_ => ?_)
                generalize w45.drew = w46 at HO407 BK392 BK403 HB hx408_0 hx409_0 hHeld ⊢
                refine pz_ 0 33 (bm 16 1) ?_; refine tz6_ 1 34 (bm 16 3) ?_; refine pz_ 2 35 (bm 16 7) ?_; refine pz_ 3 36 (bm 16 15) ?_; refine pz_ 4 37 (bm 16 31) ?_; refine pz_ 5 38 (bm 16 63) ?_; refine pz_ 9 42 (bm 16 575) ?_; refine pz_ 10 43 (bm 16 1599) ?_; refine tz6_ 6 39 (bm 16 1663) ?_; refine pz_ 7 40 (bm 16 1791) ?_; refine tz6_ 8 41 (bm 16 2047) ?_; refine tz6_ 11 44 (bm 16 4095) ?_; refine pz_ 12 45 (bm 16 8191) ?_; refine tz6_ 13 46 (bm 16 16383) ?_; refine pz_ 14 47 (bm 16 32767) ?_; refine pz_ 15 48 (bm 16 65535) ?_
                refine done_ (done_of HT_.out (by kernel_rfl)) ?_
                try go_wp2
                go_roundg k2
                case measure => have := HJ1.out; have := HK2.out; omega
                case rel => exact ⟨(wrap64 (x21_2 + 1)), qe_, H', ⟨by have := HJ1.out; have := HK2.out; omega⟩, ⟨qk_ BK392⟩, ⟨qB_⟩⟩
               ·rw [if_neg c40] at H
                have c40b0 : ((rd t405 ((rd_T72 l0_1 x21_2).f0)) == (rd t405 ((rd_T72 l0_1 x21_2).f1))) = false := beq_eq_false_iff_ne.mpr c40
                have c40b1 : ((rd t405 ((rd_T72 l0_1 x21_2).f0)) != (rd t405 ((rd_T72 l0_1 x21_2).f1))) = true := bne_iff_ne.mpr c40
                obtain rfl := Option.some.inj H
                have p402 : 0 ≤ (x21_2 : Int) := of_decide_eq_true qa_
                have q402 : x21_2 < (l0_1.length : Int) := of_decide_eq_true qa_
                obtain ⟨ad402, e402, hx402_0, hx402_1, hx402_2, hx402_3⟩ := at_T72 HR0_1.out x21_2 p402 q402
                (try rw [← Nbq28.out] at hx402_3)
                cases e402
                replace hx402_0 := (HB.out.cell (World.block_lt_of_cell? w _ hx402_0)).trans hx402_0
                replace hx402_1 := (HB.out.cell (World.block_lt_of_cell? w _ hx402_1)).trans hx402_1
                replace hx402_2 := (HB.out.cell (World.block_lt_of_cell? w _ hx402_2)).trans hx402_2
                replace hx402_3 := (HB.out.cell (World.block_lt_of_cell? w _ hx402_3)).trans hx402_3
                replace p402 := eq_true p402; replace q402 := eq_true q402
                try go_wp2_with (first | ((with_reducible refine gate_dst (N := 4) rfl ?_); refine bx_ 4 (cs := #[.int .i64 0, .int .i64 0, .int .i64 0, .bool false]) (t := 72) ?_; intro gb403 hg w48 hbox hb; have BK403 := Aside0.mk (hbox); have GW403 := Aside0.mk ((qs_ : w.heap.size ≤ gb403)); have GE403 := Aside0.mk ((qs_ : w.heap.size ≤ gb403)); have NB392_403 := Aside0.mk ((by rw [hg]; exact Nat.ne_of_lt (blk_lt (qk_ BK392)) : gb392 ≠ gb403)); have NB403_392 := Aside0.mk ((by rw [hg]; exact Nat.ne_of_gt (blk_lt (qk_ BK392)) : gb403 ≠ gb392)); replace BK392 := Aside0.mk (blk_below (qk_ BK392) hb); replace HB := Aside0.mk (below_step qB_ hb); clear hb hbox hg; have hnb49 := NB403_392.out; have hnc49 := NB392_403.out; obtain ⟨hcz50_0, hcz50_1, hcz50_2, hcz50_3, hfz50_0, hfz50_1, hfz50_2, hfz50_3⟩ := bc4_ BK403) | ((with_reducible refine gate_callee (f := 66) rfl ?_); refine gl_ (some 27) Try.func66 #[.int .i64 ((rd_T72 l0_1 x21_2).f2), .int .i64 0, .int .i64 4] ?_; (with_reducible refine (impl_in.calls ((rd_T72 l0_1 x21_2).f2) 0 4 true _ A25.out).mono ?_); rintro e w' ⟨rfl, ⟨nd, rfl⟩⟩; refine ⟨_, rfl, ?_⟩; obtain ⟨hcz51_0, hcz51_1, hfz51_0, hfz51_1⟩ := bc2_ BK392) | ((with_reducible refine gate_callee (f := 67) rfl ?_); refine gl_ (some 32) Try.func67 #[.agg #[.int .i64 a0_0, .slice (some ad402) l0_1.length c0_1], .int .i64 ((rd_T72 l0_1 x21_2).f2)] ?_; (with_reducible refine (impl_labelsAt.calls k2 a0_0 _ _ l0_1 ((rd_T72 l0_1 x21_2).f2) t405 _ ?side1 ?side2 A27.out).mono ?_); (case side1 => exact Kd.C_below HR0_1.out qB_); (case side2 => exact HC0_1.out); rintro e w52 ⟨v406, rfl, ho0, hb⟩; refine ⟨_, rfl, ?_⟩; have HO407 := Aside0.mk (Kd.R_lower ho0 (below_size qB_)); replace BK392 := Aside0.mk (blk_below (g := gb392) (o := .cells #[.int .i64 a0_0, .slice (some ad402) l0_1.length c0_1] 29 (0, 0)) (by (with_reducible repeat (first | refine blk_drewN ?_ _ | refine blk_drew ?_ | refine blk_alloc ?_ _)); refine blk_far ?_ NB392_403.out _; (with_reducible repeat (first | refine blk_drewN ?_ _ | refine blk_drew ?_ | refine blk_alloc ?_ _)); refine blk_far ?_ NB392_403.out _; (with_reducible repeat (first | refine blk_drewN ?_ _ | refine blk_drew ?_ | refine blk_alloc ?_ _)); refine blk_far ?_ NB392_403.out _; (with_reducible repeat (first | refine blk_drewN ?_ _ | refine blk_drew ?_ | refine blk_alloc ?_ _)); refine blk_far ?_ NB392_403.out _; (with_reducible repeat (first | refine blk_drewN ?_ _ | refine blk_drew ?_ | refine blk_alloc ?_ _)); exact BK392.out) hb); replace BK403 := Aside0.mk (blk_below (g := gb403) (o := .cells #[.int .i64 ((rd_T72 l0_1 x21_2).f0), .int .i64 ((rd_T72 l0_1 x21_2).f1), .int .i64 ((rd_T72 l0_1 x21_2).f2), .bool false] 72 (0, 0)) (by (with_reducible repeat (first | refine blk_drewN ?_ _ | refine blk_drew ?_ | refine blk_alloc ?_ _)); refine blk_put (cs := #[.int .i64 ((rd_T72 l0_1 x21_2).f0), .int .i64 ((rd_T72 l0_1 x21_2).f1), .int .i64 ((rd_T72 l0_1 x21_2).f2), .bool false]) ?_ 3 _ rfl; (with_reducible repeat (first | refine blk_drewN ?_ _ | refine blk_drew ?_ | refine blk_alloc ?_ _)); refine blk_put (cs := #[.int .i64 ((rd_T72 l0_1 x21_2).f0), .int .i64 ((rd_T72 l0_1 x21_2).f1), .int .i64 0, .bool false]) ?_ 2 _ rfl; (with_reducible repeat (first | refine blk_drewN ?_ _ | refine blk_drew ?_ | refine blk_alloc ?_ _)); refine blk_put (cs := #[.int .i64 ((rd_T72 l0_1 x21_2).f0), .int .i64 0, .int .i64 0, .bool false]) ?_ 1 _ rfl; (with_reducible repeat (first | refine blk_drewN ?_ _ | refine blk_drew ?_ | refine blk_alloc ?_ _)); refine blk_put (cs := #[.int .i64 0, .int .i64 0, .int .i64 0, .bool false]) ?_ 0 _ rfl; (with_reducible repeat (first | refine blk_drewN ?_ _ | refine blk_drew ?_ | refine blk_alloc ?_ _)); exact BK403.out) hb); replace HB := Aside0.mk (below_step qB_ hb); (try clear hb); (try clear hb2); (try clear hk); (try clear hi); (try clear ho0)))
                have n0_ := Aside0.mk (Kd.R_drew HO407.out)
                have n1_ := Aside0.mk (blk_drew BK392.out)
                have n2_ := Aside0.mk (blk_drew BK403.out)
                have n3_ := Aside0.mk (below_drew1 HB.out)
                clear HO407; clear BK392; clear BK403; clear HB; have HO407 := n0_; have BK392 := n1_; have BK403 := n2_; have HB := n3_; clear n0_ n1_ n2_ n3_
                obtain ⟨Ao54, co54, eo54⟩ := Kd.R_slice HO407.out
                (first | subst eo54 | (injection eo54 with f1_ f2_ f3_; have f4_ := f1_.symm; have f5_ := f3_.symm; clear f1_ f2_ f3_; subst f4_; subst f5_))
                have p408 : 0 ≤ (((rd_T72 l0_1 x21_2).f0) : Int) := of_decide_eq_true qa_
                have q408 : ((rd_T72 l0_1 x21_2).f0) < (t405.length : Int) := of_decide_eq_true qa_
                obtain ⟨ad408, e408, hx408_0⟩ := Kd.at_int (Kd.R_reads' HO407.out).2.2 ((rd_T72 l0_1 x21_2).f0) p408 q408
                cases e408; replace p408 := eq_true p408; replace q408 := eq_true q408
                have p409 : 0 ≤ (((rd_T72 l0_1 x21_2).f1) : Int) := of_decide_eq_true qa_
                have q409 : ((rd_T72 l0_1 x21_2).f1) < (t405.length : Int) := of_decide_eq_true qa_
                obtain ⟨ad409, e409, hx409_0⟩ := Kd.at_int (Kd.R_reads' HO407.out).2.2 ((rd_T72 l0_1 x21_2).f1) p409 q409
                obtain rfl : ad408 = ad409 := (by injection e409)
                replace p409 := eq_true p409; replace q409 := eq_true q409
                refine start_ (n := 16) (S := fun w' => w'.cell? ⟨gb403, 0, none⟩ = some (.int .i64 ((rd_T72 l0_1 x21_2).f0)) ∧ w'.cell? ⟨gb403, 1, none⟩ = some (.int .i64 ((rd_T72 l0_1 x21_2).f1)) ∧ w'.cell? ⟨gb403, 2, none⟩ = some (.int .i64 ((rd_T72 l0_1 x21_2).f2)) ∧ w'.cell? ⟨gb403, 3, none⟩ = some (.bool false) ∧ w'.cell? (ad408.add (((rd_T72 l0_1 x21_2).f0)).toNat) = some (.int .i64 (rd t405 ((rd_T72 l0_1 x21_2).f0))) ∧ w'.cell? (ad408.add (((rd_T72 l0_1 x21_2).f1)).toNat) = some (.int .i64 (rd t405 ((rd_T72 l0_1 x21_2).f1)))) (ds := []) (bm 16 0) (by kernel_rfl) rfl (by kernel_rfl) ⟨(blk_cell BK403.out 0).trans rfl, (blk_cell BK403.out 1).trans rfl, (blk_cell BK403.out 2).trans rfl, (blk_cell BK403.out 3).trans rfl, hx408_0, hx409_0⟩ (fun hHeld => ?_); refine with_tabW impl_WebOk.tab9 impl_WebOk.bits9 (fun HT_ HW_ => ?_)
                generalize w52.drew = w53 at HO407 BK392 BK403 HB hx408_0 hx409_0 hHeld ⊢
                refine pz_ 0 33 (bm 16 1) ?_; refine tz6_ 1 34 (bm 16 3) ?_; refine pz_ 2 35 (bm 16 7) ?_; refine pz_ 3 36 (bm 16 15) ?_; refine pz_ 4 37 (bm 16 31) ?_; refine pz_ 5 38 (bm 16 63) ?_; refine pz_ 9 42 (bm 16 575) ?_; refine pz_ 10 43 (bm 16 1599) ?_; refine tz6_ 6 39 (bm 16 1663) ?_; refine pz_ 7 40 (bm 16 1791) ?_; refine tz6_ 8 41 (bm 16 2047) ?_; refine tz6_ 11 44 (bm 16 4095) ?_; refine pz_ 12 45 (bm 16 8191) ?_; refine tz6_ 13 46 (bm 16 16383) ?_; refine pz_ 14 47 (bm 16 32767) ?_; refine pz_ 15 48 (bm 16 65535) ?_
                refine done_ (done_of HT_.out (by kernel_rfl)) ?_
                try go_wp2
                go_ret
                exact ⟨qr_, qB_⟩
              ·rw [if_neg c39] at H
               exact absurd H (by simp)
             ·rw [if_neg c38] at H
              exact absurd H (by simp)
            ·rw [if_neg c37] at H
             exact absurd H (by simp)
           ·rw [if_neg c36] at H
            exact absurd H (by simp)
         ·replace c26 := Bool.eq_false_iff.mpr c26
          subst c26
          rw [if_neg (show ¬ (false = true) by decide)] at H
          obtain rfl := Option.some.inj H
          have p402 : 0 ≤ (x21_2 : Int) := of_decide_eq_true qa_
          have q402 : x21_2 < (l0_1.length : Int) := of_decide_eq_true qa_
          obtain ⟨ad402, e402, hx402_0, hx402_1, hx402_2, hx402_3⟩ := at_T72 HR0_1.out x21_2 p402 q402
          cases e402
          replace hx402_0 := (HB.out.cell (World.block_lt_of_cell? w _ hx402_0)).trans hx402_0
          replace hx402_1 := (HB.out.cell (World.block_lt_of_cell? w _ hx402_1)).trans hx402_1
          replace hx402_2 := (HB.out.cell (World.block_lt_of_cell? w _ hx402_2)).trans hx402_2
          replace hx402_3 := (HB.out.cell (World.block_lt_of_cell? w _ hx402_3)).trans hx402_3
          replace p402 := eq_true p402; replace q402 := eq_true q402
          go_wp2_with (first | ((with_reducible refine gate_dst (N := 4) rfl ?_); refine bx_ 4 (cs := #[.int .i64 0, .int .i64 0, .int .i64 0, .bool false]) (t := 72) ?_; intro gb403 hg w55 hbox hb; have BK403 := Aside0.mk (hbox); have GW403 := Aside0.mk ((qs_ : w.heap.size ≤ gb403)); have GE403 := Aside0.mk ((qs_ : w.heap.size ≤ gb403)); have NB392_403 := Aside0.mk ((by rw [hg]; exact Nat.ne_of_lt (blk_lt (qk_ BK392)) : gb392 ≠ gb403)); have NB403_392 := Aside0.mk ((by rw [hg]; exact Nat.ne_of_gt (blk_lt (qk_ BK392)) : gb403 ≠ gb392)); replace BK392 := Aside0.mk (blk_below (qk_ BK392) hb); replace HB := Aside0.mk (below_step qB_ hb); clear hb hbox hg; have hnb56 := NB403_392.out; have hnc56 := NB392_403.out; obtain ⟨hcz57_0, hcz57_1, hcz57_2, hcz57_3, hfz57_0, hfz57_1, hfz57_2, hfz57_3⟩ := bc4_ BK403) | ((with_reducible refine gate_callee (f := 66) rfl ?_); refine gl_ (some 27) Try.func66 #[.int .i64 ((rd_T72 l0_1 x21_2).f2), .int .i64 0, .int .i64 4] ?_; (with_reducible refine (impl_in.calls ((rd_T72 l0_1 x21_2).f2) 0 4 false _ A25.out).mono ?_); rintro e w' ⟨rfl, ⟨nd, rfl⟩⟩; refine ⟨_, rfl, ?_⟩))
          go_ret
          exact ⟨qr_, qB_⟩
        ·rw [if_neg c24] at H
         exact absurd H (by simp)
       ·rw [if_neg c23] at H
        exact absurd H (by simp)
      ·rw [if_neg c22] at H
       have c22b0 : decide (x21_2 < (l0_1.length : Int)) = false := decide_eq_false c22
       clear c22; have H' := Aside0.mk H; clear H
       go_wp2
       go_loopg [6] k2 (fun kq v6 w' => ∃ (x6_3 : Int), v6 = .int .i64 x6_3 ∧ Aside0 (impl_WebOk.l1 kq x6_3 a0_0 l0_1 = some r) ∧ Aside0 (kq ≤ k2) ∧ Aside0 (w'.heap[gb392]? = some (.cells #[.int .i64 a0_0, (.slice A0_1 l0_1.length c0_1)] 29 (0, 0))) ∧ Aside0 (Below w.heap.size w w'))
       case atStart => exact ⟨(1), qe_, H', ⟨Nat.le_refl _⟩, ⟨qk_ BK392⟩, ⟨qB_⟩⟩
       case round =>
        clear H'
        (try clear c1); (try clear c2); (try clear p2); (try clear q2); (try clear c3); (try clear c4); (try clear p4); (try clear q4); (try clear hx4); (try clear c5); (try clear c6); (try clear p6); (try clear c16); (try clear c20); (try clear c22); (try clear c22b0); (try clear c23); (try clear c23b0); (try clear c24); (try clear c24b0); (try clear c26); (try clear q28); (try clear c29); (try clear c31); (try clear c36); (try clear c36b0); (try clear c37); (try clear c37b0); (try clear c38); (try clear c38b0); (try clear c39); (try clear c39b0); (try clear c40); (try clear c40b0); (try clear c40b1); (try clear p40); (try clear q40); (try clear hx40); (try clear c42); (try clear c49); (try clear c56); (try clear hcz21_0); (try clear hcz21_1); (try clear hcz32_0); (try clear hcz32_1); (try clear hcz32_2); (try clear hcz32_3); (try clear hcz33_0); (try clear hcz33_1); (try clear hcz43_0); (try clear hcz43_1); (try clear hcz43_2); (try clear hcz43_3); (try clear hcz44_0); (try clear hcz44_1); (try clear hcz50_0); (try clear hcz50_1); (try clear hcz50_2); (try clear hcz50_3); (try clear hcz51_0); (try clear hcz51_1); (try clear hcz57_0); (try clear hcz57_1); (try clear hcz57_2); (try clear hcz57_3); (try clear hfz21_0); (try clear hfz21_1); (try clear hfz32_0); (try clear hfz32_1); (try clear hfz32_2); (try clear hfz32_3); (try clear hfz33_0); (try clear hfz33_1); (try clear hfz43_0); (try clear hfz43_1); (try clear hfz43_2); (try clear hfz43_3); (try clear hfz44_0); (try clear hfz44_1); (try clear hfz50_0); (try clear hfz50_1); (try clear hfz50_2); (try clear hfz50_3); (try clear hfz51_0); (try clear hfz51_1); (try clear hfz57_0); (try clear hfz57_1); (try clear hfz57_2); (try clear hfz57_3); (try clear hx402_0); (try clear hx402_1); (try clear hx402_2); (try clear hx402_3); (try clear hx408_0); (try clear hx409_0); (try clear p2); (try clear p402); (try clear p408); (try clear p409); (try clear q402); (try clear q408); (try clear q409)
        obtain ⟨x6_3, rfl, HA, HK3, BK392, HB⟩ := hrel
        cases gk with
        | zero => exact absurd HA.out (by simp [impl_WebOk.l1])
        | succ k3 =>
         have H := HA.out; clear HA
         simp only [impl_WebOk.l1] at H
         by_cases c58 : x6_3 ≤ 4
         ·rw [if_pos c58] at H
          have c58b0 : decide (x6_3 ≤ 4) = true := decide_eq_true c58
          clear c58
          obtain ⟨t410, A590, H⟩ := Option.bind_eq_some_iff.mp H; have A59 := Aside0.mk A590; clear A590
          by_cases c60 : t410 = true
          ·subst c60
           rw [if_pos rfl] at H; have H' := Aside0.mk H; clear H
           obtain ⟨hcz61_0, hcz61_1, hfz61_0, hfz61_1⟩ := bc2_ BK392
           go_wp2_with (first | ((with_reducible refine gate_callee (f := 68) rfl ?_); refine gl_ (some 56) Try.func68 #[.agg #[.int .i64 a0_0, .slice A0_1 l0_1.length c0_1], .int .i64 x6_3] ?_; (with_reducible refine (impl_levelOk.calls k3 a0_0 _ _ l0_1 x6_3 true _ ?side1 ?side2 A59.out).mono ?_); (case side1 => exact qC_ HR0_1 HB); (case side2 => exact HC0_1.out); rintro e w62 ⟨rfl, hb⟩; refine ⟨_, rfl, ?_⟩; replace BK392 := Aside0.mk (blk_below (qk_ BK392) hb); replace HB := Aside0.mk (below_step qB_ hb); (try clear hb); (try clear hb2); (try clear hk); (try clear hi)))
           go_roundg k3
           case measure => have := HJ1.out; have := HK2.out; have := HK3.out; omega
           case rel => exact ⟨(wrap64 (x6_3 + 1)), qe_, H', ⟨by have := HJ1.out; have := HK2.out; have := HK3.out; omega⟩, ⟨qk_ BK392⟩, ⟨qB_⟩⟩
          ·replace c60 := Bool.eq_false_iff.mpr c60
           subst c60
           rw [if_neg (show ¬ (false = true) by decide)] at H
           obtain rfl := Option.some.inj H
           obtain ⟨hcz63_0, hcz63_1, hfz63_0, hfz63_1⟩ := bc2_ BK392
           go_wp2_with (first | ((with_reducible refine gate_callee (f := 68) rfl ?_); refine gl_ (some 56) Try.func68 #[.agg #[.int .i64 a0_0, .slice A0_1 l0_1.length c0_1], .int .i64 x6_3] ?_; (with_reducible refine (impl_levelOk.calls k3 a0_0 _ _ l0_1 x6_3 false _ ?side1 ?side2 A59.out).mono ?_); (case side1 => exact qC_ HR0_1 HB); (case side2 => exact HC0_1.out); rintro e w64 ⟨rfl, hb⟩; refine ⟨_, rfl, ?_⟩; replace BK392 := Aside0.mk (blk_below (qk_ BK392) hb); replace HB := Aside0.mk (below_step qB_ hb); (try clear hb); (try clear hb2); (try clear hk); (try clear hi)))
           go_ret
           exact ⟨qr_, qB_⟩
         ·rw [if_neg c58] at H
          have c58b0 : decide (x6_3 ≤ 4) = false := decide_eq_false c58
          clear c58
          obtain rfl := Option.some.inj H
          go_wp2
          go_ret
          exact ⟨qr_, qB_⟩

end Go.Proofs.Ytbkklafkoegdpaa.QFnExactWebLabels
