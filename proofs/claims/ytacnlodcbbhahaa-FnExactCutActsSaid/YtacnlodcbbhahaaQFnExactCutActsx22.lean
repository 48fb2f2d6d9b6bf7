-- printed for this claim by a program of the session's own (no text of the kit's print)
import Derived.Test.YtacnlodcbbhahaaQFnExactCutActsx0
import Derived.Test.YtacnlodcbbhahaaQFnExactCutActsx14
import Derived.Test.YtacnlodcbbhahaaQFnExactCutActsx16
import Derived.Test.YtacnlodcbbhahaaQFnExactCutActsx21
namespace Go.Proofs.Ytacnlodcbbhahaa.QFnExactCutActs
open Go.RowKit Go.Proofs.YtacnlodcbbhahaaW.PrintWords Go.Proofs.YtacnlodcbbhahaaW.PrintLast Go.Proofs.YtacnlodcbbhahaaW.PrintMore
attribute [local go_sem] max2_int min2_int max_two min_two max_three min_three max_four min_four   -- for this text's walks alone
set_option linter.unusedVariables false
set_option linter.unusedSimpArgs false

/-! ### spec_CutActs: function 58 -/
def spec_CutActs.f (k : Nat) (l0_0 : List (S99)) (l1 : List (S60)) (a2 : Int) (l3 : List Int) : Option ((List (S99)) × Bool) := (spec_l01In.f a2 0 (l1.length : Int)).bind fun t376 => (if t376 = true then (if 0 ≤ a2 then (if a2 ≤ (l1.length : Int) then ((spec_DoActs.f k l0_0 (l1.take (a2 : Int).toNat)).bind fun bt381 => (if bt381.2 < a2 then (some (([] : List (S99)), false)) else ((spec_LoseDisk.f k bt381.1 l3).bind fun bt386 => (some (bt386.1, bt386.2))))) else (none)) else (none)) else (some (([] : List (S99)), false)))
theorem spec_CutActs.mono : ∀ a0 a1 a2 a3 k, LeO (spec_CutActs.f k a0 a1 a2 a3) (spec_CutActs.f (k + 1) a0 a1 a2 a3) := by
  intro a0 a1 a2 a3 k
  unfold spec_CutActs.f
  repeat' first | (with_reducible first | exact spec_DoActs.mono _ _ _ | exact spec_LoseDisk.mono _ _ _ | exact LeO.refl _ | exact LeO.none _ | refine LeO.ite ?_ ?_ | refine LeO.bind ?_ (fun _ => ?_)) | exact LeO.none _ | refine LeO.ite ?_ ?_ | refine LeO.bind ?_ (fun _ => ?_)
def spec_CutActs.T3 : Bool × List (List Nat × List Nat) := (true, [([], []), ([], []), ([], []), ([1, 2], [1, 2]), ([0, 3], [0, 3]), ([4], [4]), ([5], [5]), ([5], [5]), ([], []), ([8, 6, 4, 0, 1, 2, 3, 4, 5, 6, 8], [6, 8]), ([7, 9, 0, 1, 2, 3, 4, 5, 6, 7, 8, 9], [7])])
def spec_CutActs.B3 : List Nat := [0, 0, 0, 6, 15, 31, 63, 63, 0, 383, 1023]
theorem spec_CutActs.tab3 : rtab .any (opsOf Try.f58 3) = spec_CutActs.T3 := by kernel_rfl
theorem spec_CutActs.bits3 : waitsOk spec_CutActs.T3.2 spec_CutActs.B3 = true := by kernel_rfl
set_option maxHeartbeats 8000000 in
set_option maxRecDepth 100000 in
theorem spec_CutActs.calls (k : Nat) (A0_0 : Option Addr) (c0_0 : Nat) (l0_0 : List (S99)) (A1 : Option Addr) (c1 : Nat) (l1 : List (S60)) (a2 : Int) (A3 : Option Addr) (c3 : Nat) (l3 : List Int) (r1 : List (S99)) (r2 : Bool) (w : World) (hr0_0 : Kd.C k99 w A0_0 l0_0.length l0_0) (hc0_0 : l0_0.length ≤ c0_0) (hr1 : Kd.C k60 w A1 l1.length l1) (hc1 : l1.length ≤ c1) (hr3 : Kd.C (Kd.int .i64) w A3 l3.length l3) (hc3 : l3.length ≤ c3) (h : spec_CutActs.f k l0_0 l1 a2 l3 = some (r1, r2)) :
  Calls Try.prog 58 #[.agg #[.slice A0_0 l0_0.length c0_0], .slice A1 l1.length c1, .int .i64 a2, .slice A3 l3.length c3] w fun e w' => ∃ v0_ : Value, e = .returned (.tuple #[.agg #[v0_], .bool r2]) ∧ Kd.R k99 99 w' w.heap.size (fun _ => True) v0_ r1 ∧ Below w.heap.size w w' := by
 have hu44 := Try.underlying44
 have HR0_0 := am_ hr0_0
 have HC0_0 := am_ hc0_0
 clear hr0_0 hc0_0
 have HR1 := am_ hr1
 have HC1 := am_ hc1
 clear hr1 hc1
 have HR3 := am_ hr3
 have HC3 := am_ hc3
 clear hr3 hc3
 have HB := am_ (Below.refl w.heap.size w)
 have H : ((spec_l01In.f a2 0 (l1.length : Int)).bind fun t376 => (if t376 = true then (if 0 ≤ a2 then (if a2 ≤ (l1.length : Int) then ((spec_DoActs.f k l0_0 (l1.take (a2 : Int).toNat)).bind fun bt381 => (if bt381.2 < a2 then (some (([] : List (S99)), false)) else ((spec_LoseDisk.f k bt381.1 l3).bind fun bt386 => (some (bt386.1, bt386.2))))) else (none)) else (none)) else (some (([] : List (S99)), false)))) = some (r1, r2) := h
 clear h
 obtain ⟨t376, A50, H⟩ := Option.bind_eq_some_iff.mp H; have A5 := am_ A50; clear A50
 by_cases c6 : t376 = true
 ·subst c6
  rw [if_pos rfl] at H
  by_cases c7 : 0 ≤ a2
  ·rw [if_pos c7] at H
   have c7b0 := eq_true c7
   have c7b1 : decide (0 ≤ a2) = true := decide_eq_true c7
   clear c7
   by_cases c8 : a2 ≤ (l1.length : Int)
   ·rw [if_pos c8] at H
    have c8b0 := eq_true c8
    have c8b1 : decide (a2 ≤ (l1.length : Int)) = true := decide_eq_true c8
    clear c8
    obtain ⟨y377, hy377⟩ : ∃ y_ : List (S60), y_ = (l1.take (a2 : Int).toNat) := ⟨_, rfl⟩
    replace H : ((spec_DoActs.f k l0_0 y377).bind fun bt381 => (if bt381.2 < a2 then (some (([] : List (S99)), false)) else ((spec_LoseDisk.f k bt381.1 l3).bind fun bt386 => (some (bt386.1, bt386.2))))) = some (r1, r2) := by first | (rw [hy377]; with_reducible exact H) | (have H2_ := (Option.bind_some _ _).symm.trans H; rw [hy377]; with_reducible exact H2_) | (have H2_ := (Option.bind_some _ _).symm.trans H; with_reducible exact H2_) | with_reducible exact H | (rw [hy377]; exact H) | exact H
    have Ny377 := am_ hy377
    clear hy377
    replace H := Option.bind_eq_some_iff.mp H
    obtain ⟨⟨t381, t384⟩, A90, H⟩ := H
    replace H : (if t384 < a2 then (some (([] : List (S99)), false)) else ((spec_LoseDisk.f k t381 l3).bind fun bt386 => (some (bt386.1, bt386.2)))) = some (r1, r2) := H
    have A9 := am_ A90
    clear A90
    by_cases c10 : t384 < a2
    ·rw [if_pos c10] at H
     have c10b0 : decide (t384 < a2) = true := decide_eq_true c10
     clear c10
     simp only [Option.some.injEq, Prod.mk.injEq] at H
     obtain ⟨rfl, rfl⟩ := H
     go_enter Try.func58, Try.ntmps58
     try go_wp2_with (first | ((with_reducible refine gate_dst (N := 4) rfl ?_); refine bx_ 4 (cs := #[.slice A0_0 l0_0.length c0_0]) (t := 44) ?_; intro gb374 hg w11 hbox hb; have BK374 := am_ (hbox); have GW374 := am_ ((qs_ : w.heap.size ≤ gb374)); have GE374 := GW374; replace HB := hs_ hb; clear hb hbox hg) | ((with_reducible refine gate_dst (N := 8) rfl ?_); refine bx_ 8 (cs := #[.slice none 0 0]) (t := 44) ?_; intro gb375 hg w12 hbox hb; have BK375 := am_ (hbox); have GW375 := am_ ((qs_ : w.heap.size ≤ gb375)); have GE375 := GW375; obtain ⟨NB374_375, NB375_374⟩ := qn_ BK374 hg; replace BK374 := qbl_ BK374 hb; replace HB := hs_ hb; clear hb hbox hg) | ((with_reducible refine gate_callee (f := 64) rfl ?_); refine gl_ (some 15) Try.func64 #[.int .i64 a2, .int .i64 0, .int .i64 (l1.length : Int)] ?_; (with_reducible refine (spec_l01In.calls a2 0 (l1.length : Int) true _ A5.out).mono ?_); rintro e w' ⟨rfl, ⟨nd, rfl⟩⟩; refine ⟨_, rfl, ?_⟩; (try (rw [drewN_self w12]; generalize hq_ : World.drewN w12 _ = w12; have n0_ : Aside0 (w12.heap[gb374]? = some (.cells #[.slice A0_0 l0_0.length c0_0] 44 (0, 0))) := ⟨by rw [← hq_]; exact (qk_ BK374)⟩; have n1_ : Aside0 (w12.heap[gb375]? = some (.cells #[.slice none 0 0] 44 (0, 0))) := ⟨by rw [← hq_]; exact (qk_ BK375)⟩; have n2_ : Aside0 (Below w.heap.size w w12) := ⟨by rw [← hq_]; exact qB_⟩; clear BK374 BK375 HB hq_; have BK374 := n0_; have BK375 := n1_; have HB := n2_; clear n0_ n1_ n2_; have hcr_gb374_0 : w12.cell? ⟨gb374, 0, none⟩ = some (.slice A0_0 l0_0.length c0_0) := bl_ BK374 0; have hfr_gb374_0 := blk_frozen BK374.out 0; have hcr_gb375_0 : w12.cell? ⟨gb375, 0, none⟩ = some (.slice none 0 0) := bl_ BK375 0; have hfr_gb375_0 := blk_frozen BK375.out 0))))
     replace BK374 := am_ (blk_drew BK374.out); replace BK375 := am_ (blk_drew BK375.out); replace HB := am_ (below_drew1 HB.out)
     have q14 : (a2 : Int) ≤ ((l1.length : Int) : Int) := of_decide_eq_true qa_
     obtain ⟨i014, hi014, _, hsz14, _⟩ := info_parts info60
     have hroom14 : l1.length ≤ c1 := HC1.out
     have hC14 : Kd.C k60 _ A1 l1.length l1 := HR1.out
     have hcut14 := cut_to (P := Try.prog) 71 60 .i64 Try.underlying71 hi014 A1 l1.length c1 a2 (of_decide_eq_true qa_) q14 hroom14
     have hr14 := Kd.C_take (m := (a2 : Int).toNat) hC14 (by omega)
     have hy14 : y377.length = (a2 : Int).toNat := (by rw [Ny377.out, List.length_take]; omega)
     rw [← Ny377.out] at hr14
     rw [← hy14] at hcut14
     have HR380 := am_ hr14
     have HC380 := am_ (show y377.length ≤ c1 from by omega)
     clear hr14 hC14 hroom14 hi014 hsz14
     have KY14 := am_ hy14
     clear hy14; replace q14 := eq_true q14
     refine start_ (n := 11) (S := fun w' => w'.cell? ⟨gb374, 0, none⟩ = some (.slice A0_0 l0_0.length c0_0)) (ds := []) (bm 11 0) (by kernel_rfl) rfl (by kernel_rfl) (bl_ BK374 0) (fun hHeld => ?_); refine with_tabW spec_CutActs.tab3 spec_CutActs.bits3 (fun HT_ HW_ => ?_)
     generalize w12.drew = w13 at BK374 BK375 HB HR380 hHeld ⊢
     refine pz_ 1 20 (bm 11 2) ?_; refine pz_ 2 21 (bm 11 6) ?_; refine pz_ 3 22 (bm 11 14) ?_
     refine take_ (i := 0) (N := some 19) (v := ?_) (a' := ?_) (bm 11 15) rfl rfl (take_ofW HT_.out HW_.out (by kernel_rfl)) (fun _ _ _ h => h) (Or.inl ⟨by rfl, ?_⟩) hHeld ?_ ?_
     rotate_left
     ·intro w' s0
      go_simp
      with_reducible rfl
     rotate_left
     ·simp only [Act.put, sA_, sB_, sC_, i64_w, i32_w]
      rfl
     refine join_ (σ := Value × Nat) 2 #[true, true, true, true, true, true, true, true, true, false, false] (fun s_ => [(23, .tuple #[.agg #[s_.1], .int .i64 t384]), (10, .pointer (some ⟨s_.2, 0, none⟩)), (18, .tuple #[.agg #[s_.1], .int .i64 t384]), (24, .agg #[s_.1]), (25, .int .i64 t384)]) (fun s_ w' => (w'.cell? ⟨gb374, 0, none⟩ = some (.slice A0_0 l0_0.length c0_0)) ∧ (Kd.R k99 99 w' w.heap.size (fun _ => True) s_.1 t381) ∧ (w'.heap[gb374]? = some (.cells #[.slice A0_0 l0_0.length c0_0] 44 (0, 0))) ∧ (w'.heap[gb375]? = some (.cells #[.slice none 0 0] 44 (0, 0))) ∧ (w'.heap[s_.2]? = some (.cells #[.slice none 0 0] 44 (0, 0))) ∧ (w.heap.size ≤ s_.2) ∧ (w.heap.size ≤ s_.2) ∧ (gb374 ≠ s_.2) ∧ (s_.2 ≠ gb374) ∧ (gb375 ≠ s_.2) ∧ (s_.2 ≠ gb375) ∧ (Below w.heap.size w w')) ?_ ?_
     rotate_left
     ·intro hCont
      refine two_ (i := 4) (j := 8) (Ni := some 23) (Nj := some 10) (bm 11 31) #[true, true, true, true, false, false, false, false, true, false, false] rfl rfl rfl rfl (two_of HT_.out (by kernel_rfl)) (by decide) (by decide) (fun K hK => ?_) (fun K hK => ?_)
      ·skip
       refine goes_ Try.func48 (by kernel_rfl) rfl #[.agg #[.slice A0_0 l0_0.length c0_0], .slice A1 y377.length c1] (by rfl) rfl rfl (by (try simp only [List.map_toArray, List.map_cons, List.map_nil]); first | done | rfl | (simp only [List.length_drop, List.length_take]; rfl)) ?_
       with_reducible refine (spec_DoActs.calls k _ _ l0_0 _ _ y377 t381 t384 _ ?side1 ?side2 ?side3 ?side4 A9.out).mono ?_
       (case side1 => exact qC_ HR0_0 HB)
       (case side2 => exact HC0_0.out)
       (case side3 => exact qC_ HR380 HB)
       (case side4 => exact HC380.out)
       rintro e w15 ⟨v382, rfl, ho0, hb⟩
       refine ⟨_, rfl, ?_⟩
       have HO383 := am_ (Kd.R_lower ho0 (below_size qB_)); replace BK374 := qbl_ BK374 hb; replace BK375 := qbl_ BK375 hb; replace HB := am_ (below_step qB_ hb); (try clear hb); (try clear hb2); (try clear hk); (try clear hi); (try clear ho0)
       refine hK.out _ _ (bl_ BK374 0) (fun hHeld => ?_)
       clear hK K
       refine nm_ 23 ?_
       refine pz_ 5 18 (bm 11 63) ?_; refine pz_ 6 24 (bm 11 127) ?_; refine pz_ 7 25 (bm 11 255) ?_
       refine o1_ 8 (some 10) (bm 11 511) (fun K hK => ?_)
       refine box_step ?hg (N := 10) ?hd (cs := #[.slice none 0 0]) (t := 44) ?hr ?_; (case hd => rfl); (case hg => rfl); (case hr => first | (go_simp; done) | (go_simp; rfl))
       intro gb385 hg w16 hbox hb
       have n0_ := am_ (Kd.R_below (qR_ HO383) hb)
       have n1_ := qbl_ BK374 hb
       have n2_ := qbl_ BK375 hb
       have n3_ := am_ (below_step qB_ hb)
       have n4_ := am_ (hbox)
       have n5_ := am_ ((qs_ : w.heap.size ≤ gb385))
       have n6_ := am_ ((qs_ : w.heap.size ≤ gb385))
       have n7_ := am_ ((by rw [hg]; exact Nat.ne_of_lt (blk_lt (qk_ BK374)) : gb374 ≠ gb385))
       have n8_ := am_ ((by rw [hg]; exact Nat.ne_of_gt (blk_lt (qk_ BK374)) : gb385 ≠ gb374))
       have n9_ := am_ ((by rw [hg]; exact Nat.ne_of_lt (blk_lt (qk_ BK375)) : gb375 ≠ gb385))
       have n10_ := am_ ((by rw [hg]; exact Nat.ne_of_gt (blk_lt (qk_ BK375)) : gb385 ≠ gb375))
       clear HO383; clear BK374; clear BK375; clear HB; have HO383 := n0_; have BK374 := n1_; have BK375 := n2_; have HB := n3_; have BK385 := n4_; have GW385 := n5_; have GE385 := n6_; have NB374_385 := n7_; have NB385_374 := n8_; have NB375_385 := n9_; have NB385_375 := n10_; clear n0_ n1_ n2_ n3_ n4_ n5_ n6_ n7_ n8_ n9_ n10_; clear hb hbox hg
       refine hK.out _ _ (bl_ BK374 0) (fun hHeld => ?_)
       clear hK K
       refine nm_ 10 ?_
       exact norm_ (by simp only [putAll, Act.put, sA_, sB_, sC_]) (hCont (v382, gb385) _ ⟨hHeld, (qR_ HO383), (qk_ BK374), (qk_ BK375), (qk_ BK385), GW385.out, GE385.out, NB374_385.out, NB385_374.out, NB375_385.out, NB385_375.out, qB_⟩)
      skip
      refine box_step ?hg (N := 10) ?hd (cs := #[.slice none 0 0]) (t := 44) ?hr ?_; (case hd => rfl); (case hg => rfl); (case hr => first | (go_simp; done) | (go_simp; rfl))
      intro gb385 hg w15 hbox hb
      have n0_ := qbl_ BK374 hb
      have n1_ := qbl_ BK375 hb
      have n2_ := am_ (below_step qB_ hb)
      have n3_ := am_ (hbox)
      have n4_ := am_ ((qs_ : w.heap.size ≤ gb385))
      have n5_ := am_ ((qs_ : w.heap.size ≤ gb385))
      have n6_ := am_ ((by rw [hg]; exact Nat.ne_of_lt (blk_lt (qk_ BK374)) : gb374 ≠ gb385))
      have n7_ := am_ ((by rw [hg]; exact Nat.ne_of_gt (blk_lt (qk_ BK374)) : gb385 ≠ gb374))
      have n8_ := am_ ((by rw [hg]; exact Nat.ne_of_lt (blk_lt (qk_ BK375)) : gb375 ≠ gb385))
      have n9_ := am_ ((by rw [hg]; exact Nat.ne_of_gt (blk_lt (qk_ BK375)) : gb385 ≠ gb375))
      clear BK374; clear BK375; clear HB; have BK374 := n0_; have BK375 := n1_; have HB := n2_; have BK385 := n3_; have GW385 := n4_; have GE385 := n5_; have NB374_385 := n6_; have NB385_374 := n7_; have NB375_385 := n8_; have NB385_375 := n9_; clear n0_ n1_ n2_ n3_ n4_ n5_ n6_ n7_ n8_ n9_; clear hb hbox hg
      refine hK.out _ _ (bl_ BK374 0) (fun hHeld => ?_)
      clear hK K
      refine nm_ 10 ?_
      refine o1_ 4 (some 23) (bm 11 287) (fun K hK => ?_)
      refine goes_ Try.func48 (by kernel_rfl) rfl #[.agg #[.slice A0_0 l0_0.length c0_0], .slice A1 y377.length c1] (by rfl) rfl rfl (by (try simp only [List.map_toArray, List.map_cons, List.map_nil]); first | done | rfl | (simp only [List.length_drop, List.length_take]; rfl)) ?_
      with_reducible refine (spec_DoActs.calls k _ _ l0_0 _ _ y377 t381 t384 _ ?side1 ?side2 ?side3 ?side4 A9.out).mono ?_
      (case side1 => exact qC_ HR0_0 HB)
      (case side2 => exact HC0_0.out)
      (case side3 => exact qC_ HR380 HB)
      (case side4 => exact HC380.out)
      rintro e w16 ⟨v382, rfl, ho0, hb⟩
      refine ⟨_, rfl, ?_⟩
      have HO383 := am_ (Kd.R_lower ho0 (below_size qB_)); replace BK374 := qbl_ BK374 hb; replace BK375 := qbl_ BK375 hb; replace BK385 := qbl_ BK385 hb; replace HB := am_ (below_step qB_ hb); (try clear hb); (try clear hb2); (try clear hk); (try clear hi); (try clear ho0)
      refine hK.out _ _ (bl_ BK374 0) (fun hHeld => ?_)
      clear hK K
      refine nm_ 23 ?_
      refine pz_ 5 18 (bm 11 319) ?_; refine pz_ 6 24 (bm 11 383) ?_; refine pz_ 7 25 (bm 11 511) ?_
      exact norm_ (by simp only [putAll, Act.put, sA_, sB_, sC_]) (hCont (v382, gb385) _ ⟨hHeld, (qR_ HO383), (qk_ BK374), (qk_ BK375), (qk_ BK385), GW385.out, GE385.out, NB374_385.out, NB385_374.out, NB375_385.out, NB385_375.out, qB_⟩)
     rintro ⟨v382, gb385⟩ w17 ⟨hS_, h0_, h1_, h2_, h3_, h4_, h5_, h6_, h7_, h8_, h9_, h10_⟩
     have n0_ : Aside0 (Kd.R k99 99 w17 w.heap.size (fun _ => True) v382 t381) := ⟨h0_⟩
     have n1_ : Aside0 (w17.heap[gb374]? = some (.cells #[.slice A0_0 l0_0.length c0_0] 44 (0, 0))) := ⟨h1_⟩
     have n2_ : Aside0 (w17.heap[gb375]? = some (.cells #[.slice none 0 0] 44 (0, 0))) := ⟨h2_⟩
     have n3_ : Aside0 (w17.heap[gb385]? = some (.cells #[.slice none 0 0] 44 (0, 0))) := ⟨h3_⟩
     have n4_ : Aside0 (w.heap.size ≤ gb385) := ⟨h4_⟩
     have n5_ : Aside0 (w.heap.size ≤ gb385) := ⟨h5_⟩
     have n6_ : Aside0 (gb374 ≠ gb385) := ⟨h6_⟩
     have n7_ : Aside0 (gb385 ≠ gb374) := ⟨h7_⟩
     have n8_ : Aside0 (gb375 ≠ gb385) := ⟨h8_⟩
     have n9_ : Aside0 (gb385 ≠ gb375) := ⟨h9_⟩
     have n10_ : Aside0 (Below w.heap.size w w17) := ⟨h10_⟩
     clear BK374; clear BK375; clear HB; clear h0_ h1_ h2_ h3_ h4_ h5_ h6_ h7_ h8_ h9_ h10_; have HO383 := n0_; have BK374 := n1_; have BK375 := n2_; have BK385 := n3_; have GW385 := n4_; have GE385 := n5_; have NB374_385 := n6_; have NB385_374 := n7_; have NB375_385 := n8_; have NB385_375 := n9_; have HB := n10_; clear n0_ n1_ n2_ n3_ n4_ n5_ n6_ n7_ n8_ n9_ n10_
     have hHeld : w17.cell? ⟨gb374, 0, none⟩ = some (.slice A0_0 l0_0.length c0_0) := hS_
     obtain ⟨Ao18, co18, eo18⟩ := Kd.R_slice HO383.out
     (first | subst eo18 | (injection eo18 with f1_ f2_ f3_; have f4_ := f1_.symm; have f5_ := f3_.symm; clear f1_ f2_ f3_; subst f4_; subst f5_))
     refine norm_ (a' := ?_) ?_ ?_
     rotate_left
     ·simp only [putAll, Act.put, sA_, sB_, sC_]
      rfl
     refine o1_ 9 none (bm 11 1023) (fun K hK => ?_)
     have hs19 : w17.cell? ⟨gb385, 0, none⟩ = some (.slice none 0 0) := bl_ BK385 0
     have hfs19 := blk_frozen BK385.out 0
     have hns19_0 := NB374_385.out; have hns19_1 := NB375_385.out; have hms19_0 := NB385_374.out; have hms19_1 := NB385_375.out
     refine skip_ (w1 := ?_) (by rfl) rfl ?_ ?_
     rotate_left
     ·go_simp
      rfl
     refine hK.out _ _ (((cell_far (p := ⟨gb385, _, none⟩) NB374_385.out _).trans (hHeld))) (fun hHeld => ?_)
     clear hK K; refine pz_ 10 11 (bm 11 2047) ?_
     refine done_ (done_of HT_.out (by kernel_rfl)) ?_
     obtain ⟨hnb20, hnc20⟩ := nn_ NB375_374; obtain ⟨hnb21, hnc21⟩ := nn_ NB375_385
     obtain ⟨hcz22_0, hfz22_0⟩ := bc1_ BK375
     try go_wp2
     refine bodyPost_ret (results_ct rfl _ _ gb375 44 #[.slice none 0 0] (0, 0) _ rfl (by (with_reducible repeat (first | refine blk_drewN ?_ _ | refine blk_drew ?_ | refine blk_alloc ?_ _)); refine blk_put (cs := #[.slice none 0 0]) ?_ 0 _ rfl; exact qf_ BK375) Try.underlying44 rfl (by kernel_rfl)) rfl ?_
     exact ⟨_, qr_, by first | exact Kd.R_nil _ _ _ _ _ | exact Kd.N_nil _ _ _ _ _ | exact Kd.V_nil _ _ _ _ _ | exact Kd.Q_nil _ _ _ _ _ | exact Kd.S_nil _ _ _ _ _, qB_⟩
    rw [if_neg c10] at H
    have c10b0 : decide (t384 < a2) = false := decide_eq_false c10
    clear c10
    replace H := Option.bind_eq_some_iff.mp H
    obtain ⟨⟨t386, t389⟩, A230, H⟩ := H
    replace H : (some (t386, t389)) = some (r1, r2) := H
    have A23 := am_ A230
    clear A230
    simp only [Option.some.injEq, Prod.mk.injEq] at H
    obtain ⟨rfl, rfl⟩ := H
    go_enter Try.func58, Try.ntmps58
    try go_wp2_with (first | ((with_reducible refine gate_dst (N := 4) rfl ?_); refine bx_ 4 (cs := #[.slice A0_0 l0_0.length c0_0]) (t := 44) ?_; intro gb374 hg w24 hbox hb; have BK374 := am_ (hbox); have GW374 := am_ ((qs_ : w.heap.size ≤ gb374)); have GE374 := GW374; replace HB := hs_ hb; clear hb hbox hg) | ((with_reducible refine gate_dst (N := 8) rfl ?_); refine bx_ 8 (cs := #[.slice none 0 0]) (t := 44) ?_; intro gb375 hg w25 hbox hb; have BK375 := am_ (hbox); have GW375 := am_ ((qs_ : w.heap.size ≤ gb375)); have GE375 := GW375; obtain ⟨NB374_375, NB375_374⟩ := qn_ BK374 hg; replace BK374 := qbl_ BK374 hb; replace HB := hs_ hb; clear hb hbox hg) | ((with_reducible refine gate_callee (f := 64) rfl ?_); refine gl_ (some 15) Try.func64 #[.int .i64 a2, .int .i64 0, .int .i64 (l1.length : Int)] ?_; (with_reducible refine (spec_l01In.calls a2 0 (l1.length : Int) true _ A5.out).mono ?_); rintro e w' ⟨rfl, ⟨nd, rfl⟩⟩; refine ⟨_, rfl, ?_⟩; (try (rw [drewN_self w25]; generalize hq_ : World.drewN w25 _ = w25; have n0_ : Aside0 (w25.heap[gb374]? = some (.cells #[.slice A0_0 l0_0.length c0_0] 44 (0, 0))) := ⟨by rw [← hq_]; exact (qk_ BK374)⟩; have n1_ : Aside0 (w25.heap[gb375]? = some (.cells #[.slice none 0 0] 44 (0, 0))) := ⟨by rw [← hq_]; exact (qk_ BK375)⟩; have n2_ : Aside0 (Below w.heap.size w w25) := ⟨by rw [← hq_]; exact qB_⟩; clear BK374 BK375 HB hq_; have BK374 := n0_; have BK375 := n1_; have HB := n2_; clear n0_ n1_ n2_; have hcr_gb374_0 : w25.cell? ⟨gb374, 0, none⟩ = some (.slice A0_0 l0_0.length c0_0) := bl_ BK374 0; have hfr_gb374_0 := blk_frozen BK374.out 0; have hcr_gb375_0 : w25.cell? ⟨gb375, 0, none⟩ = some (.slice none 0 0) := bl_ BK375 0; have hfr_gb375_0 := blk_frozen BK375.out 0))))
    replace BK374 := am_ (blk_drew BK374.out); replace BK375 := am_ (blk_drew BK375.out); replace HB := am_ (below_drew1 HB.out)
    have q27 : (a2 : Int) ≤ ((l1.length : Int) : Int) := of_decide_eq_true qa_
    obtain ⟨i027, hi027, _, hsz27, _⟩ := info_parts info60
    have hroom27 : l1.length ≤ c1 := HC1.out
    have hC27 : Kd.C k60 _ A1 l1.length l1 := HR1.out
    have hcut27 := cut_to (P := Try.prog) 71 60 .i64 Try.underlying71 hi027 A1 l1.length c1 a2 (of_decide_eq_true qa_) q27 hroom27
    have hr27 := Kd.C_take (m := (a2 : Int).toNat) hC27 (by omega)
    have hy27 : y377.length = (a2 : Int).toNat := (by rw [Ny377.out, List.length_take]; omega)
    rw [← Ny377.out] at hr27
    rw [← hy27] at hcut27
    have HR380 := am_ hr27
    have HC380 := am_ (show y377.length ≤ c1 from by omega)
    clear hr27 hC27 hroom27 hi027 hsz27
    have KY27 := am_ hy27
    clear hy27; replace q27 := eq_true q27
    refine start_ (n := 11) (S := fun w' => w'.cell? ⟨gb374, 0, none⟩ = some (.slice A0_0 l0_0.length c0_0)) (ds := []) (bm 11 0) (by kernel_rfl) rfl (by kernel_rfl) (bl_ BK374 0) (fun hHeld => ?_); refine with_tabW spec_CutActs.tab3 spec_CutActs.bits3 (fun HT_ HW_ => ?_)
    generalize w25.drew = w26 at BK374 BK375 HB HR380 hHeld ⊢
    refine pz_ 1 20 (bm 11 2) ?_; refine pz_ 2 21 (bm 11 6) ?_; refine pz_ 3 22 (bm 11 14) ?_
    refine take_ (i := 0) (N := some 19) (v := ?_) (a' := ?_) (bm 11 15) rfl rfl (take_ofW HT_.out HW_.out (by kernel_rfl)) (fun _ _ _ h => h) (Or.inl ⟨by rfl, ?_⟩) hHeld ?_ ?_
    rotate_left
    ·intro w' s0
     go_simp
     with_reducible rfl
    rotate_left
    ·simp only [Act.put, sA_, sB_, sC_, i64_w, i32_w]
     rfl
    refine join_ (σ := Value × Nat) 2 #[true, true, true, true, true, true, true, true, true, false, false] (fun s_ => [(23, .tuple #[.agg #[s_.1], .int .i64 t384]), (10, .pointer (some ⟨s_.2, 0, none⟩)), (18, .tuple #[.agg #[s_.1], .int .i64 t384]), (24, .agg #[s_.1]), (25, .int .i64 t384)]) (fun s_ w' => (w'.cell? ⟨gb374, 0, none⟩ = some (.slice A0_0 l0_0.length c0_0)) ∧ (Kd.R k99 99 w' w.heap.size (fun _ => True) s_.1 t381) ∧ (w'.heap[gb374]? = some (.cells #[.slice A0_0 l0_0.length c0_0] 44 (0, 0))) ∧ (w'.heap[gb375]? = some (.cells #[.slice none 0 0] 44 (0, 0))) ∧ (w'.heap[s_.2]? = some (.cells #[.slice none 0 0] 44 (0, 0))) ∧ (w.heap.size ≤ s_.2) ∧ (w.heap.size ≤ s_.2) ∧ (gb374 ≠ s_.2) ∧ (s_.2 ≠ gb374) ∧ (gb375 ≠ s_.2) ∧ (s_.2 ≠ gb375) ∧ (Below w.heap.size w w')) ?_ ?_
    rotate_left
    ·intro hCont
     refine two_ (i := 4) (j := 8) (Ni := some 23) (Nj := some 10) (bm 11 31) #[true, true, true, true, false, false, false, false, true, false, false] rfl rfl rfl rfl (two_of HT_.out (by kernel_rfl)) (by decide) (by decide) (fun K hK => ?_) (fun K hK => ?_)
     ·skip
      refine goes_ Try.func48 (by kernel_rfl) rfl #[.agg #[.slice A0_0 l0_0.length c0_0], .slice A1 y377.length c1] (by rfl) rfl rfl (by (try simp only [List.map_toArray, List.map_cons, List.map_nil]); first | done | rfl | (simp only [List.length_drop, List.length_take]; rfl)) ?_
      with_reducible refine (spec_DoActs.calls k _ _ l0_0 _ _ y377 t381 t384 _ ?side1 ?side2 ?side3 ?side4 A9.out).mono ?_
      (case side1 => exact qC_ HR0_0 HB)
      (case side2 => exact HC0_0.out)
      (case side3 => exact qC_ HR380 HB)
      (case side4 => exact HC380.out)
      rintro e w28 ⟨v382, rfl, ho0, hb⟩
      refine ⟨_, rfl, ?_⟩
      have HO383 := am_ (Kd.R_lower ho0 (below_size qB_)); replace BK374 := qbl_ BK374 hb; replace BK375 := qbl_ BK375 hb; replace HB := am_ (below_step qB_ hb); (try clear hb); (try clear hb2); (try clear hk); (try clear hi); (try clear ho0)
      refine hK.out _ _ (bl_ BK374 0) (fun hHeld => ?_)
      clear hK K
      refine nm_ 23 ?_
      refine pz_ 5 18 (bm 11 63) ?_; refine pz_ 6 24 (bm 11 127) ?_; refine pz_ 7 25 (bm 11 255) ?_
      refine o1_ 8 (some 10) (bm 11 511) (fun K hK => ?_)
      refine box_step ?hg (N := 10) ?hd (cs := #[.slice none 0 0]) (t := 44) ?hr ?_; (case hd => rfl); (case hg => rfl); (case hr => first | (go_simp; done) | (go_simp; rfl))
      intro gb385 hg w29 hbox hb
      have n0_ := am_ (Kd.R_below (qR_ HO383) hb)
      have n1_ := qbl_ BK374 hb
      have n2_ := qbl_ BK375 hb
      have n3_ := am_ (below_step qB_ hb)
      have n4_ := am_ (hbox)
      have n5_ := am_ ((qs_ : w.heap.size ≤ gb385))
      have n6_ := am_ ((qs_ : w.heap.size ≤ gb385))
      have n7_ := am_ ((by rw [hg]; exact Nat.ne_of_lt (blk_lt (qk_ BK374)) : gb374 ≠ gb385))
      have n8_ := am_ ((by rw [hg]; exact Nat.ne_of_gt (blk_lt (qk_ BK374)) : gb385 ≠ gb374))
      have n9_ := am_ ((by rw [hg]; exact Nat.ne_of_lt (blk_lt (qk_ BK375)) : gb375 ≠ gb385))
      have n10_ := am_ ((by rw [hg]; exact Nat.ne_of_gt (blk_lt (qk_ BK375)) : gb385 ≠ gb375))
      clear HO383; clear BK374; clear BK375; clear HB; have HO383 := n0_; have BK374 := n1_; have BK375 := n2_; have HB := n3_; have BK385 := n4_; have GW385 := n5_; have GE385 := n6_; have NB374_385 := n7_; have NB385_374 := n8_; have NB375_385 := n9_; have NB385_375 := n10_; clear n0_ n1_ n2_ n3_ n4_ n5_ n6_ n7_ n8_ n9_ n10_; clear hb hbox hg
      refine hK.out _ _ (bl_ BK374 0) (fun hHeld => ?_)
      clear hK K
      refine nm_ 10 ?_
      exact norm_ (by simp only [putAll, Act.put, sA_, sB_, sC_]) (hCont (v382, gb385) _ ⟨hHeld, (qR_ HO383), (qk_ BK374), (qk_ BK375), (qk_ BK385), GW385.out, GE385.out, NB374_385.out, NB385_374.out, NB375_385.out, NB385_375.out, qB_⟩)
     skip
     refine box_step ?hg (N := 10) ?hd (cs := #[.slice none 0 0]) (t := 44) ?hr ?_; (case hd => rfl); (case hg => rfl); (case hr => first | (go_simp; done) | (go_simp; rfl))
     intro gb385 hg w28 hbox hb
     have n0_ := qbl_ BK374 hb
     have n1_ := qbl_ BK375 hb
     have n2_ := am_ (below_step qB_ hb)
     have n3_ := am_ (hbox)
     have n4_ := am_ ((qs_ : w.heap.size ≤ gb385))
     have n5_ := am_ ((qs_ : w.heap.size ≤ gb385))
     have n6_ := am_ ((by rw [hg]; exact Nat.ne_of_lt (blk_lt (qk_ BK374)) : gb374 ≠ gb385))
     have n7_ := am_ ((by rw [hg]; exact Nat.ne_of_gt (blk_lt (qk_ BK374)) : gb385 ≠ gb374))
     have n8_ := am_ ((by rw [hg]; exact Nat.ne_of_lt (blk_lt (qk_ BK375)) : gb375 ≠ gb385))
     have n9_ := am_ ((by rw [hg]; exact Nat.ne_of_gt (blk_lt (qk_ BK375)) : gb385 ≠ gb375))
     clear BK374; clear BK375; clear HB; have BK374 := n0_; have BK375 := n1_; have HB := n2_; have BK385 := n3_; have GW385 := n4_; have GE385 := n5_; have NB374_385 := n6_; have NB385_374 := n7_; have NB375_385 := n8_; have NB385_375 := n9_; clear n0_ n1_ n2_ n3_ n4_ n5_ n6_ n7_ n8_ n9_; clear hb hbox hg
     refine hK.out _ _ (bl_ BK374 0) (fun hHeld => ?_)
     clear hK K
     refine nm_ 10 ?_
     refine o1_ 4 (some 23) (bm 11 287) (fun K hK => ?_)
     refine goes_ Try.func48 (by kernel_rfl) rfl #[.agg #[.slice A0_0 l0_0.length c0_0], .slice A1 y377.length c1] (by rfl) rfl rfl (by (try simp only [List.map_toArray, List.map_cons, List.map_nil]); first | done | rfl | (simp only [List.length_drop, List.length_take]; rfl)) ?_
     with_reducible refine (spec_DoActs.calls k _ _ l0_0 _ _ y377 t381 t384 _ ?side1 ?side2 ?side3 ?side4 A9.out).mono ?_
     (case side1 => exact qC_ HR0_0 HB)
     (case side2 => exact HC0_0.out)
     (case side3 => exact qC_ HR380 HB)
     (case side4 => exact HC380.out)
     rintro e w29 ⟨v382, rfl, ho0, hb⟩
     refine ⟨_, rfl, ?_⟩
     have HO383 := am_ (Kd.R_lower ho0 (below_size qB_)); replace BK374 := qbl_ BK374 hb; replace BK375 := qbl_ BK375 hb; replace BK385 := qbl_ BK385 hb; replace HB := am_ (below_step qB_ hb); (try clear hb); (try clear hb2); (try clear hk); (try clear hi); (try clear ho0)
     refine hK.out _ _ (bl_ BK374 0) (fun hHeld => ?_)
     clear hK K
     refine nm_ 23 ?_
     refine pz_ 5 18 (bm 11 319) ?_; refine pz_ 6 24 (bm 11 383) ?_; refine pz_ 7 25 (bm 11 511) ?_
     exact norm_ (by simp only [putAll, Act.put, sA_, sB_, sC_]) (hCont (v382, gb385) _ ⟨hHeld, (qR_ HO383), (qk_ BK374), (qk_ BK375), (qk_ BK385), GW385.out, GE385.out, NB374_385.out, NB385_374.out, NB375_385.out, NB385_375.out, qB_⟩)
    rintro ⟨v382, gb385⟩ w30 ⟨hS_, h0_, h1_, h2_, h3_, h4_, h5_, h6_, h7_, h8_, h9_, h10_⟩
    have n0_ : Aside0 (Kd.R k99 99 w30 w.heap.size (fun _ => True) v382 t381) := ⟨h0_⟩
    have n1_ : Aside0 (w30.heap[gb374]? = some (.cells #[.slice A0_0 l0_0.length c0_0] 44 (0, 0))) := ⟨h1_⟩
    have n2_ : Aside0 (w30.heap[gb375]? = some (.cells #[.slice none 0 0] 44 (0, 0))) := ⟨h2_⟩
    have n3_ : Aside0 (w30.heap[gb385]? = some (.cells #[.slice none 0 0] 44 (0, 0))) := ⟨h3_⟩
    have n4_ : Aside0 (w.heap.size ≤ gb385) := ⟨h4_⟩
    have n5_ : Aside0 (w.heap.size ≤ gb385) := ⟨h5_⟩
    have n6_ : Aside0 (gb374 ≠ gb385) := ⟨h6_⟩
    have n7_ : Aside0 (gb385 ≠ gb374) := ⟨h7_⟩
    have n8_ : Aside0 (gb375 ≠ gb385) := ⟨h8_⟩
    have n9_ : Aside0 (gb385 ≠ gb375) := ⟨h9_⟩
    have n10_ : Aside0 (Below w.heap.size w w30) := ⟨h10_⟩
    clear BK374; clear BK375; clear HB; clear h0_ h1_ h2_ h3_ h4_ h5_ h6_ h7_ h8_ h9_ h10_; have HO383 := n0_; have BK374 := n1_; have BK375 := n2_; have BK385 := n3_; have GW385 := n4_; have GE385 := n5_; have NB374_385 := n6_; have NB385_374 := n7_; have NB375_385 := n8_; have NB385_375 := n9_; have HB := n10_; clear n0_ n1_ n2_ n3_ n4_ n5_ n6_ n7_ n8_ n9_ n10_
    have hHeld : w30.cell? ⟨gb374, 0, none⟩ = some (.slice A0_0 l0_0.length c0_0) := hS_
    obtain ⟨Ao31, co31, eo31⟩ := Kd.R_slice HO383.out
    (first | subst eo31 | (injection eo31 with f1_ f2_ f3_; have f4_ := f1_.symm; have f5_ := f3_.symm; clear f1_ f2_ f3_; subst f4_; subst f5_))
    refine norm_ (a' := ?_) ?_ ?_
    rotate_left
    ·simp only [putAll, Act.put, sA_, sB_, sC_]
     rfl
    refine o1_ 9 none (bm 11 1023) (fun K hK => ?_)
    have hs32 : w30.cell? ⟨gb385, 0, none⟩ = some (.slice none 0 0) := bl_ BK385 0
    have hfs32 := blk_frozen BK385.out 0
    have hns32_0 := NB374_385.out; have hns32_1 := NB375_385.out; have hms32_0 := NB385_374.out; have hms32_1 := NB385_375.out
    refine skip_ (w1 := ?_) (by rfl) rfl ?_ ?_
    rotate_left
    ·go_simp
     rfl
    refine hK.out _ _ (((cell_far (p := ⟨gb385, _, none⟩) NB374_385.out _).trans (hHeld))) (fun hHeld => ?_)
    clear hK K; refine pz_ 10 11 (bm 11 2047) ?_
    refine done_ (done_of HT_.out (by kernel_rfl)) ?_
    obtain ⟨hnb33, hnc33⟩ := nn_ NB385_374; obtain ⟨hnb34, hnc34⟩ := nn_ NB385_375
    obtain ⟨hcz35_0, hfz35_0⟩ := bc1_ BK385
    try go_wp2_with (first | ((with_reducible refine gate_callee (f := 24) rfl ?_); refine gl_ (some 32) Try.func24 #[.agg #[.slice Ao31 t381.length co31], .slice A3 l3.length c3] ?_; (with_reducible refine (spec_LoseDisk.calls k _ _ t381 _ _ l3 t386 t389 _ ?side1 ?side2 ?side3 ?side4 A23.out).mono ?_); (case side1 => refine (Kd.R_reads' (e := 99) (base := w.heap.size) (ok := fun k_ => True) (n := t381.length) (c := co31) ?_).2.2; exact (by (with_reducible repeat (first | apply Kd.R_alloc | apply Kd.R_drewN | apply Kd.R_drew)); exact (Kd.R_mono (Kd.R_far (p := ⟨gb385, 0, none⟩) (Kd.R_types HO383.out BK385.out (by decide)) (fun _ hk => hk.2) (.slice Ao31 t381.length co31)) (fun _ h_ => h_.1)))); (case side2 => exact (Kd.R_reads' HO383.out).2.1); (case side3 => exact Kd.C_below HR3.out qB_); (case side4 => exact HC3.out); rintro e w36 ⟨v387, rfl, ho0, hb⟩; refine ⟨_, rfl, ?_⟩; have HO388 := am_ (Kd.R_lower (Kd.R_new' ho0 (Kd.R_lt (by (with_reducible repeat (first | apply Kd.R_alloc | apply Kd.R_drewN | apply Kd.R_drew)); exact (Kd.R_mono (Kd.R_far (p := ⟨gb385, 0, none⟩) (Kd.R_types HO383.out BK385.out (by decide)) (fun _ hk => hk.2) (.slice Ao31 t381.length co31)) (fun _ h_ => h_.1))))) (below_size qB_)); replace HO383 := am_ (Kd.R_elder' (by (with_reducible repeat (first | apply Kd.R_alloc | apply Kd.R_drewN | apply Kd.R_drew)); exact (Kd.R_mono (Kd.R_far (p := ⟨gb385, 0, none⟩) (Kd.R_types HO383.out BK385.out (by decide)) (fun _ hk => hk.2) (.slice Ao31 t381.length co31)) (fun _ h_ => h_.1))) (Kd.R_base ho0) hb); replace BK374 := qbl_ BK374 hb; replace BK375 := qbl_ BK375 hb; replace BK385 := am_ (blk_below (g := gb385) (o := .cells #[.slice Ao31 t381.length co31] 44 (0, 0)) (by (with_reducible repeat (first | refine blk_drewN ?_ _ | refine blk_drew ?_ | refine blk_alloc ?_ _)); refine blk_put (cs := #[.slice none 0 0]) ?_ 0 _ rfl; exact qf_ BK385) hb); replace HB := hs_ hb; (try clear hb); (try clear hb2); (try clear hk); (try clear hi); (try clear ho0); obtain ⟨Ao37, co37, eo37⟩ := Kd.R_slice HO388.out; subst eo37; obtain ⟨hnb38, hnc38⟩ := nn_ NB375_374; obtain ⟨hcz39_0, hfz39_0⟩ := bc1_ BK375))
    refine bodyPost_ret (results_ct rfl _ _ gb375 44 #[.slice Ao37 t386.length co37] (0, 0) _ rfl (by (with_reducible repeat (first | refine blk_drewN ?_ _ | refine blk_drew ?_ | refine blk_alloc ?_ _)); refine blk_put (cs := #[.slice none 0 0]) ?_ 0 _ rfl; exact qf_ BK375) Try.underlying44 rfl (by kernel_rfl)) rfl ?_
    exact ⟨_, qr_, by (with_reducible repeat (first | apply Kd.R_alloc | apply Kd.R_drewN | apply Kd.R_drew)); exact Kd.R_mono (Kd.R_far (p := ⟨gb375, 0, none⟩) (Kd.R_types HO388.out BK375.out (by decide)) (fun _ hk => hk.2) (.slice Ao37 t386.length co37)) (fun _ hk => trivial), qB_⟩
   rw [if_neg c8] at H
   exact absurd H (by simp)
  rw [if_neg c7] at H
  exact absurd H (by simp)
 replace c6 := Bool.eq_false_iff.mpr c6
 subst c6
 rw [if_neg (show ¬ (false = true) by decide)] at H
 simp only [Option.some.injEq, Prod.mk.injEq] at H
 obtain ⟨rfl, rfl⟩ := H
 go_enter Try.func58, Try.ntmps58
 go_wp2_with (first | ((with_reducible refine gate_dst (N := 4) rfl ?_); refine bx_ 4 (cs := #[.slice A0_0 l0_0.length c0_0]) (t := 44) ?_; intro gb374 hg w40 hbox hb; have BK374 := am_ (hbox); have GW374 := am_ ((qs_ : w.heap.size ≤ gb374)); have GE374 := GW374; replace HB := hs_ hb; clear hb hbox hg) | ((with_reducible refine gate_dst (N := 8) rfl ?_); refine bx_ 8 (cs := #[.slice none 0 0]) (t := 44) ?_; intro gb375 hg w41 hbox hb; have BK375 := am_ (hbox); have GW375 := am_ ((qs_ : w.heap.size ≤ gb375)); have GE375 := GW375; obtain ⟨NB374_375, NB375_374⟩ := qn_ BK374 hg; replace BK374 := qbl_ BK374 hb; replace HB := hs_ hb; clear hb hbox hg) | ((with_reducible refine gate_callee (f := 64) rfl ?_); refine gl_ (some 15) Try.func64 #[.int .i64 a2, .int .i64 0, .int .i64 (l1.length : Int)] ?_; (with_reducible refine (spec_l01In.calls a2 0 (l1.length : Int) false _ A5.out).mono ?_); rintro e w' ⟨rfl, ⟨nd, rfl⟩⟩; refine ⟨_, rfl, ?_⟩; (try (rw [drewN_self w41]; generalize hq_ : World.drewN w41 _ = w41; have n0_ : Aside0 (w41.heap[gb374]? = some (.cells #[.slice A0_0 l0_0.length c0_0] 44 (0, 0))) := ⟨by rw [← hq_]; exact (qk_ BK374)⟩; have n1_ : Aside0 (w41.heap[gb375]? = some (.cells #[.slice none 0 0] 44 (0, 0))) := ⟨by rw [← hq_]; exact (qk_ BK375)⟩; have n2_ : Aside0 (Below w.heap.size w w41) := ⟨by rw [← hq_]; exact qB_⟩; clear BK374 BK375 HB hq_; have BK374 := n0_; have BK375 := n1_; have HB := n2_; clear n0_ n1_ n2_; have hcr_gb374_0 : w41.cell? ⟨gb374, 0, none⟩ = some (.slice A0_0 l0_0.length c0_0) := bl_ BK374 0; have hfr_gb374_0 := blk_frozen BK374.out 0; have hcr_gb375_0 : w41.cell? ⟨gb375, 0, none⟩ = some (.slice none 0 0) := bl_ BK375 0; have hfr_gb375_0 := blk_frozen BK375.out 0)); obtain ⟨hnb42, hnc42⟩ := nn_ NB375_374; obtain ⟨hcz43_0, hfz43_0⟩ := bc1_ BK375))
 refine bodyPost_ret (results_ct rfl _ _ gb375 44 #[.slice none 0 0] (0, 0) _ rfl (by (with_reducible repeat (first | refine blk_drewN ?_ _ | refine blk_drew ?_ | refine blk_alloc ?_ _)); refine blk_put (cs := #[.slice none 0 0]) ?_ 0 _ rfl; exact qf_ BK375) Try.underlying44 rfl (by kernel_rfl)) rfl ?_
 exact ⟨_, qr_, by first | exact Kd.R_nil _ _ _ _ _ | exact Kd.N_nil _ _ _ _ _ | exact Kd.V_nil _ _ _ _ _ | exact Kd.Q_nil _ _ _ _ _ | exact Kd.S_nil _ _ _ _ _, qB_⟩

end Go.Proofs.Ytacnlodcbbhahaa.QFnExactCutActs
