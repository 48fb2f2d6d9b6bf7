-- printed for this claim by a program of the session's own (no text of the kit's print)
import Derived.Test.YtacnlodcbbhahaaQFnExactCutActsx0
import Derived.Test.YtacnlodcbbhahaaQFnExactCutActsx6
import Derived.Test.YtacnlodcbbhahaaQFnExactCutActsx8
import Derived.Test.YtacnlodcbbhahaaQFnExactCutActsx13
namespace Go.Proofs.Ytacnlodcbbhahaa.QFnExactCutActs
open Go.RowKit Go.Proofs.YtacnlodcbbhahaaW.PrintWords Go.Proofs.YtacnlodcbbhahaaW.PrintLast Go.Proofs.YtacnlodcbbhahaaW.PrintMore
attribute [local go_sem] max2_int min2_int max_two min_two max_three min_three max_four min_four   -- for this text's walks alone
set_option linter.unusedVariables false
set_option linter.unusedSimpArgs false

/-! ### impl_CutActs: function 57 -/
def impl_CutActs.f (k : Nat) (l0_0 : List (S99)) (l1 : List (S60)) (a2 : Int) (l3 : List Int) : Option ((List (S99)) × Bool) := (impl_in.f a2 0 (l1.length : Int)).bind fun t262 => (if t262 = true then (if 0 ≤ a2 then (if a2 ≤ (l1.length : Int) then ((impl_DoActs.f k l0_0 (l1.take (a2 : Int).toNat)).bind fun bt267 => (if bt267.2 < a2 then (some (([] : List (S99)), false)) else ((impl_LoseDisk.f k bt267.1 l3).bind fun bt272 => (some (bt272.1, bt272.2))))) else (none)) else (none)) else (some (([] : List (S99)), false)))
theorem impl_CutActs.mono : ∀ a0 a1 a2 a3 k, LeO (impl_CutActs.f k a0 a1 a2 a3) (impl_CutActs.f (k + 1) a0 a1 a2 a3) := by
  intro a0 a1 a2 a3 k
  unfold impl_CutActs.f
  repeat' first | (with_reducible first | exact impl_DoActs.mono _ _ _ | exact impl_LoseDisk.mono _ _ _ | exact LeO.refl _ | exact LeO.none _ | refine LeO.ite ?_ ?_ | refine LeO.bind ?_ (fun _ => ?_)) | exact LeO.none _ | refine LeO.ite ?_ ?_ | refine LeO.bind ?_ (fun _ => ?_)
def impl_CutActs.T3 : Bool × List (List Nat × List Nat) := (true, [([], []), ([], []), ([], []), ([1, 2], [1, 2]), ([0, 3], [0, 3]), ([4], [4]), ([5], [5]), ([5], [5]), ([], []), ([8, 6, 4, 0, 1, 2, 3, 4, 5, 6, 8], [6, 8]), ([7, 9, 0, 1, 2, 3, 4, 5, 6, 7, 8, 9], [7])])
def impl_CutActs.B3 : List Nat := [0, 0, 0, 6, 15, 31, 63, 63, 0, 383, 1023]
theorem impl_CutActs.tab3 : rtab .any (opsOf Try.f57 3) = impl_CutActs.T3 := by kernel_rfl
theorem impl_CutActs.bits3 : waitsOk impl_CutActs.T3.2 impl_CutActs.B3 = true := by kernel_rfl
set_option maxHeartbeats 8000000 in
set_option maxRecDepth 100000 in
theorem impl_CutActs.calls (k : Nat) (A0_0 : Option Addr) (c0_0 : Nat) (l0_0 : List (S99)) (A1 : Option Addr) (c1 : Nat) (l1 : List (S60)) (a2 : Int) (A3 : Option Addr) (c3 : Nat) (l3 : List Int) (r1 : List (S99)) (r2 : Bool) (w : World) (hr0_0 : Kd.C k99 w A0_0 l0_0.length l0_0) (hc0_0 : l0_0.length ≤ c0_0) (hr1 : Kd.C k60 w A1 l1.length l1) (hc1 : l1.length ≤ c1) (hr3 : Kd.C (Kd.int .i64) w A3 l3.length l3) (hc3 : l3.length ≤ c3) (h : impl_CutActs.f k l0_0 l1 a2 l3 = some (r1, r2)) :
  Calls Try.prog 57 #[.agg #[.slice A0_0 l0_0.length c0_0], .slice A1 l1.length c1, .int .i64 a2, .slice A3 l3.length c3] w fun e w' => ∃ v0_ : Value, e = .returned (.tuple #[.agg #[v0_], .bool r2]) ∧ Kd.R k99 99 w' w.heap.size (fun _ => True) v0_ r1 ∧ Below w.heap.size w w' := by
 have hu44 := Try.underlying44
 have HR0_0 := am_ hr0_0
 have HC0_0 := am_ hc0_0
 clear hr0_0 hc0_0
 have HR1 := am_ hr1
 have HC1 := am_ hc1
 clear hr1 hc1
 have HR3 := am_ hr3
 have HC3 := am_ hc3
 clear hr3 hc3
 have HB := am_ (Below.refl w.heap.size w)
 have H : ((impl_in.f a2 0 (l1.length : Int)).bind fun t262 => (if t262 = true then (if 0 ≤ a2 then (if a2 ≤ (l1.length : Int) then ((impl_DoActs.f k l0_0 (l1.take (a2 : Int).toNat)).bind fun bt267 => (if bt267.2 < a2 then (some (([] : List (S99)), false)) else ((impl_LoseDisk.f k bt267.1 l3).bind fun bt272 => (some (bt272.1, bt272.2))))) else (none)) else (none)) else (some (([] : List (S99)), false)))) = some (r1, r2) := h
 clear h
 obtain ⟨t262, A50, H⟩ := Option.bind_eq_some_iff.mp H; have A5 := am_ A50; clear A50
 by_cases c6 : t262 = true
 ·subst c6
  rw [if_pos rfl] at H
  by_cases c7 : 0 ≤ a2
  ·rw [if_pos c7] at H
   have c7b0 := eq_true c7
   have c7b1 : decide (0 ≤ a2) = true := decide_eq_true c7
   clear c7
   by_cases c8 : a2 ≤ (l1.length : Int)
   ·rw [if_pos c8] at H
    have c8b0 := eq_true c8
    have c8b1 : decide (a2 ≤ (l1.length : Int)) = true := decide_eq_true c8
    clear c8
    obtain ⟨y263, hy263⟩ : ∃ y_ : List (S60), y_ = (l1.take (a2 : Int).toNat) := ⟨_, rfl⟩
    replace H : ((impl_DoActs.f k l0_0 y263).bind fun bt267 => (if bt267.2 < a2 then (some (([] : List (S99)), false)) else ((impl_LoseDisk.f k bt267.1 l3).bind fun bt272 => (some (bt272.1, bt272.2))))) = some (r1, r2) := by first | (rw [hy263]; with_reducible exact H) | (have H2_ := (Option.bind_some _ _).symm.trans H; rw [hy263]; with_reducible exact H2_) | (have H2_ := (Option.bind_some _ _).symm.trans H; with_reducible exact H2_) | with_reducible exact H | (rw [hy263]; exact H) | exact H
    have Ny263 := am_ hy263
    clear hy263
    replace H := Option.bind_eq_some_iff.mp H
    obtain ⟨⟨t267, t270⟩, A90, H⟩ := H
    replace H : (if t270 < a2 then (some (([] : List (S99)), false)) else ((impl_LoseDisk.f k t267 l3).bind fun bt272 => (some (bt272.1, bt272.2)))) = some (r1, r2) := H
    have A9 := am_ A90
    clear A90
    by_cases c10 : t270 < a2
    ·rw [if_pos c10] at H
     have c10b0 : decide (t270 < a2) = true := decide_eq_true c10
     clear c10
     simp only [Option.some.injEq, Prod.mk.injEq] at H
     obtain ⟨rfl, rfl⟩ := H
     go_enter Try.func57, Try.ntmps57
     try go_wp2_with (first | ((with_reducible refine gate_dst (N := 4) rfl ?_); refine bx_ 4 (cs := #[.slice A0_0 l0_0.length c0_0]) (t := 44) ?_; intro gb260 hg w11 hbox hb; have BK260 := am_ (hbox); have GW260 := am_ ((qs_ : w.heap.size ≤ gb260)); have GE260 := GW260; replace HB := hs_ hb; clear hb hbox hg) | ((with_reducible refine gate_dst (N := 8) rfl ?_); refine bx_ 8 (cs := #[.slice none 0 0]) (t := 44) ?_; intro gb261 hg w12 hbox hb; have BK261 := am_ (hbox); have GW261 := am_ ((qs_ : w.heap.size ≤ gb261)); have GE261 := GW261; obtain ⟨NB260_261, NB261_260⟩ := qn_ BK260 hg; replace BK260 := qbl_ BK260 hb; replace HB := hs_ hb; clear hb hbox hg) | ((with_reducible refine gate_callee (f := 69) rfl ?_); refine gl_ (some 17) Try.func69 #[.int .i64 a2, .int .i64 0, .int .i64 (l1.length : Int)] ?_; (with_reducible refine (impl_in.calls a2 0 (l1.length : Int) true _ A5.out).mono ?_); rintro e w' ⟨rfl, ⟨nd, rfl⟩⟩; refine ⟨_, rfl, ?_⟩; (try (rw [drewN_self w12]; generalize hq_ : World.drewN w12 _ = w12; have n0_ : Aside0 (w12.heap[gb260]? = some (.cells #[.slice A0_0 l0_0.length c0_0] 44 (0, 0))) := ⟨by rw [← hq_]; exact (qk_ BK260)⟩; have n1_ : Aside0 (w12.heap[gb261]? = some (.cells #[.slice none 0 0] 44 (0, 0))) := ⟨by rw [← hq_]; exact (qk_ BK261)⟩; have n2_ : Aside0 (Below w.heap.size w w12) := ⟨by rw [← hq_]; exact qB_⟩; clear BK260 BK261 HB hq_; have BK260 := n0_; have BK261 := n1_; have HB := n2_; clear n0_ n1_ n2_; have hcr_gb260_0 : w12.cell? ⟨gb260, 0, none⟩ = some (.slice A0_0 l0_0.length c0_0) := bl_ BK260 0; have hfr_gb260_0 := blk_frozen BK260.out 0; have hcr_gb261_0 : w12.cell? ⟨gb261, 0, none⟩ = some (.slice none 0 0) := bl_ BK261 0; have hfr_gb261_0 := blk_frozen BK261.out 0))))
     replace BK260 := am_ (blk_drew BK260.out); replace BK261 := am_ (blk_drew BK261.out); replace HB := am_ (below_drew1 HB.out)
     have q14 : (a2 : Int) ≤ ((l1.length : Int) : Int) := of_decide_eq_true qa_
     obtain ⟨i014, hi014, _, hsz14, _⟩ := info_parts info60
     have hroom14 : l1.length ≤ c1 := HC1.out
     have hC14 : Kd.C k60 _ A1 l1.length l1 := HR1.out
     have hcut14 := cut_to (P := Try.prog) 71 60 .i64 Try.underlying71 hi014 A1 l1.length c1 a2 (of_decide_eq_true qa_) q14 hroom14
     have hr14 := Kd.C_take (m := (a2 : Int).toNat) hC14 (by omega)
     have hy14 : y263.length = (a2 : Int).toNat := (by rw [Ny263.out, List.length_take]; omega)
     rw [← Ny263.out] at hr14
     rw [← hy14] at hcut14
     have HR266 := am_ hr14
     have HC266 := am_ (show y263.length ≤ c1 from by omega)
     clear hr14 hC14 hroom14 hi014 hsz14
     have KY14 := am_ hy14
     clear hy14; replace q14 := eq_true q14
     refine start_ (n := 11) (S := fun w' => w'.cell? ⟨gb260, 0, none⟩ = some (.slice A0_0 l0_0.length c0_0)) (ds := []) (bm 11 0) (by kernel_rfl) rfl (by kernel_rfl) (bl_ BK260 0) (fun hHeld => ?_); refine with_tabW impl_CutActs.tab3 impl_CutActs.bits3 (fun HT_ HW_ => ?_)
     generalize w12.drew = w13 at BK260 BK261 HB HR266 hHeld ⊢
     refine pz_ 1 22 (bm 11 2) ?_; refine pz_ 2 23 (bm 11 6) ?_; refine pz_ 3 24 (bm 11 14) ?_
     refine take_ (i := 0) (N := some 21) (v := ?_) (a' := ?_) (bm 11 15) rfl rfl (take_ofW HT_.out HW_.out (by kernel_rfl)) (fun _ _ _ h => h) (Or.inl ⟨by rfl, ?_⟩) hHeld ?_ ?_
     rotate_left
     ·intro w' s0
      go_simp
      with_reducible rfl
     rotate_left
     ·simp only [Act.put, sA_, sB_, sC_, i64_w, i32_w]
      rfl
     refine join_ (σ := Value × Nat) 2 #[true, true, true, true, true, true, true, true, true, false, false] (fun s_ => [(25, .tuple #[.agg #[s_.1], .int .i64 t270]), (10, .pointer (some ⟨s_.2, 0, none⟩)), (20, .tuple #[.agg #[s_.1], .int .i64 t270]), (26, .agg #[s_.1]), (27, .int .i64 t270)]) (fun s_ w' => (w'.cell? ⟨gb260, 0, none⟩ = some (.slice A0_0 l0_0.length c0_0)) ∧ (Kd.R k99 99 w' w.heap.size (fun _ => True) s_.1 t267) ∧ (w'.heap[gb260]? = some (.cells #[.slice A0_0 l0_0.length c0_0] 44 (0, 0))) ∧ (w'.heap[gb261]? = some (.cells #[.slice none 0 0] 44 (0, 0))) ∧ (w'.heap[s_.2]? = some (.cells #[.slice none 0 0] 44 (0, 0))) ∧ (w.heap.size ≤ s_.2) ∧ (w.heap.size ≤ s_.2) ∧ (gb260 ≠ s_.2) ∧ (s_.2 ≠ gb260) ∧ (gb261 ≠ s_.2) ∧ (s_.2 ≠ gb261) ∧ (Below w.heap.size w w')) ?_ ?_
     rotate_left
     ·intro hCont
      refine two_ (i := 4) (j := 8) (Ni := some 25) (Nj := some 10) (bm 11 31) #[true, true, true, true, false, false, false, false, true, false, false] rfl rfl rfl rfl (two_of HT_.out (by kernel_rfl)) (by decide) (by decide) (fun K hK => ?_) (fun K hK => ?_)
      ·skip
       refine goes_ Try.func50 (by kernel_rfl) rfl #[.agg #[.slice A0_0 l0_0.length c0_0], .slice A1 y263.length c1] (by rfl) rfl rfl (by (try simp only [List.map_toArray, List.map_cons, List.map_nil]); first | done | rfl | (simp only [List.length_drop, List.length_take]; rfl)) ?_
       with_reducible refine (impl_DoActs.calls k _ _ l0_0 _ _ y263 t267 t270 _ ?side1 ?side2 ?side3 ?side4 A9.out).mono ?_
       (case side1 => exact qC_ HR0_0 HB)
       (case side2 => exact HC0_0.out)
       (case side3 => exact qC_ HR266 HB)
       (case side4 => exact HC266.out)
       rintro e w15 ⟨v268, rfl, ho0, hb⟩
       refine ⟨_, rfl, ?_⟩
       have HO269 := am_ (Kd.R_lower ho0 (below_size qB_)); replace BK260 := qbl_ BK260 hb; replace BK261 := qbl_ BK261 hb; replace HB := am_ (below_step qB_ hb); (try clear hb); (try clear hb2); (try clear hk); (try clear hi); (try clear ho0)
       refine hK.out _ _ (bl_ BK260 0) (fun hHeld => ?_)
       clear hK K
       refine nm_ 25 ?_
       refine pz_ 5 20 (bm 11 63) ?_; refine pz_ 6 26 (bm 11 127) ?_; refine pz_ 7 27 (bm 11 255) ?_
       refine o1_ 8 (some 10) (bm 11 511) (fun K hK => ?_)
       refine box_step ?hg (N := 10) ?hd (cs := #[.slice none 0 0]) (t := 44) ?hr ?_; (case hd => rfl); (case hg => rfl); (case hr => first | (go_simp; done) | (go_simp; rfl))
       intro gb271 hg w16 hbox hb
       have n0_ := am_ (Kd.R_below (qR_ HO269) hb)
       have n1_ := qbl_ BK260 hb
       have n2_ := qbl_ BK261 hb
       have n3_ := am_ (below_step qB_ hb)
       have n4_ := am_ (hbox)
       have n5_ := am_ ((qs_ : w.heap.size ≤ gb271))
       have n6_ := am_ ((qs_ : w.heap.size ≤ gb271))
       have n7_ := am_ ((by rw [hg]; exact Nat.ne_of_lt (blk_lt (qk_ BK260)) : gb260 ≠ gb271))
       have n8_ := am_ ((by rw [hg]; exact Nat.ne_of_gt (blk_lt (qk_ BK260)) : gb271 ≠ gb260))
       have n9_ := am_ ((by rw [hg]; exact Nat.ne_of_lt (blk_lt (qk_ BK261)) : gb261 ≠ gb271))
       have n10_ := am_ ((by rw [hg]; exact Nat.ne_of_gt (blk_lt (qk_ BK261)) : gb271 ≠ gb261))
       clear HO269; clear BK260; clear BK261; clear HB; have HO269 := n0_; have BK260 := n1_; have BK261 := n2_; have HB := n3_; have BK271 := n4_; have GW271 := n5_; have GE271 := n6_; have NB260_271 := n7_; have NB271_260 := n8_; have NB261_271 := n9_; have NB271_261 := n10_; clear n0_ n1_ n2_ n3_ n4_ n5_ n6_ n7_ n8_ n9_ n10_; clear hb hbox hg
       refine hK.out _ _ (bl_ BK260 0) (fun hHeld => ?_)
       clear hK K
       refine nm_ 10 ?_
       exact norm_ (by simp only [putAll, Act.put, sA_, sB_, sC_]) (hCont (v268, gb271) _ ⟨hHeld, (qR_ HO269), (qk_ BK260), (qk_ BK261), (qk_ BK271), GW271.out, GE271.out, NB260_271.out, NB271_260.out, NB261_271.out, NB271_261.out, qB_⟩)
      skip
      refine box_step ?hg (N := 10) ?hd (cs := #[.slice none 0 0]) (t := 44) ?hr ?_; (case hd => rfl); (case hg => rfl); (case hr => first | (go_simp; done) | (go_simp; rfl))
      intro gb271 hg w15 hbox hb
      have n0_ := qbl_ BK260 hb
      have n1_ := qbl_ BK261 hb
      have n2_ := am_ (below_step qB_ hb)
      have n3_ := am_ (hbox)
      have n4_ := am_ ((qs_ : w.heap.size ≤ gb271))
      have n5_ := am_ ((qs_ : w.heap.size ≤ gb271))
      have n6_ := am_ ((by rw [hg]; exact Nat.ne_of_lt (blk_lt (qk_ BK260)) : gb260 ≠ gb271))
      have n7_ := am_ ((by rw [hg]; exact Nat.ne_of_gt (blk_lt (qk_ BK260)) : gb271 ≠ gb260))
      have n8_ := am_ ((by rw [hg]; exact Nat.ne_of_lt (blk_lt (qk_ BK261)) : gb261 ≠ gb271))
      have n9_ := am_ ((by rw [hg]; exact Nat.ne_of_gt (blk_lt (qk_ BK261)) : gb271 ≠ gb261))
      clear BK260; clear BK261; clear HB; have BK260 := n0_; have BK261 := n1_; have HB := n2_; have BK271 := n3_; have GW271 := n4_; have GE271 := n5_; have NB260_271 := n6_; have NB271_260 := n7_; have NB261_271 := n8_; have NB271_261 := n9_; clear n0_ n1_ n2_ n3_ n4_ n5_ n6_ n7_ n8_ n9_; clear hb hbox hg
      refine hK.out _ _ (bl_ BK260 0) (fun hHeld => ?_)
      clear hK K
      refine nm_ 10 ?_
      refine o1_ 4 (some 25) (bm 11 287) (fun K hK => ?_)
      refine goes_ Try.func50 (by kernel_rfl) rfl #[.agg #[.slice A0_0 l0_0.length c0_0], .slice A1 y263.length c1] (by rfl) rfl rfl (by (try simp only [List.map_toArray, List.map_cons, List.map_nil]); first | done | rfl | (simp only [List.length_drop, List.length_take]; rfl)) ?_
      with_reducible refine (impl_DoActs.calls k _ _ l0_0 _ _ y263 t267 t270 _ ?side1 ?side2 ?side3 ?side4 A9.out).mono ?_
      (case side1 => exact qC_ HR0_0 HB)
      (case side2 => exact HC0_0.out)
      (case side3 => exact qC_ HR266 HB)
      (case side4 => exact HC266.out)
      rintro e w16 ⟨v268, rfl, ho0, hb⟩
      refine ⟨_, rfl, ?_⟩
      have HO269 := am_ (Kd.R_lower ho0 (below_size qB_)); replace BK260 := qbl_ BK260 hb; replace BK261 := qbl_ BK261 hb; replace BK271 := qbl_ BK271 hb; replace HB := am_ (below_step qB_ hb); (try clear hb); (try clear hb2); (try clear hk); (try clear hi); (try clear ho0)
      refine hK.out _ _ (bl_ BK260 0) (fun hHeld => ?_)
      clear hK K
      refine nm_ 25 ?_
      refine pz_ 5 20 (bm 11 319) ?_; refine pz_ 6 26 (bm 11 383) ?_; refine pz_ 7 27 (bm 11 511) ?_
      exact norm_ (by simp only [putAll, Act.put, sA_, sB_, sC_]) (hCont (v268, gb271) _ ⟨hHeld, (qR_ HO269), (qk_ BK260), (qk_ BK261), (qk_ BK271), GW271.out, GE271.out, NB260_271.out, NB271_260.out, NB261_271.out, NB271_261.out, qB_⟩)
     rintro ⟨v268, gb271⟩ w17 ⟨hS_, h0_, h1_, h2_, h3_, h4_, h5_, h6_, h7_, h8_, h9_, h10_⟩
     have n0_ : Aside0 (Kd.R k99 99 w17 w.heap.size (fun _ => True) v268 t267) := ⟨h0_⟩
     have n1_ : Aside0 (w17.heap[gb260]? = some (.cells #[.slice A0_0 l0_0.length c0_0] 44 (0, 0))) := ⟨h1_⟩
     have n2_ : Aside0 (w17.heap[gb261]? = some (.cells #[.slice none 0 0] 44 (0, 0))) := ⟨h2_⟩
     have n3_ : Aside0 (w17.heap[gb271]? = some (.cells #[.slice none 0 0] 44 (0, 0))) := ⟨h3_⟩
     have n4_ : Aside0 (w.heap.size ≤ gb271) := ⟨h4_⟩
     have n5_ : Aside0 (w.heap.size ≤ gb271) := ⟨h5_⟩
     have n6_ : Aside0 (gb260 ≠ gb271) := ⟨h6_⟩
     have n7_ : Aside0 (gb271 ≠ gb260) := ⟨h7_⟩
     have n8_ : Aside0 (gb261 ≠ gb271) := ⟨h8_⟩
     have n9_ : Aside0 (gb271 ≠ gb261) := ⟨h9_⟩
     have n10_ : Aside0 (Below w.heap.size w w17) := ⟨h10_⟩
     clear BK260; clear BK261; clear HB; clear h0_ h1_ h2_ h3_ h4_ h5_ h6_ h7_ h8_ h9_ h10_; have HO269 := n0_; have BK260 := n1_; have BK261 := n2_; have BK271 := n3_; have GW271 := n4_; have GE271 := n5_; have NB260_271 := n6_; have NB271_260 := n7_; have NB261_271 := n8_; have NB271_261 := n9_; have HB := n10_; clear n0_ n1_ n2_ n3_ n4_ n5_ n6_ n7_ n8_ n9_ n10_
     have hHeld : w17.cell? ⟨gb260, 0, none⟩ = some (.slice A0_0 l0_0.length c0_0) := hS_
     obtain ⟨Ao18, co18, eo18⟩ := Kd.R_slice HO269.out
     (first | subst eo18 | (injection eo18 with f1_ f2_ f3_; have f4_ := f1_.symm; have f5_ := f3_.symm; clear f1_ f2_ f3_; subst f4_; subst f5_))
     refine norm_ (a' := ?_) ?_ ?_
     rotate_left
     ·simp only [putAll, Act.put, sA_, sB_, sC_]
      rfl
     refine o1_ 9 none (bm 11 1023) (fun K hK => ?_)
     have hs19 : w17.cell? ⟨gb271, 0, none⟩ = some (.slice none 0 0) := bl_ BK271 0
     have hfs19 := blk_frozen BK271.out 0
     have hns19_0 := NB260_271.out; have hns19_1 := NB261_271.out; have hms19_0 := NB271_260.out; have hms19_1 := NB271_261.out
     refine skip_ (w1 := ?_) (by rfl) rfl ?_ ?_
     rotate_left
     ·go_simp
      rfl
     refine hK.out _ _ (((cell_far (p := ⟨gb271, _, none⟩) NB260_271.out _).trans (hHeld))) (fun hHeld => ?_)
     clear hK K; refine pz_ 10 11 (bm 11 2047) ?_
     refine done_ (done_of HT_.out (by kernel_rfl)) ?_
     obtain ⟨hnb20, hnc20⟩ := nn_ NB261_260; obtain ⟨hnb21, hnc21⟩ := nn_ NB261_271
     obtain ⟨hcz22_0, hfz22_0⟩ := bc1_ BK261
     try go_wp2
     refine bodyPost_ret (results_ct rfl _ _ gb261 44 #[.slice none 0 0] (0, 0) _ rfl (by (with_reducible repeat (first | refine blk_drewN ?_ _ | refine blk_drew ?_ | refine blk_alloc ?_ _)); refine blk_put (cs := #[.slice none 0 0]) ?_ 0 _ rfl; exact qf_ BK261) Try.underlying44 rfl (by kernel_rfl)) rfl ?_
     exact ⟨_, qr_, by first | exact Kd.R_nil _ _ _ _ _ | exact Kd.N_nil _ _ _ _ _ | exact Kd.V_nil _ _ _ _ _ | exact Kd.Q_nil _ _ _ _ _ | exact Kd.S_nil _ _ _ _ _, qB_⟩
    rw [if_neg c10] at H
    have c10b0 : decide (t270 < a2) = false := decide_eq_false c10
    clear c10
    replace H := Option.bind_eq_some_iff.mp H
    obtain ⟨⟨t272, t275⟩, A230, H⟩ := H
    replace H : (some (t272, t275)) = some (r1, r2) := H
    have A23 := am_ A230
    clear A230
    simp only [Option.some.injEq, Prod.mk.injEq] at H
    obtain ⟨rfl, rfl⟩ := H
    go_enter Try.func57, Try.ntmps57
    try go_wp2_with (first | ((with_reducible refine gate_dst (N := 4) rfl ?_); refine bx_ 4 (cs := #[.slice A0_0 l0_0.length c0_0]) (t := 44) ?_; intro gb260 hg w24 hbox hb; have BK260 := am_ (hbox); have GW260 := am_ ((qs_ : w.heap.size ≤ gb260)); have GE260 := GW260; replace HB := hs_ hb; clear hb hbox hg) | ((with_reducible refine gate_dst (N := 8) rfl ?_); refine bx_ 8 (cs := #[.slice none 0 0]) (t := 44) ?_; intro gb261 hg w25 hbox hb; have BK261 := am_ (hbox); have GW261 := am_ ((qs_ : w.heap.size ≤ gb261)); have GE261 := GW261; obtain ⟨NB260_261, NB261_260⟩ := qn_ BK260 hg; replace BK260 := qbl_ BK260 hb; replace HB := hs_ hb; clear hb hbox hg) | ((with_reducible refine gate_callee (f := 69) rfl ?_); refine gl_ (some 17) Try.func69 #[.int .i64 a2, .int .i64 0, .int .i64 (l1.length : Int)] ?_; (with_reducible refine (impl_in.calls a2 0 (l1.length : Int) true _ A5.out).mono ?_); rintro e w' ⟨rfl, ⟨nd, rfl⟩⟩; refine ⟨_, rfl, ?_⟩; (try (rw [drewN_self w25]; generalize hq_ : World.drewN w25 _ = w25; have n0_ : Aside0 (w25.heap[gb260]? = some (.cells #[.slice A0_0 l0_0.length c0_0] 44 (0, 0))) := ⟨by rw [← hq_]; exact (qk_ BK260)⟩; have n1_ : Aside0 (w25.heap[gb261]? = some (.cells #[.slice none 0 0] 44 (0, 0))) := ⟨by rw [← hq_]; exact (qk_ BK261)⟩; have n2_ : Aside0 (Below w.heap.size w w25) := ⟨by rw [← hq_]; exact qB_⟩; clear BK260 BK261 HB hq_; have BK260 := n0_; have BK261 := n1_; have HB := n2_; clear n0_ n1_ n2_; have hcr_gb260_0 : w25.cell? ⟨gb260, 0, none⟩ = some (.slice A0_0 l0_0.length c0_0) := bl_ BK260 0; have hfr_gb260_0 := blk_frozen BK260.out 0; have hcr_gb261_0 : w25.cell? ⟨gb261, 0, none⟩ = some (.slice none 0 0) := bl_ BK261 0; have hfr_gb261_0 := blk_frozen BK261.out 0))))
    replace BK260 := am_ (blk_drew BK260.out); replace BK261 := am_ (blk_drew BK261.out); replace HB := am_ (below_drew1 HB.out)
    have q27 : (a2 : Int) ≤ ((l1.length : Int) : Int) := of_decide_eq_true qa_
    obtain ⟨i027, hi027, _, hsz27, _⟩ := info_parts info60
    have hroom27 : l1.length ≤ c1 := HC1.out
    have hC27 : Kd.C k60 _ A1 l1.length l1 := HR1.out
    have hcut27 := cut_to (P := Try.prog) 71 60 .i64 Try.underlying71 hi027 A1 l1.length c1 a2 (of_decide_eq_true qa_) q27 hroom27
    have hr27 := Kd.C_take (m := (a2 : Int).toNat) hC27 (by omega)
    have hy27 : y263.length = (a2 : Int).toNat := (by rw [Ny263.out, List.length_take]; omega)
    rw [← Ny263.out] at hr27
    rw [← hy27] at hcut27
    have HR266 := am_ hr27
    have HC266 := am_ (show y263.length ≤ c1 from by omega)
    clear hr27 hC27 hroom27 hi027 hsz27
    have KY27 := am_ hy27
    clear hy27; replace q27 := eq_true q27
    refine start_ (n := 11) (S := fun w' => w'.cell? ⟨gb260, 0, none⟩ = some (.slice A0_0 l0_0.length c0_0)) (ds := []) (bm 11 0) (by kernel_rfl) rfl (by kernel_rfl) (bl_ BK260 0) (fun hHeld => ?_); refine with_tabW impl_CutActs.tab3 impl_CutActs.bits3 (fun HT_ HW_ => ?_)
    generalize w25.drew = w26 at BK260 BK261 HB HR266 hHeld ⊢
    refine pz_ 1 22 (bm 11 2) ?_; refine pz_ 2 23 (bm 11 6) ?_; refine pz_ 3 24 (bm 11 14) ?_
    refine take_ (i := 0) (N := some 21) (v := ?_) (a' := ?_) (bm 11 15) rfl rfl (take_ofW HT_.out HW_.out (by kernel_rfl)) (fun _ _ _ h => h) (Or.inl ⟨by rfl, ?_⟩) hHeld ?_ ?_
    rotate_left
    ·intro w' s0
     go_simp
     with_reducible rfl
    rotate_left
    ·simp only [Act.put, sA_, sB_, sC_, i64_w, i32_w]
     rfl
    refine join_ (σ := Value × Nat) 2 #[true, true, true, true, true, true, true, true, true, false, false] (fun s_ => [(25, .tuple #[.agg #[s_.1], .int .i64 t270]), (10, .pointer (some ⟨s_.2, 0, none⟩)), (20, .tuple #[.agg #[s_.1], .int .i64 t270]), (26, .agg #[s_.1]), (27, .int .i64 t270)]) (fun s_ w' => (w'.cell? ⟨gb260, 0, none⟩ = some (.slice A0_0 l0_0.length c0_0)) ∧ (Kd.R k99 99 w' w.heap.size (fun _ => True) s_.1 t267) ∧ (w'.heap[gb260]? = some (.cells #[.slice A0_0 l0_0.length c0_0] 44 (0, 0))) ∧ (w'.heap[gb261]? = some (.cells #[.slice none 0 0] 44 (0, 0))) ∧ (w'.heap[s_.2]? = some (.cells #[.slice none 0 0] 44 (0, 0))) ∧ (w.heap.size ≤ s_.2) ∧ (w.heap.size ≤ s_.2) ∧ (gb260 ≠ s_.2) ∧ (s_.2 ≠ gb260) ∧ (gb261 ≠ s_.2) ∧ (s_.2 ≠ gb261) ∧ (Below w.heap.size w w')) ?_ ?_
    rotate_left
    ·intro hCont
     refine two_ (i := 4) (j := 8) (Ni := some 25) (Nj := some 10) (bm 11 31) #[true, true, true, true, false, false, false, false, true, false, false] rfl rfl rfl rfl (two_of HT_.out (by kernel_rfl)) (by decide) (by decide) (fun K hK => ?_) (fun K hK => ?_)
     ·skip
      refine goes_ Try.func50 (by kernel_rfl) rfl #[.agg #[.slice A0_0 l0_0.length c0_0], .slice A1 y263.length c1] (by rfl) rfl rfl (by (try simp only [List.map_toArray, List.map_cons, List.map_nil]); first | done | rfl | (simp only [List.length_drop, List.length_take]; rfl)) ?_
      with_reducible refine (impl_DoActs.calls k _ _ l0_0 _ _ y263 t267 t270 _ ?side1 ?side2 ?side3 ?side4 A9.out).mono ?_
      (case side1 => exact qC_ HR0_0 HB)
      (case side2 => exact HC0_0.out)
      (case side3 => exact qC_ HR266 HB)
      (case side4 => exact HC266.out)
      rintro e w28 ⟨v268, rfl, ho0, hb⟩
      refine ⟨_, rfl, ?_⟩
      have HO269 := am_ (Kd.R_lower ho0 (below_size qB_)); replace BK260 := qbl_ BK260 hb; replace BK261 := qbl_ BK261 hb; replace HB := am_ (below_step qB_ hb); (try clear hb); (try clear hb2); (try clear hk); (try clear hi); (try clear ho0)
      refine hK.out _ _ (bl_ BK260 0) (fun hHeld => ?_)
      clear hK K
      refine nm_ 25 ?_
      refine pz_ 5 20 (bm 11 63) ?_; refine pz_ 6 26 (bm 11 127) ?_; refine pz_ 7 27 (bm 11 255) ?_
      refine o1_ 8 (some 10) (bm 11 511) (fun K hK => ?_)
      refine box_step ?hg (N := 10) ?hd (cs := #[.slice none 0 0]) (t := 44) ?hr ?_; (case hd => rfl); (case hg => rfl); (case hr => first | (go_simp; done) | (go_simp; rfl))
      intro gb271 hg w29 hbox hb
      have n0_ := am_ (Kd.R_below (qR_ HO269) hb)
      have n1_ := qbl_ BK260 hb
      have n2_ := qbl_ BK261 hb
      have n3_ := am_ (below_step qB_ hb)
      have n4_ := am_ (hbox)
      have n5_ := am_ ((qs_ : w.heap.size ≤ gb271))
      have n6_ := am_ ((qs_ : w.heap.size ≤ gb271))
      have n7_ := am_ ((by rw [hg]; exact Nat.ne_of_lt (blk_lt (qk_ BK260)) : gb260 ≠ gb271))
      have n8_ := am_ ((by rw [hg]; exact Nat.ne_of_gt (blk_lt (qk_ BK260)) : gb271 ≠ gb260))
      have n9_ := am_ ((by rw [hg]; exact Nat.ne_of_lt (blk_lt (qk_ BK261)) : gb261 ≠ gb271))
      have n10_ := am_ ((by rw [hg]; exact Nat.ne_of_gt (blk_lt (qk_ BK261)) : gb271 ≠ gb261))
      clear HO269; clear BK260; clear BK261; clear HB; have HO269 := n0_; have BK260 := n1_; have BK261 := n2_; have HB := n3_; have BK271 := n4_; have GW271 := n5_; have GE271 := n6_; have NB260_271 := n7_; have NB271_260 := n8_; have NB261_271 := n9_; have NB271_261 := n10_; clear n0_ n1_ n2_ n3_ n4_ n5_ n6_ n7_ n8_ n9_ n10_; clear hb hbox hg
      refine hK.out _ _ (bl_ BK260 0) (fun hHeld => ?_)
      clear hK K
      refine nm_ 10 ?_
      exact norm_ (by simp only [putAll, Act.put, sA_, sB_, sC_]) (hCont (v268, gb271) _ ⟨hHeld, (qR_ HO269), (qk_ BK260), (qk_ BK261), (qk_ BK271), GW271.out, GE271.out, NB260_271.out, NB271_260.out, NB261_271.out, NB271_261.out, qB_⟩)
     skip
     refine box_step ?hg (N := 10) ?hd (cs := #[.slice none 0 0]) (t := 44) ?hr ?_; (case hd => rfl); (case hg => rfl); (case hr => first | (go_simp; done) | (go_simp; rfl))
     intro gb271 hg w28 hbox hb
     have n0_ := qbl_ BK260 hb
     have n1_ := qbl_ BK261 hb
     have n2_ := am_ (below_step qB_ hb)
     have n3_ := am_ (hbox)
     have n4_ := am_ ((qs_ : w.heap.size ≤ gb271))
     have n5_ := am_ ((qs_ : w.heap.size ≤ gb271))
     have n6_ := am_ ((by rw [hg]; exact Nat.ne_of_lt (blk_lt (qk_ BK260)) : gb260 ≠ gb271))
     have n7_ := am_ ((by rw [hg]; exact Nat.ne_of_gt (blk_lt (qk_ BK260)) : gb271 ≠ gb260))
     have n8_ := am_ ((by rw [hg]; exact Nat.ne_of_lt (blk_lt (qk_ BK261)) : gb261 ≠ gb271))
     have n9_ := am_ ((by rw [hg]; exact Nat.ne_of_gt (blk_lt (qk_ BK261)) : gb271 ≠ gb261))
     clear BK260; clear BK261; clear HB; have BK260 := n0_; have BK261 := n1_; have HB := n2_; have BK271 := n3_; have GW271 := n4_; have GE271 := n5_; have NB260_271 := n6_; have NB271_260 := n7_; have NB261_271 := n8_; have NB271_261 := n9_; clear n0_ n1_ n2_ n3_ n4_ n5_ n6_ n7_ n8_ n9_; clear hb hbox hg
     refine hK.out _ _ (bl_ BK260 0) (fun hHeld => ?_)
     clear hK K
     refine nm_ 10 ?_
     refine o1_ 4 (some 25) (bm 11 287) (fun K hK => ?_)
     refine goes_ Try.func50 (by kernel_rfl) rfl #[.agg #[.slice A0_0 l0_0.length c0_0], .slice A1 y263.length c1] (by rfl) rfl rfl (by (try simp only [List.map_toArray, List.map_cons, List.map_nil]); first | done | rfl | (simp only [List.length_drop, List.length_take]; rfl)) ?_
     with_reducible refine (impl_DoActs.calls k _ _ l0_0 _ _ y263 t267 t270 _ ?side1 ?side2 ?side3 ?side4 A9.out).mono ?_
     (case side1 => exact qC_ HR0_0 HB)
     (case side2 => exact HC0_0.out)
     (case side3 => exact qC_ HR266 HB)
     (case side4 => exact HC266.out)
     rintro e w29 ⟨v268, rfl, ho0, hb⟩
     refine ⟨_, rfl, ?_⟩
     have HO269 := am_ (Kd.R_lower ho0 (below_size qB_)); replace BK260 := qbl_ BK260 hb; replace BK261 := qbl_ BK261 hb; replace BK271 := qbl_ BK271 hb; replace HB := am_ (below_step qB_ hb); (try clear hb); (try clear hb2); (try clear hk); (try clear hi); (try clear ho0)
     refine hK.out _ _ (bl_ BK260 0) (fun hHeld => ?_)
     clear hK K
     refine nm_ 25 ?_
     refine pz_ 5 20 (bm 11 319) ?_; refine pz_ 6 26 (bm 11 383) ?_; refine pz_ 7 27 (bm 11 511) ?_
     exact norm_ (by simp only [putAll, Act.put, sA_, sB_, sC_]) (hCont (v268, gb271) _ ⟨hHeld, (qR_ HO269), (qk_ BK260), (qk_ BK261), (qk_ BK271), GW271.out, GE271.out, NB260_271.out, NB271_260.out, NB261_271.out, NB271_261.out, qB_⟩)
    rintro ⟨v268, gb271⟩ w30 ⟨hS_, h0_, h1_, h2_, h3_, h4_, h5_, h6_, h7_, h8_, h9_, h10_⟩
    have n0_ : Aside0 (Kd.R k99 99 w30 w.heap.size (fun _ => True) v268 t267) := ⟨h0_⟩
    have n1_ : Aside0 (w30.heap[gb260]? = some (.cells #[.slice A0_0 l0_0.length c0_0] 44 (0, 0))) := ⟨h1_⟩
    have n2_ : Aside0 (w30.heap[gb261]? = some (.cells #[.slice none 0 0] 44 (0, 0))) := ⟨h2_⟩
    have n3_ : Aside0 (w30.heap[gb271]? = some (.cells #[.slice none 0 0] 44 (0, 0))) := ⟨h3_⟩
    have n4_ : Aside0 (w.heap.size ≤ gb271) := ⟨h4_⟩
    have n5_ : Aside0 (w.heap.size ≤ gb271) := ⟨h5_⟩
    have n6_ : Aside0 (gb260 ≠ gb271) := ⟨h6_⟩
    have n7_ : Aside0 (gb271 ≠ gb260) := ⟨h7_⟩
    have n8_ : Aside0 (gb261 ≠ gb271) := ⟨h8_⟩
    have n9_ : Aside0 (gb271 ≠ gb261) := ⟨h9_⟩
    have n10_ : Aside0 (Below w.heap.size w w30) := ⟨h10_⟩
    clear BK260; clear BK261; clear HB; clear h0_ h1_ h2_ h3_ h4_ h5_ h6_ h7_ h8_ h9_ h10_; have HO269 := n0_; have BK260 := n1_; have BK261 := n2_; have BK271 := n3_; have GW271 := n4_; have GE271 := n5_; have NB260_271 := n6_; have NB271_260 := n7_; have NB261_271 := n8_; have NB271_261 := n9_; have HB := n10_; clear n0_ n1_ n2_ n3_ n4_ n5_ n6_ n7_ n8_ n9_ n10_
    have hHeld : w30.cell? ⟨gb260, 0, none⟩ = some (.slice A0_0 l0_0.length c0_0) := hS_
    obtain ⟨Ao31, co31, eo31⟩ := Kd.R_slice HO269.out
    (first | subst eo31 | (injection eo31 with f1_ f2_ f3_; have f4_ := f1_.symm; have f5_ := f3_.symm; clear f1_ f2_ f3_; subst f4_; subst f5_))
    refine norm_ (a' := ?_) ?_ ?_
    rotate_left
    ·simp only [putAll, Act.put, sA_, sB_, sC_]
     rfl
    refine o1_ 9 none (bm 11 1023) (fun K hK => ?_)
    have hs32 : w30.cell? ⟨gb271, 0, none⟩ = some (.slice none 0 0) := bl_ BK271 0
    have hfs32 := blk_frozen BK271.out 0
    have hns32_0 := NB260_271.out; have hns32_1 := NB261_271.out; have hms32_0 := NB271_260.out; have hms32_1 := NB271_261.out
    refine skip_ (w1 := ?_) (by rfl) rfl ?_ ?_
    rotate_left
    ·go_simp
     rfl
    refine hK.out _ _ (((cell_far (p := ⟨gb271, _, none⟩) NB260_271.out _).trans (hHeld))) (fun hHeld => ?_)
    clear hK K; refine pz_ 10 11 (bm 11 2047) ?_
    refine done_ (done_of HT_.out (by kernel_rfl)) ?_
    obtain ⟨hnb33, hnc33⟩ := nn_ NB271_260; obtain ⟨hnb34, hnc34⟩ := nn_ NB271_261
    obtain ⟨hcz35_0, hfz35_0⟩ := bc1_ BK271
    try go_wp2_with (first | ((with_reducible refine gate_callee (f := 27) rfl ?_); refine gl_ (some 35) Try.func27 #[.agg #[.slice Ao31 t267.length co31], .slice A3 l3.length c3] ?_; (with_reducible refine (impl_LoseDisk.calls k _ _ t267 _ _ l3 t272 t275 _ ?side1 ?side2 ?side3 ?side4 A23.out).mono ?_); (case side1 => refine (Kd.R_reads' (e := 99) (base := w.heap.size) (ok := fun k_ => True) (n := t267.length) (c := co31) ?_).2.2; exact (by (with_reducible repeat (first | apply Kd.R_alloc | apply Kd.R_drewN | apply Kd.R_drew)); exact (Kd.R_mono (Kd.R_far (p := ⟨gb271, 0, none⟩) (Kd.R_types HO269.out BK271.out (by decide)) (fun _ hk => hk.2) (.slice Ao31 t267.length co31)) (fun _ h_ => h_.1)))); (case side2 => exact (Kd.R_reads' HO269.out).2.1); (case side3 => exact Kd.C_below HR3.out qB_); (case side4 => exact HC3.out); rintro e w36 ⟨v273, rfl, ho0, hb⟩; refine ⟨_, rfl, ?_⟩; have HO274 := am_ (Kd.R_lower (Kd.R_new' ho0 (Kd.R_lt (by (with_reducible repeat (first | apply Kd.R_alloc | apply Kd.R_drewN | apply Kd.R_drew)); exact (Kd.R_mono (Kd.R_far (p := ⟨gb271, 0, none⟩) (Kd.R_types HO269.out BK271.out (by decide)) (fun _ hk => hk.2) (.slice Ao31 t267.length co31)) (fun _ h_ => h_.1))))) (below_size qB_)); replace HO269 := am_ (Kd.R_elder' (by (with_reducible repeat (first | apply Kd.R_alloc | apply Kd.R_drewN | apply Kd.R_drew)); exact (Kd.R_mono (Kd.R_far (p := ⟨gb271, 0, none⟩) (Kd.R_types HO269.out BK271.out (by decide)) (fun _ hk => hk.2) (.slice Ao31 t267.length co31)) (fun _ h_ => h_.1))) (Kd.R_base ho0) hb); replace BK260 := qbl_ BK260 hb; replace BK261 := qbl_ BK261 hb; replace BK271 := am_ (blk_below (g := gb271) (o := .cells #[.slice Ao31 t267.length co31] 44 (0, 0)) (by (with_reducible repeat (first | refine blk_drewN ?_ _ | refine blk_drew ?_ | refine blk_alloc ?_ _)); refine blk_put (cs := #[.slice none 0 0]) ?_ 0 _ rfl; exact qf_ BK271) hb); replace HB := hs_ hb; (try clear hb); (try clear hb2); (try clear hk); (try clear hi); (try clear ho0)) | ((with_reducible refine gate_dst (N := 12) rfl ?_); refine bx_ 12 (cs := #[.slice none 0 0]) (t := 44) ?_; intro gb276 hg w37 hbox hb; have BK276 := am_ (hbox); have GW276 := am_ ((qs_ : w.heap.size ≤ gb276)); have GE276 := GW276; obtain ⟨NB260_276, NB276_260⟩ := qn_ BK260 hg; obtain ⟨NB261_276, NB276_261⟩ := qn_ BK261 hg; obtain ⟨NB271_276, NB276_271⟩ := qn_ BK271 hg; replace HO269 := am_ (Kd.R_below (qR_ HO269) hb); replace HO274 := am_ (Kd.R_below (qR_ HO274) hb); replace BK260 := qbl_ BK260 hb; replace BK261 := qbl_ BK261 hb; replace BK271 := qbl_ BK271 hb; replace HB := hs_ hb; clear hb hbox hg; obtain ⟨Ao38, co38, eo38⟩ := Kd.R_slice HO274.out; subst eo38; obtain ⟨hnb39, hnc39⟩ := nn_ NB276_260; obtain ⟨hnb40, hnc40⟩ := nn_ NB276_261; obtain ⟨hnb41, hnc41⟩ := nn_ NB276_271; obtain ⟨hcz42_0, hfz42_0⟩ := bc1_ BK276; obtain ⟨hnb43, hnc43⟩ := nn_ NB261_260; obtain ⟨hcz44_0, hfz44_0⟩ := bc1_ BK261))
    refine bodyPost_ret (results_ct rfl _ _ gb261 44 #[.slice Ao38 t272.length co38] (0, 0) _ rfl (by (with_reducible repeat (first | refine blk_drewN ?_ _ | refine blk_drew ?_ | refine blk_alloc ?_ _)); refine blk_put (cs := #[.slice none 0 0]) ?_ 0 _ rfl; exact qf_ BK261) Try.underlying44 rfl (by kernel_rfl)) rfl ?_
    exact ⟨_, qr_, by (with_reducible repeat (first | apply Kd.R_alloc | apply Kd.R_drewN | apply Kd.R_drew)); exact Kd.R_mono (Kd.R_far (p := ⟨gb261, 0, none⟩) (Kd.R_far (p := ⟨gb276, 0, none⟩) (Kd.R_types (Kd.R_types HO274.out BK276.out (by decide)) BK261.out (by decide)) (fun _ hk => hk.1.2) (.slice Ao38 t272.length co38)) (fun _ hk => hk.2) (.slice Ao38 t272.length co38)) (fun _ hk => trivial), qB_⟩
   rw [if_neg c8] at H
   exact absurd H (by simp)
  rw [if_neg c7] at H
  exact absurd H (by simp)
 replace c6 := Bool.eq_false_iff.mpr c6
 subst c6
 rw [if_neg (show ¬ (false = true) by decide)] at H
 simp only [Option.some.injEq, Prod.mk.injEq] at H
 obtain ⟨rfl, rfl⟩ := H
 go_enter Try.func57, Try.ntmps57
 go_wp2_with (first | ((with_reducible refine gate_dst (N := 4) rfl ?_); refine bx_ 4 (cs := #[.slice A0_0 l0_0.length c0_0]) (t := 44) ?_; intro gb260 hg w45 hbox hb; have BK260 := am_ (hbox); have GW260 := am_ ((qs_ : w.heap.size ≤ gb260)); have GE260 := GW260; replace HB := hs_ hb; clear hb hbox hg) | ((with_reducible refine gate_dst (N := 8) rfl ?_); refine bx_ 8 (cs := #[.slice none 0 0]) (t := 44) ?_; intro gb261 hg w46 hbox hb; have BK261 := am_ (hbox); have GW261 := am_ ((qs_ : w.heap.size ≤ gb261)); have GE261 := GW261; obtain ⟨NB260_261, NB261_260⟩ := qn_ BK260 hg; replace BK260 := qbl_ BK260 hb; replace HB := hs_ hb; clear hb hbox hg) | ((with_reducible refine gate_callee (f := 69) rfl ?_); refine gl_ (some 17) Try.func69 #[.int .i64 a2, .int .i64 0, .int .i64 (l1.length : Int)] ?_; (with_reducible refine (impl_in.calls a2 0 (l1.length : Int) false _ A5.out).mono ?_); rintro e w' ⟨rfl, ⟨nd, rfl⟩⟩; refine ⟨_, rfl, ?_⟩; (try (rw [drewN_self w46]; generalize hq_ : World.drewN w46 _ = w46; have n0_ : Aside0 (w46.heap[gb260]? = some (.cells #[.slice A0_0 l0_0.length c0_0] 44 (0, 0))) := ⟨by rw [← hq_]; exact (qk_ BK260)⟩; have n1_ : Aside0 (w46.heap[gb261]? = some (.cells #[.slice none 0 0] 44 (0, 0))) := ⟨by rw [← hq_]; exact (qk_ BK261)⟩; have n2_ : Aside0 (Below w.heap.size w w46) := ⟨by rw [← hq_]; exact qB_⟩; clear BK260 BK261 HB hq_; have BK260 := n0_; have BK261 := n1_; have HB := n2_; clear n0_ n1_ n2_; have hcr_gb260_0 : w46.cell? ⟨gb260, 0, none⟩ = some (.slice A0_0 l0_0.length c0_0) := bl_ BK260 0; have hfr_gb260_0 := blk_frozen BK260.out 0; have hcr_gb261_0 : w46.cell? ⟨gb261, 0, none⟩ = some (.slice none 0 0) := bl_ BK261 0; have hfr_gb261_0 := blk_frozen BK261.out 0)); obtain ⟨hnb47, hnc47⟩ := nn_ NB261_260; obtain ⟨hcz48_0, hfz48_0⟩ := bc1_ BK261))
 refine bodyPost_ret (results_ct rfl _ _ gb261 44 #[.slice none 0 0] (0, 0) _ rfl (by (with_reducible repeat (first | refine blk_drewN ?_ _ | refine blk_drew ?_ | refine blk_alloc ?_ _)); refine blk_put (cs := #[.slice none 0 0]) ?_ 0 _ rfl; exact qf_ BK261) Try.underlying44 rfl (by kernel_rfl)) rfl ?_
 exact ⟨_, qr_, by first | exact Kd.R_nil _ _ _ _ _ | exact Kd.N_nil _ _ _ _ _ | exact Kd.V_nil _ _ _ _ _ | exact Kd.Q_nil _ _ _ _ _ | exact Kd.S_nil _ _ _ _ _, qB_⟩

/-! ### spec_l01In: function 64 -/
def spec_l01In.f (a0 : Int) (a1 : Int) (a2 : Int) : Option (Bool) := if a0 ≥ a1 then (some (decide (a0 ≤ a2))) else (some false)
set_option maxHeartbeats 8000000 in
set_option maxRecDepth 100000 in
theorem spec_l01In.calls (a0 : Int) (a1 : Int) (a2 : Int) (r : Bool) (w : World) (h : spec_l01In.f a0 a1 a2 = some r) :
  Calls Try.prog 64 #[.int .i64 a0, .int .i64 a1, .int .i64 a2] w fun e w' => e = .returned (.bool r) ∧ Drawn0 w w' := by
 have H : (if a0 ≥ a1 then (some (decide (a0 ≤ a2))) else (some false)) = some r := h
 clear h
 by_cases c4 : a0 ≥ a1
 ·rw [if_pos c4] at H
  have c4b0 : decide (a1 ≤ a0) = true := decide_eq_true c4
  clear c4
  obtain rfl := Option.some.inj H
  go_enter Try.func64, Try.ntmps64
  go_wp2
  go_ret
  exact ⟨by first | rfl | (simp; done) | (simp [*]; done), by repeat (first | exact Drawn0.refl _ | apply Drawn0.step)⟩
 rw [if_neg c4] at H
 have c4b0 : decide (a1 ≤ a0) = false := decide_eq_false c4
 clear c4
 obtain rfl := Option.some.inj H
 go_enter Try.func64, Try.ntmps64
 go_wp2
 go_ret
 exact ⟨by first | rfl | (simp; done) | (simp [*]; done), by repeat (first | exact Drawn0.refl _ | apply Drawn0.step)⟩

/-! ### spec_l03Name: function 82 -/
def spec_l03Name.f (a0 : ByteArray) : Option (Bool) := (spec_l01In.f (a0.size : Int) 1 8).bind fun t277 => (some t277)
set_option maxHeartbeats 8000000 in
set_option maxRecDepth 100000 in
theorem spec_l03Name.calls (a0 : ByteArray) (r : Bool) (w : World) (h : spec_l03Name.f a0 = some r) :
  Calls Try.prog 82 #[.string a0] w fun e w' => e = .returned (.bool r) ∧ Drawn0 w w' := by
 have H : ((spec_l01In.f (a0.size : Int) 1 8).bind fun t277 => (some t277)) = some r := h
 clear h
 obtain ⟨t277, A20, H⟩ := Option.bind_eq_some_iff.mp H; have A2 := am_ A20; clear A20
 obtain rfl := Option.some.inj H
 go_enter Try.func82, Try.ntmps82
 go_wp2_with (first | ((with_reducible refine gate_callee (f := 64) rfl ?_); refine gl_ (some 5) Try.func64 #[.int .i64 (a0.size : Int), .int .i64 1, .int .i64 8] ?_; (with_reducible refine (spec_l01In.calls (a0.size : Int) 1 8 t277 _ A2.out).mono ?_); rintro e w' ⟨rfl, ⟨nd, rfl⟩⟩; refine ⟨_, rfl, ?_⟩))
 go_ret
 exact ⟨by first | rfl | (simp; done) | (simp [*]; done), by repeat (first | exact Drawn0.refl _ | apply Drawn0.step)⟩

end Go.Proofs.Ytacnlodcbbhahaa.QFnExactCutActs
