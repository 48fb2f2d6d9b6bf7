-- printed for this claim by a program of the session's own (no text of the kit's print)
import Derived.Test.YtacnlodcbbhahaaQFnExactEdgesOfx0
import Derived.Test.YtacnlodcbbhahaaQFnExactEdgesOfx4
import Derived.Test.YtacnlodcbbhahaaQFnExactEdgesOfx5
namespace Go.Proofs.Ytacnlodcbbhahaa.QFnExactEdgesOf
open Go.RowKit Go.Proofs.YtacnlodcbbhahaaW.PrintWords Go.Proofs.YtacnlodcbbhahaaW.PrintLast Go.Proofs.YtacnlodcbbhahaaW.PrintMore
attribute [local go_sem] max2_int min2_int max_two min_two max_three min_three max_four min_four   -- for this text's walks alone
set_option linter.unusedVariables false
set_option linter.unusedSimpArgs false

/-! ### spec_EdgesOf: function 41 -/
mutual
def spec_EdgesOf.l0 : Nat → List (S112) → Int → Int → List (List Int) → Option ((List (S112)))
  | 0, _, _, _, _ => none
  | k + 1, x3, x4, x207000, x207001 => if x4 < (x207001.length : Int) then (if 0 ≤ x4 then (spec_EdgesOf.l1 k x3 x4 (rd_L1 x207001 x4) 0 x207000 x207001) else (none)) else (some x3)
def spec_EdgesOf.l1 : Nat → List (S112) → Int → List Int → Int → Int → List (List Int) → Option ((List (S112)))
  | 0, _, _, _, _, _, _ => none
  | k + 1, x3, x4, x5, x6, x207000, x207001 => if (wrap64 (x6 + 1)) < (x5.length : Int) then (if 0 ≤ x6 then (if x6 < (x5.length : Int) then (if 0 ≤ (wrap64 (x6 + 1)) then (if (rd x5 x6) < (rd x5 (wrap64 (x6 + 1))) then ((spec_l05Put.f k x3 (rd x5 x6) (rd x5 (wrap64 (x6 + 1)))).bind fun t216 => (spec_EdgesOf.l1 k t216 x4 x5 (wrap64 (x6 + 1)) x207000 x207001)) else (spec_EdgesOf.l1 k x3 x4 x5 (wrap64 (x6 + 1)) x207000 x207001)) else (none)) else (none)) else (none)) else (spec_EdgesOf.l0 k x3 (wrap64 (x4 + 1)) x207000 x207001)
end
def spec_EdgesOf.f (k : Nat) (a0_0 : Int) (l0_1 : List (List Int)) : Option ((List (S112))) := (some (([] : List (S112)) : List (S112))).bind fun y207 => ((spec_ForestOk.f k a0_0 l0_1).bind fun t210 => (if t210 = true then (spec_EdgesOf.l0 k y207 0 a0_0 l0_1) else (some y207)))
theorem spec_EdgesOf.mono_l : ∀ k, (∀ y0 y1 y2 y3, LeO (spec_EdgesOf.l0 k y0 y1 y2 y3) (spec_EdgesOf.l0 (k + 1) y0 y1 y2 y3)) ∧ (∀ y0 y1 y2 y3 y4 y5, LeO (spec_EdgesOf.l1 k y0 y1 y2 y3 y4 y5) (spec_EdgesOf.l1 (k + 1) y0 y1 y2 y3 y4 y5))
  | 0 => ⟨fun _ _ _ _ r h => by simp [spec_EdgesOf.l0] at h, fun _ _ _ _ _ _ r h => by simp [spec_EdgesOf.l1] at h⟩
  | k + 1 => by
    obtain ⟨ih0, ih1⟩ := spec_EdgesOf.mono_l k
    refine ⟨?_, ?_⟩ <;> (intros; first | unfold spec_EdgesOf.l0 | unfold spec_EdgesOf.l1) <;> repeat' first
    | (with_reducible exact ih0 _ _ _ _)
    | (with_reducible exact ih1 _ _ _ _ _ _)
    | (with_reducible exact spec_ForestOk.mono _ _ _)
    | (with_reducible exact spec_l05Put.mono _ _ _ _)
    | (with_reducible exact LeO.refl _)
    | (with_reducible exact LeO.none _)
    | (with_reducible refine LeO.ite ?_ ?_)
    | (with_reducible refine LeO.bind ?_ (fun _ => ?_))
    | exact ih0 _ _ _ _
    | exact ih1 _ _ _ _ _ _
    | exact spec_ForestOk.mono _ _ _
    | exact spec_l05Put.mono _ _ _ _
    | exact LeO.none _
    | refine LeO.ite ?_ ?_
    | refine LeO.bind ?_ (fun _ => ?_)
theorem spec_EdgesOf.mono : ∀ a0 a1 k, LeO (spec_EdgesOf.f k a0 a1) (spec_EdgesOf.f (k + 1) a0 a1) := by
  intro a0 a1 k
  obtain ⟨ih0, ih1⟩ := spec_EdgesOf.mono_l k
  unfold spec_EdgesOf.f
  repeat' first
      | (with_reducible exact ih0 _ _ _ _)
      | (with_reducible exact ih1 _ _ _ _ _ _)
      | (with_reducible exact spec_ForestOk.mono _ _ _)
      | (with_reducible exact spec_l05Put.mono _ _ _ _)
      | (with_reducible exact LeO.refl _)
      | (with_reducible exact LeO.none _)
      | (with_reducible refine LeO.ite ?_ ?_)
      | (with_reducible refine LeO.bind ?_ (fun _ => ?_))
      | exact ih0 _ _ _ _
      | exact ih1 _ _ _ _ _ _
      | exact spec_ForestOk.mono _ _ _
      | exact spec_l05Put.mono _ _ _ _
      | exact LeO.none _
      | refine LeO.ite ?_ ?_
      | refine LeO.bind ?_ (fun _ => ?_)
def spec_EdgesOf.T11 : Bool × List (List Nat × List Nat) := (true, [([], []), ([], []), ([0, 1], [0, 1]), ([2], [2]), ([], []), ([], []), ([5], [5]), ([4, 6], [4, 6]), ([7], [7]), ([3, 8], [3, 8])])
def spec_EdgesOf.B11 : List Nat := [0, 0, 3, 7, 0, 0, 32, 112, 240, 511]
theorem spec_EdgesOf.tab11 : rtab .any (opsOf Try.f41 11) = spec_EdgesOf.T11 := by kernel_rfl
theorem spec_EdgesOf.bits11 : waitsOk spec_EdgesOf.T11.2 spec_EdgesOf.B11 = true := by kernel_rfl
def spec_EdgesOf.T12 : Bool × List (List Nat × List Nat) := (true, [([], []), ([], []), ([], []), ([1, 2], [1, 2]), ([3], [3]), ([], []), ([], []), ([6], [6]), ([5, 7], [5, 7]), ([8], [8]), ([4, 9], [4, 9]), ([0, 10], [0, 10]), ([11, 11, 0, 1, 2, 3, 4, 5, 6, 7, 8, 9, 10, 11], [0, 11])])
def spec_EdgesOf.B12 : List Nat := [0, 0, 0, 6, 14, 0, 0, 64, 224, 480, 1022, 2047, 4095]
theorem spec_EdgesOf.tab12 : rtab .any (opsOf Try.f41 12) = spec_EdgesOf.T12 := by kernel_rfl
theorem spec_EdgesOf.bits12 : waitsOk spec_EdgesOf.T12.2 spec_EdgesOf.B12 = true := by kernel_rfl
set_option maxHeartbeats 8000000 in
set_option maxRecDepth 100000 in
theorem spec_EdgesOf.calls (k : Nat) (a0_0 : Int) (A0_1 : Option Addr) (c0_1 : Nat) (l0_1 : List (List Int)) (r : List (S112)) (w : World) (hr0_1 : Kd.C (Kd.slice 3 (Kd.int .i64)) w A0_1 l0_1.length l0_1) (hc0_1 : l0_1.length ≤ c0_1) (h : spec_EdgesOf.f k a0_0 l0_1 = some r) :
  Calls Try.prog 41 #[.agg #[.int .i64 a0_0, .slice A0_1 l0_1.length c0_1]] w fun e w' => ∃ v0_ : Value, e = .returned (v0_) ∧ Kd.R k112 112 w' w.heap.size (fun _ => True) v0_ r ∧ Below w.heap.size w w' := by
 have hu33 := Try.underlying33; have hu112 := Try.underlying112
 have HR0_1 := Aside0.mk hr0_1
 have HC0_1 := Aside0.mk hc0_1
 clear hr0_1 hc0_1
 have HB := Aside0.mk (Below.refl w.heap.size w)
 have H : ((some (([] : List (S112)) : List (S112))).bind fun y207 => ((spec_ForestOk.f k a0_0 l0_1).bind fun t210 => (if t210 = true then (spec_EdgesOf.l0 k y207 0 a0_0 l0_1) else (some y207)))) = some r := h
 clear h
 obtain ⟨y207, hy207⟩ : ∃ y_ : List (S112), y_ = (([] : List (S112))) := ⟨_, rfl⟩
 replace H : ((spec_ForestOk.f k a0_0 l0_1).bind fun t210 => (if t210 = true then (spec_EdgesOf.l0 k y207 0 a0_0 l0_1) else (some y207))) = some r := by first | (rw [hy207]; with_reducible exact H) | (have H2_ := (Option.bind_some _ _).symm.trans H; rw [hy207]; with_reducible exact H2_) | (have H2_ := (Option.bind_some _ _).symm.trans H; with_reducible exact H2_) | with_reducible exact H | (rw [hy207]; exact H) | exact H
 have Ny207 := Aside0.mk hy207
 clear hy207
 obtain ⟨t210, A20, H⟩ := Option.bind_eq_some_iff.mp H; have A2 := Aside0.mk A20; clear A20
 by_cases c3 : t210 = true
 ·subst c3
  rw [if_pos rfl] at H; have H' := Aside0.mk H; clear H
  go_enter Try.func41, Try.ntmps41
  go_wp2_with (first | ((with_reducible refine gate_dst (N := 1) rfl ?_); refine bx_ 1 (cs := #[.int .i64 a0_0, .slice A0_1 l0_1.length c0_1]) (t := 33) ?_; intro gb206 hg w4 hbox hb; have BK206 := Aside0.mk (hbox); have GW206 := Aside0.mk ((qs_ : w.heap.size ≤ gb206)); have GE206 := Aside0.mk ((qs_ : w.heap.size ≤ gb206)); replace HB := Aside0.mk (below_step qB_ hb); clear hb hbox hg) | ((with_reducible refine gate_dst (N := 7) rfl ?_); refine Kd.R_lit k112 _ 112 ?hg (N := 7) ?hd (xs := ([] : List (S112))) (inner := []) (ok := fun _ => True) (okp := fun _ => True) ?hr ?hp (fun _ hk => hk) trivial (Below.refl _ _) (Nat.le_refl _) (by simp) ?_; (case hd => rfl); (case hg => rfl); (case hr => first | (go_simp; done) | (go_simp; rfl)); (case hp => exact (Reps.none _ _)); intro v208 w5 ho6 hb hg_ hnew_; clear hg_ hnew_; (first | rw [← Ny207.out] at ho6 | (simp only [Int.reduceToNat] at ho6; rw [← Ny207.out] at ho6)); have HO209 := Aside0.mk (Kd.R_lower ho6 (below_size qB_)); replace BK206 := Aside0.mk (blk_below (qk_ BK206) hb); replace HB := Aside0.mk (below_step qB_ hb); clear hb ho6; obtain ⟨hcz7_0, hcz7_1, hfz7_0, hfz7_1⟩ := bc2_ BK206) | ((with_reducible refine gate_callee (f := 19) rfl ?_); refine gl_ (some 9) Try.func19 #[.agg #[.int .i64 a0_0, .slice A0_1 l0_1.length c0_1]] ?_; (with_reducible refine (spec_ForestOk.calls k a0_0 _ _ l0_1 true _ ?side1 ?side2 A2.out).mono ?_); (case side1 => exact qC_ HR0_1 HB); (case side2 => exact HC0_1.out); rintro e w8 ⟨rfl, hb⟩; refine ⟨_, rfl, ?_⟩; replace HO209 := Aside0.mk (Kd.R_below (qR_ HO209) hb); replace BK206 := Aside0.mk (blk_below (qk_ BK206) hb); replace HB := Aside0.mk (below_step qB_ hb); (try clear hb); (try clear hb2); (try clear hk); (try clear hi)))
  go_loopg [3, 4] k (fun kq v3 v4 w' => ∃ (x3_1 : List (S112)) (x4_1 : Int), v4 = .int .i64 x4_1 ∧ Aside0 (spec_EdgesOf.l0 kq x3_1 x4_1 a0_0 l0_1 = some r) ∧ Aside0 (kq ≤ k) ∧ Aside0 (Kd.R k112 112 w' w.heap.size (fun _ => True) v3 x3_1) ∧ Aside0 (w'.heap[gb206]? = some (.cells #[.int .i64 a0_0, (.slice A0_1 l0_1.length c0_1)] 33 (0, 0))) ∧ Aside0 (Below w.heap.size w w'))
  case atStart => exact ⟨(y207), (0), qe_, H', ⟨Nat.le_refl _⟩, ⟨by (with_reducible repeat (first | apply Kd.R_alloc | apply Kd.R_drewN | apply Kd.R_drew)); first | exact HO209.out | (have h_ := HO209.out; simp only [own_slice] at h_ ⊢; exact h_)⟩, ⟨qk_ BK206⟩, ⟨qB_⟩⟩
  case round =>
   clear H'
   (try clear c1); (try clear p2); (try clear c3); (try clear c4); (try clear hcz7_0); (try clear hcz7_1); (try clear hfz7_0); (try clear hfz7_1)
   obtain ⟨x3_1, x4_1, rfl, HA, HK1, HO_3, BK206, HB⟩ := hrel
   cases gk with
   | zero => exact absurd HA.out (by simp [spec_EdgesOf.l0])
   | succ k1 =>
    have H := HA.out; clear HA
    simp only [spec_EdgesOf.l0] at H
    by_cases c9 : x4_1 < (l0_1.length : Int)
    ·rw [if_pos c9] at H
     have c9b0 : decide (x4_1 < (l0_1.length : Int)) = true := decide_eq_true c9
     clear c9
     by_cases c10 : 0 ≤ x4_1
     ·rw [if_pos c10] at H
      have c10b0 : decide (0 ≤ x4_1) = true := decide_eq_true c10
      clear c10; have H' := Aside0.mk H; clear H
      obtain ⟨hcz11_0, hcz11_1, hfz11_0, hfz11_1⟩ := bc2_ BK206
      have p211 : 0 ≤ (x4_1 : Int) := of_decide_eq_true qa_
      have q211 : x4_1 < (l0_1.length : Int) := of_decide_eq_true qa_
      obtain ⟨ad211, A211_0, c211_0, e211, hx211_0, hl211_0, hi211_0⟩ := at_L1 HR0_1.out x4_1 p211 q211
      cases e211
      replace hx211_0 := (HB.out.cell (World.block_lt_of_cell? w _ hx211_0)).trans hx211_0
      have HR211_0 := Aside0.mk hi211_0
      have HC211_0 := Aside0.mk hl211_0
      clear hi211_0 hl211_0; replace p211 := eq_true p211; replace q211 := eq_true q211
      go_wp2
      go_loopg [3, 6] k1 (fun kq v3 v6 w' => ∃ (x3_2 : List (S112)) (x6_2 : Int), v6 = .int .i64 x6_2 ∧ Aside0 (spec_EdgesOf.l1 kq x3_2 x4_1 (rd_L1 l0_1 x4_1) x6_2 a0_0 l0_1 = some r) ∧ Aside0 (kq ≤ k1) ∧ Aside0 (Kd.R k112 112 w' w.heap.size (fun _ => True) v3 x3_2) ∧ Aside0 (w'.heap[gb206]? = some (.cells #[.int .i64 a0_0, (.slice (some ad211) l0_1.length c0_1)] 33 (0, 0))) ∧ Aside0 (Below w.heap.size w w'))
      case atStart => exact ⟨(x3_1), (0), qe_, H', ⟨Nat.le_refl _⟩, ⟨by (with_reducible repeat (first | apply Kd.R_alloc | apply Kd.R_drewN | apply Kd.R_drew)); first | exact HO_3.out | (have h_ := HO_3.out; simp only [own_slice] at h_ ⊢; exact h_)⟩, ⟨qk_ BK206⟩, ⟨qB_⟩⟩
      case round =>
       clear H'
       (try clear c1); (try clear c2); (try clear p2); (try clear q2); (try clear hx2); (try clear c3); (try clear c4); (try clear c9); (try clear c9b0); (try clear c10); (try clear c10b0); (try clear hcz11_0); (try clear hcz11_1); (try clear hcz7_0); (try clear hcz7_1); (try clear hfz11_0); (try clear hfz11_1); (try clear hfz7_0); (try clear hfz7_1); (try clear hx211_0); (try clear p2); (try clear p211); (try clear q211)
       obtain ⟨x3_2, x6_2, rfl, HA, HK2, HO_3, BK206, HB⟩ := hrel
       cases gk with
       | zero => exact absurd HA.out (by simp [spec_EdgesOf.l1])
       | succ k2 =>
        have H := HA.out; clear HA
        simp only [spec_EdgesOf.l1] at H
        by_cases c12 : (wrap64 (x6_2 + 1)) < ((rd_L1 l0_1 x4_1).length : Int)
        ·rw [if_pos c12] at H
         have c12b0 : decide ((wrap64 (x6_2 + 1)) < ((rd_L1 l0_1 x4_1).length : Int)) = true := decide_eq_true c12
         clear c12
         by_cases c13 : 0 ≤ x6_2
         ·rw [if_pos c13] at H
          have c13b0 : decide (0 ≤ x6_2) = true := decide_eq_true c13
          clear c13
          by_cases c14 : x6_2 < ((rd_L1 l0_1 x4_1).length : Int)
          ·rw [if_pos c14] at H
           have c14b0 : decide (x6_2 < ((rd_L1 l0_1 x4_1).length : Int)) = true := decide_eq_true c14
           clear c14
           obtain ⟨ji15, hji15⟩ : ∃ j_ : Int, (wrap64 (x6_2 + 1)) = j_ := ⟨_, rfl⟩
           first | rw [hji15] at H | simp only [hji15] at H
           (try rw [hji15] at c12b0)
           have hji15w : (IntKind.i64.wrap (x6_2 + 1)) = ji15 := (i64_w _).trans hji15
           by_cases c16 : 0 ≤ (ji15)
           ·rw [if_pos c16] at H
            have c16b0 : decide (0 ≤ (ji15)) = true := decide_eq_true c16
            clear c16
            by_cases c17 : (rd (rd_L1 l0_1 x4_1) x6_2) < (rd (rd_L1 l0_1 x4_1) (ji15))
            ·rw [if_pos c17] at H
             have c17b0 : decide ((rd (rd_L1 l0_1 x4_1) x6_2) < (rd (rd_L1 l0_1 x4_1) (ji15))) = true := decide_eq_true c17
             clear c17
             obtain ⟨t216, A180, H⟩ := Option.bind_eq_some_iff.mp H; have A18 := Aside0.mk A180; clear A180
             have H' := Aside0.mk H; clear H
             try go_wp2
             have n0_ := Aside0.mk (Kd.R_drew HO_3.out)
             have n1_ := Aside0.mk (blk_drew BK206.out)
             have n2_ := Aside0.mk (below_drew1 HB.out)
             clear HO_3; clear BK206; clear HB; have HO_3 := n0_; have BK206 := n1_; have HB := n2_; clear n0_ n1_ n2_
             have p212 : 0 ≤ (x6_2 : Int) := of_decide_eq_true qa_
             have q212 : x6_2 < ((rd_L1 l0_1 x4_1).length : Int) := of_decide_eq_true qa_
             obtain ⟨ad212, e212, hx212_0⟩ := Kd.at_int HR211_0.out x6_2 p212 q212
             have hw212_0 := hx212_0; cases e212
             replace hx212_0 := (HB.out.cell (World.block_lt_of_cell? w _ hx212_0)).trans hx212_0
             replace p212 := eq_true p212; replace q212 := eq_true q212
             have p213 : 0 ≤ ((ji15) : Int) := of_decide_eq_true qa_
             have q213 : (ji15) < ((rd_L1 l0_1 x4_1).length : Int) := of_decide_eq_true qa_
             obtain ⟨ad213, e213, hx213_0⟩ := Kd.at_int HR211_0.out (ji15) p213 q213
             have hw213_0 := hx213_0
             obtain rfl : ad212 = ad213 := (by injection e213)
             replace hx213_0 := (HB.out.cell (World.block_lt_of_cell? w _ hx213_0)).trans hx213_0
             replace p213 := eq_true p213; replace q213 := eq_true q213
             refine start_ (n := 10) (S := fun w' => w'.cell? (ad212.add (x6_2).toNat) = some (.int .i64 (rd (rd_L1 l0_1 x4_1) x6_2)) ∧ w'.cell? (ad212.add ((ji15)).toNat) = some (.int .i64 (rd (rd_L1 l0_1 x4_1) (ji15)))) (ds := []) (bm 10 0) (by kernel_rfl) rfl (by kernel_rfl) ⟨((HB.out.cell (World.block_lt_of_cell? w _ hw212_0)).trans hw212_0), ((HB.out.cell (World.block_lt_of_cell? w _ hw213_0)).trans hw213_0)⟩ (fun hHeld => ?_); refine with_tabW spec_EdgesOf.tab11 spec_EdgesOf.bits11 (fun HT_ HW_ => ?_)
             generalize wr.drew = w19 at HO_3 BK206 HB hx212_0 hx213_0 hHeld ⊢
             refine pz_ 0 31 (bm 10 1) ?_; refine pz_ 1 32 (bm 10 3) ?_; refine pz_ 2 33 (bm 10 7) ?_; refine pz_ 4 35 (bm 10 23) ?_; refine pz_ 5 36 (bm 10 55) ?_; refine pz_ 6 37 (bm 10 119) ?_; refine pz_ 7 38 (bm 10 247) ?_; refine tz2_ 3 34 (bm 10 255) ?_; refine tz2_ 8 39 (bm 10 511) ?_; refine pz_ 9 40 (bm 10 1023) ?_
             refine done_ (done_of HT_.out (by kernel_rfl)) ?_
             try go_wp2
             have n0_ := Aside0.mk (Kd.R_drew HO_3.out)
             have n1_ := Aside0.mk (blk_drew BK206.out)
             have n2_ := Aside0.mk (below_drew1 HB.out)
             clear HO_3; clear BK206; clear HB; have HO_3 := n0_; have BK206 := n1_; have HB := n2_; clear n0_ n1_ n2_
             have p214 : 0 ≤ (x6_2 : Int) := of_decide_eq_true qa_
             have q214 : x6_2 < ((rd_L1 l0_1 x4_1).length : Int) := of_decide_eq_true qa_
             obtain ⟨ad214, e214, hx214_0⟩ := Kd.at_int HR211_0.out x6_2 p214 q214
             have hw214_0 := hx214_0
             obtain rfl : ad212 = ad214 := (by injection e214)
             replace hx214_0 := (HB.out.cell (World.block_lt_of_cell? w _ hx214_0)).trans hx214_0
             replace p214 := eq_true p214; replace q214 := eq_true q214
             have p215 : 0 ≤ ((ji15) : Int) := of_decide_eq_true qa_
             have q215 : (ji15) < ((rd_L1 l0_1 x4_1).length : Int) := of_decide_eq_true qa_
             obtain ⟨ad215, e215, hx215_0⟩ := Kd.at_int HR211_0.out (ji15) p215 q215
             have hw215_0 := hx215_0
             obtain rfl : ad212 = ad215 := (by injection e215)
             replace hx215_0 := (HB.out.cell (World.block_lt_of_cell? w _ hx215_0)).trans hx215_0
             replace p215 := eq_true p215; replace q215 := eq_true q215
             obtain ⟨Ao21, co21, eo21⟩ := Kd.R_slice HO_3.out
             (first | subst eo21 | (injection eo21 with f1_ f2_ f3_; have f4_ := f1_.symm; have f5_ := f3_.symm; clear f1_ f2_ f3_; subst f4_; subst f5_))
             refine start_ (n := 13) (S := fun w' => w'.cell? (ad212.add (x6_2).toNat) = some (.int .i64 (rd (rd_L1 l0_1 x4_1) x6_2)) ∧ w'.cell? (ad212.add ((ji15)).toNat) = some (.int .i64 (rd (rd_L1 l0_1 x4_1) (ji15)))) (ds := []) (bm 13 0) (by kernel_rfl) rfl (by kernel_rfl) ⟨((HB.out.cell (World.block_lt_of_cell? w _ hw214_0)).trans hw214_0), ((HB.out.cell (World.block_lt_of_cell? w _ hw215_0)).trans hw215_0)⟩ (fun hHeld => ?_); refine with_tabW spec_EdgesOf.tab12 spec_EdgesOf.bits12 (fun HT_ HW_ => ?_)
             generalize w19.drew = w20 at HO_3 BK206 HB hx214_0 hx215_0 hHeld ⊢
             refine pz_ 0 41 (bm 13 1) ?_; refine pz_ 1 42 (bm 13 3) ?_; refine pz_ 2 43 (bm 13 7) ?_; refine pz_ 3 44 (bm 13 15) ?_; refine pz_ 5 46 (bm 13 47) ?_; refine pz_ 6 47 (bm 13 111) ?_; refine pz_ 7 48 (bm 13 239) ?_; refine pz_ 8 49 (bm 13 495) ?_; refine tz2_ 4 45 (bm 13 511) ?_; refine tz2_ 9 50 (bm 13 1023) ?_; refine pz_ 10 51 (bm 13 2047) ?_
             refine one_ (i := 11) (N := some 52) (bm 13 4095) rfl rfl (one_of HT_.out (by kernel_rfl)) (by decide) (fun K hK => ?_)
             refine goes_ Try.func89 (by kernel_rfl) rfl #[.slice Ao21 x3_2.length co21, .agg #[.int .i64 (rd (rd_L1 l0_1 x4_1) x6_2), .int .i64 (rd (rd_L1 l0_1 x4_1) (ji15))]] (by rfl) rfl rfl (by (try simp only [List.map_toArray, List.map_cons, List.map_nil]); first | done | (simp only [hji15]; rfl) | rfl | (simp only [List.length_drop, List.length_take]; rfl)) ?_
             with_reducible refine (spec_l05Put.calls k2 _ _ x3_2 (rd (rd_L1 l0_1 x4_1) x6_2) (rd (rd_L1 l0_1 x4_1) (ji15)) t216 _ ?side1 ?side2 A18.out).mono ?_
             (case side1 => exact qD_ (Kd.R_reads' HO_3.out).2.2)
             (case side2 => exact (Kd.R_reads' HO_3.out).2.1)
             rintro e w22 ⟨v217, rfl, ho0, hb⟩
             refine ⟨_, rfl, ?_⟩
             have n0_ := Aside0.mk (Kd.R_elder' (qR_ HO_3) (Kd.R_base ho0) hb)
             have n1_ := Aside0.mk (Kd.R_lower (Kd.R_new' ho0 (Kd.R_lt (qR_ HO_3))) (below_size qB_))
             have n2_ := Aside0.mk (blk_below (qk_ BK206) hb)
             have n3_ := Aside0.mk (below_step qB_ hb)
             clear HO_3; clear BK206; clear HB; have HO_3 := n0_; have HO218 := n1_; have BK206 := n2_; have HB := n3_; clear n0_ n1_ n2_ n3_; (try clear hb); (try clear hb2); (try clear hk); (try clear hi); (try clear ho0)
             refine hK.out _ _ ⟨((HB.out.cell (World.block_lt_of_cell? w _ hw214_0)).trans hw214_0), ((HB.out.cell (World.block_lt_of_cell? w _ hw215_0)).trans hw215_0)⟩ (fun hHeld => ?_)
             clear hK K
             refine norm_ (a' := ?_) ?_ ?_
             rotate_left
             ·show Act.put _ (some 52) _ = _
              simp only [Act.put, List.setIfInBounds_toArray, List.set_cons_zero, List.set_cons_succ, i64_w, i32_w]
              rfl
             refine pz_ 12 3 (bm 13 8191) ?_
             refine done_ (done_of HT_.out (by kernel_rfl)) ?_
             try go_wp2
             go_roundg k2
             case measure => have := HK1.out; have := HK2.out; omega
             case rel => exact ⟨(t216), (ji15), (by first | rfl | (simp; done) | (simp only [← hji15] <;> (first | rfl | simp)) | (simp [*]; done)), H', ⟨by have := HK1.out; have := HK2.out; omega⟩, ⟨by (with_reducible repeat (first | apply Kd.R_alloc | apply Kd.R_drewN | apply Kd.R_drew)); exact Kd.R_mono HO218.out (fun _ hk => trivial)⟩, ⟨qk_ BK206⟩, ⟨qB_⟩⟩
            ·rw [if_neg c17] at H
             have c17b0 : decide ((rd (rd_L1 l0_1 x4_1) x6_2) < (rd (rd_L1 l0_1 x4_1) (ji15))) = false := decide_eq_false c17
             clear c17; have H' := Aside0.mk H; clear H
             try go_wp2
             have n0_ := Aside0.mk (Kd.R_drew HO_3.out)
             have n1_ := Aside0.mk (blk_drew BK206.out)
             have n2_ := Aside0.mk (below_drew1 HB.out)
             clear HO_3; clear BK206; clear HB; have HO_3 := n0_; have BK206 := n1_; have HB := n2_; clear n0_ n1_ n2_
             have p212 : 0 ≤ (x6_2 : Int) := of_decide_eq_true qa_
             have q212 : x6_2 < ((rd_L1 l0_1 x4_1).length : Int) := of_decide_eq_true qa_
             obtain ⟨ad212, e212, hx212_0⟩ := Kd.at_int HR211_0.out x6_2 p212 q212
             have hw212_0 := hx212_0; cases e212
             replace hx212_0 := (HB.out.cell (World.block_lt_of_cell? w _ hx212_0)).trans hx212_0
             replace p212 := eq_true p212; replace q212 := eq_true q212
             have p213 : 0 ≤ ((ji15) : Int) := of_decide_eq_true qa_
             have q213 : (ji15) < ((rd_L1 l0_1 x4_1).length : Int) := of_decide_eq_true qa_
             obtain ⟨ad213, e213, hx213_0⟩ := Kd.at_int HR211_0.out (ji15) p213 q213
             have hw213_0 := hx213_0
             obtain rfl : ad212 = ad213 := (by injection e213)
             replace hx213_0 := (HB.out.cell (World.block_lt_of_cell? w _ hx213_0)).trans hx213_0
             replace p213 := eq_true p213; replace q213 := eq_true q213
             refine start_ (n := 10) (S := fun w' => w'.cell? (ad212.add (x6_2).toNat) = some (.int .i64 (rd (rd_L1 l0_1 x4_1) x6_2)) ∧ w'.cell? (ad212.add ((ji15)).toNat) = some (.int .i64 (rd (rd_L1 l0_1 x4_1) (ji15)))) (ds := []) (bm 10 0) (by kernel_rfl) rfl (by kernel_rfl) ⟨((HB.out.cell (World.block_lt_of_cell? w _ hw212_0)).trans hw212_0), ((HB.out.cell (World.block_lt_of_cell? w _ hw213_0)).trans hw213_0)⟩ (fun hHeld => ?_); refine with_tabW spec_EdgesOf.tab11 spec_EdgesOf.bits11 (fun HT_ HW_ => ?_)
             generalize wr.drew = w23 at HO_3 BK206 HB hx212_0 hx213_0 hHeld ⊢
             refine pz_ 0 31 (bm 10 1) ?_; refine pz_ 1 32 (bm 10 3) ?_; refine pz_ 2 33 (bm 10 7) ?_; refine pz_ 4 35 (bm 10 23) ?_; refine pz_ 5 36 (bm 10 55) ?_; refine pz_ 6 37 (bm 10 119) ?_; refine pz_ 7 38 (bm 10 247) ?_; refine tz2_ 3 34 (bm 10 255) ?_; refine tz2_ 8 39 (bm 10 511) ?_; refine pz_ 9 40 (bm 10 1023) ?_
             refine done_ (done_of HT_.out (by kernel_rfl)) ?_
             try go_wp2
             go_roundg k2
             case measure => have := HK1.out; have := HK2.out; omega
             case rel => exact ⟨(x3_2), (ji15), (by first | rfl | (simp; done) | (simp only [← hji15] <;> (first | rfl | simp)) | (simp [*]; done)), H', ⟨by have := HK1.out; have := HK2.out; omega⟩, ⟨by (with_reducible repeat (first | apply Kd.R_alloc | apply Kd.R_drewN | apply Kd.R_drew)); first | exact HO_3.out | (have h_ := HO_3.out; simp only [own_slice] at h_ ⊢; exact h_)⟩, ⟨qk_ BK206⟩, ⟨qB_⟩⟩
           ·rw [if_neg c16] at H
            exact absurd H (by simp)
          ·rw [if_neg c14] at H
           exact absurd H (by simp)
         ·rw [if_neg c13] at H
          exact absurd H (by simp)
        ·rw [if_neg c12] at H
         have c12b0 : decide ((wrap64 (x6_2 + 1)) < ((rd_L1 l0_1 x4_1).length : Int)) = false := decide_eq_false c12
         clear c12; have H' := Aside0.mk H; clear H
         go_wp2
         go_roundg k2
         case measure => have := HK1.out; have := HK2.out; omega
         case rel => exact ⟨(x3_2), (wrap64 (x4_1 + 1)), qe_, H', ⟨by have := HK1.out; have := HK2.out; omega⟩, ⟨by (with_reducible repeat (first | apply Kd.R_alloc | apply Kd.R_drewN | apply Kd.R_drew)); first | exact HO_3.out | (have h_ := HO_3.out; simp only [own_slice] at h_ ⊢; exact h_)⟩, ⟨qk_ BK206⟩, ⟨qB_⟩⟩
     ·rw [if_neg c10] at H
      exact absurd H (by simp)
    ·rw [if_neg c9] at H
     have c9b0 : decide (x4_1 < (l0_1.length : Int)) = false := decide_eq_false c9
     clear c9
     obtain rfl := Option.some.inj H
     obtain ⟨hcz24_0, hcz24_1, hfz24_0, hfz24_1⟩ := bc2_ BK206
     go_wp2
     go_ret
     exact ⟨_, qr_, by (with_reducible repeat (first | apply Kd.R_alloc | apply Kd.R_drewN | apply Kd.R_drew)); exact HO_3.out, qB_⟩
 ·replace c3 := Bool.eq_false_iff.mpr c3
  subst c3
  rw [if_neg (show ¬ (false = true) by decide)] at H
  obtain rfl := Option.some.inj H
  go_enter Try.func41, Try.ntmps41
  go_wp2_with (first | ((with_reducible refine gate_dst (N := 1) rfl ?_); refine bx_ 1 (cs := #[.int .i64 a0_0, .slice A0_1 l0_1.length c0_1]) (t := 33) ?_; intro gb206 hg w25 hbox hb; have BK206 := Aside0.mk (hbox); have GW206 := Aside0.mk ((qs_ : w.heap.size ≤ gb206)); have GE206 := Aside0.mk ((qs_ : w.heap.size ≤ gb206)); replace HB := Aside0.mk (below_step qB_ hb); clear hb hbox hg) | ((with_reducible refine gate_dst (N := 7) rfl ?_); refine Kd.R_lit k112 _ 112 ?hg (N := 7) ?hd (xs := ([] : List (S112))) (inner := []) (ok := fun _ => True) (okp := fun _ => True) ?hr ?hp (fun _ hk => hk) trivial (Below.refl _ _) (Nat.le_refl _) (by simp) ?_; (case hd => rfl); (case hg => rfl); (case hr => first | (go_simp; done) | (go_simp; rfl)); (case hp => exact (Reps.none _ _)); intro v208 w26 ho27 hb hg_ hnew_; clear hg_ hnew_; (first | rw [← Ny207.out] at ho27 | (simp only [Int.reduceToNat] at ho27; rw [← Ny207.out] at ho27)); have HO209 := Aside0.mk (Kd.R_lower ho27 (below_size qB_)); replace BK206 := Aside0.mk (blk_below (qk_ BK206) hb); replace HB := Aside0.mk (below_step qB_ hb); clear hb ho27; obtain ⟨hcz28_0, hcz28_1, hfz28_0, hfz28_1⟩ := bc2_ BK206) | ((with_reducible refine gate_callee (f := 19) rfl ?_); refine gl_ (some 9) Try.func19 #[.agg #[.int .i64 a0_0, .slice A0_1 l0_1.length c0_1]] ?_; (with_reducible refine (spec_ForestOk.calls k a0_0 _ _ l0_1 false _ ?side1 ?side2 A2.out).mono ?_); (case side1 => exact qC_ HR0_1 HB); (case side2 => exact HC0_1.out); rintro e w29 ⟨rfl, hb⟩; refine ⟨_, rfl, ?_⟩; replace HO209 := Aside0.mk (Kd.R_below (qR_ HO209) hb); replace BK206 := Aside0.mk (blk_below (qk_ BK206) hb); replace HB := Aside0.mk (below_step qB_ hb); (try clear hb); (try clear hb2); (try clear hk); (try clear hi)))
  go_ret
  exact ⟨_, qr_, by (with_reducible repeat (first | apply Kd.R_alloc | apply Kd.R_drewN | apply Kd.R_drew)); exact HO209.out, qB_⟩

/-! ### impl_in: function 69 -/
def impl_in.f (a0 : Int) (a1 : Int) (a2 : Int) : Option (Bool) := if a0 ≥ a1 then (some (decide (a0 ≤ a2))) else (some false)
set_option maxHeartbeats 8000000 in
set_option maxRecDepth 100000 in
theorem impl_in.calls (a0 : Int) (a1 : Int) (a2 : Int) (r : Bool) (w : World) (h : impl_in.f a0 a1 a2 = some r) :
  Calls Try.prog 69 #[.int .i64 a0, .int .i64 a1, .int .i64 a2] w fun e w' => e = .returned (.bool r) ∧ Drawn0 w w' := by
 have H : (if a0 ≥ a1 then (some (decide (a0 ≤ a2))) else (some false)) = some r := h
 clear h
 by_cases c4 : a0 ≥ a1
 ·rw [if_pos c4] at H
  have c4b0 : decide (a1 ≤ a0) = true := decide_eq_true c4
  clear c4
  obtain rfl := Option.some.inj H
  go_enter Try.func69, Try.ntmps69
  go_wp2
  go_ret
  exact ⟨by first | rfl | (simp; done) | (simp [*]; done), by repeat (first | exact Drawn0.refl _ | apply Drawn0.step)⟩
 ·rw [if_neg c4] at H
  have c4b0 : decide (a1 ≤ a0) = false := decide_eq_false c4
  clear c4
  obtain rfl := Option.some.inj H
  go_enter Try.func69, Try.ntmps69
  go_wp2
  go_ret
  exact ⟨by first | rfl | (simp; done) | (simp [*]; done), by repeat (first | exact Drawn0.refl _ | apply Drawn0.step)⟩

/-! ### impl_hasInt: function 72 -/
def impl_hasInt.l0 : Nat → Int → List Int → Int → Int → Option (Bool)
  | 0, _, _, _, _ => none
  | k + 1, x1, x7, x8, x9 => if x9 < x8 then (if 0 ≤ x9 then (if x9 < (x7.length : Int) then (if (rd x7 x9) = x1 then (some true) else (impl_hasInt.l0 k x1 x7 x8 (wrap64 (x9 + 1)))) else (none)) else (none)) else (some false)
def impl_hasInt.f (k : Nat) (l0 : List Int) (a1 : Int) : Option (Bool) := impl_hasInt.l0 k a1 l0 (l0.length : Int) 0
theorem impl_hasInt.mono_l : ∀ k, (∀ y0 y1 y2 y3, LeO (impl_hasInt.l0 k y0 y1 y2 y3) (impl_hasInt.l0 (k + 1) y0 y1 y2 y3))
  | 0 => fun _ _ _ _ r h => by simp [impl_hasInt.l0] at h
  | k + 1 => by
    have ih0 := impl_hasInt.mono_l k
    · intro y0 y1 y2 y3
      unfold impl_hasInt.l0
      repeat' first
      | (with_reducible exact ih0 _ _ _ _)
      | (with_reducible exact LeO.refl _)
      | (with_reducible exact LeO.none _)
      | (with_reducible refine LeO.ite ?_ ?_)
      | (with_reducible refine LeO.bind ?_ (fun _ => ?_))
      | exact ih0 _ _ _ _
      | exact LeO.none _
      | refine LeO.ite ?_ ?_
      | refine LeO.bind ?_ (fun _ => ?_)
theorem impl_hasInt.mono : ∀ a0 a1 k, LeO (impl_hasInt.f k a0 a1) (impl_hasInt.f (k + 1) a0 a1) := by
  intro a0 a1 k
  have ih0 := impl_hasInt.mono_l k
  unfold impl_hasInt.f
  repeat' first
      | (with_reducible exact ih0 _ _ _ _)
      | (with_reducible exact LeO.refl _)
      | (with_reducible exact LeO.none _)
      | (with_reducible refine LeO.ite ?_ ?_)
      | (with_reducible refine LeO.bind ?_ (fun _ => ?_))
      | exact ih0 _ _ _ _
      | exact LeO.none _
      | refine LeO.ite ?_ ?_
      | refine LeO.bind ?_ (fun _ => ?_)
set_option maxHeartbeats 8000000 in
set_option maxRecDepth 100000 in
theorem impl_hasInt.calls (k : Nat) (A0 : Option Addr) (c0 : Nat) (l0 : List Int) (a1 : Int) (r : Bool) (w : World) (hr0 : Kd.C (Kd.int .i64) w A0 l0.length l0) (hc0 : l0.length ≤ c0) (h : impl_hasInt.f k l0 a1 = some r) :
  Calls Try.prog 72 #[.slice A0 l0.length c0, .int .i64 a1] w fun e w' => e = .returned (.bool r) ∧ Drawn0 w w' := by
 have HR0 := Aside0.mk hr0
 have HC0 := Aside0.mk hc0
 clear hr0 hc0
 have H : (impl_hasInt.l0 k a1 l0 (l0.length : Int) 0) = some r := h
 clear h; have H' := Aside0.mk H; clear H
 go_enter Try.func72, Try.ntmps72
 go_wp2
 go_loopg [9] k (fun kq v9 w' => ∃ (x9_1 : Int), v9 = .int .i64 x9_1 ∧ Aside0 (impl_hasInt.l0 kq a1 l0 (l0.length : Int) x9_1 = some r) ∧ Aside0 (kq ≤ k) ∧ Drawn0 w w')
 case atStart => exact ⟨(0), qe_, H', ⟨Nat.le_refl _⟩, by repeat (first | exact Drawn0.refl _ | apply Drawn0.step)⟩
 case round =>
  clear H'
  (try clear p2)
  obtain ⟨x9_1, rfl, HA, HK1, ⟨m1, rfl⟩⟩ := hrel
  cases gk with
  | zero => exact absurd HA.out (by simp [impl_hasInt.l0])
  | succ k1 =>
   have H := HA.out; clear HA
   simp only [impl_hasInt.l0] at H
   by_cases c3 : x9_1 < (l0.length : Int)
   ·rw [if_pos c3] at H
    have c3b0 : decide (x9_1 < (l0.length : Int)) = true := decide_eq_true c3
    clear c3
    by_cases c4 : 0 ≤ x9_1
    ·rw [if_pos c4] at H
     have c4b0 : decide (0 ≤ x9_1) = true := decide_eq_true c4
     clear c4
     by_cases c5 : x9_1 < (l0.length : Int)
     ·rw [if_pos c5] at H
      have c5b0 : decide (x9_1 < (l0.length : Int)) = true := decide_eq_true c5
      clear c5
      by_cases c6 : (rd l0 x9_1) = a1
      ·rw [if_pos c6] at H
       have c6b0 : ((rd l0 x9_1) == a1) = true := beq_iff_eq.mpr c6
       have c6b1 : ((rd l0 x9_1) != a1) = false := bne_eq_false_iff_eq.mpr c6
       clear c6
       obtain rfl := Option.some.inj H
       have p219 : 0 ≤ (x9_1 : Int) := of_decide_eq_true qa_
       have q219 : x9_1 < (l0.length : Int) := of_decide_eq_true qa_
       obtain ⟨ad219, e219, hx219_0⟩ := Kd.at_int HR0.out x9_1 p219 q219
       cases e219; replace p219 := eq_true p219; replace q219 := eq_true q219
       go_wp2
       go_ret
       exact ⟨by first | rfl | (simp; done) | (simp [*]; done), by repeat (first | exact Drawn0.refl _ | apply Drawn0.step)⟩
      ·rw [if_neg c6] at H
       have c6b0 : ((rd l0 x9_1) == a1) = false := beq_eq_false_iff_ne.mpr c6
       have c6b1 : ((rd l0 x9_1) != a1) = true := bne_iff_ne.mpr c6
       have H' := Aside0.mk H; clear H
       have p219 : 0 ≤ (x9_1 : Int) := of_decide_eq_true qa_
       have q219 : x9_1 < (l0.length : Int) := of_decide_eq_true qa_
       obtain ⟨ad219, e219, hx219_0⟩ := Kd.at_int HR0.out x9_1 p219 q219
       cases e219; replace p219 := eq_true p219; replace q219 := eq_true q219
       go_wp2
       go_roundg k1
       case measure => have := HK1.out; omega
       case rel => exact ⟨(wrap64 (x9_1 + 1)), qe_, H', ⟨by have := HK1.out; omega⟩, by repeat (first | exact Drawn0.refl _ | apply Drawn0.step)⟩
     ·rw [if_neg c5] at H
      exact absurd H (by simp)
    ·rw [if_neg c4] at H
     exact absurd H (by simp)
   ·rw [if_neg c3] at H
    have c3b0 : decide (x9_1 < (l0.length : Int)) = false := decide_eq_false c3
    clear c3
    obtain rfl := Option.some.inj H
    go_wp2
    go_ret
    exact ⟨by first | rfl | (simp; done) | (simp [*]; done), by repeat (first | exact Drawn0.refl _ | apply Drawn0.step)⟩

end Go.Proofs.Ytacnlodcbbhahaa.QFnExactEdgesOf
