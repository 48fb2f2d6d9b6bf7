-- printed for this claim by a program of the session's own (no text of the kit's print)
import Derived.Test.YtbkklafkoegdpaaQFnExactWebLabelsx0
import Derived.Test.YtbkklafkoegdpaaQFnExactWebLabelsx7
import Derived.Test.YtbkklafkoegdpaaQFnExactWebLabelsx10
import Derived.Test.YtbkklafkoegdpaaQFnExactWebLabelsx11
namespace Go.Proofs.Ytbkklafkoegdpaa.QFnExactWebLabels
open Go.RowKit Go.Proofs.YtbkklafkoegdpaaW.PrintWords Go.Proofs.YtbkklafkoegdpaaW.PrintLast Go.Proofs.YtbkklafkoegdpaaW.PrintMore
attribute [local go_sem] max2_int min2_int max_two min_two max_three min_three max_four min_four   -- for this text's walks alone
set_option linter.unusedVariables false
set_option linter.unusedSimpArgs false
theorem now_x12 {P : Program} {ops : Array Oper} {Q : Exit → Act → World → Prop} {md : Region.Mode} {S : World → Prop} {ds : List Nat} {i : Nat} {N : Option Tmp} {oi : Oper} {v : Value} {fuel : Nat} {l : Array Bool} {a : Act} {w : World} (l' : Array Bool) (hi : ops[i]? = some oi) (hN : oi.dst = N) (hc : readyB md ops l l' i = true) (hd : i ∉ ds)
    (hy : YieldsIf P ops (fun w' => w' = w) oi v a) (hS : S w) {a' : Act} (ha : a.put N v = a')
    (h : wpAnyLast P md ops Q S ds fuel l' a' w) : wpAnyLast P md ops Q S ds (fuel + 1) l a w := by
  subst ha
  refine one_ l' hi hN hc hd (fun K hK => ?_)
  subst hN
  rcases hy with ⟨hw, hv⟩ | ⟨hw, rfl⟩
  · simp only [hw, if_true, Oper.wp, hv w rfl, Oper.upon]; exact hK.out _ _ hS (fun _ => h)
  · simp only [hw, Bool.false_eq_true, if_false]; exact hK.out _ _ hS (fun _ => h)


/-! ### spec_WebLabels: function 32 -/
def spec_WebLabels.l0 : Nat → List Int → Int → Int → List (S72) → Int → List (List Int) → Option (List Int)
  | 0, _, _, _, _, _, _ => none
  | k + 1, x3, x6, x302000, x302001, x312000, x312001 => if x6 < x302000 then ((spec_TreeOf.f k x312000 x312001 x6).bind fun t312 => (if 0 ≤ t312 then (if t312 < (x312001.length : Int) then ((spec_VertsOf.f k (rd_L5 x312001 t312)).bind fun t314 => (if 0 < (t314.length : Int) then (if x3.length < 17592186044416 then (spec_WebLabels.l0 k (x3 ++ [rd t314 0]) (wrap64 (x6 + 1)) x302000 x302001 x312000 x312001) else (none)) else (none))) else (none)) else (none))) else (some x3)
def spec_WebLabels.f (k : Nat) (a0_0 : Int) (l0_1 : List (S72)) : Option (List Int) := (some (([] : List Int) : List Int)).bind fun y302 => ((spec_WebOk.f k a0_0 l0_1).bind fun t305 => (if t305 = true then ((spec_ForestAt.f k a0_0 l0_1 0).bind fun bt306 => (spec_WebLabels.l0 k y302 0 a0_0 l0_1 bt306.1 bt306.2.1)) else (some y302)))
theorem spec_WebLabels.mono_l : ∀ k, (∀ y0 y1 y2 y3 y4 y5, LeO (spec_WebLabels.l0 k y0 y1 y2 y3 y4 y5) (spec_WebLabels.l0 (k + 1) y0 y1 y2 y3 y4 y5))
  | 0 => fun _ _ _ _ _ _ r h => by simp [spec_WebLabels.l0] at h
  | k + 1 => by
    have ih0 := spec_WebLabels.mono_l k
    · intro y0 y1 y2 y3 y4 y5
      unfold spec_WebLabels.l0
      repeat' first
      | (with_reducible exact ih0 _ _ _ _ _ _)
      | (with_reducible exact spec_ForestAt.mono _ _ _ _)
      | (with_reducible exact spec_TreeOf.mono _ _ _ _)
      | (with_reducible exact spec_VertsOf.mono _ _)
      | (with_reducible exact spec_WebOk.mono _ _ _)
      | (with_reducible exact LeO.refl _)
      | (with_reducible exact LeO.none _)
      | (with_reducible refine LeO.ite ?_ ?_)
      | (with_reducible refine LeO.bind ?_ (fun _ => ?_))
      | exact ih0 _ _ _ _ _ _
      | exact spec_ForestAt.mono _ _ _ _
      | exact spec_TreeOf.mono _ _ _ _
      | exact spec_VertsOf.mono _ _
      | exact spec_WebOk.mono _ _ _
      | exact LeO.none _
      | refine LeO.ite ?_ ?_
      | refine LeO.bind ?_ (fun _ => ?_)
theorem spec_WebLabels.mono : ∀ a0 a1 k, LeO (spec_WebLabels.f k a0 a1) (spec_WebLabels.f (k + 1) a0 a1) := by
  intro a0 a1 k
  have ih0 := spec_WebLabels.mono_l k
  unfold spec_WebLabels.f
  repeat' first
      | (with_reducible exact ih0 _ _ _ _ _ _)
      | (with_reducible exact spec_ForestAt.mono _ _ _ _)
      | (with_reducible exact spec_TreeOf.mono _ _ _ _)
      | (with_reducible exact spec_VertsOf.mono _ _)
      | (with_reducible exact spec_WebOk.mono _ _ _)
      | (with_reducible exact LeO.refl _)
      | (with_reducible exact LeO.none _)
      | (with_reducible refine LeO.ite ?_ ?_)
      | (with_reducible refine LeO.bind ?_ (fun _ => ?_))
      | exact ih0 _ _ _ _ _ _
      | exact spec_ForestAt.mono _ _ _ _
      | exact spec_TreeOf.mono _ _ _ _
      | exact spec_VertsOf.mono _ _
      | exact spec_WebOk.mono _ _ _
      | exact LeO.none _
      | refine LeO.ite ?_ ?_
      | refine LeO.bind ?_ (fun _ => ?_)
def spec_WebLabels.T8 : Bool × List (List Nat × List Nat) := (true, [([], []), ([], []), ([1], [1]), ([], []), ([], []), ([3, 4], [3, 4]), ([2, 5], [2, 5]), ([6], [6]), ([7, 5], [7]), ([8], [8]), ([9], [9]), ([10], [10]), ([0, 11, 8], [0, 11]), ([12, 12, 0, 1, 2, 3, 4, 5, 6, 7, 8, 9, 10, 11, 12], [0, 12])])
def spec_WebLabels.B8 : List Nat := [0, 0, 2, 0, 0, 24, 62, 126, 254, 510, 1022, 2046, 4095, 8191]
theorem spec_WebLabels.tab8 : rtab .any (opsOf Try.f32 8) = spec_WebLabels.T8 := by kernel_rfl
theorem spec_WebLabels.bits8 : waitsOk spec_WebLabels.T8.2 spec_WebLabels.B8 = true := by kernel_rfl
set_option maxHeartbeats 8000000 in
set_option maxRecDepth 100000 in
theorem spec_WebLabels.calls (k : Nat) (a0_0 : Int) (A0_1 : Option Addr) (c0_1 : Nat) (l0_1 : List (S72)) (r : List Int) (w : World) (hr0_1 : Kd.C k72 w A0_1 l0_1.length l0_1) (hc0_1 : l0_1.length ≤ c0_1) (h : spec_WebLabels.f k a0_0 l0_1 = some r) :
  Calls Try.prog 32 #[.agg #[.int .i64 a0_0, .slice A0_1 l0_1.length c0_1]] w fun e w' => ∃ v0_ : Value, e = .returned (v0_) ∧ Kd.R (Kd.int .i64) 3 w' w.heap.size (fun _ => True) v0_ r ∧ Below w.heap.size w w' := by
 have hu29 := Try.underlying29; have hu39 := Try.underlying39
 have HR0_1 := Aside0.mk hr0_1
 have HC0_1 := Aside0.mk hc0_1
 clear hr0_1 hc0_1
 have HB := Aside0.mk (Below.refl w.heap.size w)
 have H : ((some (([] : List Int) : List Int)).bind fun y302 => ((spec_WebOk.f k a0_0 l0_1).bind fun t305 => (if t305 = true then ((spec_ForestAt.f k a0_0 l0_1 0).bind fun bt306 => (spec_WebLabels.l0 k y302 0 a0_0 l0_1 bt306.1 bt306.2.1)) else (some y302)))) = some r := h
 clear h
 obtain ⟨y302, hy302⟩ : ∃ y_ : List Int, y_ = (([] : List Int)) := ⟨_, rfl⟩
 replace H : ((spec_WebOk.f k a0_0 l0_1).bind fun t305 => (if t305 = true then ((spec_ForestAt.f k a0_0 l0_1 0).bind fun bt306 => (spec_WebLabels.l0 k y302 0 a0_0 l0_1 bt306.1 bt306.2.1)) else (some y302))) = some r := by first | (rw [hy302]; with_reducible exact H) | (have H2_ := (Option.bind_some _ _).symm.trans H; rw [hy302]; with_reducible exact H2_) | (have H2_ := (Option.bind_some _ _).symm.trans H; with_reducible exact H2_) | with_reducible exact H | (rw [hy302]; exact H) | exact H
 have Ny302 := Aside0.mk hy302
 clear hy302
 obtain ⟨t305, A20, H⟩ := Option.bind_eq_some_iff.mp H; have A2 := Aside0.mk A20; clear A20
 by_cases c3 : t305 = true
 ·subst c3
  rw [if_pos rfl] at H
  replace H := Option.bind_eq_some_iff.mp H
  obtain ⟨⟨t306, t307, t310⟩, A40, H⟩ := H
  replace H : (spec_WebLabels.l0 k y302 0 a0_0 l0_1 t306 t307) = some r := H
  have A4 := Aside0.mk A40
  clear A40; have H' := Aside0.mk H; clear H
  go_enter Try.func32, Try.ntmps32
  go_wp2_with (first | ((with_reducible refine gate_dst (N := 1) rfl ?_); refine bx_ 1 (cs := #[.int .i64 a0_0, .slice A0_1 l0_1.length c0_1]) (t := 29) ?_; intro gb301 hg w5 hbox hb; have BK301 := Aside0.mk (hbox); have GW301 := Aside0.mk ((qs_ : w.heap.size ≤ gb301)); have GE301 := Aside0.mk ((qs_ : w.heap.size ≤ gb301)); replace HB := Aside0.mk (below_step qB_ hb); clear hb hbox hg) | ((with_reducible refine gate_dst (N := 7) rfl ?_); refine Kd.R_lit (Kd.int .i64) _ 3 ?hg (N := 7) ?hd (xs := ([] : List Int)) (inner := []) (ok := fun _ => True) (okp := fun _ => True) ?hr ?hp (fun _ hk => hk) trivial (Below.refl _ _) (Nat.le_refl _) (by simp) ?_; (case hd => rfl); (case hg => rfl); (case hr => first | (go_simp; done) | (go_simp; rfl)); (case hp => exact (Reps.none _ _)); intro v303 w6 ho7 hb hg_ hnew_; clear hg_ hnew_; (first | rw [← Ny302.out] at ho7 | (simp only [Int.reduceToNat] at ho7; rw [← Ny302.out] at ho7)); have HO304 := Aside0.mk (Kd.R_lower ho7 (below_size qB_)); replace BK301 := Aside0.mk (blk_below (qk_ BK301) hb); replace HB := Aside0.mk (below_step qB_ hb); clear hb ho7; obtain ⟨hcz8_0, hcz8_1, hfz8_0, hfz8_1⟩ := bc2_ BK301) | ((with_reducible refine gate_callee (f := 14) rfl ?_); refine gl_ (some 9) Try.func14 #[.agg #[.int .i64 a0_0, .slice A0_1 l0_1.length c0_1]] ?_; (with_reducible refine (spec_WebOk.calls k a0_0 _ _ l0_1 true _ ?side1 ?side2 A2.out).mono ?_); (case side1 => exact qC_ HR0_1 HB); (case side2 => exact HC0_1.out); rintro e w9 ⟨rfl, hb⟩; refine ⟨_, rfl, ?_⟩; replace HO304 := Aside0.mk (Kd.R_below (qR_ HO304) hb); replace BK301 := Aside0.mk (blk_below (qk_ BK301) hb); replace HB := Aside0.mk (below_step qB_ hb); (try clear hb); (try clear hb2); (try clear hk); (try clear hi); obtain ⟨hcz10_0, hcz10_1, hfz10_0, hfz10_1⟩ := bc2_ BK301) | ((with_reducible refine gate_callee (f := 58) rfl ?_); refine gl_ (some 14) Try.func58 #[.agg #[.int .i64 a0_0, .slice A0_1 l0_1.length c0_1], .int .i64 0] ?_; (with_reducible refine (spec_ForestAt.calls k a0_0 _ _ l0_1 0 t306 t307 t310 _ ?side1 ?side2 A4.out).mono ?_); (case side1 => exact qC_ HR0_1 HB); (case side2 => exact HC0_1.out); rintro e w11 ⟨v308, rfl, ho0, hb⟩; refine ⟨_, rfl, ?_⟩; have HO309 := Aside0.mk (Kd.S_lower (Kd.S_new' ho0 (Kd.R_lt (qR_ HO304))) (below_size qB_)); replace HO304 := Aside0.mk (Kd.R_below (qR_ HO304) hb); replace BK301 := Aside0.mk (blk_below (qk_ BK301) hb); replace HB := Aside0.mk (below_step qB_ hb); (try clear hb); (try clear hb2); (try clear hk); (try clear hi); (try clear ho0)) | ((with_reducible refine gate_dst (N := 4) rfl ?_); refine bx_ 4 (cs := #[.int .i64 0, .slice none 0 0]) (t := 39) ?_; intro gb311 hg w12 hbox hb; have BK311 := Aside0.mk (hbox); have GW311 := Aside0.mk ((qs_ : w.heap.size ≤ gb311)); have GE311 := Aside0.mk ((qs_ : w.heap.size ≤ gb311)); have NB301_311 := Aside0.mk ((by rw [hg]; exact Nat.ne_of_lt (blk_lt (qk_ BK301)) : gb301 ≠ gb311)); have NB311_301 := Aside0.mk ((by rw [hg]; exact Nat.ne_of_gt (blk_lt (qk_ BK301)) : gb311 ≠ gb301)); replace HO304 := Aside0.mk (Kd.R_below (qR_ HO304) hb); replace HO309 := Aside0.mk (Kd.S_below (qS_ HO309) hb); replace BK301 := Aside0.mk (blk_below (qk_ BK301) hb); replace HB := Aside0.mk (below_step qB_ hb); clear hb hbox hg; have hnb13 := NB311_301.out; have hnc13 := NB301_311.out; obtain ⟨hcz14_0, hcz14_1, hfz14_0, hfz14_1⟩ := bc2_ BK311; obtain ⟨Ao15, co15, eo15⟩ := Kd.S_slice HO309.out; subst eo15))
  go_loopg [3, 6] k (fun kq v3 v6 w' => ∃ (x3_1 : List Int) (x6_1 : Int), v6 = .int .i64 x6_1 ∧ Aside0 (spec_WebLabels.l0 kq x3_1 x6_1 a0_0 l0_1 t306 t307 = some r) ∧ Aside0 (kq ≤ k) ∧ Aside0 (Kd.R (Kd.int .i64) 3 w' w.heap.size (fun _ => True) v3 x3_1) ∧ Aside0 (Kd.S (Kd.slice 3 (Kd.int .i64)) 51 w' w.heap.size (fun k_ => some k_ ≠ (v3 : Value).ownBlock) (.slice Ao15 t307.length co15) t307) ∧ Aside0 (w'.heap[gb301]? = some (.cells #[.int .i64 a0_0, (.slice A0_1 l0_1.length c0_1)] 29 (0, 0))) ∧ Aside0 (w'.heap[gb311]? = some (.cells #[.int .i64 t306, (.slice Ao15 t307.length co15)] 39 (0, 0))) ∧ Aside0 (Below w.heap.size w w'))
  case atStart => exact ⟨(y302), (0), qe_, H', ⟨Nat.le_refl _⟩, ⟨by (with_reducible repeat (first | apply Kd.R_alloc | apply Kd.R_drewN | apply Kd.R_drew)); exact Kd.R_mono (Kd.R_far (p := ⟨gb311, 1, none⟩) (Kd.R_far (p := ⟨gb311, 0, none⟩) (Kd.R_types HO304.out BK311.out (by decide)) (fun _ hk => hk.2) (.int .i64 t306)) (fun _ hk => hk.2) (.slice Ao15 t307.length co15)) (fun _ hk => trivial)⟩, ⟨by (with_reducible repeat (first | apply Kd.S_alloc | apply Kd.S_drewN | apply Kd.S_drew)); exact Kd.S_mono (Kd.S_far (p := ⟨gb311, 1, none⟩) (Kd.S_far (p := ⟨gb311, 0, none⟩) (Kd.S_types HO309.out BK311.out (by decide)) (fun _ hk => hk.2) (.int .i64 t306)) (fun _ hk => hk.2) (.slice Ao15 t307.length co15)) (fun _ hk => hk.1.2)⟩, ⟨by (with_reducible repeat (first | refine blk_drewN ?_ _ | refine blk_drew ?_ | refine blk_alloc ?_ _)); refine blk_far ?_ NB301_311.out _; (with_reducible repeat (first | refine blk_drewN ?_ _ | refine blk_drew ?_ | refine blk_alloc ?_ _)); refine blk_far ?_ NB301_311.out _; (with_reducible repeat (first | refine blk_drewN ?_ _ | refine blk_drew ?_ | refine blk_alloc ?_ _)); exact BK301.out⟩, ⟨by (with_reducible repeat (first | refine blk_drewN ?_ _ | refine blk_drew ?_ | refine blk_alloc ?_ _)); refine blk_put (cs := #[.int .i64 t306, .slice none 0 0]) ?_ 1 _ rfl; (with_reducible repeat (first | refine blk_drewN ?_ _ | refine blk_drew ?_ | refine blk_alloc ?_ _)); refine blk_put (cs := #[.int .i64 0, .slice none 0 0]) ?_ 0 _ rfl; (with_reducible repeat (first | refine blk_drewN ?_ _ | refine blk_drew ?_ | refine blk_alloc ?_ _)); exact BK311.out⟩, ⟨qB_⟩⟩
  case round =>
   clear H'
   (try clear c1); (try clear p2); (try clear c3); (try clear c5); (try clear c13); (try clear c14); (try clear hcz10_0); (try clear hcz10_1); (try clear hcz14_0); (try clear hcz14_1); (try clear hcz8_0); (try clear hcz8_1); (try clear hfz10_0); (try clear hfz10_1); (try clear hfz14_0); (try clear hfz14_1); (try clear hfz8_0); (try clear hfz8_1)
   obtain ⟨x3_1, x6_1, rfl, HA, HK1, HO_3, HO_312001, BK301, BK311, HB⟩ := hrel
   cases gk with
   | zero => exact absurd HA.out (by simp [spec_WebLabels.l0])
   | succ k1 =>
    have H := HA.out; clear HA
    simp only [spec_WebLabels.l0] at H
    by_cases c16 : x6_1 < a0_0
    ·rw [if_pos c16] at H
     have c16b0 : decide (x6_1 < a0_0) = true := decide_eq_true c16
     clear c16
     obtain ⟨t312, A170, H⟩ := Option.bind_eq_some_iff.mp H; have A17 := Aside0.mk A170; clear A170
     by_cases c18 : 0 ≤ t312
     ·rw [if_pos c18] at H
      have c18b0 : decide (0 ≤ t312) = true := decide_eq_true c18
      clear c18
      by_cases c19 : t312 < (t307.length : Int)
      ·rw [if_pos c19] at H
       have c19b0 : decide (t312 < (t307.length : Int)) = true := decide_eq_true c19
       clear c19
       obtain ⟨t314, A200, H⟩ := Option.bind_eq_some_iff.mp H; have A20 := Aside0.mk A200; clear A200
       by_cases c21 : 0 < (t314.length : Int)
       ·rw [if_pos c21] at H
        have c21b0 : decide (0 < (t314.length : Int)) = true := decide_eq_true c21
        have c21b1 : decide (0 < t314.length) = true := decide_eq_true (by omega)
        clear c21
        by_cases c22 : x3_1.length < 17592186044416
        ·rw [if_pos c22] at H
         have LMc22 := Aside0.mk c22
         clear c22
         obtain ⟨y318, hy318⟩ : ∃ y_ : List Int, y_ = (x3_1 ++ [rd t314 0]) := ⟨_, rfl⟩
         replace H : (spec_WebLabels.l0 k1 y318 (wrap64 (x6_1 + 1)) a0_0 l0_1 t306 t307) = some r := by first | (rw [hy318]; with_reducible exact H) | (have H2_ := (Option.bind_some _ _).symm.trans H; rw [hy318]; with_reducible exact H2_) | (have H2_ := (Option.bind_some _ _).symm.trans H; with_reducible exact H2_) | with_reducible exact H | (rw [hy318]; exact H) | exact H
         have Ny318 := Aside0.mk hy318
         clear hy318; have H' := Aside0.mk H; clear H; have hnb23 := NB301_311.out; have hnc23 := NB311_301.out
         obtain ⟨hcz24_0, hcz24_1, hfz24_0, hfz24_1⟩ := bc2_ BK301
         try go_wp2
         have n0_ := Aside0.mk (Kd.R_drew HO_3.out)
         have n1_ := Aside0.mk (Kd.S_drew HO_312001.out)
         have n2_ := Aside0.mk (blk_drew BK301.out)
         have n3_ := Aside0.mk (blk_drew BK311.out)
         have n4_ := Aside0.mk (below_drew1 HB.out)
         clear HO_3; clear HO_312001; clear BK301; clear BK311; clear HB; have HO_3 := n0_; have HO_312001 := n1_; have BK301 := n2_; have BK311 := n3_; have HB := n4_; clear n0_ n1_ n2_ n3_ n4_
         have p313 : 0 ≤ (t312 : Int) := of_decide_eq_true qa_
         have q313 : t312 < (t307.length : Int) := of_decide_eq_true qa_
         obtain ⟨ad313, A313_0, c313_0, e313, hx313_0, hl313_0, hi313_0⟩ := at_L5 (Kd.S_reads' HO_312001.out).2.2 t312 p313 q313
         cases e313
         obtain ⟨ce313, hce313, hMe313, hcc313⟩ := Kd.S_get HO_312001.out [] t312 p313 (by first | exact q313 | exact of_decide_eq_true qa_ | (have e_ := (Kd.S_reads' HO_312001.out).1; omega))
         obtain ⟨ve313_0, rfl, ge313_0⟩ := hMe313
         have hv313_0 := hcc313 0 _ rfl
         rw [Nat.add_zero, show ((Kd.slice 3 (Kd.int .i64))).sz = 1 from rfl, Nat.mul_one] at hv313_0
         replace hv313_0 := Option.some.inj (hv313_0.symm.trans hx313_0)
         rw [hv313_0] at ge313_0
         have HL313_0 := Aside0.mk (show Kd.R (Kd.int .i64) 3 _ _ _ _ (rd_L5 t307 t312) from ge313_0)
         clear hv313_0 ge313_0; clear hcc313 hce313
         have HR313_0 := Aside0.mk hi313_0
         have HC313_0 := Aside0.mk hl313_0
         clear hi313_0 hl313_0; replace p313 := eq_true p313; replace q313 := eq_true q313
         refine start_ (n := 14) (S := fun w' => w'.cell? ⟨gb311, 0, none⟩ = some (.int .i64 t306) ∧ w'.cell? ⟨gb311, 1, none⟩ = some (.slice (some ad313) t307.length co15) ∧ w'.cell? (ad313.add (t312).toNat) = some (.slice A313_0 (rd_L5 t307 t312).length c313_0)) (ds := [11, 12]) (bm 14 0) (by kernel_rfl) rfl (by kernel_rfl) ⟨(blk_cell BK311.out 0).trans rfl, (blk_cell BK311.out 1).trans rfl, hx313_0⟩ (fun hHeld => ?_); refine with_tabW spec_WebLabels.tab8 spec_WebLabels.bits8 (fun HT_ HW_ => ?_)
         generalize wr.drew = w25 at HO_3 HO_312001 BK301 BK311 HB HL313_0 HR313_0 hx313_0 hHeld ⊢
         refine pz_ 0 23 (bm 14 1) ?_; refine pz_ 1 24 (bm 14 3) ?_; refine pz_ 4 27 (bm 14 19) ?_; refine tz3_ 2 25 (bm 14 23) ?_; refine tz3_ 3 26 (bm 14 31) ?_
         refine one_ (i := 5) (N := some 28) (bm 14 63) rfl rfl (one_of HT_.out (by kernel_rfl)) (by decide) (fun K hK => ?_)
         refine goes_ Try.func60 (by kernel_rfl) rfl #[.agg #[.int .i64 t306, .slice (some ad313) t307.length co15], .int .i64 x6_1] (by rfl) rfl rfl (by (try simp only [List.map_toArray, List.map_cons, List.map_nil]); first | done | rfl | (simp only [List.length_drop, List.length_take]; rfl)) ?_
         with_reducible refine (spec_TreeOf.calls k1 t306 _ _ t307 x6_1 t312 _ ?side1 ?side2 A17.out).mono ?_
         (case side1 => exact qD_ (Kd.S_reads' HO_312001.out).2.2)
         (case side2 => exact (Kd.S_reads' HO_312001.out).2.1)
         rintro e w26 ⟨rfl, hb⟩
         replace HL313_0 := Aside0.mk (Kd.R_below HL313_0.out hb)
         replace HR313_0 := Aside0.mk (Kd.C_below HR313_0.out hb)
         have HS2_ := (hb.cell (World.block_lt_of_cell? _ _ (hHeld.2.2))).trans (hHeld.2.2)

         refine ⟨_, rfl, ?_⟩
         have n0_ := Aside0.mk (Kd.R_below (qR_ HO_3) hb)
         have n1_ := Aside0.mk (Kd.S_below (qS_ HO_312001) hb)
         have n2_ := Aside0.mk (blk_below (qk_ BK301) hb)
         have n3_ := Aside0.mk (blk_below (qk_ BK311) hb)
         have n4_ := Aside0.mk (below_step qB_ hb)
         clear HO_3; clear HO_312001; clear BK301; clear BK311; clear HB; have HO_3 := n0_; have HO_312001 := n1_; have BK301 := n2_; have BK311 := n3_; have HB := n4_; clear n0_ n1_ n2_ n3_ n4_; (try clear hb); (try clear hb2); (try clear hk); (try clear hi)
         refine hK.out _ _ ⟨(blk_cell BK311.out 0).trans rfl, (blk_cell BK311.out 1).trans rfl, HS2_⟩ (fun hHeld => ?_)
         clear hK K
         refine norm_ (a' := ?_) ?_ ?_
         rotate_left
         ·show Act.put _ (some 28) _ = _
          simp only [Act.put, List.setIfInBounds_toArray, List.set_cons_zero, List.set_cons_succ, i64_w, i32_w]
          rfl
         refine pz_ 6 29 (bm 14 127) ?_; refine tz3_ 7 30 (bm 14 255) ?_
         refine one_ (i := 8) (N := some 31) (bm 14 511) rfl rfl (one_of HT_.out (by kernel_rfl)) (by decide) (fun K hK => ?_)
         refine goes_ Try.func59 (by kernel_rfl) rfl #[.slice A313_0 (rd_L5 t307 t312).length c313_0] (by rfl) rfl rfl (by (try simp only [List.map_toArray, List.map_cons, List.map_nil]); first | done | rfl | (simp only [List.length_drop, List.length_take]; rfl)) ?_
         with_reducible refine (spec_VertsOf.calls k1 _ _ (rd_L5 t307 t312) t314 _ ?side1 ?side2 A20.out).mono ?_
         (case side1 => repeat (first | exact (by repeat (first | (with_reducible exact HR313_0.out) | (with_reducible refine Kd.C_alloc ?_ _) | (with_reducible refine Kd.C_drewN ?_ _) | (with_reducible refine Kd.C_drew ?_) | exact HR313_0.out)) | (with_reducible refine Kd.C_alloc ?_ _) | (with_reducible refine Kd.C_drewN ?_ _) | (with_reducible refine Kd.C_drew ?_)))
         (case side2 => exact HC313_0.out)
         rintro e w27 ⟨v315, rfl, ho0, hb⟩
         have HS2_ := (hb.cell (World.block_lt_of_cell? _ _ (hHeld.2.2))).trans (hHeld.2.2)

         refine ⟨_, rfl, ?_⟩
         have n0_ := Aside0.mk (Kd.R_elder' (qR_ HO_3) (Kd.R_base ho0) hb)
         have n1_ := Aside0.mk (Kd.S_elder' (qS_ HO_312001) (Kd.R_base ho0) hb)
         have n2_ := Aside0.mk (Kd.R_elder' (qR_ HL313_0) (Kd.R_base ho0) hb)
         have n3_ := Aside0.mk (Kd.R_lower (Kd.R_new' (Kd.R_new' ho0 (Kd.R_lt (qR_ HO_3))) (Kd.R_lt (qR_ HL313_0))) (below_size qB_))
         have n4_ := Aside0.mk (blk_below (qk_ BK301) hb)
         have n5_ := Aside0.mk (blk_below (qk_ BK311) hb)
         have n6_ := Aside0.mk (Kd.C_below (by repeat (first | (with_reducible exact HR313_0.out) | (with_reducible refine Kd.C_alloc ?_ _) | (with_reducible refine Kd.C_drewN ?_ _) | (with_reducible refine Kd.C_drew ?_) | exact HR313_0.out)) hb)
         have n7_ := Aside0.mk (below_step qB_ hb)
         clear HO_3; clear HO_312001; clear HL313_0; clear BK301; clear BK311; clear HR313_0; clear HB; have HO_3 := n0_; have HO_312001 := n1_; have HL313_0 := n2_; have HO316 := n3_; have BK301 := n4_; have BK311 := n5_; have HR313_0 := n6_; have HB := n7_; clear n0_ n1_ n2_ n3_ n4_ n5_ n6_ n7_; (try clear hb); (try clear hb2); (try clear hk); (try clear hi); (try clear ho0)
         obtain ⟨Ao28, co28, eo28⟩ := Kd.R_slice HO316.out
         (first | subst eo28 | (injection eo28 with f1_ f2_ f3_; have f4_ := f1_.symm; have f5_ := f3_.symm; clear f1_ f2_ f3_; subst f4_; subst f5_))
         have p317 : 0 ≤ (0 : Int) := (by omega)
         have q317 : 0 < (t314.length : Int) := of_decide_eq_true qa_
         obtain ⟨ad317, e317, hx317_0⟩ := Kd.at_int (Kd.R_reads' HO316.out).2.2 0 p317 q317
         cases e317
         have qi317 : (0 < t314.length) = True := eq_true (by omega)
         (try rw [show ((0 : Int)).toNat = 0 from rfl] at hx317_0)
         (try rw [Addr.add_zero'] at hx317_0)
         replace p317 := eq_true p317; replace q317 := eq_true q317
         refine hK.out _ _ ⟨(blk_cell BK311.out 0).trans rfl, (blk_cell BK311.out 1).trans rfl, HS2_⟩ (fun hHeld => ?_)
         clear hK K
         refine norm_ (a' := ?_) ?_ ?_
         rotate_left
         ·show Act.put _ (some 31) _ = _
          simp only [Act.put, List.setIfInBounds_toArray, List.set_cons_zero, List.set_cons_succ, i64_w, i32_w]
          rfl
         refine pz_ 9 32 (bm 14 1023) ?_
         refine now_x12 (i := 10) (N := some 33) (v := ?_) (a' := ?_) (bm 14 2047) rfl rfl (one_of HT_.out (by kernel_rfl)) (by decide) (Or.inl ⟨by rfl, ?_⟩) hHeld ?_ ?_
         rotate_left
         ·rintro w' rfl
          go_simp
          with_reducible rfl
         rotate_left
         ·simp only [Act.put, List.setIfInBounds_toArray, List.set_cons_zero, List.set_cons_succ, i64_w, i32_w]
          rfl
         refine last_ (i := 11) (N := some 34) (bm 14 4095) rfl rfl (one_of HT_.out (by kernel_rfl)) (by decide) (fun K hK => ?_)
         refine value_ (w1 := ?_) (v := ?_) (by rfl) rfl ?_ ?_
         rotate_left 2
         ·go_simp
          constructor
          ·rfl
          ·rfl
         refine hK.out _ _ ?_
         clear hK K
         refine norm_ (a' := ?_) ?_ ?_
         rotate_left
         ·show Act.put _ (some 34) _ = _
          simp only [Act.put, List.setIfInBounds_toArray, List.set_cons_zero, List.set_cons_succ, i64_w, i32_w]
          rfl
         refine last_ (i := 12) (N := some 35) (bm 14 8191) rfl rfl (one_of HT_.out (by kernel_rfl)) (by decide) (fun K hK => ?_)
         refine Kd.R_append_step (Kd.int .i64) (w0 := w) w.heap.size (by rfl) (.tmp 23) (.tmp 34) 51 3 (.int .i64 0) 8 rfl Try.underlying51 info3 rfl (by decide) (by omega) u3 x3_1 (rd t314 0) [.int .i64 (rd t314 0)] (fun k_ => some k_ ≠ (.slice (some ad317) t314.length co28 : Value).ownBlock) (fun _ => False) rfl rfl ?aP (fun _ hk => hk.elim) ?aF ?aO ?aB ?aS ?aL ?_
         (case aP => exact rfl)
         (case aB => exact qB_)
         (case aF => exact (fun k_ hk => Kd.fresh' (Kd.R_lt (qR_ HO316)) k_ hk))
         (case aO => exact (by (with_reducible repeat (first | apply Kd.R_alloc | apply Kd.R_drewN | apply Kd.R_drew)); exact Kd.R_mono HO_3.out (fun _ hk => hk.2)))
         (case aS => exact (below_size qB_))
         (case aL => have := LMc22.out; omega)
         intro v319 w29 ho hb hg hat
         rw [← Ny318.out] at ho
         have n0_ := Aside0.mk (Kd.S_after (ok := (fun k_ => some k_ ≠ (.slice (some ad317) t314.length co28 : Value).ownBlock)) (by (with_reducible repeat (first | apply Kd.S_alloc | apply Kd.S_drewN | apply Kd.S_drew)); exact Kd.S_mono HO_312001.out (fun _ hk => ⟨hk.2, hk.1⟩)) hg hat)
         have n1_ := Aside0.mk (blk_grown (qk_ BK301) hg (Kd.R_ne HO_3.out BK301.out (by decide)))
         have n2_ := Aside0.mk (blk_grown (qk_ BK311) hg (Kd.R_ne HO_3.out BK311.out (by decide)))
         have n3_ := Aside0.mk (Kd.R_after (ok := (fun k_ => some k_ ≠ (.slice (some ad313) t307.length co15 : Value).ownBlock ∧ some k_ ≠ (.slice (some ad317) t314.length co28 : Value).ownBlock)) (by (with_reducible repeat (first | apply Kd.R_alloc | apply Kd.R_drewN | apply Kd.R_drew)); exact Kd.R_mono HL313_0.out (fun _ hk => ⟨⟨hk.1.2, hk.2⟩, hk.1.1⟩)) hg hat)
         have n4_ := Aside0.mk (Kd.R_after (ok := (fun k_ => some k_ ≠ (.slice A313_0 (rd_L5 t307 t312).length c313_0 : Value).ownBlock)) (by (with_reducible repeat (first | apply Kd.R_alloc | apply Kd.R_drewN | apply Kd.R_drew)); exact Kd.R_mono HO316.out (fun _ hk => ⟨hk.2, hk.1.2⟩)) hg hat)
         have n5_ := Aside0.mk (hb)
         have n6_ := Aside0.mk (ho)
         clear HO_312001; clear BK301; clear BK311; clear HL313_0; clear HO316; clear HB; clear HO_3; have HO_312001 := n0_; have BK301 := n1_; have BK311 := n2_; have HL313_0 := n3_; have HO316 := n4_; have HB := n5_; have HO320 := n6_; clear n0_ n1_ n2_ n3_ n4_ n5_ n6_; clear ho hb hg hat
         refine hK.out _ _ ?_
         clear hK K
         refine norm_ (a' := ?_) ?_ ?_
         rotate_left
         ·show Act.put _ (some 35) _ = _
          simp only [Act.put, List.setIfInBounds_toArray, List.set_cons_zero, List.set_cons_succ, i64_w, i32_w]
          rfl
         refine pz_ 13 3 (bm 14 16383) ?_
         refine done_ (done_of HT_.out (by kernel_rfl)) ?_
         try go_wp2
         go_roundg k1
         case measure => have := HK1.out; omega
         case rel => exact ⟨(y318), (wrap64 (x6_1 + 1)), qe_, H', ⟨by have := HK1.out; omega⟩, ⟨by (with_reducible repeat (first | apply Kd.R_alloc | apply Kd.R_drewN | apply Kd.R_drew)); exact Kd.R_mono HO320.out (fun _ hk => trivial)⟩, ⟨by (with_reducible repeat (first | apply Kd.S_alloc | apply Kd.S_drewN | apply Kd.S_drew)); exact Kd.S_mono HO_312001.out (fun _ hk => hk.2)⟩, ⟨qk_ BK301⟩, ⟨qk_ BK311⟩, ⟨qB_⟩⟩
        ·rw [if_neg c22] at H
         exact absurd H (by simp)
       ·rw [if_neg c21] at H
        exact absurd H (by simp)
      ·rw [if_neg c19] at H
       exact absurd H (by simp)
     ·rw [if_neg c18] at H
      exact absurd H (by simp)
    ·rw [if_neg c16] at H
     have c16b0 : decide (x6_1 < a0_0) = false := decide_eq_false c16
     clear c16
     obtain rfl := Option.some.inj H
     have hnb30 := NB301_311.out; have hnc30 := NB311_301.out
     obtain ⟨hcz31_0, hcz31_1, hfz31_0, hfz31_1⟩ := bc2_ BK301
     go_wp2
     go_ret
     exact ⟨_, qr_, by (with_reducible repeat (first | apply Kd.R_alloc | apply Kd.R_drewN | apply Kd.R_drew)); exact HO_3.out, qB_⟩
 ·replace c3 := Bool.eq_false_iff.mpr c3
  subst c3
  rw [if_neg (show ¬ (false = true) by decide)] at H
  obtain rfl := Option.some.inj H
  go_enter Try.func32, Try.ntmps32
  go_wp2_with (first | ((with_reducible refine gate_dst (N := 1) rfl ?_); refine bx_ 1 (cs := #[.int .i64 a0_0, .slice A0_1 l0_1.length c0_1]) (t := 29) ?_; intro gb301 hg w32 hbox hb; have BK301 := Aside0.mk (hbox); have GW301 := Aside0.mk ((qs_ : w.heap.size ≤ gb301)); have GE301 := Aside0.mk ((qs_ : w.heap.size ≤ gb301)); replace HB := Aside0.mk (below_step qB_ hb); clear hb hbox hg) | ((with_reducible refine gate_dst (N := 7) rfl ?_); refine Kd.R_lit (Kd.int .i64) _ 3 ?hg (N := 7) ?hd (xs := ([] : List Int)) (inner := []) (ok := fun _ => True) (okp := fun _ => True) ?hr ?hp (fun _ hk => hk) trivial (Below.refl _ _) (Nat.le_refl _) (by simp) ?_; (case hd => rfl); (case hg => rfl); (case hr => first | (go_simp; done) | (go_simp; rfl)); (case hp => exact (Reps.none _ _)); intro v303 w33 ho34 hb hg_ hnew_; clear hg_ hnew_; (first | rw [← Ny302.out] at ho34 | (simp only [Int.reduceToNat] at ho34; rw [← Ny302.out] at ho34)); have HO304 := Aside0.mk (Kd.R_lower ho34 (below_size qB_)); replace BK301 := Aside0.mk (blk_below (qk_ BK301) hb); replace HB := Aside0.mk (below_step qB_ hb); clear hb ho34; obtain ⟨hcz35_0, hcz35_1, hfz35_0, hfz35_1⟩ := bc2_ BK301) | ((with_reducible refine gate_callee (f := 14) rfl ?_); refine gl_ (some 9) Try.func14 #[.agg #[.int .i64 a0_0, .slice A0_1 l0_1.length c0_1]] ?_; (with_reducible refine (spec_WebOk.calls k a0_0 _ _ l0_1 false _ ?side1 ?side2 A2.out).mono ?_); (case side1 => exact qC_ HR0_1 HB); (case side2 => exact HC0_1.out); rintro e w36 ⟨rfl, hb⟩; refine ⟨_, rfl, ?_⟩; replace HO304 := Aside0.mk (Kd.R_below (qR_ HO304) hb); replace BK301 := Aside0.mk (blk_below (qk_ BK301) hb); replace HB := Aside0.mk (below_step qB_ hb); (try clear hb); (try clear hb2); (try clear hk); (try clear hi)))
  go_ret
  exact ⟨_, qr_, by (with_reducible repeat (first | apply Kd.R_alloc | apply Kd.R_drewN | apply Kd.R_drew)); exact HO304.out, qB_⟩

/-! ### impl_in: function 66 -/
def impl_in.f (a0 : Int) (a1 : Int) (a2 : Int) : Option (Bool) := if a0 ≥ a1 then (some (decide (a0 ≤ a2))) else (some false)
set_option maxHeartbeats 8000000 in
set_option maxRecDepth 100000 in
theorem impl_in.calls (a0 : Int) (a1 : Int) (a2 : Int) (r : Bool) (w : World) (h : impl_in.f a0 a1 a2 = some r) :
  Calls Try.prog 66 #[.int .i64 a0, .int .i64 a1, .int .i64 a2] w fun e w' => e = .returned (.bool r) ∧ Drawn0 w w' := by
 have H : (if a0 ≥ a1 then (some (decide (a0 ≤ a2))) else (some false)) = some r := h
 clear h
 by_cases c4 : a0 ≥ a1
 ·rw [if_pos c4] at H
  have c4b0 : decide (a1 ≤ a0) = true := decide_eq_true c4
  clear c4
  obtain rfl := Option.some.inj H
  go_enter Try.func66, Try.ntmps66
  go_wp2
  go_ret
  exact ⟨by first | rfl | (simp; done) | (simp [*]; done), by repeat (first | exact Drawn0.refl _ | apply Drawn0.step)⟩
 ·rw [if_neg c4] at H
  have c4b0 : decide (a1 ≤ a0) = false := decide_eq_false c4
  clear c4
  obtain rfl := Option.some.inj H
  go_enter Try.func66, Try.ntmps66
  go_wp2
  go_ret
  exact ⟨by first | rfl | (simp; done) | (simp [*]; done), by repeat (first | exact Drawn0.refl _ | apply Drawn0.step)⟩

/-! ### impl_EdgeOk: function 76 -/
def impl_EdgeOk.f (a0 : Int) (a1_0 : Int) (a1_1 : Int) : Option (Bool) := (impl_in.f a0 1 12).bind fun t322 => (if t322 = true then ((impl_in.f a1_0 0 (wrap64 (a0 - 1))).bind fun t323 => (if t323 = true then ((impl_in.f a1_1 0 (wrap64 (a0 - 1))).bind fun t324 => (if t324 = true then (some (decide (a1_0 < a1_1))) else (some false))) else (some false))) else (some false))
set_option maxHeartbeats 8000000 in
set_option maxRecDepth 100000 in
theorem impl_EdgeOk.calls (a0 : Int) (a1_0 : Int) (a1_1 : Int) (r : Bool) (w : World) (h : impl_EdgeOk.f a0 a1_0 a1_1 = some r) :
  Calls Try.prog 76 #[.int .i64 a0, .agg #[.int .i64 a1_0, .int .i64 a1_1]] w fun e w' => e = .returned (.bool r) ∧ Below w.heap.size w w' := by
 have hu43 := Try.underlying43
 have HB := Aside0.mk (Below.refl w.heap.size w)
 have H : ((impl_in.f a0 1 12).bind fun t322 => (if t322 = true then ((impl_in.f a1_0 0 (wrap64 (a0 - 1))).bind fun t323 => (if t323 = true then ((impl_in.f a1_1 0 (wrap64 (a0 - 1))).bind fun t324 => (if t324 = true then (some (decide (a1_0 < a1_1))) else (some false))) else (some false))) else (some false))) = some r := h
 clear h
 obtain ⟨t322, A30, H⟩ := Option.bind_eq_some_iff.mp H; have A3 := Aside0.mk A30; clear A30
 by_cases c4 : t322 = true
 ·subst c4
  rw [if_pos rfl] at H
  obtain ⟨t323, A50, H⟩ := Option.bind_eq_some_iff.mp H; have A5 := Aside0.mk A50; clear A50
  by_cases c6 : t323 = true
  ·subst c6
   rw [if_pos rfl] at H
   obtain ⟨t324, A70, H⟩ := Option.bind_eq_some_iff.mp H; have A7 := Aside0.mk A70; clear A70
   by_cases c8 : t324 = true
   ·subst c8
    rw [if_pos rfl] at H
    obtain rfl := Option.some.inj H
    go_enter Try.func76, Try.ntmps76
    go_wp2_with (first | ((with_reducible refine gate_dst (N := 3) rfl ?_); refine bx_ 3 (cs := #[.int .i64 a1_0, .int .i64 a1_1]) (t := 43) ?_; intro gb321 hg w9 hbox hb; have BK321 := Aside0.mk (hbox); have GW321 := Aside0.mk ((qs_ : w.heap.size ≤ gb321)); have GE321 := Aside0.mk ((qs_ : w.heap.size ≤ gb321)); replace HB := Aside0.mk (below_step qB_ hb); clear hb hbox hg) | ((with_reducible refine gate_callee (f := 66) rfl ?_); refine gl_ (some 6) Try.func66 #[.int .i64 a0, .int .i64 1, .int .i64 12] ?_; (with_reducible refine (impl_in.calls a0 1 12 true _ A3.out).mono ?_); rintro e w' ⟨rfl, ⟨nd, rfl⟩⟩; refine ⟨_, rfl, ?_⟩; obtain ⟨hcz10_0, hcz10_1, hfz10_0, hfz10_1⟩ := bc2_ BK321) | (go_at_call 66; (with_reducible refine (impl_in.calls a1_0 0 (wrap64 (a0 - 1)) true _ A5.out).mono ?_); rintro e w' ⟨rfl, ⟨nd, rfl⟩⟩) | (go_at_call 66; (with_reducible refine (impl_in.calls a1_1 0 (wrap64 (a0 - 1)) true _ A7.out).mono ?_); rintro e w' ⟨rfl, ⟨nd, rfl⟩⟩))
    go_ret
    exact ⟨qr_, qB_⟩
   ·replace c8 := Bool.eq_false_iff.mpr c8
    subst c8
    rw [if_neg (show ¬ (false = true) by decide)] at H
    obtain rfl := Option.some.inj H
    go_enter Try.func76, Try.ntmps76
    go_wp2_with (first | ((with_reducible refine gate_dst (N := 3) rfl ?_); refine bx_ 3 (cs := #[.int .i64 a1_0, .int .i64 a1_1]) (t := 43) ?_; intro gb321 hg w11 hbox hb; have BK321 := Aside0.mk (hbox); have GW321 := Aside0.mk ((qs_ : w.heap.size ≤ gb321)); have GE321 := Aside0.mk ((qs_ : w.heap.size ≤ gb321)); replace HB := Aside0.mk (below_step qB_ hb); clear hb hbox hg) | ((with_reducible refine gate_callee (f := 66) rfl ?_); refine gl_ (some 6) Try.func66 #[.int .i64 a0, .int .i64 1, .int .i64 12] ?_; (with_reducible refine (impl_in.calls a0 1 12 true _ A3.out).mono ?_); rintro e w' ⟨rfl, ⟨nd, rfl⟩⟩; refine ⟨_, rfl, ?_⟩; obtain ⟨hcz12_0, hcz12_1, hfz12_0, hfz12_1⟩ := bc2_ BK321) | (go_at_call 66; (with_reducible refine (impl_in.calls a1_0 0 (wrap64 (a0 - 1)) true _ A5.out).mono ?_); rintro e w' ⟨rfl, ⟨nd, rfl⟩⟩) | (go_at_call 66; (with_reducible refine (impl_in.calls a1_1 0 (wrap64 (a0 - 1)) false _ A7.out).mono ?_); rintro e w' ⟨rfl, ⟨nd, rfl⟩⟩))
    go_ret
    exact ⟨qr_, qB_⟩
  ·replace c6 := Bool.eq_false_iff.mpr c6
   subst c6
   rw [if_neg (show ¬ (false = true) by decide)] at H
   obtain rfl := Option.some.inj H
   go_enter Try.func76, Try.ntmps76
   go_wp2_with (first | ((with_reducible refine gate_dst (N := 3) rfl ?_); refine bx_ 3 (cs := #[.int .i64 a1_0, .int .i64 a1_1]) (t := 43) ?_; intro gb321 hg w13 hbox hb; have BK321 := Aside0.mk (hbox); have GW321 := Aside0.mk ((qs_ : w.heap.size ≤ gb321)); have GE321 := Aside0.mk ((qs_ : w.heap.size ≤ gb321)); replace HB := Aside0.mk (below_step qB_ hb); clear hb hbox hg) | ((with_reducible refine gate_callee (f := 66) rfl ?_); refine gl_ (some 6) Try.func66 #[.int .i64 a0, .int .i64 1, .int .i64 12] ?_; (with_reducible refine (impl_in.calls a0 1 12 true _ A3.out).mono ?_); rintro e w' ⟨rfl, ⟨nd, rfl⟩⟩; refine ⟨_, rfl, ?_⟩; obtain ⟨hcz14_0, hcz14_1, hfz14_0, hfz14_1⟩ := bc2_ BK321) | (go_at_call 66; (with_reducible refine (impl_in.calls a1_0 0 (wrap64 (a0 - 1)) false _ A5.out).mono ?_); rintro e w' ⟨rfl, ⟨nd, rfl⟩⟩))
   go_ret
   exact ⟨qr_, qB_⟩
 ·replace c4 := Bool.eq_false_iff.mpr c4
  subst c4
  rw [if_neg (show ¬ (false = true) by decide)] at H
  obtain rfl := Option.some.inj H
  go_enter Try.func76, Try.ntmps76
  go_wp2_with (first | ((with_reducible refine gate_dst (N := 3) rfl ?_); refine bx_ 3 (cs := #[.int .i64 a1_0, .int .i64 a1_1]) (t := 43) ?_; intro gb321 hg w15 hbox hb; have BK321 := Aside0.mk (hbox); have GW321 := Aside0.mk ((qs_ : w.heap.size ≤ gb321)); have GE321 := Aside0.mk ((qs_ : w.heap.size ≤ gb321)); replace HB := Aside0.mk (below_step qB_ hb); clear hb hbox hg) | ((with_reducible refine gate_callee (f := 66) rfl ?_); refine gl_ (some 6) Try.func66 #[.int .i64 a0, .int .i64 1, .int .i64 12] ?_; (with_reducible refine (impl_in.calls a0 1 12 false _ A3.out).mono ?_); rintro e w' ⟨rfl, ⟨nd, rfl⟩⟩; refine ⟨_, rfl, ?_⟩))
  go_ret
  exact ⟨qr_, qB_⟩

/-! ### impl_ahead: function 90 -/
def impl_ahead.f (a0_0 : Int) (a0_1 : Int) (a1_0 : Int) (a1_1 : Int) : Option (Bool) := if a0_0 < a1_0 then (some true) else (if a0_0 = a1_0 then (some (decide (a0_1 < a1_1))) else (some false))
set_option maxHeartbeats 8000000 in
set_option maxRecDepth 100000 in
theorem impl_ahead.calls (a0_0 : Int) (a0_1 : Int) (a1_0 : Int) (a1_1 : Int) (r : Bool) (w : World) (h : impl_ahead.f a0_0 a0_1 a1_0 a1_1 = some r) :
  Calls Try.prog 90 #[.agg #[.int .i64 a0_0, .int .i64 a0_1], .agg #[.int .i64 a1_0, .int .i64 a1_1]] w fun e w' => e = .returned (.bool r) ∧ Below w.heap.size w w' := by
 have hu43 := Try.underlying43
 have HB := Aside0.mk (Below.refl w.heap.size w)
 have H : (if a0_0 < a1_0 then (some true) else (if a0_0 = a1_0 then (some (decide (a0_1 < a1_1))) else (some false))) = some r := h
 clear h
 by_cases c3 : a0_0 < a1_0
 ·rw [if_pos c3] at H
  have c3b0 : decide (a0_0 < a1_0) = true := decide_eq_true c3
  clear c3
  obtain rfl := Option.some.inj H
  go_enter Try.func90, Try.ntmps90
  go_wp2_with (first | ((with_reducible refine gate_dst (N := 2) rfl ?_); refine bx_ 2 (cs := #[.int .i64 a0_0, .int .i64 a0_1]) (t := 43) ?_; intro gb325 hg w4 hbox hb; have BK325 := Aside0.mk (hbox); have GW325 := Aside0.mk ((qs_ : w.heap.size ≤ gb325)); have GE325 := Aside0.mk ((qs_ : w.heap.size ≤ gb325)); replace HB := Aside0.mk (below_step qB_ hb); clear hb hbox hg) | ((with_reducible refine gate_dst (N := 3) rfl ?_); refine bx_ 3 (cs := #[.int .i64 a1_0, .int .i64 a1_1]) (t := 43) ?_; intro gb326 hg w5 hbox hb; have BK326 := Aside0.mk (hbox); have GW326 := Aside0.mk ((qs_ : w.heap.size ≤ gb326)); have GE326 := Aside0.mk ((qs_ : w.heap.size ≤ gb326)); have NB325_326 := Aside0.mk ((by rw [hg]; exact Nat.ne_of_lt (blk_lt (qk_ BK325)) : gb325 ≠ gb326)); have NB326_325 := Aside0.mk ((by rw [hg]; exact Nat.ne_of_gt (blk_lt (qk_ BK325)) : gb326 ≠ gb325)); replace BK325 := Aside0.mk (blk_below (qk_ BK325) hb); replace HB := Aside0.mk (below_step qB_ hb); clear hb hbox hg; have hnb6 := NB325_326.out; have hnc6 := NB326_325.out; obtain ⟨hcz7_0, hcz7_1, hfz7_0, hfz7_1⟩ := bc2_ BK325; obtain ⟨hcz8_0, hcz8_1, hfz8_0, hfz8_1⟩ := bc2_ BK326))
  go_ret
  exact ⟨qr_, qB_⟩
 ·rw [if_neg c3] at H
  have c3b0 : decide (a0_0 < a1_0) = false := decide_eq_false c3
  clear c3
  by_cases c9 : a0_0 = a1_0
  ·rw [if_pos c9] at H
   have c9b0 : (a0_0 == a1_0) = true := beq_iff_eq.mpr c9
   have c9b1 : (a0_0 != a1_0) = false := bne_eq_false_iff_eq.mpr c9
   clear c9
   obtain rfl := Option.some.inj H
   go_enter Try.func90, Try.ntmps90
   go_wp2_with (first | ((with_reducible refine gate_dst (N := 2) rfl ?_); refine bx_ 2 (cs := #[.int .i64 a0_0, .int .i64 a0_1]) (t := 43) ?_; intro gb325 hg w10 hbox hb; have BK325 := Aside0.mk (hbox); have GW325 := Aside0.mk ((qs_ : w.heap.size ≤ gb325)); have GE325 := Aside0.mk ((qs_ : w.heap.size ≤ gb325)); replace HB := Aside0.mk (below_step qB_ hb); clear hb hbox hg) | ((with_reducible refine gate_dst (N := 3) rfl ?_); refine bx_ 3 (cs := #[.int .i64 a1_0, .int .i64 a1_1]) (t := 43) ?_; intro gb326 hg w11 hbox hb; have BK326 := Aside0.mk (hbox); have GW326 := Aside0.mk ((qs_ : w.heap.size ≤ gb326)); have GE326 := Aside0.mk ((qs_ : w.heap.size ≤ gb326)); have NB325_326 := Aside0.mk ((by rw [hg]; exact Nat.ne_of_lt (blk_lt (qk_ BK325)) : gb325 ≠ gb326)); have NB326_325 := Aside0.mk ((by rw [hg]; exact Nat.ne_of_gt (blk_lt (qk_ BK325)) : gb326 ≠ gb325)); replace BK325 := Aside0.mk (blk_below (qk_ BK325) hb); replace HB := Aside0.mk (below_step qB_ hb); clear hb hbox hg; have hnb12 := NB325_326.out; have hnc12 := NB326_325.out; obtain ⟨hcz13_0, hcz13_1, hfz13_0, hfz13_1⟩ := bc2_ BK325; obtain ⟨hcz14_0, hcz14_1, hfz14_0, hfz14_1⟩ := bc2_ BK326))
   go_ret
   exact ⟨qr_, qB_⟩
  ·rw [if_neg c9] at H
   have c9b0 : (a0_0 == a1_0) = false := beq_eq_false_iff_ne.mpr c9
   have c9b1 : (a0_0 != a1_0) = true := bne_iff_ne.mpr c9
   obtain rfl := Option.some.inj H
   go_enter Try.func90, Try.ntmps90
   go_wp2_with (first | ((with_reducible refine gate_dst (N := 2) rfl ?_); refine bx_ 2 (cs := #[.int .i64 a0_0, .int .i64 a0_1]) (t := 43) ?_; intro gb325 hg w15 hbox hb; have BK325 := Aside0.mk (hbox); have GW325 := Aside0.mk ((qs_ : w.heap.size ≤ gb325)); have GE325 := Aside0.mk ((qs_ : w.heap.size ≤ gb325)); replace HB := Aside0.mk (below_step qB_ hb); clear hb hbox hg) | ((with_reducible refine gate_dst (N := 3) rfl ?_); refine bx_ 3 (cs := #[.int .i64 a1_0, .int .i64 a1_1]) (t := 43) ?_; intro gb326 hg w16 hbox hb; have BK326 := Aside0.mk (hbox); have GW326 := Aside0.mk ((qs_ : w.heap.size ≤ gb326)); have GE326 := Aside0.mk ((qs_ : w.heap.size ≤ gb326)); have NB325_326 := Aside0.mk ((by rw [hg]; exact Nat.ne_of_lt (blk_lt (qk_ BK325)) : gb325 ≠ gb326)); have NB326_325 := Aside0.mk ((by rw [hg]; exact Nat.ne_of_gt (blk_lt (qk_ BK325)) : gb326 ≠ gb325)); replace BK325 := Aside0.mk (blk_below (qk_ BK325) hb); replace HB := Aside0.mk (below_step qB_ hb); clear hb hbox hg; have hnb17 := NB325_326.out; have hnc17 := NB326_325.out; obtain ⟨hcz18_0, hcz18_1, hfz18_0, hfz18_1⟩ := bc2_ BK325; obtain ⟨hcz19_0, hcz19_1, hfz19_0, hfz19_1⟩ := bc2_ BK326))
   go_ret
   exact ⟨qr_, qB_⟩

end Go.Proofs.Ytbkklafkoegdpaa.QFnExactWebLabels
