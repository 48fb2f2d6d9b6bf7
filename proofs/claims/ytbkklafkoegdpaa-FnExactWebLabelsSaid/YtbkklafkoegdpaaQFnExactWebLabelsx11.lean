-- printed for this claim by a program of the session's own (no text of the kit's print)
import Derived.Test.YtbkklafkoegdpaaQFnExactWebLabelsx0
import Derived.Test.YtbkklafkoegdpaaQFnExactWebLabelsx3
import Derived.Test.YtbkklafkoegdpaaQFnExactWebLabelsx5
import Derived.Test.YtbkklafkoegdpaaQFnExactWebLabelsx7
import Derived.Test.YtbkklafkoegdpaaQFnExactWebLabelsx10
namespace Go.Proofs.Ytbkklafkoegdpaa.QFnExactWebLabels
open Go.RowKit Go.Proofs.YtbkklafkoegdpaaW.PrintWords Go.Proofs.YtbkklafkoegdpaaW.PrintLast Go.Proofs.YtbkklafkoegdpaaW.PrintMore
attribute [local go_sem] max2_int min2_int max_two min_two max_three min_three max_four min_four   -- for this text's walks alone
set_option linter.unusedVariables false
set_option linter.unusedSimpArgs false

/-! ### spec_WebOk: function 14 -/
mutual
def spec_WebOk.l0 : Nat → Int → Int → List (S72) → Option (Bool)
  | 0, _, _, _ => none
  | k + 1, x3, x280000, x280001 => if x3 < (x280001.length : Int) then (if 0 ≤ x3 then ((spec_l01In.f ((rd_T72 x280001 x3).f2) 0 4).bind fun t286 => (if t286 = true then (spec_WebOk.l0 k (wrap64 (x3 + 1)) x280000 x280001) else (some false))) else (none)) else (spec_WebOk.l1 k x280000 0 x280000 x280001)
def spec_WebOk.l1 : Nat → Int → Int → Int → List (S72) → Option (Bool)
  | 0, _, _, _, _ => none
  | k + 1, x4, x5, x280000, x280001 => if x5 ≤ 4 then ((spec_ForestAt.f k x280000 x280001 x5).bind fun bt287 => (if bt287.2.2 = true then (spec_WebOk.l2 k x4 x5 0 x280000 x280001 bt287.1 bt287.2.1) else (some false))) else (some true)
def spec_WebOk.l2 : Nat → Int → Int → Int → Int → List (S72) → Int → List (List Int) → Option (Bool)
  | 0, _, _, _, _, _, _, _ => none
  | k + 1, x4, x5, x8, x280000, x280001, x293000, x293001 => if x8 < (x293001.length : Int) then (if 0 ≤ x8 then ((spec_VertsOf.f k (rd_L5 x293001 x8)).bind fun t294 => (if (t294.length : Int) > 1 then (if (t294.length : Int) > x4 then (some false) else (spec_WebOk.l2 k x4 x5 (wrap64 (x8 + 1)) x280000 x280001 x293000 x293001)) else (spec_WebOk.l2 k x4 x5 (wrap64 (x8 + 1)) x280000 x280001 x293000 x293001))) else (none)) else (spec_WebOk.l3 k x4 x5 0 x280000 x280001 x293000 x293001)
def spec_WebOk.l3 : Nat → Int → Int → Int → Int → List (S72) → Int → List (List Int) → Option (Bool)
  | 0, _, _, _, _, _, _, _ => none
  | k + 1, x4, x5, x10, x280000, x280001, x293000, x293001 => if x10 < (x280001.length : Int) then (if 0 ≤ x10 then (if ((rd_T72 x280001 x10).f3 = true) then (spec_WebOk.l3 k x4 x5 (wrap64 (x10 + 1)) x280000 x280001 x293000 x293001) else (if ((rd_T72 x280001 x10).f2) = x5 then ((spec_TreeOf.f k x293000 x293001 ((rd_T72 x280001 x10).f0)).bind fun t299 => ((spec_TreeOf.f k x293000 x293001 ((rd_T72 x280001 x10).f1)).bind fun t300 => (if t299 = t300 then (spec_WebOk.l3 k x4 x5 (wrap64 (x10 + 1)) x280000 x280001 x293000 x293001) else (some false)))) else (spec_WebOk.l3 k x4 x5 (wrap64 (x10 + 1)) x280000 x280001 x293000 x293001))) else (none)) else (spec_WebOk.l1 k (wrap64 (Int.tdiv x4 2)) (wrap64 (x5 + 1)) x280000 x280001)
end
def spec_WebOk.f (k : Nat) (a0_0 : Int) (l0_1 : List (S72)) : Option (Bool) := (spec_GraphOf.f k a0_0 l0_1).bind fun bt280 => ((spec_GraphOk.f k bt280.1 bt280.2).bind fun t284 => (if t284 = true then (spec_WebOk.l0 k 0 a0_0 l0_1) else (some false)))
theorem spec_WebOk.mono_l : ∀ k, (∀ y0 y1 y2, LeO (spec_WebOk.l0 k y0 y1 y2) (spec_WebOk.l0 (k + 1) y0 y1 y2)) ∧ (∀ y0 y1 y2 y3, LeO (spec_WebOk.l1 k y0 y1 y2 y3) (spec_WebOk.l1 (k + 1) y0 y1 y2 y3)) ∧ (∀ y0 y1 y2 y3 y4 y5 y6, LeO (spec_WebOk.l2 k y0 y1 y2 y3 y4 y5 y6) (spec_WebOk.l2 (k + 1) y0 y1 y2 y3 y4 y5 y6)) ∧ (∀ y0 y1 y2 y3 y4 y5 y6, LeO (spec_WebOk.l3 k y0 y1 y2 y3 y4 y5 y6) (spec_WebOk.l3 (k + 1) y0 y1 y2 y3 y4 y5 y6))
  | 0 => ⟨fun _ _ _ r h => by simp [spec_WebOk.l0] at h, fun _ _ _ _ r h => by simp [spec_WebOk.l1] at h, fun _ _ _ _ _ _ _ r h => by simp [spec_WebOk.l2] at h, fun _ _ _ _ _ _ _ r h => by simp [spec_WebOk.l3] at h⟩
  | k + 1 => by
    obtain ⟨ih0, ih1, ih2, ih3⟩ := spec_WebOk.mono_l k
    refine ⟨?_, ?_, ?_, ?_⟩ <;> (intros; first | unfold spec_WebOk.l0 | unfold spec_WebOk.l1 | unfold spec_WebOk.l2 | unfold spec_WebOk.l3) <;> repeat' first
    | (with_reducible exact ih0 _ _ _)
    | (with_reducible exact ih1 _ _ _ _)
    | (with_reducible exact ih2 _ _ _ _ _ _ _)
    | (with_reducible exact ih3 _ _ _ _ _ _ _)
    | (with_reducible exact spec_ForestAt.mono _ _ _ _)
    | (with_reducible exact spec_GraphOf.mono _ _ _)
    | (with_reducible exact spec_GraphOk.mono _ _ _)
    | (with_reducible exact spec_TreeOf.mono _ _ _ _)
    | (with_reducible exact spec_VertsOf.mono _ _)
    | (with_reducible exact LeO.refl _)
    | (with_reducible exact LeO.none _)
    | (with_reducible refine LeO.ite ?_ ?_)
    | (with_reducible refine LeO.bind ?_ (fun _ => ?_))
    | exact ih0 _ _ _
    | exact ih1 _ _ _ _
    | exact ih2 _ _ _ _ _ _ _
    | exact ih3 _ _ _ _ _ _ _
    | exact spec_ForestAt.mono _ _ _ _
    | exact spec_GraphOf.mono _ _ _
    | exact spec_GraphOk.mono _ _ _
    | exact spec_TreeOf.mono _ _ _ _
    | exact spec_VertsOf.mono _ _
    | exact LeO.none _
    | refine LeO.ite ?_ ?_
    | refine LeO.bind ?_ (fun _ => ?_)
theorem spec_WebOk.mono : ∀ a0 a1 k, LeO (spec_WebOk.f k a0 a1) (spec_WebOk.f (k + 1) a0 a1) := by
  intro a0 a1 k
  obtain ⟨ih0, ih1, ih2, ih3⟩ := spec_WebOk.mono_l k
  unfold spec_WebOk.f
  repeat' first
      | (with_reducible exact ih0 _ _ _)
      | (with_reducible exact ih1 _ _ _ _)
      | (with_reducible exact ih2 _ _ _ _ _ _ _)
      | (with_reducible exact ih3 _ _ _ _ _ _ _)
      | (with_reducible exact spec_ForestAt.mono _ _ _ _)
      | (with_reducible exact spec_GraphOf.mono _ _ _)
      | (with_reducible exact spec_GraphOk.mono _ _ _)
      | (with_reducible exact spec_TreeOf.mono _ _ _ _)
      | (with_reducible exact spec_VertsOf.mono _ _)
      | (with_reducible exact LeO.refl _)
      | (with_reducible exact LeO.none _)
      | (with_reducible refine LeO.ite ?_ ?_)
      | (with_reducible refine LeO.bind ?_ (fun _ => ?_))
      | exact ih0 _ _ _
      | exact ih1 _ _ _ _
      | exact ih2 _ _ _ _ _ _ _
      | exact ih3 _ _ _ _ _ _ _
      | exact spec_ForestAt.mono _ _ _ _
      | exact spec_GraphOf.mono _ _ _
      | exact spec_GraphOk.mono _ _ _
      | exact spec_TreeOf.mono _ _ _ _
      | exact spec_VertsOf.mono _ _
      | exact LeO.none _
      | refine LeO.ite ?_ ?_
      | refine LeO.bind ?_ (fun _ => ?_)
def spec_WebOk.T25 : Bool × List (List Nat × List Nat) := (true, [([], []), ([0], [0]), ([1], [1]), ([2], [2]), ([3], [3]), ([4, 3], [3, 4]), ([3], [3]), ([5, 6, 3], [3, 5, 6]), ([3, 7], [3, 7]), ([8, 3], [8]), ([9], [9]), ([9], [9]), ([11, 9], [9, 11]), ([10, 12, 9, 9], [9, 10, 12]), ([9], [9]), ([9], [9]), ([15, 9], [9, 15]), ([14, 16, 13, 9], [9, 14, 16]), ([13, 17, 9], [9, 13, 17]), ([9, 18], [9, 18])])
def spec_WebOk.B25 : List Nat := [0, 1, 3, 7, 15, 31, 15, 127, 255, 511, 1023, 1023, 3071, 8191, 1023, 1023, 33791, 131071, 262143, 524287]
theorem spec_WebOk.tab25 : rtab .any (opsOf Try.f14 25) = spec_WebOk.T25 := by kernel_rfl
theorem spec_WebOk.bits25 : waitsOk spec_WebOk.T25.2 spec_WebOk.B25 = true := by kernel_rfl
set_option maxHeartbeats 8000000 in
set_option maxRecDepth 100000 in
theorem spec_WebOk.calls (k : Nat) (a0_0 : Int) (A0_1 : Option Addr) (c0_1 : Nat) (l0_1 : List (S72)) (r : Bool) (w : World) (hr0_1 : Kd.C k72 w A0_1 l0_1.length l0_1) (hc0_1 : l0_1.length ≤ c0_1) (h : spec_WebOk.f k a0_0 l0_1 = some r) :
  Calls Try.prog 14 #[.agg #[.int .i64 a0_0, .slice A0_1 l0_1.length c0_1]] w fun e w' => e = .returned (.bool r) ∧ Below w.heap.size w w' := by
 have hu29 := Try.underlying29; have hu39 := Try.underlying39; have hu72 := Try.underlying72
 have HR0_1 := Aside0.mk hr0_1
 have HC0_1 := Aside0.mk hc0_1
 clear hr0_1 hc0_1
 have HB := Aside0.mk (Below.refl w.heap.size w)
 have H : ((spec_GraphOf.f k a0_0 l0_1).bind fun bt280 => ((spec_GraphOk.f k bt280.1 bt280.2).bind fun t284 => (if t284 = true then (spec_WebOk.l0 k 0 a0_0 l0_1) else (some false)))) = some r := h
 clear h
 replace H := Option.bind_eq_some_iff.mp H
 obtain ⟨⟨t280, t281⟩, A20, H⟩ := H
 replace H : ((spec_GraphOk.f k t280 t281).bind fun t284 => (if t284 = true then (spec_WebOk.l0 k 0 a0_0 l0_1) else (some false))) = some r := H
 have A2 := Aside0.mk A20
 clear A20
 obtain ⟨t284, A30, H⟩ := Option.bind_eq_some_iff.mp H; have A3 := Aside0.mk A30; clear A30
 by_cases c4 : t284 = true
 ·subst c4
  rw [if_pos rfl] at H; have H' := Aside0.mk H; clear H
  go_enter Try.func14, Try.ntmps14
  go_wp2_with (first | ((with_reducible refine gate_dst (N := 1) rfl ?_); refine bx_ 1 (cs := #[.int .i64 a0_0, .slice A0_1 l0_1.length c0_1]) (t := 29) ?_; intro gb279 hg w5 hbox hb; have BK279 := Aside0.mk (hbox); have GW279 := Aside0.mk ((qs_ : w.heap.size ≤ gb279)); have GE279 := Aside0.mk ((qs_ : w.heap.size ≤ gb279)); replace HB := Aside0.mk (below_step qB_ hb); clear hb hbox hg; obtain ⟨hcz6_0, hcz6_1, hfz6_0, hfz6_1⟩ := bc2_ BK279) | ((with_reducible refine gate_callee (f := 47) rfl ?_); refine gl_ (some 13) Try.func47 #[.agg #[.int .i64 a0_0, .slice A0_1 l0_1.length c0_1]] ?_; (with_reducible refine (spec_GraphOf.calls k a0_0 _ _ l0_1 t280 t281 _ ?side1 ?side2 A2.out).mono ?_); (case side1 => exact qC_ HR0_1 HB); (case side2 => exact HC0_1.out); rintro e w7 ⟨v282, rfl, ho0, hb⟩; refine ⟨_, rfl, ?_⟩; have HO283 := Aside0.mk (Kd.R_lower ho0 (below_size qB_)); replace BK279 := Aside0.mk (blk_below (qk_ BK279) hb); replace HB := Aside0.mk (below_step qB_ hb); (try clear hb); (try clear hb2); (try clear hk); (try clear hi); (try clear ho0); obtain ⟨Ao8, co8, eo8⟩ := Kd.R_slice HO283.out; subst eo8) | ((with_reducible refine gate_callee (f := 56) rfl ?_); refine gl_ (some 14) Try.func56 #[.agg #[.int .i64 t280, .slice Ao8 t281.length co8]] ?_; (with_reducible refine (spec_GraphOk.calls k t280 _ _ t281 true _ ?side1 ?side2 A3.out).mono ?_); (case side1 => exact qD_ (Kd.R_reads' HO283.out).2.2); (case side2 => exact (Kd.R_reads' HO283.out).2.1); rintro e w9 ⟨rfl, hb⟩; refine ⟨_, rfl, ?_⟩; replace HO283 := Aside0.mk (Kd.R_below (qR_ HO283) hb); replace BK279 := Aside0.mk (blk_below (qk_ BK279) hb); replace HB := Aside0.mk (below_step qB_ hb); (try clear hb); (try clear hb2); (try clear hk); (try clear hi)))
  go_loopg [3] k (fun kq v3 w' => ∃ (x3_1 : Int), v3 = .int .i64 x3_1 ∧ Aside0 (spec_WebOk.l0 kq x3_1 a0_0 l0_1 = some r) ∧ Aside0 (kq ≤ k) ∧ Aside0 (w'.heap[gb279]? = some (.cells #[.int .i64 a0_0, (.slice A0_1 l0_1.length c0_1)] 29 (0, 0))) ∧ Aside0 (Below w.heap.size w w'))
  case atStart => exact ⟨(0), qe_, H', ⟨Nat.le_refl _⟩, ⟨qk_ BK279⟩, ⟨qB_⟩⟩
  case round =>
   clear H'
   (try clear c1); (try clear p2); (try clear c4); (try clear c5); (try clear hcz6_0); (try clear hcz6_1); (try clear hfz6_0); (try clear hfz6_1)
   obtain ⟨x3_1, rfl, HA, HK1, BK279, HB⟩ := hrel
   cases gk with
   | zero => exact absurd HA.out (by simp [spec_WebOk.l0])
   | succ k1 =>
    have H := HA.out; clear HA
    simp only [spec_WebOk.l0] at H
    by_cases c10 : x3_1 < (l0_1.length : Int)
    ·rw [if_pos c10] at H
     have c10b0 : decide (x3_1 < (l0_1.length : Int)) = true := decide_eq_true c10
     clear c10
     by_cases c11 : 0 ≤ x3_1
     ·rw [if_pos c11] at H
      have c11b0 : decide (0 ≤ x3_1) = true := decide_eq_true c11
      clear c11
      obtain ⟨t286, A120, H⟩ := Option.bind_eq_some_iff.mp H; have A12 := Aside0.mk A120; clear A120
      by_cases c13 : t286 = true
      ·subst c13
       rw [if_pos rfl] at H; have H' := Aside0.mk H; clear H
       obtain ⟨hcz14_0, hcz14_1, hfz14_0, hfz14_1⟩ := bc2_ BK279
       have p285 : 0 ≤ (x3_1 : Int) := of_decide_eq_true qa_
       have q285 : x3_1 < (l0_1.length : Int) := of_decide_eq_true qa_
       obtain ⟨ad285, e285, hx285_0, hx285_1, hx285_2, hx285_3⟩ := at_T72 HR0_1.out x3_1 p285 q285
       cases e285
       replace hx285_0 := (HB.out.cell (World.block_lt_of_cell? w _ hx285_0)).trans hx285_0
       replace hx285_1 := (HB.out.cell (World.block_lt_of_cell? w _ hx285_1)).trans hx285_1
       replace hx285_2 := (HB.out.cell (World.block_lt_of_cell? w _ hx285_2)).trans hx285_2
       replace hx285_3 := (HB.out.cell (World.block_lt_of_cell? w _ hx285_3)).trans hx285_3
       replace p285 := eq_true p285; replace q285 := eq_true q285
       go_wp2_with (first | ((with_reducible refine gate_callee (f := 57) rfl ?_); refine gl_ (some 29) Try.func57 #[.int .i64 ((rd_T72 l0_1 x3_1).f2), .int .i64 0, .int .i64 4] ?_; (with_reducible refine (spec_l01In.calls ((rd_T72 l0_1 x3_1).f2) 0 4 true _ A12.out).mono ?_); rintro e w' ⟨rfl, ⟨nd, rfl⟩⟩; refine ⟨_, rfl, ?_⟩))
       go_roundg k1
       case measure => have := HK1.out; omega
       case rel => exact ⟨(wrap64 (x3_1 + 1)), qe_, H', ⟨by have := HK1.out; omega⟩, ⟨qk_ BK279⟩, ⟨qB_⟩⟩
      ·replace c13 := Bool.eq_false_iff.mpr c13
       subst c13
       rw [if_neg (show ¬ (false = true) by decide)] at H
       obtain rfl := Option.some.inj H
       obtain ⟨hcz15_0, hcz15_1, hfz15_0, hfz15_1⟩ := bc2_ BK279
       have p285 : 0 ≤ (x3_1 : Int) := of_decide_eq_true qa_
       have q285 : x3_1 < (l0_1.length : Int) := of_decide_eq_true qa_
       obtain ⟨ad285, e285, hx285_0, hx285_1, hx285_2, hx285_3⟩ := at_T72 HR0_1.out x3_1 p285 q285
       cases e285
       replace hx285_0 := (HB.out.cell (World.block_lt_of_cell? w _ hx285_0)).trans hx285_0
       replace hx285_1 := (HB.out.cell (World.block_lt_of_cell? w _ hx285_1)).trans hx285_1
       replace hx285_2 := (HB.out.cell (World.block_lt_of_cell? w _ hx285_2)).trans hx285_2
       replace hx285_3 := (HB.out.cell (World.block_lt_of_cell? w _ hx285_3)).trans hx285_3
       replace p285 := eq_true p285; replace q285 := eq_true q285
       go_wp2_with (first | ((with_reducible refine gate_callee (f := 57) rfl ?_); refine gl_ (some 29) Try.func57 #[.int .i64 ((rd_T72 l0_1 x3_1).f2), .int .i64 0, .int .i64 4] ?_; (with_reducible refine (spec_l01In.calls ((rd_T72 l0_1 x3_1).f2) 0 4 false _ A12.out).mono ?_); rintro e w' ⟨rfl, ⟨nd, rfl⟩⟩; refine ⟨_, rfl, ?_⟩))
       go_ret
       exact ⟨qr_, qB_⟩
     ·rw [if_neg c11] at H
      exact absurd H (by simp)
    ·rw [if_neg c10] at H
     have c10b0 : decide (x3_1 < (l0_1.length : Int)) = false := decide_eq_false c10
     clear c10; have H' := Aside0.mk H; clear H
     obtain ⟨hcz16_0, hcz16_1, hfz16_0, hfz16_1⟩ := bc2_ BK279
     go_wp2
     go_loopg [4, 5] k1 (fun kq v4 v5 w' => ∃ (x4_2 : Int) (x5_2 : Int), v4 = .int .i64 x4_2 ∧ v5 = .int .i64 x5_2 ∧ Aside0 (spec_WebOk.l1 kq x4_2 x5_2 a0_0 l0_1 = some r) ∧ Aside0 (kq ≤ k1) ∧ Aside0 (w'.heap[gb279]? = some (.cells #[.int .i64 a0_0, (.slice A0_1 l0_1.length c0_1)] 29 (0, 0))) ∧ Aside0 (Below w.heap.size w w'))
     case atStart => exact ⟨(a0_0), (0), qe_, qe_, H', ⟨Nat.le_refl _⟩, ⟨qk_ BK279⟩, ⟨qB_⟩⟩
     case round =>
      clear H'
      (try clear c1); (try clear p2); (try clear q2); (try clear hx2); (try clear c4); (try clear c5); (try clear p6); (try clear c10); (try clear c10b0); (try clear c11); (try clear c11b0); (try clear c13); (try clear c14); (try clear hcz14_0); (try clear hcz14_1); (try clear hcz15_0); (try clear hcz15_1); (try clear hcz16_0); (try clear hcz16_1); (try clear hcz6_0); (try clear hcz6_1); (try clear hfz14_0); (try clear hfz14_1); (try clear hfz15_0); (try clear hfz15_1); (try clear hfz16_0); (try clear hfz16_1); (try clear hfz6_0); (try clear hfz6_1); (try clear hx285_0); (try clear hx285_1); (try clear hx285_2); (try clear hx285_3); (try clear p2); (try clear p285); (try clear q285)
      obtain ⟨x4_2, x5_2, rfl, rfl, HA, HK2, BK279, HB⟩ := hrel
      cases gk with
      | zero => exact absurd HA.out (by simp [spec_WebOk.l1])
      | succ k2 =>
       have H := HA.out; clear HA
       simp only [spec_WebOk.l1] at H
       by_cases c17 : x5_2 ≤ 4
       ·rw [if_pos c17] at H
        have c17b0 : decide (x5_2 ≤ 4) = true := decide_eq_true c17
        clear c17
        replace H := Option.bind_eq_some_iff.mp H
        obtain ⟨⟨t287, t288, t291⟩, A180, H⟩ := H
        replace H : (if t291 = true then (spec_WebOk.l2 k2 x4_2 x5_2 0 a0_0 l0_1 t287 t288) else (some false)) = some r := H
        have A18 := Aside0.mk A180
        clear A180
        by_cases c19 : t291 = true
        ·subst c19
         rw [if_pos rfl] at H; have H' := Aside0.mk H; clear H
         obtain ⟨hcz20_0, hcz20_1, hfz20_0, hfz20_1⟩ := bc2_ BK279
         go_wp2_with (first | ((with_reducible refine gate_callee (f := 58) rfl ?_); refine gl_ (some 40) Try.func58 #[.agg #[.int .i64 a0_0, .slice A0_1 l0_1.length c0_1], .int .i64 x5_2] ?_; (with_reducible refine (spec_ForestAt.calls k2 a0_0 _ _ l0_1 x5_2 t287 t288 true _ ?side1 ?side2 A18.out).mono ?_); (case side1 => exact qC_ HR0_1 HB); (case side2 => exact HC0_1.out); rintro e w21 ⟨v289, rfl, ho0, hb⟩; refine ⟨_, rfl, ?_⟩; have HO290 := Aside0.mk (Kd.S_lower ho0 (below_size qB_)); replace BK279 := Aside0.mk (blk_below (qk_ BK279) hb); replace HB := Aside0.mk (below_step qB_ hb); (try clear hb); (try clear hb2); (try clear hk); (try clear hi); (try clear ho0)) | ((with_reducible refine gate_dst (N := 6) rfl ?_); refine bx_ 6 (cs := #[.int .i64 0, .slice none 0 0]) (t := 39) ?_; intro gb292 hg w22 hbox hb; have BK292 := Aside0.mk (hbox); have GW292 := Aside0.mk ((qs_ : w.heap.size ≤ gb292)); have GE292 := Aside0.mk ((qs_ : w.heap.size ≤ gb292)); have NB279_292 := Aside0.mk ((by rw [hg]; exact Nat.ne_of_lt (blk_lt (qk_ BK279)) : gb279 ≠ gb292)); have NB292_279 := Aside0.mk ((by rw [hg]; exact Nat.ne_of_gt (blk_lt (qk_ BK279)) : gb292 ≠ gb279)); replace HO290 := Aside0.mk (Kd.S_below (qS_ HO290) hb); replace BK279 := Aside0.mk (blk_below (qk_ BK279) hb); replace HB := Aside0.mk (below_step qB_ hb); clear hb hbox hg; have hnb23 := NB292_279.out; have hnc23 := NB279_292.out; obtain ⟨hcz24_0, hcz24_1, hfz24_0, hfz24_1⟩ := bc2_ BK292; obtain ⟨Ao25, co25, eo25⟩ := Kd.S_slice HO290.out; subst eo25))
         go_loopg [8] k2 (fun kq v8 w' => ∃ (x8_3 : Int), v8 = .int .i64 x8_3 ∧ Aside0 (spec_WebOk.l2 kq x4_2 x5_2 x8_3 a0_0 l0_1 t287 t288 = some r) ∧ Aside0 (kq ≤ k2) ∧ Aside0 (Kd.S (Kd.slice 3 (Kd.int .i64)) 51 w' w.heap.size (fun _ => True) (.slice Ao25 t288.length co25) t288) ∧ Aside0 (w'.heap[gb279]? = some (.cells #[.int .i64 a0_0, (.slice A0_1 l0_1.length c0_1)] 29 (0, 0))) ∧ Aside0 (w'.heap[gb292]? = some (.cells #[.int .i64 t287, (.slice Ao25 t288.length co25)] 39 (0, 0))) ∧ Aside0 (Below w.heap.size w w'))
         case atStart => exact ⟨(0), qe_, H', ⟨Nat.le_refl _⟩, ⟨by (with_reducible repeat (first | apply Kd.S_alloc | apply Kd.S_drewN | apply Kd.S_drew)); exact Kd.S_mono (Kd.S_far (p := ⟨gb292, 1, none⟩) (Kd.S_far (p := ⟨gb292, 0, none⟩) (Kd.S_types HO290.out BK292.out (by decide)) (fun _ hk => hk.2) (.int .i64 t287)) (fun _ hk => hk.2) (.slice Ao25 t288.length co25)) (fun _ hk => trivial)⟩, ⟨by (with_reducible repeat (first | refine blk_drewN ?_ _ | refine blk_drew ?_ | refine blk_alloc ?_ _)); refine blk_far ?_ NB279_292.out _; (with_reducible repeat (first | refine blk_drewN ?_ _ | refine blk_drew ?_ | refine blk_alloc ?_ _)); refine blk_far ?_ NB279_292.out _; (with_reducible repeat (first | refine blk_drewN ?_ _ | refine blk_drew ?_ | refine blk_alloc ?_ _)); exact BK279.out⟩, ⟨by (with_reducible repeat (first | refine blk_drewN ?_ _ | refine blk_drew ?_ | refine blk_alloc ?_ _)); refine blk_put (cs := #[.int .i64 t287, .slice none 0 0]) ?_ 1 _ rfl; (with_reducible repeat (first | refine blk_drewN ?_ _ | refine blk_drew ?_ | refine blk_alloc ?_ _)); refine blk_put (cs := #[.int .i64 0, .slice none 0 0]) ?_ 0 _ rfl; (with_reducible repeat (first | refine blk_drewN ?_ _ | refine blk_drew ?_ | refine blk_alloc ?_ _)); exact BK292.out⟩, ⟨qB_⟩⟩
         case round =>
          clear H'
          (try clear c1); (try clear c2); (try clear p2); (try clear q2); (try clear hx2); (try clear c4); (try clear c5); (try clear p6); (try clear c10); (try clear c10b0); (try clear c11); (try clear c11b0); (try clear c13); (try clear c14); (try clear c17); (try clear c17b0); (try clear c19); (try clear c23); (try clear hcz14_0); (try clear hcz14_1); (try clear hcz15_0); (try clear hcz15_1); (try clear hcz16_0); (try clear hcz16_1); (try clear hcz20_0); (try clear hcz20_1); (try clear hcz24_0); (try clear hcz24_1); (try clear hcz6_0); (try clear hcz6_1); (try clear hfz14_0); (try clear hfz14_1); (try clear hfz15_0); (try clear hfz15_1); (try clear hfz16_0); (try clear hfz16_1); (try clear hfz20_0); (try clear hfz20_1); (try clear hfz24_0); (try clear hfz24_1); (try clear hfz6_0); (try clear hfz6_1); (try clear hx285_0); (try clear hx285_1); (try clear hx285_2); (try clear hx285_3); (try clear p2); (try clear p285); (try clear p6); (try clear q2); (try clear q285)
          obtain ⟨x8_3, rfl, HA, HK3, HO_293001, BK279, BK292, HB⟩ := hrel
          cases gk with
          | zero => exact absurd HA.out (by simp [spec_WebOk.l2])
          | succ k3 =>
           have H := HA.out; clear HA
           simp only [spec_WebOk.l2] at H
           by_cases c26 : x8_3 < (t288.length : Int)
           ·rw [if_pos c26] at H
            have c26b0 : decide (x8_3 < (t288.length : Int)) = true := decide_eq_true c26
            clear c26
            by_cases c27 : 0 ≤ x8_3
            ·rw [if_pos c27] at H
             have c27b0 : decide (0 ≤ x8_3) = true := decide_eq_true c27
             clear c27
             obtain ⟨t294, A280, H⟩ := Option.bind_eq_some_iff.mp H; have A28 := Aside0.mk A280; clear A280
             by_cases c29 : (t294.length : Int) > 1
             ·rw [if_pos c29] at H
              have c29b0 : decide (1 < (t294.length : Int)) = true := decide_eq_true c29
              have c29b1 : decide (1 < t294.length) = true := decide_eq_true (by omega)
              clear c29
              by_cases c30 : (t294.length : Int) > x4_2
              ·rw [if_pos c30] at H
               have c30b0 : decide (x4_2 < (t294.length : Int)) = true := decide_eq_true c30
               clear c30
               obtain rfl := Option.some.inj H
               have hnb31 := NB292_279.out; have hnc31 := NB279_292.out
               obtain ⟨hcz32_0, hcz32_1, hfz32_0, hfz32_1⟩ := bc2_ BK292
               have p293 : 0 ≤ (x8_3 : Int) := of_decide_eq_true qa_
               have q293 : x8_3 < (t288.length : Int) := of_decide_eq_true qa_
               obtain ⟨ad293, A293_0, c293_0, e293, hx293_0, hl293_0, hi293_0⟩ := at_L5 (Kd.S_reads' HO_293001.out).2.2 x8_3 p293 q293
               cases e293
               obtain ⟨ce293, hce293, hMe293, hcc293⟩ := Kd.S_get HO_293001.out [] x8_3 p293 (by first | exact q293 | exact of_decide_eq_true qa_ | (have e_ := (Kd.S_reads' HO_293001.out).1; omega))
               obtain ⟨ve293_0, rfl, ge293_0⟩ := hMe293
               have hv293_0 := hcc293 0 _ rfl
               rw [Nat.add_zero, show ((Kd.slice 3 (Kd.int .i64))).sz = 1 from rfl, Nat.mul_one] at hv293_0
               replace hv293_0 := Option.some.inj (hv293_0.symm.trans hx293_0)
               rw [hv293_0] at ge293_0
               have HL293_0 := Aside0.mk (show Kd.R (Kd.int .i64) 3 _ _ _ _ (rd_L5 t288 x8_3) from ge293_0)
               clear hv293_0 ge293_0; clear hcc293 hce293
               have HR293_0 := Aside0.mk hi293_0
               have HC293_0 := Aside0.mk hl293_0
               clear hi293_0 hl293_0; replace p293 := eq_true p293; replace q293 := eq_true q293
               go_wp2_with (first | ((with_reducible refine gate_callee (f := 59) rfl ?_); refine gl_ (some 57) Try.func59 #[.slice A293_0 (rd_L5 t288 x8_3).length c293_0] ?_; (with_reducible refine (spec_VertsOf.calls k3 _ _ (rd_L5 t288 x8_3) t294 _ ?side1 ?side2 A28.out).mono ?_); (case side1 => repeat (first | exact (by repeat (first | (with_reducible exact HR293_0.out) | (with_reducible refine Kd.C_alloc ?_ _) | (with_reducible refine Kd.C_drewN ?_ _) | (with_reducible refine Kd.C_drew ?_) | exact HR293_0.out)) | (with_reducible refine Kd.C_alloc ?_ _) | (with_reducible refine Kd.C_drewN ?_ _) | (with_reducible refine Kd.C_drew ?_))); (case side2 => exact HC293_0.out); rintro e w33 ⟨v295, rfl, ho0, hb⟩; refine ⟨_, rfl, ?_⟩; have HO296 := Aside0.mk (Kd.R_lower (Kd.R_new' ho0 (Kd.R_lt (qR_ HL293_0))) (below_size qB_)); replace HO_293001 := Aside0.mk (Kd.S_elder' (qS_ HO_293001) (Kd.R_base ho0) hb); replace HL293_0 := Aside0.mk (Kd.R_elder' (qR_ HL293_0) (Kd.R_base ho0) hb); replace BK279 := Aside0.mk (blk_below (qk_ BK279) hb); replace BK292 := Aside0.mk (blk_below (qk_ BK292) hb); replace HR293_0 := Aside0.mk (Kd.C_below (by repeat (first | (with_reducible exact HR293_0.out) | (with_reducible refine Kd.C_alloc ?_ _) | (with_reducible refine Kd.C_drewN ?_ _) | (with_reducible refine Kd.C_drew ?_) | exact HR293_0.out)) hb); replace HB := Aside0.mk (below_step qB_ hb); (try clear hb); (try clear hb2); (try clear hk); (try clear hi); (try clear ho0); obtain ⟨Ao34, co34, eo34⟩ := Kd.R_slice HO296.out; subst eo34))
               go_ret
               exact ⟨qr_, qB_⟩
              ·rw [if_neg c30] at H
               have c30b0 : decide (x4_2 < (t294.length : Int)) = false := decide_eq_false c30
               clear c30; have H' := Aside0.mk H; clear H; have hnb35 := NB292_279.out; have hnc35 := NB279_292.out
               obtain ⟨hcz36_0, hcz36_1, hfz36_0, hfz36_1⟩ := bc2_ BK292
               have p293 : 0 ≤ (x8_3 : Int) := of_decide_eq_true qa_
               have q293 : x8_3 < (t288.length : Int) := of_decide_eq_true qa_
               obtain ⟨ad293, A293_0, c293_0, e293, hx293_0, hl293_0, hi293_0⟩ := at_L5 (Kd.S_reads' HO_293001.out).2.2 x8_3 p293 q293
               cases e293
               obtain ⟨ce293, hce293, hMe293, hcc293⟩ := Kd.S_get HO_293001.out [] x8_3 p293 (by first | exact q293 | exact of_decide_eq_true qa_ | (have e_ := (Kd.S_reads' HO_293001.out).1; omega))
               obtain ⟨ve293_0, rfl, ge293_0⟩ := hMe293
               have hv293_0 := hcc293 0 _ rfl
               rw [Nat.add_zero, show ((Kd.slice 3 (Kd.int .i64))).sz = 1 from rfl, Nat.mul_one] at hv293_0
               replace hv293_0 := Option.some.inj (hv293_0.symm.trans hx293_0)
               rw [hv293_0] at ge293_0
               have HL293_0 := Aside0.mk (show Kd.R (Kd.int .i64) 3 _ _ _ _ (rd_L5 t288 x8_3) from ge293_0)
               clear hv293_0 ge293_0; clear hcc293 hce293
               have HR293_0 := Aside0.mk hi293_0
               have HC293_0 := Aside0.mk hl293_0
               clear hi293_0 hl293_0; replace p293 := eq_true p293; replace q293 := eq_true q293
               go_wp2_with (first | ((with_reducible refine gate_callee (f := 59) rfl ?_); refine gl_ (some 57) Try.func59 #[.slice A293_0 (rd_L5 t288 x8_3).length c293_0] ?_; (with_reducible refine (spec_VertsOf.calls k3 _ _ (rd_L5 t288 x8_3) t294 _ ?side1 ?side2 A28.out).mono ?_); (case side1 => repeat (first | exact (by repeat (first | (with_reducible exact HR293_0.out) | (with_reducible refine Kd.C_alloc ?_ _) | (with_reducible refine Kd.C_drewN ?_ _) | (with_reducible refine Kd.C_drew ?_) | exact HR293_0.out)) | (with_reducible refine Kd.C_alloc ?_ _) | (with_reducible refine Kd.C_drewN ?_ _) | (with_reducible refine Kd.C_drew ?_))); (case side2 => exact HC293_0.out); rintro e w37 ⟨v295, rfl, ho0, hb⟩; refine ⟨_, rfl, ?_⟩; have HO296 := Aside0.mk (Kd.R_lower (Kd.R_new' ho0 (Kd.R_lt (qR_ HL293_0))) (below_size qB_)); replace HO_293001 := Aside0.mk (Kd.S_elder' (qS_ HO_293001) (Kd.R_base ho0) hb); replace HL293_0 := Aside0.mk (Kd.R_elder' (qR_ HL293_0) (Kd.R_base ho0) hb); replace BK279 := Aside0.mk (blk_below (qk_ BK279) hb); replace BK292 := Aside0.mk (blk_below (qk_ BK292) hb); replace HR293_0 := Aside0.mk (Kd.C_below (by repeat (first | (with_reducible exact HR293_0.out) | (with_reducible refine Kd.C_alloc ?_ _) | (with_reducible refine Kd.C_drewN ?_ _) | (with_reducible refine Kd.C_drew ?_) | exact HR293_0.out)) hb); replace HB := Aside0.mk (below_step qB_ hb); (try clear hb); (try clear hb2); (try clear hk); (try clear hi); (try clear ho0); obtain ⟨Ao38, co38, eo38⟩ := Kd.R_slice HO296.out; subst eo38))
               go_roundg k3
               case measure => have := HK1.out; have := HK2.out; have := HK3.out; omega
               case rel => exact ⟨(wrap64 (x8_3 + 1)), qe_, H', ⟨by have := HK1.out; have := HK2.out; have := HK3.out; omega⟩, ⟨by (with_reducible repeat (first | apply Kd.S_alloc | apply Kd.S_drewN | apply Kd.S_drew)); exact Kd.S_mono HO_293001.out (fun _ hk => trivial)⟩, ⟨qk_ BK279⟩, ⟨qk_ BK292⟩, ⟨qB_⟩⟩
             ·rw [if_neg c29] at H
              have c29b0 : decide (1 < (t294.length : Int)) = false := decide_eq_false c29
              have c29b1 : decide (1 < t294.length) = false := decide_eq_false (by omega)
              clear c29; have H' := Aside0.mk H; clear H; have hnb39 := NB292_279.out; have hnc39 := NB279_292.out
              obtain ⟨hcz40_0, hcz40_1, hfz40_0, hfz40_1⟩ := bc2_ BK292
              have p293 : 0 ≤ (x8_3 : Int) := of_decide_eq_true qa_
              have q293 : x8_3 < (t288.length : Int) := of_decide_eq_true qa_
              obtain ⟨ad293, A293_0, c293_0, e293, hx293_0, hl293_0, hi293_0⟩ := at_L5 (Kd.S_reads' HO_293001.out).2.2 x8_3 p293 q293
              cases e293
              obtain ⟨ce293, hce293, hMe293, hcc293⟩ := Kd.S_get HO_293001.out [] x8_3 p293 (by first | exact q293 | exact of_decide_eq_true qa_ | (have e_ := (Kd.S_reads' HO_293001.out).1; omega))
              obtain ⟨ve293_0, rfl, ge293_0⟩ := hMe293
              have hv293_0 := hcc293 0 _ rfl
              rw [Nat.add_zero, show ((Kd.slice 3 (Kd.int .i64))).sz = 1 from rfl, Nat.mul_one] at hv293_0
              replace hv293_0 := Option.some.inj (hv293_0.symm.trans hx293_0)
              rw [hv293_0] at ge293_0
              have HL293_0 := Aside0.mk (show Kd.R (Kd.int .i64) 3 _ _ _ _ (rd_L5 t288 x8_3) from ge293_0)
              clear hv293_0 ge293_0; clear hcc293 hce293
              have HR293_0 := Aside0.mk hi293_0
              have HC293_0 := Aside0.mk hl293_0
              clear hi293_0 hl293_0; replace p293 := eq_true p293; replace q293 := eq_true q293
              go_wp2_with (first | ((with_reducible refine gate_callee (f := 59) rfl ?_); refine gl_ (some 57) Try.func59 #[.slice A293_0 (rd_L5 t288 x8_3).length c293_0] ?_; (with_reducible refine (spec_VertsOf.calls k3 _ _ (rd_L5 t288 x8_3) t294 _ ?side1 ?side2 A28.out).mono ?_); (case side1 => repeat (first | exact (by repeat (first | (with_reducible exact HR293_0.out) | (with_reducible refine Kd.C_alloc ?_ _) | (with_reducible refine Kd.C_drewN ?_ _) | (with_reducible refine Kd.C_drew ?_) | exact HR293_0.out)) | (with_reducible refine Kd.C_alloc ?_ _) | (with_reducible refine Kd.C_drewN ?_ _) | (with_reducible refine Kd.C_drew ?_))); (case side2 => exact HC293_0.out); rintro e w41 ⟨v295, rfl, ho0, hb⟩; refine ⟨_, rfl, ?_⟩; have HO296 := Aside0.mk (Kd.R_lower (Kd.R_new' ho0 (Kd.R_lt (qR_ HL293_0))) (below_size qB_)); replace HO_293001 := Aside0.mk (Kd.S_elder' (qS_ HO_293001) (Kd.R_base ho0) hb); replace HL293_0 := Aside0.mk (Kd.R_elder' (qR_ HL293_0) (Kd.R_base ho0) hb); replace BK279 := Aside0.mk (blk_below (qk_ BK279) hb); replace BK292 := Aside0.mk (blk_below (qk_ BK292) hb); replace HR293_0 := Aside0.mk (Kd.C_below (by repeat (first | (with_reducible exact HR293_0.out) | (with_reducible refine Kd.C_alloc ?_ _) | (with_reducible refine Kd.C_drewN ?_ _) | (with_reducible refine Kd.C_drew ?_) | exact HR293_0.out)) hb); replace HB := Aside0.mk (below_step qB_ hb); (try clear hb); (try clear hb2); (try clear hk); (try clear hi); (try clear ho0); obtain ⟨Ao42, co42, eo42⟩ := Kd.R_slice HO296.out; subst eo42))
              go_roundg k3
              case measure => have := HK1.out; have := HK2.out; have := HK3.out; omega
              case rel => exact ⟨(wrap64 (x8_3 + 1)), qe_, H', ⟨by have := HK1.out; have := HK2.out; have := HK3.out; omega⟩, ⟨by (with_reducible repeat (first | apply Kd.S_alloc | apply Kd.S_drewN | apply Kd.S_drew)); exact Kd.S_mono HO_293001.out (fun _ hk => trivial)⟩, ⟨qk_ BK279⟩, ⟨qk_ BK292⟩, ⟨qB_⟩⟩
            ·rw [if_neg c27] at H
             exact absurd H (by simp)
           ·rw [if_neg c26] at H
            have c26b0 : decide (x8_3 < (t288.length : Int)) = false := decide_eq_false c26
            clear c26; have H' := Aside0.mk H; clear H; have hnb43 := NB292_279.out; have hnc43 := NB279_292.out
            obtain ⟨hcz44_0, hcz44_1, hfz44_0, hfz44_1⟩ := bc2_ BK292
            go_wp2
            go_loopg [10] k3 (fun kq v10 w' => ∃ (x10_4 : Int), v10 = .int .i64 x10_4 ∧ Aside0 (spec_WebOk.l3 kq x4_2 x5_2 x10_4 a0_0 l0_1 t287 t288 = some r) ∧ Aside0 (kq ≤ k3) ∧ Aside0 (Kd.S (Kd.slice 3 (Kd.int .i64)) 51 w' w.heap.size (fun _ => True) (.slice Ao25 t288.length co25) t288) ∧ Aside0 (w'.heap[gb279]? = some (.cells #[.int .i64 a0_0, (.slice A0_1 l0_1.length c0_1)] 29 (0, 0))) ∧ Aside0 (w'.heap[gb292]? = some (.cells #[.int .i64 t287, (.slice Ao25 t288.length co25)] 39 (0, 0))) ∧ Aside0 (Below w.heap.size w w'))
            case atStart => exact ⟨(0), qe_, H', ⟨Nat.le_refl _⟩, ⟨by (with_reducible repeat (first | apply Kd.S_alloc | apply Kd.S_drewN | apply Kd.S_drew)); first | exact HO_293001.out | (have h_ := HO_293001.out; simp only [own_slice] at h_ ⊢; exact h_)⟩, ⟨qk_ BK279⟩, ⟨qk_ BK292⟩, ⟨qB_⟩⟩
            case round =>
             clear H'
             (try clear c1); (try clear c2); (try clear p2); (try clear q2); (try clear hx2); (try clear c3); (try clear c4); (try clear c5); (try clear p6); (try clear c10); (try clear c10b0); (try clear c11); (try clear c11b0); (try clear c13); (try clear c14); (try clear c17); (try clear c17b0); (try clear c19); (try clear c23); (try clear c26); (try clear c26b0); (try clear c27); (try clear c27b0); (try clear p28); (try clear q28); (try clear hx28); (try clear c29); (try clear c29b0); (try clear c29b1); (try clear p29); (try clear q29); (try clear hx29); (try clear c30); (try clear c30b0); (try clear c31); (try clear c35); (try clear c39); (try clear c43); (try clear hcz14_0); (try clear hcz14_1); (try clear hcz15_0); (try clear hcz15_1); (try clear hcz16_0); (try clear hcz16_1); (try clear hcz20_0); (try clear hcz20_1); (try clear hcz24_0); (try clear hcz24_1); (try clear hcz32_0); (try clear hcz32_1); (try clear hcz36_0); (try clear hcz36_1); (try clear hcz40_0); (try clear hcz40_1); (try clear hcz44_0); (try clear hcz44_1); (try clear hcz6_0); (try clear hcz6_1); (try clear hfz14_0); (try clear hfz14_1); (try clear hfz15_0); (try clear hfz15_1); (try clear hfz16_0); (try clear hfz16_1); (try clear hfz20_0); (try clear hfz20_1); (try clear hfz24_0); (try clear hfz24_1); (try clear hfz32_0); (try clear hfz32_1); (try clear hfz36_0); (try clear hfz36_1); (try clear hfz40_0); (try clear hfz40_1); (try clear hfz44_0); (try clear hfz44_1); (try clear hfz6_0); (try clear hfz6_1); (try clear hx285_0); (try clear hx285_1); (try clear hx285_2); (try clear hx285_3); (try clear hx293_0); (try clear p2); (try clear p285); (try clear p293); (try clear p6); (try clear q2); (try clear q285); (try clear q293)
             obtain ⟨x10_4, rfl, HA, HK4, HO_293001, BK279, BK292, HB⟩ := hrel
             cases gk with
             | zero => exact absurd HA.out (by simp [spec_WebOk.l3])
             | succ k4 =>
              have H := HA.out; clear HA
              simp only [spec_WebOk.l3] at H
              by_cases c45 : x10_4 < (l0_1.length : Int)
              ·rw [if_pos c45] at H
               have c45b0 : decide (x10_4 < (l0_1.length : Int)) = true := decide_eq_true c45
               clear c45
               by_cases c46 : 0 ≤ x10_4
               ·rw [if_pos c46] at H
                have c46b0 : decide (0 ≤ x10_4) = true := decide_eq_true c46
                clear c46
                obtain ⟨bq47, hbq47⟩ : ∃ b_ : Bool, b_ = ((rd_T72 l0_1 x10_4).f3) := ⟨_, rfl⟩
                replace H : (if (bq47 = true) then (spec_WebOk.l3 k4 x4_2 x5_2 (wrap64 (x10_4 + 1)) a0_0 l0_1 t287 t288) else (if ((rd_T72 l0_1 x10_4).f2) = x5_2 then ((spec_TreeOf.f k4 t287 t288 ((rd_T72 l0_1 x10_4).f0)).bind fun t299 => ((spec_TreeOf.f k4 t287 t288 ((rd_T72 l0_1 x10_4).f1)).bind fun t300 => (if t299 = t300 then (spec_WebOk.l3 k4 x4_2 x5_2 (wrap64 (x10_4 + 1)) a0_0 l0_1 t287 t288) else (some false)))) else (spec_WebOk.l3 k4 x4_2 x5_2 (wrap64 (x10_4 + 1)) a0_0 l0_1 t287 t288))) = some r := by rw [← hbq47] at H; exact H
                have Nbq47 := Aside0.mk hbq47
                clear hbq47
                by_cases c48 : (bq47 = true)
                ·subst c48
                 rw [if_pos rfl] at H; have H' := Aside0.mk H; clear H; have hnb49 := NB279_292.out; have hnc49 := NB292_279.out
                 obtain ⟨hcz50_0, hcz50_1, hfz50_0, hfz50_1⟩ := bc2_ BK279
                 have p297 : 0 ≤ (x10_4 : Int) := of_decide_eq_true qa_
                 have q297 : x10_4 < (l0_1.length : Int) := of_decide_eq_true qa_
                 obtain ⟨ad297, e297, hx297_0, hx297_1, hx297_2, hx297_3⟩ := at_T72 HR0_1.out x10_4 p297 q297
                 (try rw [← Nbq47.out] at hx297_3)
                 cases e297
                 replace hx297_0 := (HB.out.cell (World.block_lt_of_cell? w _ hx297_0)).trans hx297_0
                 replace hx297_1 := (HB.out.cell (World.block_lt_of_cell? w _ hx297_1)).trans hx297_1
                 replace hx297_2 := (HB.out.cell (World.block_lt_of_cell? w _ hx297_2)).trans hx297_2
                 replace hx297_3 := (HB.out.cell (World.block_lt_of_cell? w _ hx297_3)).trans hx297_3
                 replace p297 := eq_true p297; replace q297 := eq_true q297
                 try go_wp2_with (first | ((with_reducible refine gate_dst (N := 11) rfl ?_); refine bx_ 11 (cs := #[.int .i64 0, .int .i64 0, .int .i64 0, .bool false]) (t := 72) ?_; intro gb298 hg w51 hbox hb; have BK298 := Aside0.mk (hbox); have GW298 := Aside0.mk ((qs_ : w.heap.size ≤ gb298)); have GE298 := Aside0.mk ((qs_ : w.heap.size ≤ gb298)); have NB279_298 := Aside0.mk ((by rw [hg]; exact Nat.ne_of_lt (blk_lt (qk_ BK279)) : gb279 ≠ gb298)); have NB298_279 := Aside0.mk ((by rw [hg]; exact Nat.ne_of_gt (blk_lt (qk_ BK279)) : gb298 ≠ gb279)); have NB292_298 := Aside0.mk ((by rw [hg]; exact Nat.ne_of_lt (blk_lt (qk_ BK292)) : gb292 ≠ gb298)); have NB298_292 := Aside0.mk ((by rw [hg]; exact Nat.ne_of_gt (blk_lt (qk_ BK292)) : gb298 ≠ gb292)); replace HO_293001 := Aside0.mk (Kd.S_below (qS_ HO_293001) hb); replace BK279 := Aside0.mk (blk_below (qk_ BK279) hb); replace BK292 := Aside0.mk (blk_below (qk_ BK292) hb); replace HB := Aside0.mk (below_step qB_ hb); clear hb hbox hg; have hnb52 := NB298_279.out; have hnc52 := NB279_298.out; have hnb53 := NB298_292.out; have hnc53 := NB292_298.out; obtain ⟨hcz54_0, hcz54_1, hcz54_2, hcz54_3, hfz54_0, hfz54_1, hfz54_2, hfz54_3⟩ := bc4_ BK298))
                 have n0_ : Aside0 (Kd.S (Kd.slice 3 (Kd.int .i64)) 51 ((((w51.setCell ⟨gb298, 0, none⟩ (.int .i64 ((rd_T72 l0_1 x10_4).f0))).setCell ⟨gb298, 1, none⟩ (.int .i64 ((rd_T72 l0_1 x10_4).f1))).setCell ⟨gb298, 2, none⟩ (.int .i64 ((rd_T72 l0_1 x10_4).f2))).setCell ⟨gb298, 3, none⟩ (.bool true)) w.heap.size (fun _ => True) (.slice Ao25 t288.length co25) t288) := ⟨by (with_reducible repeat (first | apply Kd.S_alloc | apply Kd.S_drewN | apply Kd.S_drew)); exact Kd.S_mono (Kd.S_far (p := ⟨gb298, 3, none⟩) (Kd.S_far (p := ⟨gb298, 2, none⟩) (Kd.S_far (p := ⟨gb298, 1, none⟩) (Kd.S_far (p := ⟨gb298, 0, none⟩) (Kd.S_types HO_293001.out BK298.out (by decide)) (fun _ hk => hk.2) (.int .i64 ((rd_T72 l0_1 x10_4).f0))) (fun _ hk => hk.2) (.int .i64 ((rd_T72 l0_1 x10_4).f1))) (fun _ hk => hk.2) (.int .i64 ((rd_T72 l0_1 x10_4).f2))) (fun _ hk => hk.2) (.bool true)) (fun _ hk => trivial)⟩
                 have n1_ : Aside0 (((((w51.setCell ⟨gb298, 0, none⟩ (.int .i64 ((rd_T72 l0_1 x10_4).f0))).setCell ⟨gb298, 1, none⟩ (.int .i64 ((rd_T72 l0_1 x10_4).f1))).setCell ⟨gb298, 2, none⟩ (.int .i64 ((rd_T72 l0_1 x10_4).f2))).setCell ⟨gb298, 3, none⟩ (.bool true)).heap[gb279]? = some (.cells #[.int .i64 a0_0, .slice (some ad297) l0_1.length c0_1] 29 (0, 0))) := ⟨by (with_reducible repeat (first | refine blk_drewN ?_ _ | refine blk_drew ?_ | refine blk_alloc ?_ _)); refine blk_far ?_ NB279_298.out _; (with_reducible repeat (first | refine blk_drewN ?_ _ | refine blk_drew ?_ | refine blk_alloc ?_ _)); refine blk_far ?_ NB279_298.out _; (with_reducible repeat (first | refine blk_drewN ?_ _ | refine blk_drew ?_ | refine blk_alloc ?_ _)); refine blk_far ?_ NB279_298.out _; (with_reducible repeat (first | refine blk_drewN ?_ _ | refine blk_drew ?_ | refine blk_alloc ?_ _)); refine blk_far ?_ NB279_298.out _; (with_reducible repeat (first | refine blk_drewN ?_ _ | refine blk_drew ?_ | refine blk_alloc ?_ _)); exact BK279.out⟩
                 have n2_ : Aside0 (((((w51.setCell ⟨gb298, 0, none⟩ (.int .i64 ((rd_T72 l0_1 x10_4).f0))).setCell ⟨gb298, 1, none⟩ (.int .i64 ((rd_T72 l0_1 x10_4).f1))).setCell ⟨gb298, 2, none⟩ (.int .i64 ((rd_T72 l0_1 x10_4).f2))).setCell ⟨gb298, 3, none⟩ (.bool true)).heap[gb292]? = some (.cells #[.int .i64 t287, .slice Ao25 t288.length co25] 39 (0, 0))) := ⟨by (with_reducible repeat (first | refine blk_drewN ?_ _ | refine blk_drew ?_ | refine blk_alloc ?_ _)); refine blk_far ?_ NB292_298.out _; (with_reducible repeat (first | refine blk_drewN ?_ _ | refine blk_drew ?_ | refine blk_alloc ?_ _)); refine blk_far ?_ NB292_298.out _; (with_reducible repeat (first | refine blk_drewN ?_ _ | refine blk_drew ?_ | refine blk_alloc ?_ _)); refine blk_far ?_ NB292_298.out _; (with_reducible repeat (first | refine blk_drewN ?_ _ | refine blk_drew ?_ | refine blk_alloc ?_ _)); refine blk_far ?_ NB292_298.out _; (with_reducible repeat (first | refine blk_drewN ?_ _ | refine blk_drew ?_ | refine blk_alloc ?_ _)); exact BK292.out⟩
                 have n3_ : Aside0 (((((w51.setCell ⟨gb298, 0, none⟩ (.int .i64 ((rd_T72 l0_1 x10_4).f0))).setCell ⟨gb298, 1, none⟩ (.int .i64 ((rd_T72 l0_1 x10_4).f1))).setCell ⟨gb298, 2, none⟩ (.int .i64 ((rd_T72 l0_1 x10_4).f2))).setCell ⟨gb298, 3, none⟩ (.bool true)).heap[gb298]? = some (.cells #[.int .i64 ((rd_T72 l0_1 x10_4).f0), .int .i64 ((rd_T72 l0_1 x10_4).f1), .int .i64 ((rd_T72 l0_1 x10_4).f2), .bool true] 72 (0, 0))) := ⟨by (with_reducible repeat (first | refine blk_drewN ?_ _ | refine blk_drew ?_ | refine blk_alloc ?_ _)); refine blk_put (cs := #[.int .i64 ((rd_T72 l0_1 x10_4).f0), .int .i64 ((rd_T72 l0_1 x10_4).f1), .int .i64 ((rd_T72 l0_1 x10_4).f2), .bool false]) ?_ 3 _ rfl; (with_reducible repeat (first | refine blk_drewN ?_ _ | refine blk_drew ?_ | refine blk_alloc ?_ _)); refine blk_put (cs := #[.int .i64 ((rd_T72 l0_1 x10_4).f0), .int .i64 ((rd_T72 l0_1 x10_4).f1), .int .i64 0, .bool false]) ?_ 2 _ rfl; (with_reducible repeat (first | refine blk_drewN ?_ _ | refine blk_drew ?_ | refine blk_alloc ?_ _)); refine blk_put (cs := #[.int .i64 ((rd_T72 l0_1 x10_4).f0), .int .i64 0, .int .i64 0, .bool false]) ?_ 1 _ rfl; (with_reducible repeat (first | refine blk_drewN ?_ _ | refine blk_drew ?_ | refine blk_alloc ?_ _)); refine blk_put (cs := #[.int .i64 0, .int .i64 0, .int .i64 0, .bool false]) ?_ 0 _ rfl; (with_reducible repeat (first | refine blk_drewN ?_ _ | refine blk_drew ?_ | refine blk_alloc ?_ _)); exact BK298.out⟩
                 have n4_ : Aside0 (Below w.heap.size w ((((w51.setCell ⟨gb298, 0, none⟩ (.int .i64 ((rd_T72 l0_1 x10_4).f0))).setCell ⟨gb298, 1, none⟩ (.int .i64 ((rd_T72 l0_1 x10_4).f1))).setCell ⟨gb298, 2, none⟩ (.int .i64 ((rd_T72 l0_1 x10_4).f2))).setCell ⟨gb298, 3, none⟩ (.bool true))) := ⟨qB_⟩
                 (try clear HO_293001); (try clear BK279); (try clear BK292); (try clear BK298); (try clear HB)
                 generalize ((((w51.setCell ⟨gb298, 0, none⟩ (.int .i64 ((rd_T72 l0_1 x10_4).f0))).setCell ⟨gb298, 1, none⟩ (.int .i64 ((rd_T72 l0_1 x10_4).f1))).setCell ⟨gb298, 2, none⟩ (.int .i64 ((rd_T72 l0_1 x10_4).f2))).setCell ⟨gb298, 3, none⟩ (.bool true)) = w55 at n0_ n1_ n2_ n3_ n4_ ⊢
                 have HO_293001 := n0_; have BK279 := n1_; have BK292 := n2_; have BK298 := n3_; have HB := n4_; clear n0_ n1_ n2_ n3_ n4_
                 have n0_ := Aside0.mk (Kd.S_drew HO_293001.out)
                 have n1_ := Aside0.mk (blk_drew BK279.out)
                 have n2_ := Aside0.mk (blk_drew BK292.out)
                 have n3_ := Aside0.mk (blk_drew BK298.out)
                 have n4_ := Aside0.mk (below_drew1 HB.out)
                 clear HO_293001; clear BK279; clear BK292; clear BK298; clear HB; have HO_293001 := n0_; have BK279 := n1_; have BK292 := n2_; have BK298 := n3_; have HB := n4_; clear n0_ n1_ n2_ n3_ n4_
                 refine start_ (n := 20) (S := fun w' => w'.cell? ⟨gb298, 0, none⟩ = some (.int .i64 ((rd_T72 l0_1 x10_4).f0)) ∧ w'.cell? ⟨gb298, 1, none⟩ = some (.int .i64 ((rd_T72 l0_1 x10_4).f1)) ∧ w'.cell? ⟨gb298, 2, none⟩ = some (.int .i64 ((rd_T72 l0_1 x10_4).f2)) ∧ w'.cell? ⟨gb298, 3, none⟩ = some (.bool true)) (ds := []) (bm 20 0) (by kernel_rfl) rfl (by kernel_rfl) ⟨(blk_cell BK298.out 0).trans rfl, (blk_cell BK298.out 1).trans rfl, (blk_cell BK298.out 2).trans rfl, (blk_cell BK298.out 3).trans rfl⟩ (fun hHeld => ?_); refine with_tabW spec_WebOk.tab25 spec_WebOk.bits25 (fun HT_ HW_ => ?_)
                 generalize w55.drew = w56 at HO_293001 BK279 BK292 BK298 HB hHeld ⊢
                 refine pz_ 0 78 (bm 20 1) ?_; refine tz4_ 1 79 (bm 20 3) ?_; refine pz_ 2 80 (bm 20 7) ?_; refine pz_ 3 81 (bm 20 15) ?_
                 refine pure_ (i := 4) (N := some 82) (v := undef) (a' := ?_) (bm 20 31) rfl rfl (any_of HT_.out (by kernel_rfl)) (fun _ _ _ h => h) (Or.inr ⟨by rfl, rfl⟩) ?_ ?_
                 rotate_left
                 ·simp only [Act.put, List.setIfInBounds_toArray, List.set_cons_zero, List.set_cons_succ, i64_w, i32_w]
                  rfl
                 refine pure_ (i := 5) (N := some 83) (v := undef) (a' := ?_) (bm 20 63) rfl rfl (any_of HT_.out (by kernel_rfl)) (fun _ _ _ h => h) (Or.inr ⟨by rfl, rfl⟩) ?_ ?_
                 rotate_left
                 ·simp only [Act.put, List.setIfInBounds_toArray, List.set_cons_zero, List.set_cons_succ, i64_w, i32_w]
                  rfl
                 refine pure_ (i := 6) (N := some 84) (v := undef) (a' := ?_) (bm 20 127) rfl rfl (any_of HT_.out (by kernel_rfl)) (fun _ _ _ h => h) (Or.inr ⟨by rfl, rfl⟩) ?_ ?_
                 rotate_left
                 ·simp only [Act.put, List.setIfInBounds_toArray, List.set_cons_zero, List.set_cons_succ, i64_w, i32_w]
                  rfl
                 refine pure_ (i := 7) (N := some 85) (v := undef) (a' := ?_) (bm 20 255) rfl rfl (any_of HT_.out (by kernel_rfl)) (fun _ _ _ h => h) (Or.inr ⟨by rfl, rfl⟩) ?_ ?_
                 rotate_left
                 ·simp only [Act.put, List.setIfInBounds_toArray, List.set_cons_zero, List.set_cons_succ, i64_w, i32_w]
                  rfl
                 refine pz_ 8 86 (bm 20 511) ?_; refine pz_ 9 87 (bm 20 1023) ?_
                 refine pure_ (i := 10) (N := some 88) (v := undef) (a' := ?_) (bm 20 2047) rfl rfl (any_of HT_.out (by kernel_rfl)) (fun _ _ _ h => h) (Or.inr ⟨by rfl, rfl⟩) ?_ ?_
                 rotate_left
                 ·simp only [Act.put, List.setIfInBounds_toArray, List.set_cons_zero, List.set_cons_succ, i64_w, i32_w]
                  rfl
                 refine pure_ (i := 11) (N := some 89) (v := undef) (a' := ?_) (bm 20 4095) rfl rfl (any_of HT_.out (by kernel_rfl)) (fun _ _ _ h => h) (Or.inr ⟨by rfl, rfl⟩) ?_ ?_
                 rotate_left
                 ·simp only [Act.put, List.setIfInBounds_toArray, List.set_cons_zero, List.set_cons_succ, i64_w, i32_w]
                  rfl
                 refine pure_ (i := 12) (N := some 90) (v := undef) (a' := ?_) (bm 20 8191) rfl rfl (any_of HT_.out (by kernel_rfl)) (fun _ _ _ h => h) (Or.inr ⟨by rfl, rfl⟩) ?_ ?_
                 rotate_left
                 ·simp only [Act.put, List.setIfInBounds_toArray, List.set_cons_zero, List.set_cons_succ, i64_w, i32_w]
                  rfl
                 refine pure_ (i := 13) (N := some 91) (v := undef) (a' := ?_) (bm 20 16383) rfl rfl (any_of HT_.out (by kernel_rfl)) (fun _ _ _ h => h) (Or.inr ⟨by rfl, rfl⟩) ?_ ?_
                 rotate_left
                 ·simp only [Act.put, List.setIfInBounds_toArray, List.set_cons_zero, List.set_cons_succ, i64_w, i32_w]
                  rfl
                 refine pure_ (i := 14) (N := some 92) (v := undef) (a' := ?_) (bm 20 32767) rfl rfl (any_of HT_.out (by kernel_rfl)) (fun _ _ _ h => h) (Or.inr ⟨by rfl, rfl⟩) ?_ ?_
                 rotate_left
                 ·simp only [Act.put, List.setIfInBounds_toArray, List.set_cons_zero, List.set_cons_succ, i64_w, i32_w]
                  rfl
                 refine pure_ (i := 15) (N := some 93) (v := undef) (a' := ?_) (bm 20 65535) rfl rfl (any_of HT_.out (by kernel_rfl)) (fun _ _ _ h => h) (Or.inr ⟨by rfl, rfl⟩) ?_ ?_
                 rotate_left
                 ·simp only [Act.put, List.setIfInBounds_toArray, List.set_cons_zero, List.set_cons_succ, i64_w, i32_w]
                  rfl
                 refine pure_ (i := 16) (N := some 94) (v := undef) (a' := ?_) (bm 20 131071) rfl rfl (any_of HT_.out (by kernel_rfl)) (fun _ _ _ h => h) (Or.inr ⟨by rfl, rfl⟩) ?_ ?_
                 rotate_left
                 ·simp only [Act.put, List.setIfInBounds_toArray, List.set_cons_zero, List.set_cons_succ, i64_w, i32_w]
                  rfl
                 refine pure_ (i := 17) (N := some 95) (v := undef) (a' := ?_) (bm 20 262143) rfl rfl (any_of HT_.out (by kernel_rfl)) (fun _ _ _ h => h) (Or.inr ⟨by rfl, rfl⟩) ?_ ?_
                 rotate_left
                 ·simp only [Act.put, List.setIfInBounds_toArray, List.set_cons_zero, List.set_cons_succ, i64_w, i32_w]
                  rfl
                 refine pure_ (i := 18) (N := some 96) (v := undef) (a' := ?_) (bm 20 524287) rfl rfl (any_of HT_.out (by kernel_rfl)) (fun _ _ _ h => h) (Or.inr ⟨by rfl, rfl⟩) ?_ ?_
                 rotate_left
                 ·simp only [Act.put, List.setIfInBounds_toArray, List.set_cons_zero, List.set_cons_succ, i64_w, i32_w]
                  rfl
                 refine pz_ 19 97 (bm 20 1048575) ?_
                 refine done_ (done_of HT_.out (by kernel_rfl)) ?_
                 try go_wp2
                 go_roundg k4
                 case measure => have := HK1.out; have := HK2.out; have := HK3.out; have := HK4.out; omega
                 case rel => exact ⟨(wrap64 (x10_4 + 1)), qe_, H', ⟨by have := HK1.out; have := HK2.out; have := HK3.out; have := HK4.out; omega⟩, ⟨by (with_reducible repeat (first | apply Kd.S_alloc | apply Kd.S_drewN | apply Kd.S_drew)); first | exact HO_293001.out | (have h_ := HO_293001.out; simp only [own_slice] at h_ ⊢; exact h_)⟩, ⟨qk_ BK279⟩, ⟨qk_ BK292⟩, ⟨qB_⟩⟩
                ·replace c48 := Bool.eq_false_iff.mpr c48
                 subst c48
                 rw [if_neg (show ¬ (false = true) by decide)] at H
                 by_cases c57 : ((rd_T72 l0_1 x10_4).f2) = x5_2
                 ·rw [if_pos c57] at H
                  have c57b0 : (((rd_T72 l0_1 x10_4).f2) == x5_2) = true := beq_iff_eq.mpr c57
                  have c57b1 : (((rd_T72 l0_1 x10_4).f2) != x5_2) = false := bne_eq_false_iff_eq.mpr c57
                  clear c57
                  obtain ⟨t299, A580, H⟩ := Option.bind_eq_some_iff.mp H; have A58 := Aside0.mk A580; clear A580
                  obtain ⟨t300, A590, H⟩ := Option.bind_eq_some_iff.mp H; have A59 := Aside0.mk A590; clear A590
                  by_cases c60 : t299 = t300
                  ·rw [if_pos c60] at H
                   have c60b0 : (t299 == t300) = true := beq_iff_eq.mpr c60
                   have c60b1 : (t299 != t300) = false := bne_eq_false_iff_eq.mpr c60
                   clear c60; have H' := Aside0.mk H; clear H; have hnb61 := NB279_292.out; have hnc61 := NB292_279.out
                   obtain ⟨hcz62_0, hcz62_1, hfz62_0, hfz62_1⟩ := bc2_ BK279
                   have p297 : 0 ≤ (x10_4 : Int) := of_decide_eq_true qa_
                   have q297 : x10_4 < (l0_1.length : Int) := of_decide_eq_true qa_
                   obtain ⟨ad297, e297, hx297_0, hx297_1, hx297_2, hx297_3⟩ := at_T72 HR0_1.out x10_4 p297 q297
                   (try rw [← Nbq47.out] at hx297_3)
                   cases e297
                   replace hx297_0 := (HB.out.cell (World.block_lt_of_cell? w _ hx297_0)).trans hx297_0
                   replace hx297_1 := (HB.out.cell (World.block_lt_of_cell? w _ hx297_1)).trans hx297_1
                   replace hx297_2 := (HB.out.cell (World.block_lt_of_cell? w _ hx297_2)).trans hx297_2
                   replace hx297_3 := (HB.out.cell (World.block_lt_of_cell? w _ hx297_3)).trans hx297_3
                   replace p297 := eq_true p297; replace q297 := eq_true q297
                   try go_wp2_with (first | ((with_reducible refine gate_dst (N := 11) rfl ?_); refine bx_ 11 (cs := #[.int .i64 0, .int .i64 0, .int .i64 0, .bool false]) (t := 72) ?_; intro gb298 hg w63 hbox hb; have BK298 := Aside0.mk (hbox); have GW298 := Aside0.mk ((qs_ : w.heap.size ≤ gb298)); have GE298 := Aside0.mk ((qs_ : w.heap.size ≤ gb298)); have NB279_298 := Aside0.mk ((by rw [hg]; exact Nat.ne_of_lt (blk_lt (qk_ BK279)) : gb279 ≠ gb298)); have NB298_279 := Aside0.mk ((by rw [hg]; exact Nat.ne_of_gt (blk_lt (qk_ BK279)) : gb298 ≠ gb279)); have NB292_298 := Aside0.mk ((by rw [hg]; exact Nat.ne_of_lt (blk_lt (qk_ BK292)) : gb292 ≠ gb298)); have NB298_292 := Aside0.mk ((by rw [hg]; exact Nat.ne_of_gt (blk_lt (qk_ BK292)) : gb298 ≠ gb292)); replace HO_293001 := Aside0.mk (Kd.S_below (qS_ HO_293001) hb); replace BK279 := Aside0.mk (blk_below (qk_ BK279) hb); replace BK292 := Aside0.mk (blk_below (qk_ BK292) hb); replace HB := Aside0.mk (below_step qB_ hb); clear hb hbox hg; have hnb64 := NB298_279.out; have hnc64 := NB279_298.out; have hnb65 := NB298_292.out; have hnc65 := NB292_298.out; obtain ⟨hcz66_0, hcz66_1, hcz66_2, hcz66_3, hfz66_0, hfz66_1, hfz66_2, hfz66_3⟩ := bc4_ BK298))
                   have n0_ : Aside0 (Kd.S (Kd.slice 3 (Kd.int .i64)) 51 ((((w63.setCell ⟨gb298, 0, none⟩ (.int .i64 ((rd_T72 l0_1 x10_4).f0))).setCell ⟨gb298, 1, none⟩ (.int .i64 ((rd_T72 l0_1 x10_4).f1))).setCell ⟨gb298, 2, none⟩ (.int .i64 ((rd_T72 l0_1 x10_4).f2))).setCell ⟨gb298, 3, none⟩ (.bool false)) w.heap.size (fun _ => True) (.slice Ao25 t288.length co25) t288) := ⟨by (with_reducible repeat (first | apply Kd.S_alloc | apply Kd.S_drewN | apply Kd.S_drew)); exact Kd.S_mono (Kd.S_far (p := ⟨gb298, 3, none⟩) (Kd.S_far (p := ⟨gb298, 2, none⟩) (Kd.S_far (p := ⟨gb298, 1, none⟩) (Kd.S_far (p := ⟨gb298, 0, none⟩) (Kd.S_types HO_293001.out BK298.out (by decide)) (fun _ hk => hk.2) (.int .i64 ((rd_T72 l0_1 x10_4).f0))) (fun _ hk => hk.2) (.int .i64 ((rd_T72 l0_1 x10_4).f1))) (fun _ hk => hk.2) (.int .i64 ((rd_T72 l0_1 x10_4).f2))) (fun _ hk => hk.2) (.bool false)) (fun _ hk => trivial)⟩
                   have n1_ : Aside0 (((((w63.setCell ⟨gb298, 0, none⟩ (.int .i64 ((rd_T72 l0_1 x10_4).f0))).setCell ⟨gb298, 1, none⟩ (.int .i64 ((rd_T72 l0_1 x10_4).f1))).setCell ⟨gb298, 2, none⟩ (.int .i64 ((rd_T72 l0_1 x10_4).f2))).setCell ⟨gb298, 3, none⟩ (.bool false)).heap[gb279]? = some (.cells #[.int .i64 a0_0, .slice (some ad297) l0_1.length c0_1] 29 (0, 0))) := ⟨by (with_reducible repeat (first | refine blk_drewN ?_ _ | refine blk_drew ?_ | refine blk_alloc ?_ _)); refine blk_far ?_ NB279_298.out _; (with_reducible repeat (first | refine blk_drewN ?_ _ | refine blk_drew ?_ | refine blk_alloc ?_ _)); refine blk_far ?_ NB279_298.out _; (with_reducible repeat (first | refine blk_drewN ?_ _ | refine blk_drew ?_ | refine blk_alloc ?_ _)); refine blk_far ?_ NB279_298.out _; (with_reducible repeat (first | refine blk_drewN ?_ _ | refine blk_drew ?_ | refine blk_alloc ?_ _)); refine blk_far ?_ NB279_298.out _; (with_reducible repeat (first | refine blk_drewN ?_ _ | refine blk_drew ?_ | refine blk_alloc ?_ _)); exact BK279.out⟩
                   have n2_ : Aside0 (((((w63.setCell ⟨gb298, 0, none⟩ (.int .i64 ((rd_T72 l0_1 x10_4).f0))).setCell ⟨gb298, 1, none⟩ (.int .i64 ((rd_T72 l0_1 x10_4).f1))).setCell ⟨gb298, 2, none⟩ (.int .i64 ((rd_T72 l0_1 x10_4).f2))).setCell ⟨gb298, 3, none⟩ (.bool false)).heap[gb292]? = some (.cells #[.int .i64 t287, .slice Ao25 t288.length co25] 39 (0, 0))) := ⟨by (with_reducible repeat (first | refine blk_drewN ?_ _ | refine blk_drew ?_ | refine blk_alloc ?_ _)); refine blk_far ?_ NB292_298.out _; (with_reducible repeat (first | refine blk_drewN ?_ _ | refine blk_drew ?_ | refine blk_alloc ?_ _)); refine blk_far ?_ NB292_298.out _; (with_reducible repeat (first | refine blk_drewN ?_ _ | refine blk_drew ?_ | refine blk_alloc ?_ _)); refine blk_far ?_ NB292_298.out _; (with_reducible repeat (first | refine blk_drewN ?_ _ | refine blk_drew ?_ | refine blk_alloc ?_ _)); refine blk_far ?_ NB292_298.out _; (with_reducible repeat (first | refine blk_drewN ?_ _ | refine blk_drew ?_ | refine blk_alloc ?_ _)); exact BK292.out⟩
                   have n3_ : Aside0 (((((w63.setCell ⟨gb298, 0, none⟩ (.int .i64 ((rd_T72 l0_1 x10_4).f0))).setCell ⟨gb298, 1, none⟩ (.int .i64 ((rd_T72 l0_1 x10_4).f1))).setCell ⟨gb298, 2, none⟩ (.int .i64 ((rd_T72 l0_1 x10_4).f2))).setCell ⟨gb298, 3, none⟩ (.bool false)).heap[gb298]? = some (.cells #[.int .i64 ((rd_T72 l0_1 x10_4).f0), .int .i64 ((rd_T72 l0_1 x10_4).f1), .int .i64 ((rd_T72 l0_1 x10_4).f2), .bool false] 72 (0, 0))) := ⟨by (with_reducible repeat (first | refine blk_drewN ?_ _ | refine blk_drew ?_ | refine blk_alloc ?_ _)); refine blk_put (cs := #[.int .i64 ((rd_T72 l0_1 x10_4).f0), .int .i64 ((rd_T72 l0_1 x10_4).f1), .int .i64 ((rd_T72 l0_1 x10_4).f2), .bool false]) ?_ 3 _ rfl; (with_reducible repeat (first | refine blk_drewN ?_ _ | refine blk_drew ?_ | refine blk_alloc ?_ _)); refine blk_put (cs := #[.int .i64 ((rd_T72 l0_1 x10_4).f0), .int .i64 ((rd_T72 l0_1 x10_4).f1), .int .i64 0, .bool false]) ?_ 2 _ rfl; (with_reducible repeat (first | refine blk_drewN ?_ _ | refine blk_drew ?_ | refine blk_alloc ?_ _)); refine blk_put (cs := #[.int .i64 ((rd_T72 l0_1 x10_4).f0), .int .i64 0, .int .i64 0, .bool false]) ?_ 1 _ rfl; (with_reducible repeat (first | refine blk_drewN ?_ _ | refine blk_drew ?_ | refine blk_alloc ?_ _)); refine blk_put (cs := #[.int .i64 0, .int .i64 0, .int .i64 0, .bool false]) ?_ 0 _ rfl; (with_reducible repeat (first | refine blk_drewN ?_ _ | refine blk_drew ?_ | refine blk_alloc ?_ _)); exact BK298.out⟩
                   have n4_ : Aside0 (Below w.heap.size w ((((w63.setCell ⟨gb298, 0, none⟩ (.int .i64 ((rd_T72 l0_1 x10_4).f0))).setCell ⟨gb298, 1, none⟩ (.int .i64 ((rd_T72 l0_1 x10_4).f1))).setCell ⟨gb298, 2, none⟩ (.int .i64 ((rd_T72 l0_1 x10_4).f2))).setCell ⟨gb298, 3, none⟩ (.bool false))) := ⟨qB_⟩
                   (try clear HO_293001); (try clear BK279); (try clear BK292); (try clear BK298); (try clear HB)
                   generalize ((((w63.setCell ⟨gb298, 0, none⟩ (.int .i64 ((rd_T72 l0_1 x10_4).f0))).setCell ⟨gb298, 1, none⟩ (.int .i64 ((rd_T72 l0_1 x10_4).f1))).setCell ⟨gb298, 2, none⟩ (.int .i64 ((rd_T72 l0_1 x10_4).f2))).setCell ⟨gb298, 3, none⟩ (.bool false)) = w67 at n0_ n1_ n2_ n3_ n4_ ⊢
                   have HO_293001 := n0_; have BK279 := n1_; have BK292 := n2_; have BK298 := n3_; have HB := n4_; clear n0_ n1_ n2_ n3_ n4_
                   have n0_ := Aside0.mk (Kd.S_drew HO_293001.out)
                   have n1_ := Aside0.mk (blk_drew BK279.out)
                   have n2_ := Aside0.mk (blk_drew BK292.out)
                   have n3_ := Aside0.mk (blk_drew BK298.out)
                   have n4_ := Aside0.mk (below_drew1 HB.out)
                   clear HO_293001; clear BK279; clear BK292; clear BK298; clear HB; have HO_293001 := n0_; have BK279 := n1_; have BK292 := n2_; have BK298 := n3_; have HB := n4_; clear n0_ n1_ n2_ n3_ n4_
                   refine start_ (n := 20) (S := fun w' => w'.cell? ⟨gb298, 0, none⟩ = some (.int .i64 ((rd_T72 l0_1 x10_4).f0)) ∧ w'.cell? ⟨gb298, 1, none⟩ = some (.int .i64 ((rd_T72 l0_1 x10_4).f1)) ∧ w'.cell? ⟨gb298, 2, none⟩ = some (.int .i64 ((rd_T72 l0_1 x10_4).f2)) ∧ w'.cell? ⟨gb298, 3, none⟩ = some (.bool false) ∧ w'.cell? ⟨gb292, 0, none⟩ = some (.int .i64 t287) ∧ w'.cell? ⟨gb292, 1, none⟩ = some (.slice Ao25 t288.length co25)) (ds := []) (bm 20 0) (by kernel_rfl) rfl (by kernel_rfl) ⟨(blk_cell BK298.out 0).trans rfl, (blk_cell BK298.out 1).trans rfl, (blk_cell BK298.out 2).trans rfl, (blk_cell BK298.out 3).trans rfl, (blk_cell BK292.out 0).trans rfl, (blk_cell BK292.out 1).trans rfl⟩ (fun hHeld => ?_); refine with_tabW spec_WebOk.tab25 spec_WebOk.bits25 (fun HT_ HW_ => ?_)
                   generalize w67.drew = w68 at HO_293001 BK279 BK292 BK298 HB hHeld ⊢
                   refine pz_ 0 78 (bm 20 1) ?_; refine tz6_ 1 79 (bm 20 3) ?_; refine pz_ 2 80 (bm 20 7) ?_; refine pz_ 3 81 (bm 20 15) ?_; refine pz_ 4 82 (bm 20 31) ?_; refine pz_ 6 84 (bm 20 95) ?_; refine tz6_ 5 83 (bm 20 127) ?_; refine pz_ 7 85 (bm 20 255) ?_; refine pz_ 8 86 (bm 20 511) ?_; refine pz_ 9 87 (bm 20 1023) ?_; refine pz_ 11 89 (bm 20 3071) ?_; refine pz_ 15 93 (bm 20 35839) ?_; refine tz6_ 10 88 (bm 20 36863) ?_; refine tz6_ 12 90 (bm 20 40959) ?_; refine tz6_ 14 92 (bm 20 57343) ?_; refine tz6_ 16 94 (bm 20 122879) ?_
                   refine one_ (i := 13) (N := some 91) (bm 20 131071) rfl rfl (one_of HT_.out (by kernel_rfl)) (by decide) (fun K hK => ?_)
                   refine goes_ Try.func60 (by kernel_rfl) rfl #[.agg #[.int .i64 t287, .slice Ao25 t288.length co25], .int .i64 ((rd_T72 l0_1 x10_4).f0)] (by rfl) rfl rfl (by (try simp only [List.map_toArray, List.map_cons, List.map_nil]); first | done | rfl | (simp only [List.length_drop, List.length_take]; rfl)) ?_
                   with_reducible refine (spec_TreeOf.calls k4 t287 _ _ t288 ((rd_T72 l0_1 x10_4).f0) t299 _ ?side1 ?side2 A58.out).mono ?_
                   (case side1 => exact qD_ (Kd.S_reads' HO_293001.out).2.2)
                   (case side2 => exact (Kd.S_reads' HO_293001.out).2.1)
                   rintro e w69 ⟨rfl, hb⟩
                   refine ⟨_, rfl, ?_⟩
                   have n0_ := Aside0.mk (Kd.S_below (qS_ HO_293001) hb)
                   have n1_ := Aside0.mk (blk_below (qk_ BK279) hb)
                   have n2_ := Aside0.mk (blk_below (qk_ BK292) hb)
                   have n3_ := Aside0.mk (blk_below (qk_ BK298) hb)
                   have n4_ := Aside0.mk (below_step qB_ hb)
                   clear HO_293001; clear BK279; clear BK292; clear BK298; clear HB; have HO_293001 := n0_; have BK279 := n1_; have BK292 := n2_; have BK298 := n3_; have HB := n4_; clear n0_ n1_ n2_ n3_ n4_; (try clear hb); (try clear hb2); (try clear hk); (try clear hi)
                   refine hK.out _ _ ⟨(blk_cell BK298.out 0).trans rfl, (blk_cell BK298.out 1).trans rfl, (blk_cell BK298.out 2).trans rfl, (blk_cell BK298.out 3).trans rfl, (blk_cell BK292.out 0).trans rfl, (blk_cell BK292.out 1).trans rfl⟩ (fun hHeld => ?_)
                   clear hK K
                   refine norm_ (a' := ?_) ?_ ?_
                   rotate_left
                   ·show Act.put _ (some 91) _ = _
                    simp only [Act.put, List.setIfInBounds_toArray, List.set_cons_zero, List.set_cons_succ, i64_w, i32_w]
                    rfl
                   refine one_ (i := 17) (N := some 95) (bm 20 262143) rfl rfl (one_of HT_.out (by kernel_rfl)) (by decide) (fun K hK => ?_)
                   refine goes_ Try.func60 (by kernel_rfl) rfl #[.agg #[.int .i64 t287, .slice Ao25 t288.length co25], .int .i64 ((rd_T72 l0_1 x10_4).f1)] (by rfl) rfl rfl (by (try simp only [List.map_toArray, List.map_cons, List.map_nil]); first | done | rfl | (simp only [List.length_drop, List.length_take]; rfl)) ?_
                   with_reducible refine (spec_TreeOf.calls k4 t287 _ _ t288 ((rd_T72 l0_1 x10_4).f1) t300 _ ?side1 ?side2 A59.out).mono ?_
                   (case side1 => exact qD_ (Kd.S_reads' HO_293001.out).2.2)
                   (case side2 => exact (Kd.S_reads' HO_293001.out).2.1)
                   rintro e w70 ⟨rfl, hb⟩
                   refine ⟨_, rfl, ?_⟩
                   have n0_ := Aside0.mk (Kd.S_below (qS_ HO_293001) hb)
                   have n1_ := Aside0.mk (blk_below (qk_ BK279) hb)
                   have n2_ := Aside0.mk (blk_below (qk_ BK292) hb)
                   have n3_ := Aside0.mk (blk_below (qk_ BK298) hb)
                   have n4_ := Aside0.mk (below_step qB_ hb)
                   clear HO_293001; clear BK279; clear BK292; clear BK298; clear HB; have HO_293001 := n0_; have BK279 := n1_; have BK292 := n2_; have BK298 := n3_; have HB := n4_; clear n0_ n1_ n2_ n3_ n4_; (try clear hb); (try clear hb2); (try clear hk); (try clear hi)
                   refine hK.out _ _ ⟨(blk_cell BK298.out 0).trans rfl, (blk_cell BK298.out 1).trans rfl, (blk_cell BK298.out 2).trans rfl, (blk_cell BK298.out 3).trans rfl, (blk_cell BK292.out 0).trans rfl, (blk_cell BK292.out 1).trans rfl⟩ (fun hHeld => ?_)
                   clear hK K
                   refine norm_ (a' := ?_) ?_ ?_
                   rotate_left
                   ·show Act.put _ (some 95) _ = _
                    simp only [Act.put, List.setIfInBounds_toArray, List.set_cons_zero, List.set_cons_succ, i64_w, i32_w]
                    rfl
                   refine pz_ 18 96 (bm 20 524287) ?_; refine pz_ 19 97 (bm 20 1048575) ?_
                   refine done_ (done_of HT_.out (by kernel_rfl)) ?_
                   try go_wp2
                   go_roundg k4
                   case measure => have := HK1.out; have := HK2.out; have := HK3.out; have := HK4.out; omega
                   case rel => exact ⟨(wrap64 (x10_4 + 1)), qe_, H', ⟨by have := HK1.out; have := HK2.out; have := HK3.out; have := HK4.out; omega⟩, ⟨by (with_reducible repeat (first | apply Kd.S_alloc | apply Kd.S_drewN | apply Kd.S_drew)); first | exact HO_293001.out | (have h_ := HO_293001.out; simp only [own_slice] at h_ ⊢; exact h_)⟩, ⟨qk_ BK279⟩, ⟨qk_ BK292⟩, ⟨qB_⟩⟩
                  ·rw [if_neg c60] at H
                   have c60b0 : (t299 == t300) = false := beq_eq_false_iff_ne.mpr c60
                   have c60b1 : (t299 != t300) = true := bne_iff_ne.mpr c60
                   obtain rfl := Option.some.inj H
                   have hnb71 := NB279_292.out; have hnc71 := NB292_279.out
                   obtain ⟨hcz72_0, hcz72_1, hfz72_0, hfz72_1⟩ := bc2_ BK279
                   have p297 : 0 ≤ (x10_4 : Int) := of_decide_eq_true qa_
                   have q297 : x10_4 < (l0_1.length : Int) := of_decide_eq_true qa_
                   obtain ⟨ad297, e297, hx297_0, hx297_1, hx297_2, hx297_3⟩ := at_T72 HR0_1.out x10_4 p297 q297
                   (try rw [← Nbq47.out] at hx297_3)
                   cases e297
                   replace hx297_0 := (HB.out.cell (World.block_lt_of_cell? w _ hx297_0)).trans hx297_0
                   replace hx297_1 := (HB.out.cell (World.block_lt_of_cell? w _ hx297_1)).trans hx297_1
                   replace hx297_2 := (HB.out.cell (World.block_lt_of_cell? w _ hx297_2)).trans hx297_2
                   replace hx297_3 := (HB.out.cell (World.block_lt_of_cell? w _ hx297_3)).trans hx297_3
                   replace p297 := eq_true p297; replace q297 := eq_true q297
                   try go_wp2_with (first | ((with_reducible refine gate_dst (N := 11) rfl ?_); refine bx_ 11 (cs := #[.int .i64 0, .int .i64 0, .int .i64 0, .bool false]) (t := 72) ?_; intro gb298 hg w73 hbox hb; have BK298 := Aside0.mk (hbox); have GW298 := Aside0.mk ((qs_ : w.heap.size ≤ gb298)); have GE298 := Aside0.mk ((qs_ : w.heap.size ≤ gb298)); have NB279_298 := Aside0.mk ((by rw [hg]; exact Nat.ne_of_lt (blk_lt (qk_ BK279)) : gb279 ≠ gb298)); have NB298_279 := Aside0.mk ((by rw [hg]; exact Nat.ne_of_gt (blk_lt (qk_ BK279)) : gb298 ≠ gb279)); have NB292_298 := Aside0.mk ((by rw [hg]; exact Nat.ne_of_lt (blk_lt (qk_ BK292)) : gb292 ≠ gb298)); have NB298_292 := Aside0.mk ((by rw [hg]; exact Nat.ne_of_gt (blk_lt (qk_ BK292)) : gb298 ≠ gb292)); replace HO_293001 := Aside0.mk (Kd.S_below (qS_ HO_293001) hb); replace BK279 := Aside0.mk (blk_below (qk_ BK279) hb); replace BK292 := Aside0.mk (blk_below (qk_ BK292) hb); replace HB := Aside0.mk (below_step qB_ hb); clear hb hbox hg; have hnb74 := NB298_279.out; have hnc74 := NB279_298.out; have hnb75 := NB298_292.out; have hnc75 := NB292_298.out; obtain ⟨hcz76_0, hcz76_1, hcz76_2, hcz76_3, hfz76_0, hfz76_1, hfz76_2, hfz76_3⟩ := bc4_ BK298))
                   have n0_ : Aside0 (Kd.S (Kd.slice 3 (Kd.int .i64)) 51 ((((w73.setCell ⟨gb298, 0, none⟩ (.int .i64 ((rd_T72 l0_1 x10_4).f0))).setCell ⟨gb298, 1, none⟩ (.int .i64 ((rd_T72 l0_1 x10_4).f1))).setCell ⟨gb298, 2, none⟩ (.int .i64 ((rd_T72 l0_1 x10_4).f2))).setCell ⟨gb298, 3, none⟩ (.bool false)) w.heap.size (fun _ => True) (.slice Ao25 t288.length co25) t288) := ⟨by (with_reducible repeat (first | apply Kd.S_alloc | apply Kd.S_drewN | apply Kd.S_drew)); exact Kd.S_mono (Kd.S_far (p := ⟨gb298, 3, none⟩) (Kd.S_far (p := ⟨gb298, 2, none⟩) (Kd.S_far (p := ⟨gb298, 1, none⟩) (Kd.S_far (p := ⟨gb298, 0, none⟩) (Kd.S_types HO_293001.out BK298.out (by decide)) (fun _ hk => hk.2) (.int .i64 ((rd_T72 l0_1 x10_4).f0))) (fun _ hk => hk.2) (.int .i64 ((rd_T72 l0_1 x10_4).f1))) (fun _ hk => hk.2) (.int .i64 ((rd_T72 l0_1 x10_4).f2))) (fun _ hk => hk.2) (.bool false)) (fun _ hk => trivial)⟩
                   have n1_ : Aside0 (((((w73.setCell ⟨gb298, 0, none⟩ (.int .i64 ((rd_T72 l0_1 x10_4).f0))).setCell ⟨gb298, 1, none⟩ (.int .i64 ((rd_T72 l0_1 x10_4).f1))).setCell ⟨gb298, 2, none⟩ (.int .i64 ((rd_T72 l0_1 x10_4).f2))).setCell ⟨gb298, 3, none⟩ (.bool false)).heap[gb279]? = some (.cells #[.int .i64 a0_0, .slice (some ad297) l0_1.length c0_1] 29 (0, 0))) := ⟨by (with_reducible repeat (first | refine blk_drewN ?_ _ | refine blk_drew ?_ | refine blk_alloc ?_ _)); refine blk_far ?_ NB279_298.out _; (with_reducible repeat (first | refine blk_drewN ?_ _ | refine blk_drew ?_ | refine blk_alloc ?_ _)); refine blk_far ?_ NB279_298.out _; (with_reducible repeat (first | refine blk_drewN ?_ _ | refine blk_drew ?_ | refine blk_alloc ?_ _)); refine blk_far ?_ NB279_298.out _; (with_reducible repeat (first | refine blk_drewN ?_ _ | refine blk_drew ?_ | refine blk_alloc ?_ _)); refine blk_far ?_ NB279_298.out _; (with_reducible repeat (first | refine blk_drewN ?_ _ | refine blk_drew ?_ | refine blk_alloc ?_ _)); exact BK279.out⟩
                   have n2_ : Aside0 (((((w73.setCell ⟨gb298, 0, none⟩ (.int .i64 ((rd_T72 l0_1 x10_4).f0))).setCell ⟨gb298, 1, none⟩ (.int .i64 ((rd_T72 l0_1 x10_4).f1))).setCell ⟨gb298, 2, none⟩ (.int .i64 ((rd_T72 l0_1 x10_4).f2))).setCell ⟨gb298, 3, none⟩ (.bool false)).heap[gb292]? = some (.cells #[.int .i64 t287, .slice Ao25 t288.length co25] 39 (0, 0))) := ⟨by (with_reducible repeat (first | refine blk_drewN ?_ _ | refine blk_drew ?_ | refine blk_alloc ?_ _)); refine blk_far ?_ NB292_298.out _; (with_reducible repeat (first | refine blk_drewN ?_ _ | refine blk_drew ?_ | refine blk_alloc ?_ _)); refine blk_far ?_ NB292_298.out _; (with_reducible repeat (first | refine blk_drewN ?_ _ | refine blk_drew ?_ | refine blk_alloc ?_ _)); refine blk_far ?_ NB292_298.out _; (with_reducible repeat (first | refine blk_drewN ?_ _ | refine blk_drew ?_ | refine blk_alloc ?_ _)); refine blk_far ?_ NB292_298.out _; (with_reducible repeat (first | refine blk_drewN ?_ _ | refine blk_drew ?_ | refine blk_alloc ?_ _)); exact BK292.out⟩
                   have n3_ : Aside0 (((((w73.setCell ⟨gb298, 0, none⟩ (.int .i64 ((rd_T72 l0_1 x10_4).f0))).setCell ⟨gb298, 1, none⟩ (.int .i64 ((rd_T72 l0_1 x10_4).f1))).setCell ⟨gb298, 2, none⟩ (.int .i64 ((rd_T72 l0_1 x10_4).f2))).setCell ⟨gb298, 3, none⟩ (.bool false)).heap[gb298]? = some (.cells #[.int .i64 ((rd_T72 l0_1 x10_4).f0), .int .i64 ((rd_T72 l0_1 x10_4).f1), .int .i64 ((rd_T72 l0_1 x10_4).f2), .bool false] 72 (0, 0))) := ⟨by (with_reducible repeat (first | refine blk_drewN ?_ _ | refine blk_drew ?_ | refine blk_alloc ?_ _)); refine blk_put (cs := #[.int .i64 ((rd_T72 l0_1 x10_4).f0), .int .i64 ((rd_T72 l0_1 x10_4).f1), .int .i64 ((rd_T72 l0_1 x10_4).f2), .bool false]) ?_ 3 _ rfl; (with_reducible repeat (first | refine blk_drewN ?_ _ | refine blk_drew ?_ | refine blk_alloc ?_ _)); refine blk_put (cs := #[.int .i64 ((rd_T72 l0_1 x10_4).f0), .int .i64 ((rd_T72 l0_1 x10_4).f1), .int .i64 0, .bool false]) ?_ 2 _ rfl; (with_reducible repeat (first | refine blk_drewN ?_ _ | refine blk_drew ?_ | refine blk_alloc ?_ _)); refine blk_put (cs := #[.int .i64 ((rd_T72 l0_1 x10_4).f0), .int .i64 0, .int .i64 0, .bool false]) ?_ 1 _ rfl; (with_reducible repeat (first | refine blk_drewN ?_ _ | refine blk_drew ?_ | refine blk_alloc ?_ _)); refine blk_put (cs := #[.int .i64 0, .int .i64 0, .int .i64 0, .bool false]) ?_ 0 _ rfl; (with_reducible repeat (first | refine blk_drewN ?_ _ | refine blk_drew ?_ | refine blk_alloc ?_ _)); exact BK298.out⟩
                   have n4_ : Aside0 (Below w.heap.size w ((((w73.setCell ⟨gb298, 0, none⟩ (.int .i64 ((rd_T72 l0_1 x10_4).f0))).setCell ⟨gb298, 1, none⟩ (.int .i64 ((rd_T72 l0_1 x10_4).f1))).setCell ⟨gb298, 2, none⟩ (.int .i64 ((rd_T72 l0_1 x10_4).f2))).setCell ⟨gb298, 3, none⟩ (.bool false))) := ⟨qB_⟩
                   (try clear HO_293001); (try clear BK279); (try clear BK292); (try clear BK298); (try clear HB)
                   generalize ((((w73.setCell ⟨gb298, 0, none⟩ (.int .i64 ((rd_T72 l0_1 x10_4).f0))).setCell ⟨gb298, 1, none⟩ (.int .i64 ((rd_T72 l0_1 x10_4).f1))).setCell ⟨gb298, 2, none⟩ (.int .i64 ((rd_T72 l0_1 x10_4).f2))).setCell ⟨gb298, 3, none⟩ (.bool false)) = w77 at n0_ n1_ n2_ n3_ n4_ ⊢
                   have HO_293001 := n0_; have BK279 := n1_; have BK292 := n2_; have BK298 := n3_; have HB := n4_; clear n0_ n1_ n2_ n3_ n4_
                   have n0_ := Aside0.mk (Kd.S_drew HO_293001.out)
                   have n1_ := Aside0.mk (blk_drew BK279.out)
                   have n2_ := Aside0.mk (blk_drew BK292.out)
                   have n3_ := Aside0.mk (blk_drew BK298.out)
                   have n4_ := Aside0.mk (below_drew1 HB.out)
                   clear HO_293001; clear BK279; clear BK292; clear BK298; clear HB; have HO_293001 := n0_; have BK279 := n1_; have BK292 := n2_; have BK298 := n3_; have HB := n4_; clear n0_ n1_ n2_ n3_ n4_
                   refine start_ (n := 20) (S := fun w' => w'.cell? ⟨gb298, 0, none⟩ = some (.int .i64 ((rd_T72 l0_1 x10_4).f0)) ∧ w'.cell? ⟨gb298, 1, none⟩ = some (.int .i64 ((rd_T72 l0_1 x10_4).f1)) ∧ w'.cell? ⟨gb298, 2, none⟩ = some (.int .i64 ((rd_T72 l0_1 x10_4).f2)) ∧ w'.cell? ⟨gb298, 3, none⟩ = some (.bool false) ∧ w'.cell? ⟨gb292, 0, none⟩ = some (.int .i64 t287) ∧ w'.cell? ⟨gb292, 1, none⟩ = some (.slice Ao25 t288.length co25)) (ds := []) (bm 20 0) (by kernel_rfl) rfl (by kernel_rfl) ⟨(blk_cell BK298.out 0).trans rfl, (blk_cell BK298.out 1).trans rfl, (blk_cell BK298.out 2).trans rfl, (blk_cell BK298.out 3).trans rfl, (blk_cell BK292.out 0).trans rfl, (blk_cell BK292.out 1).trans rfl⟩ (fun hHeld => ?_); refine with_tabW spec_WebOk.tab25 spec_WebOk.bits25 (fun HT_ HW_ => ?_)
                   generalize w77.drew = w78 at HO_293001 BK279 BK292 BK298 HB hHeld ⊢
                   refine pz_ 0 78 (bm 20 1) ?_; refine tz6_ 1 79 (bm 20 3) ?_; refine pz_ 2 80 (bm 20 7) ?_; refine pz_ 3 81 (bm 20 15) ?_; refine pz_ 4 82 (bm 20 31) ?_; refine pz_ 6 84 (bm 20 95) ?_; refine tz6_ 5 83 (bm 20 127) ?_; refine pz_ 7 85 (bm 20 255) ?_; refine pz_ 8 86 (bm 20 511) ?_; refine pz_ 9 87 (bm 20 1023) ?_; refine pz_ 11 89 (bm 20 3071) ?_; refine pz_ 15 93 (bm 20 35839) ?_; refine tz6_ 10 88 (bm 20 36863) ?_; refine tz6_ 12 90 (bm 20 40959) ?_; refine tz6_ 14 92 (bm 20 57343) ?_; refine tz6_ 16 94 (bm 20 122879) ?_
                   refine one_ (i := 13) (N := some 91) (bm 20 131071) rfl rfl (one_of HT_.out (by kernel_rfl)) (by decide) (fun K hK => ?_)
                   refine goes_ Try.func60 (by kernel_rfl) rfl #[.agg #[.int .i64 t287, .slice Ao25 t288.length co25], .int .i64 ((rd_T72 l0_1 x10_4).f0)] (by rfl) rfl rfl (by (try simp only [List.map_toArray, List.map_cons, List.map_nil]); first | done | rfl | (simp only [List.length_drop, List.length_take]; rfl)) ?_
                   with_reducible refine (spec_TreeOf.calls k4 t287 _ _ t288 ((rd_T72 l0_1 x10_4).f0) t299 _ ?side1 ?side2 A58.out).mono ?_
                   (case side1 => exact qD_ (Kd.S_reads' HO_293001.out).2.2)
                   (case side2 => exact (Kd.S_reads' HO_293001.out).2.1)
                   rintro e w79 ⟨rfl, hb⟩
                   refine ⟨_, rfl, ?_⟩
                   have n0_ := Aside0.mk (Kd.S_below (qS_ HO_293001) hb)
                   have n1_ := Aside0.mk (blk_below (qk_ BK279) hb)
                   have n2_ := Aside0.mk (blk_below (qk_ BK292) hb)
                   have n3_ := Aside0.mk (blk_below (qk_ BK298) hb)
                   have n4_ := Aside0.mk (below_step qB_ hb)
                   clear HO_293001; clear BK279; clear BK292; clear BK298; clear HB; have HO_293001 := n0_; have BK279 := n1_; have BK292 := n2_; have BK298 := n3_; have HB := n4_; clear n0_ n1_ n2_ n3_ n4_; (try clear hb); (try clear hb2); (try clear hk); (try clear hi)
                   refine hK.out _ _ ⟨(blk_cell BK298.out 0).trans rfl, (blk_cell BK298.out 1).trans rfl, (blk_cell BK298.out 2).trans rfl, (blk_cell BK298.out 3).trans rfl, (blk_cell BK292.out 0).trans rfl, (blk_cell BK292.out 1).trans rfl⟩ (fun hHeld => ?_)
                   clear hK K
                   refine norm_ (a' := ?_) ?_ ?_
                   rotate_left
                   ·show Act.put _ (some 91) _ = _
                    simp only [Act.put, List.setIfInBounds_toArray, List.set_cons_zero, List.set_cons_succ, i64_w, i32_w]
                    rfl
                   refine one_ (i := 17) (N := some 95) (bm 20 262143) rfl rfl (one_of HT_.out (by kernel_rfl)) (by decide) (fun K hK => ?_)
                   refine goes_ Try.func60 (by kernel_rfl) rfl #[.agg #[.int .i64 t287, .slice Ao25 t288.length co25], .int .i64 ((rd_T72 l0_1 x10_4).f1)] (by rfl) rfl rfl (by (try simp only [List.map_toArray, List.map_cons, List.map_nil]); first | done | rfl | (simp only [List.length_drop, List.length_take]; rfl)) ?_
                   with_reducible refine (spec_TreeOf.calls k4 t287 _ _ t288 ((rd_T72 l0_1 x10_4).f1) t300 _ ?side1 ?side2 A59.out).mono ?_
                   (case side1 => exact qD_ (Kd.S_reads' HO_293001.out).2.2)
                   (case side2 => exact (Kd.S_reads' HO_293001.out).2.1)
                   rintro e w80 ⟨rfl, hb⟩
                   refine ⟨_, rfl, ?_⟩
                   have n0_ := Aside0.mk (Kd.S_below (qS_ HO_293001) hb)
                   have n1_ := Aside0.mk (blk_below (qk_ BK279) hb)
                   have n2_ := Aside0.mk (blk_below (qk_ BK292) hb)
                   have n3_ := Aside0.mk (blk_below (qk_ BK298) hb)
                   have n4_ := Aside0.mk (below_step qB_ hb)
                   clear HO_293001; clear BK279; clear BK292; clear BK298; clear HB; have HO_293001 := n0_; have BK279 := n1_; have BK292 := n2_; have BK298 := n3_; have HB := n4_; clear n0_ n1_ n2_ n3_ n4_; (try clear hb); (try clear hb2); (try clear hk); (try clear hi)
                   refine hK.out _ _ ⟨(blk_cell BK298.out 0).trans rfl, (blk_cell BK298.out 1).trans rfl, (blk_cell BK298.out 2).trans rfl, (blk_cell BK298.out 3).trans rfl, (blk_cell BK292.out 0).trans rfl, (blk_cell BK292.out 1).trans rfl⟩ (fun hHeld => ?_)
                   clear hK K
                   refine norm_ (a' := ?_) ?_ ?_
                   rotate_left
                   ·show Act.put _ (some 95) _ = _
                    simp only [Act.put, List.setIfInBounds_toArray, List.set_cons_zero, List.set_cons_succ, i64_w, i32_w]
                    rfl
                   refine pz_ 18 96 (bm 20 524287) ?_; refine pz_ 19 97 (bm 20 1048575) ?_
                   refine done_ (done_of HT_.out (by kernel_rfl)) ?_
                   try go_wp2
                   go_ret
                   exact ⟨qr_, qB_⟩
                 ·rw [if_neg c57] at H
                  have c57b0 : (((rd_T72 l0_1 x10_4).f2) == x5_2) = false := beq_eq_false_iff_ne.mpr c57
                  have c57b1 : (((rd_T72 l0_1 x10_4).f2) != x5_2) = true := bne_iff_ne.mpr c57
                  have H' := Aside0.mk H; clear H; have hnb81 := NB279_292.out; have hnc81 := NB292_279.out
                  obtain ⟨hcz82_0, hcz82_1, hfz82_0, hfz82_1⟩ := bc2_ BK279
                  have p297 : 0 ≤ (x10_4 : Int) := of_decide_eq_true qa_
                  have q297 : x10_4 < (l0_1.length : Int) := of_decide_eq_true qa_
                  obtain ⟨ad297, e297, hx297_0, hx297_1, hx297_2, hx297_3⟩ := at_T72 HR0_1.out x10_4 p297 q297
                  (try rw [← Nbq47.out] at hx297_3)
                  cases e297
                  replace hx297_0 := (HB.out.cell (World.block_lt_of_cell? w _ hx297_0)).trans hx297_0
                  replace hx297_1 := (HB.out.cell (World.block_lt_of_cell? w _ hx297_1)).trans hx297_1
                  replace hx297_2 := (HB.out.cell (World.block_lt_of_cell? w _ hx297_2)).trans hx297_2
                  replace hx297_3 := (HB.out.cell (World.block_lt_of_cell? w _ hx297_3)).trans hx297_3
                  replace p297 := eq_true p297; replace q297 := eq_true q297
                  try go_wp2_with (first | ((with_reducible refine gate_dst (N := 11) rfl ?_); refine bx_ 11 (cs := #[.int .i64 0, .int .i64 0, .int .i64 0, .bool false]) (t := 72) ?_; intro gb298 hg w83 hbox hb; have BK298 := Aside0.mk (hbox); have GW298 := Aside0.mk ((qs_ : w.heap.size ≤ gb298)); have GE298 := Aside0.mk ((qs_ : w.heap.size ≤ gb298)); have NB279_298 := Aside0.mk ((by rw [hg]; exact Nat.ne_of_lt (blk_lt (qk_ BK279)) : gb279 ≠ gb298)); have NB298_279 := Aside0.mk ((by rw [hg]; exact Nat.ne_of_gt (blk_lt (qk_ BK279)) : gb298 ≠ gb279)); have NB292_298 := Aside0.mk ((by rw [hg]; exact Nat.ne_of_lt (blk_lt (qk_ BK292)) : gb292 ≠ gb298)); have NB298_292 := Aside0.mk ((by rw [hg]; exact Nat.ne_of_gt (blk_lt (qk_ BK292)) : gb298 ≠ gb292)); replace HO_293001 := Aside0.mk (Kd.S_below (qS_ HO_293001) hb); replace BK279 := Aside0.mk (blk_below (qk_ BK279) hb); replace BK292 := Aside0.mk (blk_below (qk_ BK292) hb); replace HB := Aside0.mk (below_step qB_ hb); clear hb hbox hg; have hnb84 := NB298_279.out; have hnc84 := NB279_298.out; have hnb85 := NB298_292.out; have hnc85 := NB292_298.out; obtain ⟨hcz86_0, hcz86_1, hcz86_2, hcz86_3, hfz86_0, hfz86_1, hfz86_2, hfz86_3⟩ := bc4_ BK298))
                  have n0_ : Aside0 (Kd.S (Kd.slice 3 (Kd.int .i64)) 51 ((((w83.setCell ⟨gb298, 0, none⟩ (.int .i64 ((rd_T72 l0_1 x10_4).f0))).setCell ⟨gb298, 1, none⟩ (.int .i64 ((rd_T72 l0_1 x10_4).f1))).setCell ⟨gb298, 2, none⟩ (.int .i64 ((rd_T72 l0_1 x10_4).f2))).setCell ⟨gb298, 3, none⟩ (.bool false)) w.heap.size (fun _ => True) (.slice Ao25 t288.length co25) t288) := ⟨by (with_reducible repeat (first | apply Kd.S_alloc | apply Kd.S_drewN | apply Kd.S_drew)); exact Kd.S_mono (Kd.S_far (p := ⟨gb298, 3, none⟩) (Kd.S_far (p := ⟨gb298, 2, none⟩) (Kd.S_far (p := ⟨gb298, 1, none⟩) (Kd.S_far (p := ⟨gb298, 0, none⟩) (Kd.S_types HO_293001.out BK298.out (by decide)) (fun _ hk => hk.2) (.int .i64 ((rd_T72 l0_1 x10_4).f0))) (fun _ hk => hk.2) (.int .i64 ((rd_T72 l0_1 x10_4).f1))) (fun _ hk => hk.2) (.int .i64 ((rd_T72 l0_1 x10_4).f2))) (fun _ hk => hk.2) (.bool false)) (fun _ hk => trivial)⟩
                  have n1_ : Aside0 (((((w83.setCell ⟨gb298, 0, none⟩ (.int .i64 ((rd_T72 l0_1 x10_4).f0))).setCell ⟨gb298, 1, none⟩ (.int .i64 ((rd_T72 l0_1 x10_4).f1))).setCell ⟨gb298, 2, none⟩ (.int .i64 ((rd_T72 l0_1 x10_4).f2))).setCell ⟨gb298, 3, none⟩ (.bool false)).heap[gb279]? = some (.cells #[.int .i64 a0_0, .slice (some ad297) l0_1.length c0_1] 29 (0, 0))) := ⟨by (with_reducible repeat (first | refine blk_drewN ?_ _ | refine blk_drew ?_ | refine blk_alloc ?_ _)); refine blk_far ?_ NB279_298.out _; (with_reducible repeat (first | refine blk_drewN ?_ _ | refine blk_drew ?_ | refine blk_alloc ?_ _)); refine blk_far ?_ NB279_298.out _; (with_reducible repeat (first | refine blk_drewN ?_ _ | refine blk_drew ?_ | refine blk_alloc ?_ _)); refine blk_far ?_ NB279_298.out _; (with_reducible repeat (first | refine blk_drewN ?_ _ | refine blk_drew ?_ | refine blk_alloc ?_ _)); refine blk_far ?_ NB279_298.out _; (with_reducible repeat (first | refine blk_drewN ?_ _ | refine blk_drew ?_ | refine blk_alloc ?_ _)); exact BK279.out⟩
                  have n2_ : Aside0 (((((w83.setCell ⟨gb298, 0, none⟩ (.int .i64 ((rd_T72 l0_1 x10_4).f0))).setCell ⟨gb298, 1, none⟩ (.int .i64 ((rd_T72 l0_1 x10_4).f1))).setCell ⟨gb298, 2, none⟩ (.int .i64 ((rd_T72 l0_1 x10_4).f2))).setCell ⟨gb298, 3, none⟩ (.bool false)).heap[gb292]? = some (.cells #[.int .i64 t287, .slice Ao25 t288.length co25] 39 (0, 0))) := ⟨by (with_reducible repeat (first | refine blk_drewN ?_ _ | refine blk_drew ?_ | refine blk_alloc ?_ _)); refine blk_far ?_ NB292_298.out _; (with_reducible repeat (first | refine blk_drewN ?_ _ | refine blk_drew ?_ | refine blk_alloc ?_ _)); refine blk_far ?_ NB292_298.out _; (with_reducible repeat (first | refine blk_drewN ?_ _ | refine blk_drew ?_ | refine blk_alloc ?_ _)); refine blk_far ?_ NB292_298.out _; (with_reducible repeat (first | refine blk_drewN ?_ _ | refine blk_drew ?_ | refine blk_alloc ?_ _)); refine blk_far ?_ NB292_298.out _; (with_reducible repeat (first | refine blk_drewN ?_ _ | refine blk_drew ?_ | refine blk_alloc ?_ _)); exact BK292.out⟩
                  have n3_ : Aside0 (((((w83.setCell ⟨gb298, 0, none⟩ (.int .i64 ((rd_T72 l0_1 x10_4).f0))).setCell ⟨gb298, 1, none⟩ (.int .i64 ((rd_T72 l0_1 x10_4).f1))).setCell ⟨gb298, 2, none⟩ (.int .i64 ((rd_T72 l0_1 x10_4).f2))).setCell ⟨gb298, 3, none⟩ (.bool false)).heap[gb298]? = some (.cells #[.int .i64 ((rd_T72 l0_1 x10_4).f0), .int .i64 ((rd_T72 l0_1 x10_4).f1), .int .i64 ((rd_T72 l0_1 x10_4).f2), .bool false] 72 (0, 0))) := ⟨by (with_reducible repeat (first | refine blk_drewN ?_ _ | refine blk_drew ?_ | refine blk_alloc ?_ _)); refine blk_put (cs := #[.int .i64 ((rd_T72 l0_1 x10_4).f0), .int .i64 ((rd_T72 l0_1 x10_4).f1), .int .i64 ((rd_T72 l0_1 x10_4).f2), .bool false]) ?_ 3 _ rfl; (with_reducible repeat (first | refine blk_drewN ?_ _ | refine blk_drew ?_ | refine blk_alloc ?_ _)); refine blk_put (cs := #[.int .i64 ((rd_T72 l0_1 x10_4).f0), .int .i64 ((rd_T72 l0_1 x10_4).f1), .int .i64 0, .bool false]) ?_ 2 _ rfl; (with_reducible repeat (first | refine blk_drewN ?_ _ | refine blk_drew ?_ | refine blk_alloc ?_ _)); refine blk_put (cs := #[.int .i64 ((rd_T72 l0_1 x10_4).f0), .int .i64 0, .int .i64 0, .bool false]) ?_ 1 _ rfl; (with_reducible repeat (first | refine blk_drewN ?_ _ | refine blk_drew ?_ | refine blk_alloc ?_ _)); refine blk_put (cs := #[.int .i64 0, .int .i64 0, .int .i64 0, .bool false]) ?_ 0 _ rfl; (with_reducible repeat (first | refine blk_drewN ?_ _ | refine blk_drew ?_ | refine blk_alloc ?_ _)); exact BK298.out⟩
                  have n4_ : Aside0 (Below w.heap.size w ((((w83.setCell ⟨gb298, 0, none⟩ (.int .i64 ((rd_T72 l0_1 x10_4).f0))).setCell ⟨gb298, 1, none⟩ (.int .i64 ((rd_T72 l0_1 x10_4).f1))).setCell ⟨gb298, 2, none⟩ (.int .i64 ((rd_T72 l0_1 x10_4).f2))).setCell ⟨gb298, 3, none⟩ (.bool false))) := ⟨qB_⟩
                  (try clear HO_293001); (try clear BK279); (try clear BK292); (try clear BK298); (try clear HB)
                  generalize ((((w83.setCell ⟨gb298, 0, none⟩ (.int .i64 ((rd_T72 l0_1 x10_4).f0))).setCell ⟨gb298, 1, none⟩ (.int .i64 ((rd_T72 l0_1 x10_4).f1))).setCell ⟨gb298, 2, none⟩ (.int .i64 ((rd_T72 l0_1 x10_4).f2))).setCell ⟨gb298, 3, none⟩ (.bool false)) = w87 at n0_ n1_ n2_ n3_ n4_ ⊢
                  have HO_293001 := n0_; have BK279 := n1_; have BK292 := n2_; have BK298 := n3_; have HB := n4_; clear n0_ n1_ n2_ n3_ n4_
                  have n0_ := Aside0.mk (Kd.S_drew HO_293001.out)
                  have n1_ := Aside0.mk (blk_drew BK279.out)
                  have n2_ := Aside0.mk (blk_drew BK292.out)
                  have n3_ := Aside0.mk (blk_drew BK298.out)
                  have n4_ := Aside0.mk (below_drew1 HB.out)
                  clear HO_293001; clear BK279; clear BK292; clear BK298; clear HB; have HO_293001 := n0_; have BK279 := n1_; have BK292 := n2_; have BK298 := n3_; have HB := n4_; clear n0_ n1_ n2_ n3_ n4_
                  refine start_ (n := 20) (S := fun w' => w'.cell? ⟨gb298, 0, none⟩ = some (.int .i64 ((rd_T72 l0_1 x10_4).f0)) ∧ w'.cell? ⟨gb298, 1, none⟩ = some (.int .i64 ((rd_T72 l0_1 x10_4).f1)) ∧ w'.cell? ⟨gb298, 2, none⟩ = some (.int .i64 ((rd_T72 l0_1 x10_4).f2)) ∧ w'.cell? ⟨gb298, 3, none⟩ = some (.bool false)) (ds := []) (bm 20 0) (by kernel_rfl) rfl (by kernel_rfl) ⟨(blk_cell BK298.out 0).trans rfl, (blk_cell BK298.out 1).trans rfl, (blk_cell BK298.out 2).trans rfl, (blk_cell BK298.out 3).trans rfl⟩ (fun hHeld => ?_); refine with_tabW spec_WebOk.tab25 spec_WebOk.bits25 (fun HT_ HW_ => ?_)
                  generalize w87.drew = w88 at HO_293001 BK279 BK292 BK298 HB hHeld ⊢
                  refine pz_ 0 78 (bm 20 1) ?_; refine tz4_ 1 79 (bm 20 3) ?_; refine pz_ 2 80 (bm 20 7) ?_; refine pz_ 3 81 (bm 20 15) ?_; refine pz_ 4 82 (bm 20 31) ?_; refine pz_ 6 84 (bm 20 95) ?_; refine tz4_ 5 83 (bm 20 127) ?_; refine pz_ 7 85 (bm 20 255) ?_; refine pz_ 8 86 (bm 20 511) ?_; refine pz_ 9 87 (bm 20 1023) ?_
                  refine pure_ (i := 10) (N := some 88) (v := undef) (a' := ?_) (bm 20 2047) rfl rfl (any_of HT_.out (by kernel_rfl)) (fun _ _ _ h => h) (Or.inr ⟨by rfl, rfl⟩) ?_ ?_
                  rotate_left
                  ·simp only [Act.put, List.setIfInBounds_toArray, List.set_cons_zero, List.set_cons_succ, i64_w, i32_w]
                   rfl
                  refine pure_ (i := 11) (N := some 89) (v := undef) (a' := ?_) (bm 20 4095) rfl rfl (any_of HT_.out (by kernel_rfl)) (fun _ _ _ h => h) (Or.inr ⟨by rfl, rfl⟩) ?_ ?_
                  rotate_left
                  ·simp only [Act.put, List.setIfInBounds_toArray, List.set_cons_zero, List.set_cons_succ, i64_w, i32_w]
                   rfl
                  refine pure_ (i := 12) (N := some 90) (v := undef) (a' := ?_) (bm 20 8191) rfl rfl (any_of HT_.out (by kernel_rfl)) (fun _ _ _ h => h) (Or.inr ⟨by rfl, rfl⟩) ?_ ?_
                  rotate_left
                  ·simp only [Act.put, List.setIfInBounds_toArray, List.set_cons_zero, List.set_cons_succ, i64_w, i32_w]
                   rfl
                  refine pure_ (i := 13) (N := some 91) (v := undef) (a' := ?_) (bm 20 16383) rfl rfl (any_of HT_.out (by kernel_rfl)) (fun _ _ _ h => h) (Or.inr ⟨by rfl, rfl⟩) ?_ ?_
                  rotate_left
                  ·simp only [Act.put, List.setIfInBounds_toArray, List.set_cons_zero, List.set_cons_succ, i64_w, i32_w]
                   rfl
                  refine pure_ (i := 14) (N := some 92) (v := undef) (a' := ?_) (bm 20 32767) rfl rfl (any_of HT_.out (by kernel_rfl)) (fun _ _ _ h => h) (Or.inr ⟨by rfl, rfl⟩) ?_ ?_
                  rotate_left
                  ·simp only [Act.put, List.setIfInBounds_toArray, List.set_cons_zero, List.set_cons_succ, i64_w, i32_w]
                   rfl
                  refine pure_ (i := 15) (N := some 93) (v := undef) (a' := ?_) (bm 20 65535) rfl rfl (any_of HT_.out (by kernel_rfl)) (fun _ _ _ h => h) (Or.inr ⟨by rfl, rfl⟩) ?_ ?_
                  rotate_left
                  ·simp only [Act.put, List.setIfInBounds_toArray, List.set_cons_zero, List.set_cons_succ, i64_w, i32_w]
                   rfl
                  refine pure_ (i := 16) (N := some 94) (v := undef) (a' := ?_) (bm 20 131071) rfl rfl (any_of HT_.out (by kernel_rfl)) (fun _ _ _ h => h) (Or.inr ⟨by rfl, rfl⟩) ?_ ?_
                  rotate_left
                  ·simp only [Act.put, List.setIfInBounds_toArray, List.set_cons_zero, List.set_cons_succ, i64_w, i32_w]
                   rfl
                  refine pure_ (i := 17) (N := some 95) (v := undef) (a' := ?_) (bm 20 262143) rfl rfl (any_of HT_.out (by kernel_rfl)) (fun _ _ _ h => h) (Or.inr ⟨by rfl, rfl⟩) ?_ ?_
                  rotate_left
                  ·simp only [Act.put, List.setIfInBounds_toArray, List.set_cons_zero, List.set_cons_succ, i64_w, i32_w]
                   rfl
                  refine pure_ (i := 18) (N := some 96) (v := undef) (a' := ?_) (bm 20 524287) rfl rfl (any_of HT_.out (by kernel_rfl)) (fun _ _ _ h => h) (Or.inr ⟨by rfl, rfl⟩) ?_ ?_
                  rotate_left
                  ·simp only [Act.put, List.setIfInBounds_toArray, List.set_cons_zero, List.set_cons_succ, i64_w, i32_w]
                   rfl
                  refine pz_ 19 97 (bm 20 1048575) ?_
                  refine done_ (done_of HT_.out (by kernel_rfl)) ?_
                  try go_wp2
                  go_roundg k4
                  case measure => have := HK1.out; have := HK2.out; have := HK3.out; have := HK4.out; omega
                  case rel => exact ⟨(wrap64 (x10_4 + 1)), qe_, H', ⟨by have := HK1.out; have := HK2.out; have := HK3.out; have := HK4.out; omega⟩, ⟨by (with_reducible repeat (first | apply Kd.S_alloc | apply Kd.S_drewN | apply Kd.S_drew)); first | exact HO_293001.out | (have h_ := HO_293001.out; simp only [own_slice] at h_ ⊢; exact h_)⟩, ⟨qk_ BK279⟩, ⟨qk_ BK292⟩, ⟨qB_⟩⟩
               ·rw [if_neg c46] at H
                exact absurd H (by simp)
              ·rw [if_neg c45] at H
               have c45b0 : decide (x10_4 < (l0_1.length : Int)) = false := decide_eq_false c45
               clear c45; have H' := Aside0.mk H; clear H; have hnb89 := NB279_292.out; have hnc89 := NB292_279.out
               obtain ⟨hcz90_0, hcz90_1, hfz90_0, hfz90_1⟩ := bc2_ BK279
               go_wp2
               go_roundg k4
               case measure => have := HK1.out; have := HK2.out; have := HK3.out; have := HK4.out; omega
               case rel => exact ⟨(wrap64 (Int.tdiv x4_2 2)), (wrap64 (x5_2 + 1)), qe_, qe_, H', ⟨by have := HK1.out; have := HK2.out; have := HK3.out; have := HK4.out; omega⟩, ⟨qk_ BK279⟩, ⟨qB_⟩⟩
        ·replace c19 := Bool.eq_false_iff.mpr c19
         subst c19
         rw [if_neg (show ¬ (false = true) by decide)] at H
         obtain rfl := Option.some.inj H
         obtain ⟨hcz91_0, hcz91_1, hfz91_0, hfz91_1⟩ := bc2_ BK279
         go_wp2_with (first | ((with_reducible refine gate_callee (f := 58) rfl ?_); refine gl_ (some 40) Try.func58 #[.agg #[.int .i64 a0_0, .slice A0_1 l0_1.length c0_1], .int .i64 x5_2] ?_; (with_reducible refine (spec_ForestAt.calls k2 a0_0 _ _ l0_1 x5_2 t287 t288 false _ ?side1 ?side2 A18.out).mono ?_); (case side1 => exact qC_ HR0_1 HB); (case side2 => exact HC0_1.out); rintro e w92 ⟨v289, rfl, ho0, hb⟩; refine ⟨_, rfl, ?_⟩; have HO290 := Aside0.mk (Kd.S_lower ho0 (below_size qB_)); replace BK279 := Aside0.mk (blk_below (qk_ BK279) hb); replace HB := Aside0.mk (below_step qB_ hb); (try clear hb); (try clear hb2); (try clear hk); (try clear hi); (try clear ho0)) | ((with_reducible refine gate_dst (N := 6) rfl ?_); refine bx_ 6 (cs := #[.int .i64 0, .slice none 0 0]) (t := 39) ?_; intro gb292 hg w93 hbox hb; have BK292 := Aside0.mk (hbox); have GW292 := Aside0.mk ((qs_ : w.heap.size ≤ gb292)); have GE292 := Aside0.mk ((qs_ : w.heap.size ≤ gb292)); have NB279_292 := Aside0.mk ((by rw [hg]; exact Nat.ne_of_lt (blk_lt (qk_ BK279)) : gb279 ≠ gb292)); have NB292_279 := Aside0.mk ((by rw [hg]; exact Nat.ne_of_gt (blk_lt (qk_ BK279)) : gb292 ≠ gb279)); replace HO290 := Aside0.mk (Kd.S_below (qS_ HO290) hb); replace BK279 := Aside0.mk (blk_below (qk_ BK279) hb); replace HB := Aside0.mk (below_step qB_ hb); clear hb hbox hg; have hnb94 := NB292_279.out; have hnc94 := NB279_292.out; obtain ⟨hcz95_0, hcz95_1, hfz95_0, hfz95_1⟩ := bc2_ BK292; obtain ⟨Ao96, co96, eo96⟩ := Kd.S_slice HO290.out; subst eo96))
         go_ret
         exact ⟨qr_, qB_⟩
       ·rw [if_neg c17] at H
        have c17b0 : decide (x5_2 ≤ 4) = false := decide_eq_false c17
        clear c17
        obtain rfl := Option.some.inj H
        go_wp2
        go_ret
        exact ⟨qr_, qB_⟩
 ·replace c4 := Bool.eq_false_iff.mpr c4
  subst c4
  rw [if_neg (show ¬ (false = true) by decide)] at H
  obtain rfl := Option.some.inj H
  go_enter Try.func14, Try.ntmps14
  go_wp2_with (first | ((with_reducible refine gate_dst (N := 1) rfl ?_); refine bx_ 1 (cs := #[.int .i64 a0_0, .slice A0_1 l0_1.length c0_1]) (t := 29) ?_; intro gb279 hg w97 hbox hb; have BK279 := Aside0.mk (hbox); have GW279 := Aside0.mk ((qs_ : w.heap.size ≤ gb279)); have GE279 := Aside0.mk ((qs_ : w.heap.size ≤ gb279)); replace HB := Aside0.mk (below_step qB_ hb); clear hb hbox hg; obtain ⟨hcz98_0, hcz98_1, hfz98_0, hfz98_1⟩ := bc2_ BK279) | ((with_reducible refine gate_callee (f := 47) rfl ?_); refine gl_ (some 13) Try.func47 #[.agg #[.int .i64 a0_0, .slice A0_1 l0_1.length c0_1]] ?_; (with_reducible refine (spec_GraphOf.calls k a0_0 _ _ l0_1 t280 t281 _ ?side1 ?side2 A2.out).mono ?_); (case side1 => exact qC_ HR0_1 HB); (case side2 => exact HC0_1.out); rintro e w99 ⟨v282, rfl, ho0, hb⟩; refine ⟨_, rfl, ?_⟩; have HO283 := Aside0.mk (Kd.R_lower ho0 (below_size qB_)); replace BK279 := Aside0.mk (blk_below (qk_ BK279) hb); replace HB := Aside0.mk (below_step qB_ hb); (try clear hb); (try clear hb2); (try clear hk); (try clear hi); (try clear ho0); obtain ⟨Ao100, co100, eo100⟩ := Kd.R_slice HO283.out; subst eo100) | ((with_reducible refine gate_callee (f := 56) rfl ?_); refine gl_ (some 14) Try.func56 #[.agg #[.int .i64 t280, .slice Ao100 t281.length co100]] ?_; (with_reducible refine (spec_GraphOk.calls k t280 _ _ t281 false _ ?side1 ?side2 A3.out).mono ?_); (case side1 => exact qD_ (Kd.R_reads' HO283.out).2.2); (case side2 => exact (Kd.R_reads' HO283.out).2.1); rintro e w101 ⟨rfl, hb⟩; refine ⟨_, rfl, ?_⟩; replace HO283 := Aside0.mk (Kd.R_below (qR_ HO283) hb); replace BK279 := Aside0.mk (blk_below (qk_ BK279) hb); replace HB := Aside0.mk (below_step qB_ hb); (try clear hb); (try clear hb2); (try clear hk); (try clear hi)))
  go_ret
  exact ⟨qr_, qB_⟩

end Go.Proofs.Ytbkklafkoegdpaa.QFnExactWebLabels
