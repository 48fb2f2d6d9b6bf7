-- printed for this claim by a program of the session's own (no text of the kit's print)
import Derived.Test.YtigeiofkbccocaaQFnForestNewx0
import Derived.Test.YtigeiofkbccocaaQFnForestNewx6
import Derived.Test.YtigeiofkbccocaaQFnForestNewx8
import Derived.Test.YtigeiofkbccocaaQFnForestNewx9
namespace Go.Proofs.Ytigeiofkbccocaa.QFnForestNew
open Go.RowKit Go.Proofs.YtigeiofkbccocaaW.PrintWords Go.Proofs.YtigeiofkbccocaaW.PrintLast Go.Proofs.YtigeiofkbccocaaW.PrintMore
attribute [local go_sem] max2_int min2_int max_two min_two max_three min_three max_four min_four   -- for this text's walks alone
set_option linter.unusedVariables false
set_option linter.unusedSimpArgs false

/-! ### impl_EdgesOf: function 61 -/
mutual
def impl_EdgesOf.l0 : Nat → List (S79) → List (List Int) → Int → Int → Option ((List (S79)))
  | 0, _, _, _, _ => none
  | k + 1, x3, x13, x14, x15 => if x15 < x14 then (if 0 ≤ x15 then (if x15 < (x13.length : Int) then (impl_EdgesOf.l1 k x3 (rd_L2 x13 x15) 0 x13 x14 x15) else (none)) else (none)) else (some x3)
def impl_EdgesOf.l1 : Nat → List (S79) → List Int → Int → List (List Int) → Int → Int → Option ((List (S79)))
  | 0, _, _, _, _, _, _ => none
  | k + 1, x3, x5, x6, x13, x14, x15 => if (wrap64 (x6 + 1)) < (x5.length : Int) then (if 0 ≤ x6 then (if x6 < (x5.length : Int) then (if 0 ≤ (wrap64 (x6 + 1)) then ((impl_hasEdge.f k x3 (mn (rd x5 x6) (rd x5 (wrap64 (x6 + 1)))) (mx (rd x5 x6) (rd x5 (wrap64 (x6 + 1))))).bind fun t323 => (if t323 = true then (impl_EdgesOf.l1 k x3 x5 (wrap64 (x6 + 1)) x13 x14 x15) else ((impl_withEdge.f k x3 (mn (rd x5 x6) (rd x5 (wrap64 (x6 + 1)))) (mx (rd x5 x6) (rd x5 (wrap64 (x6 + 1))))).bind fun t324 => (impl_EdgesOf.l1 k t324 x5 (wrap64 (x6 + 1)) x13 x14 x15)))) else (none)) else (none)) else (none)) else (impl_EdgesOf.l0 k x3 x13 x14 (wrap64 (x15 + 1)))
end
def impl_EdgesOf.f (k : Nat) (a0_0 : Int) (l0_1 : List (List Int)) : Option ((List (S79))) := (impl_ForestOk.f k a0_0 l0_1).bind fun t316 => (if t316 = true then (impl_EdgesOf.l0 k ([] : List (S79)) l0_1 (l0_1.length : Int) 0) else (some ([] : List (S79))))
theorem impl_EdgesOf.mono_l : ∀ k, (∀ y0 y1 y2 y3, LeO (impl_EdgesOf.l0 k y0 y1 y2 y3) (impl_EdgesOf.l0 (k + 1) y0 y1 y2 y3)) ∧ (∀ y0 y1 y2 y3 y4 y5, LeO (impl_EdgesOf.l1 k y0 y1 y2 y3 y4 y5) (impl_EdgesOf.l1 (k + 1) y0 y1 y2 y3 y4 y5))
  | 0 => ⟨fun _ _ _ _ r h => by simp [impl_EdgesOf.l0] at h, fun _ _ _ _ _ _ r h => by simp [impl_EdgesOf.l1] at h⟩
  | k + 1 => by
    obtain ⟨ih0, ih1⟩ := impl_EdgesOf.mono_l k
    refine ⟨?_, ?_⟩ <;> (intros; first | unfold impl_EdgesOf.l0 | unfold impl_EdgesOf.l1) <;> repeat' first
    | (with_reducible exact ih0 _ _ _ _)
    | (with_reducible exact ih1 _ _ _ _ _ _)
    | (with_reducible exact impl_ForestOk.mono _ _ _)
    | (with_reducible exact impl_hasEdge.mono _ _ _ _)
    | (with_reducible exact impl_withEdge.mono _ _ _ _)
    | (with_reducible exact LeO.refl _)
    | (with_reducible exact LeO.none _)
    | (with_reducible refine LeO.ite ?_ ?_)
    | (with_reducible refine LeO.bind ?_ (fun _ => ?_))
    | exact ih0 _ _ _ _
    | exact ih1 _ _ _ _ _ _
    | exact impl_ForestOk.mono _ _ _
    | exact impl_hasEdge.mono _ _ _ _
    | exact impl_withEdge.mono _ _ _ _
    | exact LeO.none _
    | refine LeO.ite ?_ ?_
    | refine LeO.bind ?_ (fun _ => ?_)
theorem impl_EdgesOf.mono : ∀ a0 a1 k, LeO (impl_EdgesOf.f k a0 a1) (impl_EdgesOf.f (k + 1) a0 a1) := by
  intro a0 a1 k
  obtain ⟨ih0, ih1⟩ := impl_EdgesOf.mono_l k
  unfold impl_EdgesOf.f
  repeat' first
      | (with_reducible exact ih0 _ _ _ _)
      | (with_reducible exact ih1 _ _ _ _ _ _)
      | (with_reducible exact impl_ForestOk.mono _ _ _)
      | (with_reducible exact impl_hasEdge.mono _ _ _ _)
      | (with_reducible exact impl_withEdge.mono _ _ _ _)
      | (with_reducible exact LeO.refl _)
      | (with_reducible exact LeO.none _)
      | (with_reducible refine LeO.ite ?_ ?_)
      | (with_reducible refine LeO.bind ?_ (fun _ => ?_))
      | exact ih0 _ _ _ _
      | exact ih1 _ _ _ _ _ _
      | exact impl_ForestOk.mono _ _ _
      | exact impl_hasEdge.mono _ _ _ _
      | exact impl_withEdge.mono _ _ _ _
      | exact LeO.none _
      | refine LeO.ite ?_ ?_
      | refine LeO.bind ?_ (fun _ => ?_)
def impl_EdgesOf.T10 : Bool × List (List Nat × List Nat) := (true, [([], []), ([], []), ([0, 1], [0, 1]), ([2], [2]), ([], []), ([], []), ([5], [5]), ([4, 6], [4, 6]), ([7], [7]), ([3, 8], [3, 8]), ([], []), ([], []), ([10, 11], [10, 11]), ([12], [12]), ([], []), ([], []), ([15], [15]), ([14, 16], [14, 16]), ([17], [17]), ([13, 18], [13, 18]), ([9, 19], [9, 19]), ([], []), ([21, 20, 0, 1, 2, 3, 4, 5, 6, 7, 8, 9, 10, 11, 12, 13, 14, 15, 16, 17, 18, 19, 20, 21], [20, 21])])
def impl_EdgesOf.B10 : List Nat := [0, 0, 3, 7, 0, 0, 32, 112, 240, 511, 0, 0, 3072, 7168, 0, 0, 32768, 114688, 245760, 523264, 1048575, 0, 4194303]
theorem impl_EdgesOf.tab10 : rtab .any (opsOf Try.f61 10) = impl_EdgesOf.T10 := by kernel_rfl
theorem impl_EdgesOf.bits10 : waitsOk impl_EdgesOf.T10.2 impl_EdgesOf.B10 = true := by kernel_rfl
set_option maxHeartbeats 8000000 in
set_option maxRecDepth 100000 in
theorem impl_EdgesOf.calls (k : Nat) (a0_0 : Int) (A0_1 : Option Addr) (c0_1 : Nat) (l0_1 : List (List Int)) (r : List (S79)) (w : World) (hr0_1 : Kd.C (Kd.slice 3 (Kd.int .i64)) w A0_1 l0_1.length l0_1) (hc0_1 : l0_1.length ≤ c0_1) (h : impl_EdgesOf.f k a0_0 l0_1 = some r) :
  Calls Try.prog 61 #[.agg #[.int .i64 a0_0, .slice A0_1 l0_1.length c0_1]] w fun e w' => ∃ v0_ : Value, e = .returned (v0_) ∧ Kd.R k79 79 w' w.heap.size (fun _ => True) v0_ r ∧ Below w.heap.size w w' := by
 have hu89 := Try.underlying89; have hu79 := Try.underlying79
 have HR0_1 := Aside0.mk hr0_1
 have HC0_1 := Aside0.mk hc0_1
 clear hr0_1 hc0_1
 have HB := Aside0.mk (Below.refl w.heap.size w)
 have H : ((impl_ForestOk.f k a0_0 l0_1).bind fun t316 => (if t316 = true then (impl_EdgesOf.l0 k ([] : List (S79)) l0_1 (l0_1.length : Int) 0) else (some ([] : List (S79))))) = some r := h
 clear h
 obtain ⟨t316, A20, H⟩ := Option.bind_eq_some_iff.mp H; have A2 := Aside0.mk A20; clear A20
 by_cases c3 : t316 = true
 ·subst c3
  rw [if_pos rfl] at H; have H' := Aside0.mk H; clear H
  go_enter Try.func61, Try.ntmps61
  go_wp2_with (first | ((with_reducible refine gate_dst (N := 1) rfl ?_); refine bx_ 1 (cs := #[.int .i64 a0_0, .slice A0_1 l0_1.length c0_1]) (t := 89) ?_; intro gb315 hg w4 hbox hb; have BK315 := Aside0.mk (hbox); have GW315 := Aside0.mk ((qs_ : w.heap.size ≤ gb315)); have GE315 := Aside0.mk ((qs_ : w.heap.size ≤ gb315)); replace HB := Aside0.mk (below_step qB_ hb); clear hb hbox hg; obtain ⟨hcz5_0, hcz5_1, hfz5_0, hfz5_1⟩ := bc2_ BK315) | ((with_reducible refine gate_callee (f := 111) rfl ?_); refine gl_ (some 9) Try.func111 #[.agg #[.int .i64 a0_0, .slice A0_1 l0_1.length c0_1]] ?_; (with_reducible refine (impl_ForestOk.calls k a0_0 _ _ l0_1 true _ ?side1 ?side2 A2.out).mono ?_); (case side1 => exact qC_ HR0_1 HB); (case side2 => exact HC0_1.out); rintro e w6 ⟨rfl, hb⟩; refine ⟨_, rfl, ?_⟩; replace BK315 := Aside0.mk (blk_below (qk_ BK315) hb); replace HB := Aside0.mk (below_step qB_ hb); (try clear hb); (try clear hb2); (try clear hk); (try clear hi); obtain ⟨hcz7_0, hcz7_1, hfz7_0, hfz7_1⟩ := bc2_ BK315))
  go_loopg [3, 15] k (fun kq v3 v15 w' => ∃ (x3_1 : List (S79)) (x15_1 : Int), v15 = .int .i64 x15_1 ∧ Aside0 (impl_EdgesOf.l0 kq x3_1 l0_1 (l0_1.length : Int) x15_1 = some r) ∧ Aside0 (kq ≤ k) ∧ Aside0 (Kd.R k79 79 w' w.heap.size (fun _ => True) v3 x3_1) ∧ Aside0 (w'.heap[gb315]? = some (.cells #[.int .i64 a0_0, (.slice A0_1 l0_1.length c0_1)] 89 (0, 0))) ∧ Aside0 (Below w.heap.size w w'))
  case atStart => exact ⟨(([] : List (S79))), (0), qe_, H', ⟨Nat.le_refl _⟩, ⟨by first | exact Kd.R_nil _ _ _ _ _ | exact Kd.N_nil _ _ _ _ _ | exact Kd.V_nil _ _ _ _ _ | exact Kd.Q_nil _ _ _ _ _ | exact Kd.S_nil _ _ _ _ _⟩, ⟨qk_ BK315⟩, ⟨qB_⟩⟩
  case round =>
   clear H'
   (try clear c1); (try clear p2); (try clear c3); (try clear c6); (try clear hcz5_0); (try clear hcz5_1); (try clear hcz7_0); (try clear hcz7_1); (try clear hfz5_0); (try clear hfz5_1); (try clear hfz7_0); (try clear hfz7_1)
   obtain ⟨x3_1, x15_1, rfl, HA, HK1, HO_3, BK315, HB⟩ := hrel
   cases gk with
   | zero => exact absurd HA.out (by simp [impl_EdgesOf.l0])
   | succ k1 =>
    have H := HA.out; clear HA
    simp only [impl_EdgesOf.l0] at H
    by_cases c8 : x15_1 < (l0_1.length : Int)
    ·rw [if_pos c8] at H
     have c8b0 : decide (x15_1 < (l0_1.length : Int)) = true := decide_eq_true c8
     clear c8
     by_cases c9 : 0 ≤ x15_1
     ·rw [if_pos c9] at H
      have c9b0 : decide (0 ≤ x15_1) = true := decide_eq_true c9
      clear c9
      by_cases c10 : x15_1 < (l0_1.length : Int)
      ·rw [if_pos c10] at H
       have c10b0 : decide (x15_1 < (l0_1.length : Int)) = true := decide_eq_true c10
       clear c10; have H' := Aside0.mk H; clear H
       have p317 : 0 ≤ (x15_1 : Int) := of_decide_eq_true qa_
       have q317 : x15_1 < (l0_1.length : Int) := of_decide_eq_true qa_
       obtain ⟨ad317, A317_0, c317_0, e317, hx317_0, hl317_0, hi317_0⟩ := at_L2 HR0_1.out x15_1 p317 q317
       cases e317
       replace hx317_0 := (HB.out.cell (World.block_lt_of_cell? w _ hx317_0)).trans hx317_0
       have HR317_0 := Aside0.mk hi317_0
       have HC317_0 := Aside0.mk hl317_0
       clear hi317_0 hl317_0; replace p317 := eq_true p317; replace q317 := eq_true q317
       go_wp2
       go_loopg [3, 6] k1 (fun kq v3 v6 w' => ∃ (x3_2 : List (S79)) (x6_2 : Int), v6 = .int .i64 x6_2 ∧ Aside0 (impl_EdgesOf.l1 kq x3_2 (rd_L2 l0_1 x15_1) x6_2 l0_1 (l0_1.length : Int) x15_1 = some r) ∧ Aside0 (kq ≤ k1) ∧ Aside0 (Kd.R k79 79 w' w.heap.size (fun _ => True) v3 x3_2) ∧ Aside0 (w'.heap[gb315]? = some (.cells #[.int .i64 a0_0, (.slice (some ad317) l0_1.length c0_1)] 89 (0, 0))) ∧ Aside0 (Below w.heap.size w w'))
       case atStart => exact ⟨(x3_1), (0), qe_, H', ⟨Nat.le_refl _⟩, ⟨by (with_reducible repeat (first | apply Kd.R_alloc | apply Kd.R_drewN | apply Kd.R_drew)); first | exact HO_3.out | (have h_ := HO_3.out; simp only [own_slice] at h_ ⊢; exact h_)⟩, ⟨qk_ BK315⟩, ⟨qB_⟩⟩
       case round =>
        clear H'
        (try clear c1); (try clear p2); (try clear c3); (try clear p3); (try clear q3); (try clear hx3); (try clear c6); (try clear c8); (try clear c8b0); (try clear c9); (try clear c9b0); (try clear c10); (try clear c10b0); (try clear hcz5_0); (try clear hcz5_1); (try clear hcz7_0); (try clear hcz7_1); (try clear hfz5_0); (try clear hfz5_1); (try clear hfz7_0); (try clear hfz7_1); (try clear hx317_0); (try clear p2); (try clear p317); (try clear q317)
        obtain ⟨x3_2, x6_2, rfl, HA, HK2, HO_3, BK315, HB⟩ := hrel
        cases gk with
        | zero => exact absurd HA.out (by simp [impl_EdgesOf.l1])
        | succ k2 =>
         have H := HA.out; clear HA
         simp only [impl_EdgesOf.l1] at H
         by_cases c11 : (wrap64 (x6_2 + 1)) < ((rd_L2 l0_1 x15_1).length : Int)
         ·rw [if_pos c11] at H
          have c11b0 : decide ((wrap64 (x6_2 + 1)) < ((rd_L2 l0_1 x15_1).length : Int)) = true := decide_eq_true c11
          clear c11
          by_cases c12 : 0 ≤ x6_2
          ·rw [if_pos c12] at H
           have c12b0 : decide (0 ≤ x6_2) = true := decide_eq_true c12
           clear c12
           by_cases c13 : x6_2 < ((rd_L2 l0_1 x15_1).length : Int)
           ·rw [if_pos c13] at H
            have c13b0 : decide (x6_2 < ((rd_L2 l0_1 x15_1).length : Int)) = true := decide_eq_true c13
            clear c13
            obtain ⟨ji14, hji14⟩ : ∃ j_ : Int, (wrap64 (x6_2 + 1)) = j_ := ⟨_, rfl⟩
            first | rw [hji14] at H | simp only [hji14] at H
            (try rw [hji14] at c11b0)
            have hji14w : (IntKind.i64.wrap (x6_2 + 1)) = ji14 := (i64_w _).trans hji14
            by_cases c15 : 0 ≤ (ji14)
            ·rw [if_pos c15] at H
             have c15b0 : decide (0 ≤ (ji14)) = true := decide_eq_true c15
             clear c15
             obtain ⟨ji16, hji16⟩ : ∃ j_ : Int, (mn (rd (rd_L2 l0_1 x15_1) x6_2) (rd (rd_L2 l0_1 x15_1) (ji14))) = j_ := ⟨_, rfl⟩
             first | rw [hji16] at H | simp only [hji16] at H
             have hji16_ : (if (rd (rd_L2 l0_1 x15_1) (ji14)) < (rd (rd_L2 l0_1 x15_1) x6_2) then (rd (rd_L2 l0_1 x15_1) (ji14)) else (rd (rd_L2 l0_1 x15_1) x6_2)) = ji16 := hji16
             obtain ⟨ji17, hji17⟩ : ∃ j_ : Int, (mx (rd (rd_L2 l0_1 x15_1) x6_2) (rd (rd_L2 l0_1 x15_1) (ji14))) = j_ := ⟨_, rfl⟩
             first | rw [hji17] at H | simp only [hji17] at H
             have hji17_ : (if (rd (rd_L2 l0_1 x15_1) x6_2) < (rd (rd_L2 l0_1 x15_1) (ji14)) then (rd (rd_L2 l0_1 x15_1) (ji14)) else (rd (rd_L2 l0_1 x15_1) x6_2)) = ji17 := hji17
             obtain ⟨t323, A180, H⟩ := Option.bind_eq_some_iff.mp H; have A18 := Aside0.mk A180; clear A180
             by_cases c19 : t323 = true
             ·subst c19
              rw [if_pos rfl] at H; have H' := Aside0.mk H; clear H
              try go_wp2
              have n0_ := Aside0.mk (Kd.R_drew HO_3.out)
              have n1_ := Aside0.mk (blk_drew BK315.out)
              have n2_ := Aside0.mk (below_drew1 HB.out)
              clear HO_3; clear BK315; clear HB; have HO_3 := n0_; have BK315 := n1_; have HB := n2_; clear n0_ n1_ n2_
              have p318 : 0 ≤ (x6_2 : Int) := of_decide_eq_true qa_
              have q318 : x6_2 < ((rd_L2 l0_1 x15_1).length : Int) := of_decide_eq_true qa_
              obtain ⟨ad318, e318, hx318_0⟩ := Kd.at_int HR317_0.out x6_2 p318 q318
              have hw318_0 := hx318_0; cases e318
              replace hx318_0 := (HB.out.cell (World.block_lt_of_cell? w _ hx318_0)).trans hx318_0
              replace p318 := eq_true p318; replace q318 := eq_true q318
              have p319 : 0 ≤ ((ji14) : Int) := of_decide_eq_true qa_
              have q319 : (ji14) < ((rd_L2 l0_1 x15_1).length : Int) := of_decide_eq_true qa_
              obtain ⟨ad319, e319, hx319_0⟩ := Kd.at_int HR317_0.out (ji14) p319 q319
              have hw319_0 := hx319_0
              obtain rfl : ad318 = ad319 := (by injection e319)
              replace hx319_0 := (HB.out.cell (World.block_lt_of_cell? w _ hx319_0)).trans hx319_0
              replace p319 := eq_true p319; replace q319 := eq_true q319
              have p320 : 0 ≤ (x6_2 : Int) := of_decide_eq_true qa_
              have q320 : x6_2 < ((rd_L2 l0_1 x15_1).length : Int) := of_decide_eq_true qa_
              obtain ⟨ad320, e320, hx320_0⟩ := Kd.at_int HR317_0.out x6_2 p320 q320
              have hw320_0 := hx320_0
              obtain rfl : ad318 = ad320 := (by injection e320)
              replace hx320_0 := (HB.out.cell (World.block_lt_of_cell? w _ hx320_0)).trans hx320_0
              replace p320 := eq_true p320; replace q320 := eq_true q320
              have p321 : 0 ≤ ((ji14) : Int) := of_decide_eq_true qa_
              have q321 : (ji14) < ((rd_L2 l0_1 x15_1).length : Int) := of_decide_eq_true qa_
              obtain ⟨ad321, e321, hx321_0⟩ := Kd.at_int HR317_0.out (ji14) p321 q321
              have hw321_0 := hx321_0
              obtain rfl : ad318 = ad321 := (by injection e321)
              replace hx321_0 := (HB.out.cell (World.block_lt_of_cell? w _ hx321_0)).trans hx321_0
              replace p321 := eq_true p321; replace q321 := eq_true q321
              refine start_ (n := 23) (S := fun w' => w'.cell? (ad318.add (x6_2).toNat) = some (.int .i64 (rd (rd_L2 l0_1 x15_1) x6_2)) ∧ w'.cell? (ad318.add ((ji14)).toNat) = some (.int .i64 (rd (rd_L2 l0_1 x15_1) (ji14))) ∧ w'.cell? (ad318.add (x6_2).toNat) = some (.int .i64 (rd (rd_L2 l0_1 x15_1) x6_2)) ∧ w'.cell? (ad318.add ((ji14)).toNat) = some (.int .i64 (rd (rd_L2 l0_1 x15_1) (ji14)))) (ds := []) (bm 23 0) (by kernel_rfl) rfl (by kernel_rfl) ⟨((HB.out.cell (World.block_lt_of_cell? w _ hw318_0)).trans hw318_0), ((HB.out.cell (World.block_lt_of_cell? w _ hw319_0)).trans hw319_0), ((HB.out.cell (World.block_lt_of_cell? w _ hw320_0)).trans hw320_0), ((HB.out.cell (World.block_lt_of_cell? w _ hw321_0)).trans hw321_0)⟩ (fun hHeld => ?_); refine with_tabW impl_EdgesOf.tab10 impl_EdgesOf.bits10 (fun HT_ HW_ => ?_)
              generalize wr.drew = w20 at HO_3 BK315 HB hx318_0 hx319_0 hx320_0 hx321_0 hHeld ⊢
              refine pz_ 0 26 (bm 23 1) ?_; refine pz_ 1 27 (bm 23 3) ?_; refine pz_ 2 28 (bm 23 7) ?_; refine pz_ 4 30 (bm 23 23) ?_; refine pz_ 5 31 (bm 23 55) ?_; refine pz_ 6 32 (bm 23 119) ?_; refine pz_ 7 33 (bm 23 247) ?_; refine pz_ 10 36 (bm 23 1271) ?_; refine pz_ 11 37 (bm 23 3319) ?_; refine pz_ 12 38 (bm 23 7415) ?_; refine pz_ 14 40 (bm 23 23799) ?_; refine pz_ 15 41 (bm 23 56567) ?_; refine pz_ 16 42 (bm 23 122103) ?_; refine pz_ 17 43 (bm 23 253175) ?_; refine tz4_ 3 29 (bm 23 253183) ?_; refine tz4_ 8 34 (bm 23 253439) ?_; refine pz_ 9 35 (bm 23 253951) ?_; refine tz4_ 13 39 (bm 23 262143) ?_; refine tz4_ 18 44 (bm 23 524287) ?_; refine pz_ 19 45 (bm 23 1048575) ?_; refine pz_ 20 46 (bm 23 2097151) ?_
              refine one_ (i := 21) (N := some 7) (bm 23 4194303) rfl rfl (one_of HT_.out (by kernel_rfl)) (by decide) (fun K hK => ?_)
              refine box_step ?hg (N := 7) ?hd (cs := #[.int .i64 0, .int .i64 0]) (t := 79) ?hr ?_; (case hd => rfl); (case hg => rfl); (case hr => first | (go_simp; done) | (go_simp; rfl))
              intro gb322 hg w21 hbox hb
              have n0_ := Aside0.mk (Kd.R_below (Kd.R_elderB (qR_ HO_3) gb322 (Nat.le_of_eq hg.symm)) hb)
              have n1_ := Aside0.mk (blk_below (qk_ BK315) hb)
              have n2_ := Aside0.mk (below_step qB_ hb)
              have n3_ := Aside0.mk (hbox)
              have n4_ := Aside0.mk ((qs_ : w.heap.size ≤ gb322))
              have n5_ := Aside0.mk ((qs_ : w.heap.size ≤ gb322))
              have n6_ := Aside0.mk ((by rw [hg]; exact Nat.ne_of_lt (blk_lt (qk_ BK315)) : gb315 ≠ gb322))
              have n7_ := Aside0.mk ((by rw [hg]; exact Nat.ne_of_gt (blk_lt (qk_ BK315)) : gb322 ≠ gb315))
              clear HO_3; clear BK315; clear HB; have HO_3 := n0_; have BK315 := n1_; have HB := n2_; have BK322 := n3_; have GW322 := n4_; have GE322 := n5_; have NB315_322 := n6_; have NB322_315 := n7_; clear n0_ n1_ n2_ n3_ n4_ n5_ n6_ n7_; clear hb hbox hg
              refine hK.out _ _ ⟨((HB.out.cell (World.block_lt_of_cell? w _ hw318_0)).trans hw318_0), ((HB.out.cell (World.block_lt_of_cell? w _ hw319_0)).trans hw319_0), ((HB.out.cell (World.block_lt_of_cell? w _ hw320_0)).trans hw320_0), ((HB.out.cell (World.block_lt_of_cell? w _ hw321_0)).trans hw321_0)⟩ (fun hHeld => ?_)
              clear hK K
              refine norm_ (a' := ?_) ?_ ?_
              rotate_left
              ·show Act.put _ (some 7) _ = _
               simp only [Act.put, List.setIfInBounds_toArray, List.set_cons_zero, List.set_cons_succ, i64_w, i32_w]
               rfl
              refine one_ (i := 22) (N := none) (bm 23 8388607) rfl rfl (one_of HT_.out (by kernel_rfl)) (by decide) (fun K hK => ?_)
              have hs22 : w21.cell? ⟨gb322, 0, none⟩ = some (.int .i64 0) := (blk_cell BK322.out 0).trans rfl
              have hfs22 := blk_frozen BK322.out 0
              have hns22_0 := NB315_322.out; have hms22_0 := NB322_315.out
              have hs23 : w21.cell? ⟨gb322, 1, none⟩ = some (.int .i64 0) := (blk_cell BK322.out 1).trans rfl
              have hfs23 := blk_frozen BK322.out 1
              have hns23_0 := NB315_322.out; have hms23_0 := NB322_315.out
              refine skip_ (w1 := ?_) (by rfl) rfl ?_ ?_
              rotate_left
              ·go_simp
               rfl
              refine hK.out _ _ ⟨((cell_far (p := ⟨gb322, _, none⟩) (by first | exact Nat.ne_of_lt (Nat.lt_of_lt_of_le (by have := World.block_lt_of_cell? _ _ hw318_0; first | rwa [add_block] at this | exact this) GW322.out) | (rw [add_block]; exact Nat.ne_of_lt (Nat.lt_of_lt_of_le (by have := World.block_lt_of_cell? _ _ hw318_0; first | rwa [add_block] at this | exact this) GW322.out)) | (show (Addr.add _ _).block ≠ _; rw [add_block]; exact Nat.ne_of_lt (Nat.lt_of_lt_of_le (by have := World.block_lt_of_cell? _ _ hw318_0; first | rwa [add_block] at this | exact this) GW322.out)) | (dsimp only; exact Nat.ne_of_lt (Nat.lt_of_lt_of_le (by have := World.block_lt_of_cell? _ _ hw318_0; first | rwa [add_block] at this | exact this) GW322.out))) _).trans (((cell_far (p := ⟨gb322, _, none⟩) (by first | exact Nat.ne_of_lt (Nat.lt_of_lt_of_le (by have := World.block_lt_of_cell? _ _ hw318_0; first | rwa [add_block] at this | exact this) GW322.out) | (rw [add_block]; exact Nat.ne_of_lt (Nat.lt_of_lt_of_le (by have := World.block_lt_of_cell? _ _ hw318_0; first | rwa [add_block] at this | exact this) GW322.out)) | (show (Addr.add _ _).block ≠ _; rw [add_block]; exact Nat.ne_of_lt (Nat.lt_of_lt_of_le (by have := World.block_lt_of_cell? _ _ hw318_0; first | rwa [add_block] at this | exact this) GW322.out)) | (dsimp only; exact Nat.ne_of_lt (Nat.lt_of_lt_of_le (by have := World.block_lt_of_cell? _ _ hw318_0; first | rwa [add_block] at this | exact this) GW322.out))) _).trans (hHeld.1)))), ((cell_far (p := ⟨gb322, _, none⟩) (by first | exact Nat.ne_of_lt (Nat.lt_of_lt_of_le (by have := World.block_lt_of_cell? _ _ hw319_0; first | rwa [add_block] at this | exact this) GW322.out) | (rw [add_block]; exact Nat.ne_of_lt (Nat.lt_of_lt_of_le (by have := World.block_lt_of_cell? _ _ hw319_0; first | rwa [add_block] at this | exact this) GW322.out)) | (show (Addr.add _ _).block ≠ _; rw [add_block]; exact Nat.ne_of_lt (Nat.lt_of_lt_of_le (by have := World.block_lt_of_cell? _ _ hw319_0; first | rwa [add_block] at this | exact this) GW322.out)) | (dsimp only; exact Nat.ne_of_lt (Nat.lt_of_lt_of_le (by have := World.block_lt_of_cell? _ _ hw319_0; first | rwa [add_block] at this | exact this) GW322.out))) _).trans (((cell_far (p := ⟨gb322, _, none⟩) (by first | exact Nat.ne_of_lt (Nat.lt_of_lt_of_le (by have := World.block_lt_of_cell? _ _ hw319_0; first | rwa [add_block] at this | exact this) GW322.out) | (rw [add_block]; exact Nat.ne_of_lt (Nat.lt_of_lt_of_le (by have := World.block_lt_of_cell? _ _ hw319_0; first | rwa [add_block] at this | exact this) GW322.out)) | (show (Addr.add _ _).block ≠ _; rw [add_block]; exact Nat.ne_of_lt (Nat.lt_of_lt_of_le (by have := World.block_lt_of_cell? _ _ hw319_0; first | rwa [add_block] at this | exact this) GW322.out)) | (dsimp only; exact Nat.ne_of_lt (Nat.lt_of_lt_of_le (by have := World.block_lt_of_cell? _ _ hw319_0; first | rwa [add_block] at this | exact this) GW322.out))) _).trans (hHeld.2.1)))), ((cell_far (p := ⟨gb322, _, none⟩) (by first | exact Nat.ne_of_lt (Nat.lt_of_lt_of_le (by have := World.block_lt_of_cell? _ _ hw320_0; first | rwa [add_block] at this | exact this) GW322.out) | (rw [add_block]; exact Nat.ne_of_lt (Nat.lt_of_lt_of_le (by have := World.block_lt_of_cell? _ _ hw320_0; first | rwa [add_block] at this | exact this) GW322.out)) | (show (Addr.add _ _).block ≠ _; rw [add_block]; exact Nat.ne_of_lt (Nat.lt_of_lt_of_le (by have := World.block_lt_of_cell? _ _ hw320_0; first | rwa [add_block] at this | exact this) GW322.out)) | (dsimp only; exact Nat.ne_of_lt (Nat.lt_of_lt_of_le (by have := World.block_lt_of_cell? _ _ hw320_0; first | rwa [add_block] at this | exact this) GW322.out))) _).trans (((cell_far (p := ⟨gb322, _, none⟩) (by first | exact Nat.ne_of_lt (Nat.lt_of_lt_of_le (by have := World.block_lt_of_cell? _ _ hw320_0; first | rwa [add_block] at this | exact this) GW322.out) | (rw [add_block]; exact Nat.ne_of_lt (Nat.lt_of_lt_of_le (by have := World.block_lt_of_cell? _ _ hw320_0; first | rwa [add_block] at this | exact this) GW322.out)) | (show (Addr.add _ _).block ≠ _; rw [add_block]; exact Nat.ne_of_lt (Nat.lt_of_lt_of_le (by have := World.block_lt_of_cell? _ _ hw320_0; first | rwa [add_block] at this | exact this) GW322.out)) | (dsimp only; exact Nat.ne_of_lt (Nat.lt_of_lt_of_le (by have := World.block_lt_of_cell? _ _ hw320_0; first | rwa [add_block] at this | exact this) GW322.out))) _).trans (hHeld.2.2.1)))), ((cell_far (p := ⟨gb322, _, none⟩) (by first | exact Nat.ne_of_lt (Nat.lt_of_lt_of_le (by have := World.block_lt_of_cell? _ _ hw321_0; first | rwa [add_block] at this | exact this) GW322.out) | (rw [add_block]; exact Nat.ne_of_lt (Nat.lt_of_lt_of_le (by have := World.block_lt_of_cell? _ _ hw321_0; first | rwa [add_block] at this | exact this) GW322.out)) | (show (Addr.add _ _).block ≠ _; rw [add_block]; exact Nat.ne_of_lt (Nat.lt_of_lt_of_le (by have := World.block_lt_of_cell? _ _ hw321_0; first | rwa [add_block] at this | exact this) GW322.out)) | (dsimp only; exact Nat.ne_of_lt (Nat.lt_of_lt_of_le (by have := World.block_lt_of_cell? _ _ hw321_0; first | rwa [add_block] at this | exact this) GW322.out))) _).trans (((cell_far (p := ⟨gb322, _, none⟩) (by first | exact Nat.ne_of_lt (Nat.lt_of_lt_of_le (by have := World.block_lt_of_cell? _ _ hw321_0; first | rwa [add_block] at this | exact this) GW322.out) | (rw [add_block]; exact Nat.ne_of_lt (Nat.lt_of_lt_of_le (by have := World.block_lt_of_cell? _ _ hw321_0; first | rwa [add_block] at this | exact this) GW322.out)) | (show (Addr.add _ _).block ≠ _; rw [add_block]; exact Nat.ne_of_lt (Nat.lt_of_lt_of_le (by have := World.block_lt_of_cell? _ _ hw321_0; first | rwa [add_block] at this | exact this) GW322.out)) | (dsimp only; exact Nat.ne_of_lt (Nat.lt_of_lt_of_le (by have := World.block_lt_of_cell? _ _ hw321_0; first | rwa [add_block] at this | exact this) GW322.out))) _).trans (hHeld.2.2.2))))⟩ (fun hHeld => ?_)
              clear hK K
              refine done_ (done_of HT_.out (by kernel_rfl)) ?_
              have hnb24 := NB322_315.out; have hnc24 := NB315_322.out
              obtain ⟨hcz25_0, hcz25_1, hfz25_0, hfz25_1⟩ := bc2_ BK322
              obtain ⟨Ao26, co26, eo26⟩ := Kd.R_slice HO_3.out
              subst eo26
              try go_wp2_with (first | ((with_reducible refine gate_callee (f := 113) rfl ?_); refine goesL_ (some 49) rfl rfl Try.func113 (by kernel_rfl) rfl #[.slice Ao26 x3_2.length co26, .agg #[.int .i64 ji16, .int .i64 ji17]] rfl (by (try simp only [List.map_toArray, List.map_cons, List.map_nil]); first | done | (simp only [hji16, hji17]; rfl) | rfl | (simp only [List.length_drop, List.length_take]; rfl)) ?_; (with_reducible refine (impl_hasEdge.calls k2 _ _ x3_2 ji16 ji17 true _ ?side1 ?side2 A18.out).mono ?_); (case side1 => refine (Kd.R_reads' (e := 79) (base := w.heap.size) (ok := fun k_ => (True ∧ k_ ≠ gb322)) (n := x3_2.length) (c := co26) ?_).2.2; exact (by (with_reducible repeat (first | apply Kd.R_alloc | apply Kd.R_drewN | apply Kd.R_drew)); exact (Kd.R_mono (Kd.R_far (p := ⟨gb322, 1, none⟩) (Kd.R_far (p := ⟨gb322, 0, none⟩) (Kd.R_mono HO_3.out (fun k_ hk => (⟨hk, hk.2⟩ : _ ∧ k_ ≠ gb322))) (fun _ hk => hk.2) (.int .i64 ji16)) (fun _ hk => hk.2) (.int .i64 ji17)) (fun _ h_ => h_.1)))); (case side2 => exact (Kd.R_reads' HO_3.out).2.1); rintro e w27 ⟨rfl, hb⟩; refine ⟨_, rfl, ?_⟩; replace HO_3 := Aside0.mk (Kd.R_below (by (with_reducible repeat (first | apply Kd.R_alloc | apply Kd.R_drewN | apply Kd.R_drew)); exact (Kd.R_mono (Kd.R_far (p := ⟨gb322, 1, none⟩) (Kd.R_far (p := ⟨gb322, 0, none⟩) (Kd.R_mono HO_3.out (fun k_ hk => (⟨hk, hk.2⟩ : _ ∧ k_ ≠ gb322))) (fun _ hk => hk.2) (.int .i64 ji16)) (fun _ hk => hk.2) (.int .i64 ji17)) (fun _ h_ => h_.1))) hb); replace BK315 := Aside0.mk (blk_below (g := gb315) (o := .cells #[.int .i64 a0_0, .slice (some ad317) l0_1.length c0_1] 89 (0, 0)) (by (with_reducible repeat (first | refine blk_drewN ?_ _ | refine blk_drew ?_ | refine blk_alloc ?_ _)); refine blk_far ?_ NB315_322.out _; (with_reducible repeat (first | refine blk_drewN ?_ _ | refine blk_drew ?_ | refine blk_alloc ?_ _)); refine blk_far ?_ NB315_322.out _; (with_reducible repeat (first | refine blk_drewN ?_ _ | refine blk_drew ?_ | refine blk_alloc ?_ _)); exact BK315.out) hb); replace BK322 := Aside0.mk (blk_below (g := gb322) (o := .cells #[.int .i64 ji16, .int .i64 ji17] 79 (0, 0)) (by (with_reducible repeat (first | refine blk_drewN ?_ _ | refine blk_drew ?_ | refine blk_alloc ?_ _)); refine blk_put (cs := #[.int .i64 ji16, .int .i64 0]) ?_ 1 _ rfl; (with_reducible repeat (first | refine blk_drewN ?_ _ | refine blk_drew ?_ | refine blk_alloc ?_ _)); refine blk_put (cs := #[.int .i64 0, .int .i64 0]) ?_ 0 _ rfl; (with_reducible repeat (first | refine blk_drewN ?_ _ | refine blk_drew ?_ | refine blk_alloc ?_ _)); exact BK322.out) hb); replace HB := Aside0.mk (below_step qB_ hb); (try clear hb); (try clear hb2); (try clear hk); (try clear hi)))
              go_roundg k2
              case measure => have := HK1.out; have := HK2.out; omega
              case rel => exact ⟨(x3_2), (ji14), (by first | rfl | (simp; done) | (simp only [← hji14] <;> (first | rfl | simp)) | (simp [*]; done)), H', ⟨by have := HK1.out; have := HK2.out; omega⟩, ⟨by (with_reducible repeat (first | apply Kd.R_alloc | apply Kd.R_drewN | apply Kd.R_drew)); exact Kd.R_mono HO_3.out (fun _ hk => trivial)⟩, ⟨qk_ BK315⟩, ⟨qB_⟩⟩
             ·replace c19 := Bool.eq_false_iff.mpr c19
              subst c19
              rw [if_neg (show ¬ (false = true) by decide)] at H
              obtain ⟨t324, A280, H⟩ := Option.bind_eq_some_iff.mp H; have A28 := Aside0.mk A280; clear A280
              have H' := Aside0.mk H; clear H
              try go_wp2
              have n0_ := Aside0.mk (Kd.R_drew HO_3.out)
              have n1_ := Aside0.mk (blk_drew BK315.out)
              have n2_ := Aside0.mk (below_drew1 HB.out)
              clear HO_3; clear BK315; clear HB; have HO_3 := n0_; have BK315 := n1_; have HB := n2_; clear n0_ n1_ n2_
              have p318 : 0 ≤ (x6_2 : Int) := of_decide_eq_true qa_
              have q318 : x6_2 < ((rd_L2 l0_1 x15_1).length : Int) := of_decide_eq_true qa_
              obtain ⟨ad318, e318, hx318_0⟩ := Kd.at_int HR317_0.out x6_2 p318 q318
              have hw318_0 := hx318_0; cases e318
              replace hx318_0 := (HB.out.cell (World.block_lt_of_cell? w _ hx318_0)).trans hx318_0
              replace p318 := eq_true p318; replace q318 := eq_true q318
              have p319 : 0 ≤ ((ji14) : Int) := of_decide_eq_true qa_
              have q319 : (ji14) < ((rd_L2 l0_1 x15_1).length : Int) := of_decide_eq_true qa_
              obtain ⟨ad319, e319, hx319_0⟩ := Kd.at_int HR317_0.out (ji14) p319 q319
              have hw319_0 := hx319_0
              obtain rfl : ad318 = ad319 := (by injection e319)
              replace hx319_0 := (HB.out.cell (World.block_lt_of_cell? w _ hx319_0)).trans hx319_0
              replace p319 := eq_true p319; replace q319 := eq_true q319
              have p320 : 0 ≤ (x6_2 : Int) := of_decide_eq_true qa_
              have q320 : x6_2 < ((rd_L2 l0_1 x15_1).length : Int) := of_decide_eq_true qa_
              obtain ⟨ad320, e320, hx320_0⟩ := Kd.at_int HR317_0.out x6_2 p320 q320
              have hw320_0 := hx320_0
              obtain rfl : ad318 = ad320 := (by injection e320)
              replace hx320_0 := (HB.out.cell (World.block_lt_of_cell? w _ hx320_0)).trans hx320_0
              replace p320 := eq_true p320; replace q320 := eq_true q320
              have p321 : 0 ≤ ((ji14) : Int) := of_decide_eq_true qa_
              have q321 : (ji14) < ((rd_L2 l0_1 x15_1).length : Int) := of_decide_eq_true qa_
              obtain ⟨ad321, e321, hx321_0⟩ := Kd.at_int HR317_0.out (ji14) p321 q321
              have hw321_0 := hx321_0
              obtain rfl : ad318 = ad321 := (by injection e321)
              replace hx321_0 := (HB.out.cell (World.block_lt_of_cell? w _ hx321_0)).trans hx321_0
              replace p321 := eq_true p321; replace q321 := eq_true q321
              refine start_ (n := 23) (S := fun w' => w'.cell? (ad318.add (x6_2).toNat) = some (.int .i64 (rd (rd_L2 l0_1 x15_1) x6_2)) ∧ w'.cell? (ad318.add ((ji14)).toNat) = some (.int .i64 (rd (rd_L2 l0_1 x15_1) (ji14))) ∧ w'.cell? (ad318.add (x6_2).toNat) = some (.int .i64 (rd (rd_L2 l0_1 x15_1) x6_2)) ∧ w'.cell? (ad318.add ((ji14)).toNat) = some (.int .i64 (rd (rd_L2 l0_1 x15_1) (ji14)))) (ds := []) (bm 23 0) (by kernel_rfl) rfl (by kernel_rfl) ⟨((HB.out.cell (World.block_lt_of_cell? w _ hw318_0)).trans hw318_0), ((HB.out.cell (World.block_lt_of_cell? w _ hw319_0)).trans hw319_0), ((HB.out.cell (World.block_lt_of_cell? w _ hw320_0)).trans hw320_0), ((HB.out.cell (World.block_lt_of_cell? w _ hw321_0)).trans hw321_0)⟩ (fun hHeld => ?_); refine with_tabW impl_EdgesOf.tab10 impl_EdgesOf.bits10 (fun HT_ HW_ => ?_)
              generalize wr.drew = w29 at HO_3 BK315 HB hx318_0 hx319_0 hx320_0 hx321_0 hHeld ⊢
              refine pz_ 0 26 (bm 23 1) ?_; refine pz_ 1 27 (bm 23 3) ?_; refine pz_ 2 28 (bm 23 7) ?_; refine pz_ 4 30 (bm 23 23) ?_; refine pz_ 5 31 (bm 23 55) ?_; refine pz_ 6 32 (bm 23 119) ?_; refine pz_ 7 33 (bm 23 247) ?_; refine pz_ 10 36 (bm 23 1271) ?_; refine pz_ 11 37 (bm 23 3319) ?_; refine pz_ 12 38 (bm 23 7415) ?_; refine pz_ 14 40 (bm 23 23799) ?_; refine pz_ 15 41 (bm 23 56567) ?_; refine pz_ 16 42 (bm 23 122103) ?_; refine pz_ 17 43 (bm 23 253175) ?_; refine tz4_ 3 29 (bm 23 253183) ?_; refine tz4_ 8 34 (bm 23 253439) ?_; refine pz_ 9 35 (bm 23 253951) ?_; refine tz4_ 13 39 (bm 23 262143) ?_; refine tz4_ 18 44 (bm 23 524287) ?_; refine pz_ 19 45 (bm 23 1048575) ?_; refine pz_ 20 46 (bm 23 2097151) ?_
              refine one_ (i := 21) (N := some 7) (bm 23 4194303) rfl rfl (one_of HT_.out (by kernel_rfl)) (by decide) (fun K hK => ?_)
              refine box_step ?hg (N := 7) ?hd (cs := #[.int .i64 0, .int .i64 0]) (t := 79) ?hr ?_; (case hd => rfl); (case hg => rfl); (case hr => first | (go_simp; done) | (go_simp; rfl))
              intro gb322 hg w30 hbox hb
              have n0_ := Aside0.mk (Kd.R_below (Kd.R_elderB (qR_ HO_3) gb322 (Nat.le_of_eq hg.symm)) hb)
              have n1_ := Aside0.mk (blk_below (qk_ BK315) hb)
              have n2_ := Aside0.mk (below_step qB_ hb)
              have n3_ := Aside0.mk (hbox)
              have n4_ := Aside0.mk ((qs_ : w.heap.size ≤ gb322))
              have n5_ := Aside0.mk ((qs_ : w.heap.size ≤ gb322))
              have n6_ := Aside0.mk ((by rw [hg]; exact Nat.ne_of_lt (blk_lt (qk_ BK315)) : gb315 ≠ gb322))
              have n7_ := Aside0.mk ((by rw [hg]; exact Nat.ne_of_gt (blk_lt (qk_ BK315)) : gb322 ≠ gb315))
              clear HO_3; clear BK315; clear HB; have HO_3 := n0_; have BK315 := n1_; have HB := n2_; have BK322 := n3_; have GW322 := n4_; have GE322 := n5_; have NB315_322 := n6_; have NB322_315 := n7_; clear n0_ n1_ n2_ n3_ n4_ n5_ n6_ n7_; clear hb hbox hg
              refine hK.out _ _ ⟨((HB.out.cell (World.block_lt_of_cell? w _ hw318_0)).trans hw318_0), ((HB.out.cell (World.block_lt_of_cell? w _ hw319_0)).trans hw319_0), ((HB.out.cell (World.block_lt_of_cell? w _ hw320_0)).trans hw320_0), ((HB.out.cell (World.block_lt_of_cell? w _ hw321_0)).trans hw321_0)⟩ (fun hHeld => ?_)
              clear hK K
              refine norm_ (a' := ?_) ?_ ?_
              rotate_left
              ·show Act.put _ (some 7) _ = _
               simp only [Act.put, List.setIfInBounds_toArray, List.set_cons_zero, List.set_cons_succ, i64_w, i32_w]
               rfl
              refine one_ (i := 22) (N := none) (bm 23 8388607) rfl rfl (one_of HT_.out (by kernel_rfl)) (by decide) (fun K hK => ?_)
              have hs31 : w30.cell? ⟨gb322, 0, none⟩ = some (.int .i64 0) := (blk_cell BK322.out 0).trans rfl
              have hfs31 := blk_frozen BK322.out 0
              have hns31_0 := NB315_322.out; have hms31_0 := NB322_315.out
              have hs32 : w30.cell? ⟨gb322, 1, none⟩ = some (.int .i64 0) := (blk_cell BK322.out 1).trans rfl
              have hfs32 := blk_frozen BK322.out 1
              have hns32_0 := NB315_322.out; have hms32_0 := NB322_315.out
              refine skip_ (w1 := ?_) (by rfl) rfl ?_ ?_
              rotate_left
              ·go_simp
               rfl
              refine hK.out _ _ ⟨((cell_far (p := ⟨gb322, _, none⟩) (by first | exact Nat.ne_of_lt (Nat.lt_of_lt_of_le (by have := World.block_lt_of_cell? _ _ hw318_0; first | rwa [add_block] at this | exact this) GW322.out) | (rw [add_block]; exact Nat.ne_of_lt (Nat.lt_of_lt_of_le (by have := World.block_lt_of_cell? _ _ hw318_0; first | rwa [add_block] at this | exact this) GW322.out)) | (show (Addr.add _ _).block ≠ _; rw [add_block]; exact Nat.ne_of_lt (Nat.lt_of_lt_of_le (by have := World.block_lt_of_cell? _ _ hw318_0; first | rwa [add_block] at this | exact this) GW322.out)) | (dsimp only; exact Nat.ne_of_lt (Nat.lt_of_lt_of_le (by have := World.block_lt_of_cell? _ _ hw318_0; first | rwa [add_block] at this | exact this) GW322.out))) _).trans (((cell_far (p := ⟨gb322, _, none⟩) (by first | exact Nat.ne_of_lt (Nat.lt_of_lt_of_le (by have := World.block_lt_of_cell? _ _ hw318_0; first | rwa [add_block] at this | exact this) GW322.out) | (rw [add_block]; exact Nat.ne_of_lt (Nat.lt_of_lt_of_le (by have := World.block_lt_of_cell? _ _ hw318_0; first | rwa [add_block] at this | exact this) GW322.out)) | (show (Addr.add _ _).block ≠ _; rw [add_block]; exact Nat.ne_of_lt (Nat.lt_of_lt_of_le (by have := World.block_lt_of_cell? _ _ hw318_0; first | rwa [add_block] at this | exact this) GW322.out)) | (dsimp only; exact Nat.ne_of_lt (Nat.lt_of_lt_of_le (by have := World.block_lt_of_cell? _ _ hw318_0; first | rwa [add_block] at this | exact this) GW322.out))) _).trans (hHeld.1)))), ((cell_far (p := ⟨gb322, _, none⟩) (by first | exact Nat.ne_of_lt (Nat.lt_of_lt_of_le (by have := World.block_lt_of_cell? _ _ hw319_0; first | rwa [add_block] at this | exact this) GW322.out) | (rw [add_block]; exact Nat.ne_of_lt (Nat.lt_of_lt_of_le (by have := World.block_lt_of_cell? _ _ hw319_0; first | rwa [add_block] at this | exact this) GW322.out)) | (show (Addr.add _ _).block ≠ _; rw [add_block]; exact Nat.ne_of_lt (Nat.lt_of_lt_of_le (by have := World.block_lt_of_cell? _ _ hw319_0; first | rwa [add_block] at this | exact this) GW322.out)) | (dsimp only; exact Nat.ne_of_lt (Nat.lt_of_lt_of_le (by have := World.block_lt_of_cell? _ _ hw319_0; first | rwa [add_block] at this | exact this) GW322.out))) _).trans (((cell_far (p := ⟨gb322, _, none⟩) (by first | exact Nat.ne_of_lt (Nat.lt_of_lt_of_le (by have := World.block_lt_of_cell? _ _ hw319_0; first | rwa [add_block] at this | exact this) GW322.out) | (rw [add_block]; exact Nat.ne_of_lt (Nat.lt_of_lt_of_le (by have := World.block_lt_of_cell? _ _ hw319_0; first | rwa [add_block] at this | exact this) GW322.out)) | (show (Addr.add _ _).block ≠ _; rw [add_block]; exact Nat.ne_of_lt (Nat.lt_of_lt_of_le (by have := World.block_lt_of_cell? _ _ hw319_0; first | rwa [add_block] at this | exact this) GW322.out)) | (dsimp only; exact Nat.ne_of_lt (Nat.lt_of_lt_of_le (by have := World.block_lt_of_cell? _ _ hw319_0; first | rwa [add_block] at this | exact this) GW322.out))) _).trans (hHeld.2.1)))), ((cell_far (p := ⟨gb322, _, none⟩) (by first | exact Nat.ne_of_lt (Nat.lt_of_lt_of_le (by have := World.block_lt_of_cell? _ _ hw320_0; first | rwa [add_block] at this | exact this) GW322.out) | (rw [add_block]; exact Nat.ne_of_lt (Nat.lt_of_lt_of_le (by have := World.block_lt_of_cell? _ _ hw320_0; first | rwa [add_block] at this | exact this) GW322.out)) | (show (Addr.add _ _).block ≠ _; rw [add_block]; exact Nat.ne_of_lt (Nat.lt_of_lt_of_le (by have := World.block_lt_of_cell? _ _ hw320_0; first | rwa [add_block] at this | exact this) GW322.out)) | (dsimp only; exact Nat.ne_of_lt (Nat.lt_of_lt_of_le (by have := World.block_lt_of_cell? _ _ hw320_0; first | rwa [add_block] at this | exact this) GW322.out))) _).trans (((cell_far (p := ⟨gb322, _, none⟩) (by first | exact Nat.ne_of_lt (Nat.lt_of_lt_of_le (by have := World.block_lt_of_cell? _ _ hw320_0; first | rwa [add_block] at this | exact this) GW322.out) | (rw [add_block]; exact Nat.ne_of_lt (Nat.lt_of_lt_of_le (by have := World.block_lt_of_cell? _ _ hw320_0; first | rwa [add_block] at this | exact this) GW322.out)) | (show (Addr.add _ _).block ≠ _; rw [add_block]; exact Nat.ne_of_lt (Nat.lt_of_lt_of_le (by have := World.block_lt_of_cell? _ _ hw320_0; first | rwa [add_block] at this | exact this) GW322.out)) | (dsimp only; exact Nat.ne_of_lt (Nat.lt_of_lt_of_le (by have := World.block_lt_of_cell? _ _ hw320_0; first | rwa [add_block] at this | exact this) GW322.out))) _).trans (hHeld.2.2.1)))), ((cell_far (p := ⟨gb322, _, none⟩) (by first | exact Nat.ne_of_lt (Nat.lt_of_lt_of_le (by have := World.block_lt_of_cell? _ _ hw321_0; first | rwa [add_block] at this | exact this) GW322.out) | (rw [add_block]; exact Nat.ne_of_lt (Nat.lt_of_lt_of_le (by have := World.block_lt_of_cell? _ _ hw321_0; first | rwa [add_block] at this | exact this) GW322.out)) | (show (Addr.add _ _).block ≠ _; rw [add_block]; exact Nat.ne_of_lt (Nat.lt_of_lt_of_le (by have := World.block_lt_of_cell? _ _ hw321_0; first | rwa [add_block] at this | exact this) GW322.out)) | (dsimp only; exact Nat.ne_of_lt (Nat.lt_of_lt_of_le (by have := World.block_lt_of_cell? _ _ hw321_0; first | rwa [add_block] at this | exact this) GW322.out))) _).trans (((cell_far (p := ⟨gb322, _, none⟩) (by first | exact Nat.ne_of_lt (Nat.lt_of_lt_of_le (by have := World.block_lt_of_cell? _ _ hw321_0; first | rwa [add_block] at this | exact this) GW322.out) | (rw [add_block]; exact Nat.ne_of_lt (Nat.lt_of_lt_of_le (by have := World.block_lt_of_cell? _ _ hw321_0; first | rwa [add_block] at this | exact this) GW322.out)) | (show (Addr.add _ _).block ≠ _; rw [add_block]; exact Nat.ne_of_lt (Nat.lt_of_lt_of_le (by have := World.block_lt_of_cell? _ _ hw321_0; first | rwa [add_block] at this | exact this) GW322.out)) | (dsimp only; exact Nat.ne_of_lt (Nat.lt_of_lt_of_le (by have := World.block_lt_of_cell? _ _ hw321_0; first | rwa [add_block] at this | exact this) GW322.out))) _).trans (hHeld.2.2.2))))⟩ (fun hHeld => ?_)
              clear hK K
              refine done_ (done_of HT_.out (by kernel_rfl)) ?_
              have hnb33 := NB322_315.out; have hnc33 := NB315_322.out
              obtain ⟨hcz34_0, hcz34_1, hfz34_0, hfz34_1⟩ := bc2_ BK322
              obtain ⟨Ao35, co35, eo35⟩ := Kd.R_slice HO_3.out
              subst eo35
              try go_wp2_with (first | ((with_reducible refine gate_callee (f := 113) rfl ?_); refine goesL_ (some 49) rfl rfl Try.func113 (by kernel_rfl) rfl #[.slice Ao35 x3_2.length co35, .agg #[.int .i64 ji16, .int .i64 ji17]] rfl (by (try simp only [List.map_toArray, List.map_cons, List.map_nil]); first | done | (simp only [hji16, hji17]; rfl) | rfl | (simp only [List.length_drop, List.length_take]; rfl)) ?_; (with_reducible refine (impl_hasEdge.calls k2 _ _ x3_2 ji16 ji17 false _ ?side1 ?side2 A18.out).mono ?_); (case side1 => refine (Kd.R_reads' (e := 79) (base := w.heap.size) (ok := fun k_ => (True ∧ k_ ≠ gb322)) (n := x3_2.length) (c := co35) ?_).2.2; exact (by (with_reducible repeat (first | apply Kd.R_alloc | apply Kd.R_drewN | apply Kd.R_drew)); exact (Kd.R_mono (Kd.R_far (p := ⟨gb322, 1, none⟩) (Kd.R_far (p := ⟨gb322, 0, none⟩) (Kd.R_mono HO_3.out (fun k_ hk => (⟨hk, hk.2⟩ : _ ∧ k_ ≠ gb322))) (fun _ hk => hk.2) (.int .i64 ji16)) (fun _ hk => hk.2) (.int .i64 ji17)) (fun _ h_ => h_.1)))); (case side2 => exact (Kd.R_reads' HO_3.out).2.1); rintro e w36 ⟨rfl, hb⟩; refine ⟨_, rfl, ?_⟩; replace HO_3 := Aside0.mk (Kd.R_below (by (with_reducible repeat (first | apply Kd.R_alloc | apply Kd.R_drewN | apply Kd.R_drew)); exact (Kd.R_mono (Kd.R_far (p := ⟨gb322, 1, none⟩) (Kd.R_far (p := ⟨gb322, 0, none⟩) (Kd.R_mono HO_3.out (fun k_ hk => (⟨hk, hk.2⟩ : _ ∧ k_ ≠ gb322))) (fun _ hk => hk.2) (.int .i64 ji16)) (fun _ hk => hk.2) (.int .i64 ji17)) (fun _ h_ => h_.1))) hb); replace BK315 := Aside0.mk (blk_below (g := gb315) (o := .cells #[.int .i64 a0_0, .slice (some ad317) l0_1.length c0_1] 89 (0, 0)) (by (with_reducible repeat (first | refine blk_drewN ?_ _ | refine blk_drew ?_ | refine blk_alloc ?_ _)); refine blk_far ?_ NB315_322.out _; (with_reducible repeat (first | refine blk_drewN ?_ _ | refine blk_drew ?_ | refine blk_alloc ?_ _)); refine blk_far ?_ NB315_322.out _; (with_reducible repeat (first | refine blk_drewN ?_ _ | refine blk_drew ?_ | refine blk_alloc ?_ _)); exact BK315.out) hb); replace BK322 := Aside0.mk (blk_below (g := gb322) (o := .cells #[.int .i64 ji16, .int .i64 ji17] 79 (0, 0)) (by (with_reducible repeat (first | refine blk_drewN ?_ _ | refine blk_drew ?_ | refine blk_alloc ?_ _)); refine blk_put (cs := #[.int .i64 ji16, .int .i64 0]) ?_ 1 _ rfl; (with_reducible repeat (first | refine blk_drewN ?_ _ | refine blk_drew ?_ | refine blk_alloc ?_ _)); refine blk_put (cs := #[.int .i64 0, .int .i64 0]) ?_ 0 _ rfl; (with_reducible repeat (first | refine blk_drewN ?_ _ | refine blk_drew ?_ | refine blk_alloc ?_ _)); exact BK322.out) hb); replace HB := Aside0.mk (below_step qB_ hb); (try clear hb); (try clear hb2); (try clear hk); (try clear hi); obtain ⟨hcz37_0, hcz37_1, hfz37_0, hfz37_1⟩ := bc2_ BK322) | ((with_reducible refine gate_callee (f := 107) rfl ?_); refine goesL_ (some 53) rfl rfl Try.func107 (by kernel_rfl) rfl #[.slice Ao35 x3_2.length co35, .agg #[.int .i64 ji16, .int .i64 ji17]] rfl (by (try simp only [List.map_toArray, List.map_cons, List.map_nil]); first | done | (simp only [hji16, hji17]; rfl) | rfl | (simp only [List.length_drop, List.length_take]; rfl)) ?_; (with_reducible refine (impl_withEdge.calls k2 _ _ x3_2 ji16 ji17 t324 _ ?side1 ?side2 A28.out).mono ?_); (case side1 => exact qD_ (Kd.R_reads' HO_3.out).2.2); (case side2 => exact (Kd.R_reads' HO_3.out).2.1); rintro e w38 ⟨v325, rfl, ho0, hb⟩; refine ⟨_, rfl, ?_⟩; have HO326 := Aside0.mk (Kd.R_lower (Kd.R_newB (Kd.R_new' ho0 (Kd.R_lt (qR_ HO_3))) (qk_ BK322)) (below_size qB_)); replace HO_3 := Aside0.mk (Kd.R_elder' (qR_ HO_3) (Kd.R_base ho0) hb); replace BK315 := Aside0.mk (blk_below (qk_ BK315) hb); replace BK322 := Aside0.mk (blk_below (qk_ BK322) hb); replace HB := Aside0.mk (below_step qB_ hb); (try clear hb); (try clear hb2); (try clear hk); (try clear hi); (try clear ho0)))
              go_roundg k2
              case measure => have := HK1.out; have := HK2.out; omega
              case rel => exact ⟨(t324), (ji14), (by first | rfl | (simp; done) | (simp only [← hji14] <;> (first | rfl | simp)) | (simp [*]; done)), H', ⟨by have := HK1.out; have := HK2.out; omega⟩, ⟨by (with_reducible repeat (first | apply Kd.R_alloc | apply Kd.R_drewN | apply Kd.R_drew)); exact Kd.R_mono HO326.out (fun _ hk => trivial)⟩, ⟨qk_ BK315⟩, ⟨qB_⟩⟩
            ·rw [if_neg c15] at H
             exact absurd H (by simp)
           ·rw [if_neg c13] at H
            exact absurd H (by simp)
          ·rw [if_neg c12] at H
           exact absurd H (by simp)
         ·rw [if_neg c11] at H
          have c11b0 : decide ((wrap64 (x6_2 + 1)) < ((rd_L2 l0_1 x15_1).length : Int)) = false := decide_eq_false c11
          clear c11; have H' := Aside0.mk H; clear H
          go_wp2
          go_roundg k2
          case measure => have := HK1.out; have := HK2.out; omega
          case rel => exact ⟨(x3_2), (wrap64 (x15_1 + 1)), qe_, H', ⟨by have := HK1.out; have := HK2.out; omega⟩, ⟨by (with_reducible repeat (first | apply Kd.R_alloc | apply Kd.R_drewN | apply Kd.R_drew)); first | exact HO_3.out | (have h_ := HO_3.out; simp only [own_slice] at h_ ⊢; exact h_)⟩, ⟨qk_ BK315⟩, ⟨qB_⟩⟩
      ·rw [if_neg c10] at H
       exact absurd H (by simp)
     ·rw [if_neg c9] at H
      exact absurd H (by simp)
    ·rw [if_neg c8] at H
     have c8b0 : decide (x15_1 < (l0_1.length : Int)) = false := decide_eq_false c8
     clear c8
     obtain rfl := Option.some.inj H
     go_wp2
     go_ret
     exact ⟨_, qr_, by (with_reducible repeat (first | apply Kd.R_alloc | apply Kd.R_drewN | apply Kd.R_drew)); exact HO_3.out, qB_⟩
 ·replace c3 := Bool.eq_false_iff.mpr c3
  subst c3
  rw [if_neg (show ¬ (false = true) by decide)] at H
  obtain rfl := Option.some.inj H
  go_enter Try.func61, Try.ntmps61
  go_wp2_with (first | ((with_reducible refine gate_dst (N := 1) rfl ?_); refine bx_ 1 (cs := #[.int .i64 a0_0, .slice A0_1 l0_1.length c0_1]) (t := 89) ?_; intro gb315 hg w39 hbox hb; have BK315 := Aside0.mk (hbox); have GW315 := Aside0.mk ((qs_ : w.heap.size ≤ gb315)); have GE315 := Aside0.mk ((qs_ : w.heap.size ≤ gb315)); replace HB := Aside0.mk (below_step qB_ hb); clear hb hbox hg; obtain ⟨hcz40_0, hcz40_1, hfz40_0, hfz40_1⟩ := bc2_ BK315) | ((with_reducible refine gate_callee (f := 111) rfl ?_); refine gl_ (some 9) Try.func111 #[.agg #[.int .i64 a0_0, .slice A0_1 l0_1.length c0_1]] ?_; (with_reducible refine (impl_ForestOk.calls k a0_0 _ _ l0_1 false _ ?side1 ?side2 A2.out).mono ?_); (case side1 => exact qC_ HR0_1 HB); (case side2 => exact HC0_1.out); rintro e w41 ⟨rfl, hb⟩; refine ⟨_, rfl, ?_⟩; replace BK315 := Aside0.mk (blk_below (qk_ BK315) hb); replace HB := Aside0.mk (below_step qB_ hb); (try clear hb); (try clear hb2); (try clear hk); (try clear hi)))
  go_ret
  exact ⟨_, qr_, by first | exact Kd.R_nil _ _ _ _ _ | exact Kd.N_nil _ _ _ _ _ | exact Kd.V_nil _ _ _ _ _ | exact Kd.Q_nil _ _ _ _ _ | exact Kd.S_nil _ _ _ _ _, qB_⟩

end Go.Proofs.Ytigeiofkbccocaa.QFnForestNew
