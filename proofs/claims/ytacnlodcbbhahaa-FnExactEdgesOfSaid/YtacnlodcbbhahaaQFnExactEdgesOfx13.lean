-- printed for this claim by a program of the session's own (no text of the kit's print)
import Derived.Test.YtacnlodcbbhahaaQFnExactEdgesOfx0
import Derived.Test.YtacnlodcbbhahaaQFnExactEdgesOfx10
import Derived.Test.YtacnlodcbbhahaaQFnExactEdgesOfx11
import Derived.Test.YtacnlodcbbhahaaQFnExactEdgesOfx12
namespace Go.Proofs.Ytacnlodcbbhahaa.QFnExactEdgesOf
open Go.RowKit Go.Proofs.YtacnlodcbbhahaaW.PrintWords Go.Proofs.YtacnlodcbbhahaaW.PrintLast Go.Proofs.YtacnlodcbbhahaaW.PrintMore
attribute [local go_sem] max2_int min2_int max_two min_two max_three min_three max_four min_four   -- for this text's walks alone
set_option linter.unusedVariables false
set_option linter.unusedSimpArgs false

/-! ### impl_EdgesOf: function 42 -/
mutual
def impl_EdgesOf.l0 : Nat → List (S112) → List (List Int) → Int → Int → Option ((List (S112)))
  | 0, _, _, _, _ => none
  | k + 1, x3, x13, x14, x15 => if x15 < x14 then (if 0 ≤ x15 then (if x15 < (x13.length : Int) then (impl_EdgesOf.l1 k x3 (rd_L1 x13 x15) 0 x13 x14 x15) else (none)) else (none)) else (some x3)
def impl_EdgesOf.l1 : Nat → List (S112) → List Int → Int → List (List Int) → Int → Int → Option ((List (S112)))
  | 0, _, _, _, _, _, _ => none
  | k + 1, x3, x5, x6, x13, x14, x15 => if (wrap64 (x6 + 1)) < (x5.length : Int) then (if 0 ≤ x6 then (if x6 < (x5.length : Int) then (if 0 ≤ (wrap64 (x6 + 1)) then ((impl_hasEdge.f k x3 (mn (rd x5 x6) (rd x5 (wrap64 (x6 + 1)))) (mx (rd x5 x6) (rd x5 (wrap64 (x6 + 1))))).bind fun t368 => (if t368 = true then (impl_EdgesOf.l1 k x3 x5 (wrap64 (x6 + 1)) x13 x14 x15) else ((impl_withEdge.f k x3 (mn (rd x5 x6) (rd x5 (wrap64 (x6 + 1)))) (mx (rd x5 x6) (rd x5 (wrap64 (x6 + 1))))).bind fun t369 => (impl_EdgesOf.l1 k t369 x5 (wrap64 (x6 + 1)) x13 x14 x15)))) else (none)) else (none)) else (none)) else (impl_EdgesOf.l0 k x3 x13 x14 (wrap64 (x15 + 1)))
end
def impl_EdgesOf.f (k : Nat) (a0_0 : Int) (l0_1 : List (List Int)) : Option ((List (S112))) := (impl_ForestOk.f k a0_0 l0_1).bind fun t361 => (if t361 = true then (impl_EdgesOf.l0 k ([] : List (S112)) l0_1 (l0_1.length : Int) 0) else (some ([] : List (S112))))
theorem impl_EdgesOf.mono_l : ∀ k, (∀ y0 y1 y2 y3, LeO (impl_EdgesOf.l0 k y0 y1 y2 y3) (impl_EdgesOf.l0 (k + 1) y0 y1 y2 y3)) ∧ (∀ y0 y1 y2 y3 y4 y5, LeO (impl_EdgesOf.l1 k y0 y1 y2 y3 y4 y5) (impl_EdgesOf.l1 (k + 1) y0 y1 y2 y3 y4 y5))
  | 0 => ⟨fun _ _ _ _ r h => by simp [impl_EdgesOf.l0] at h, fun _ _ _ _ _ _ r h => by simp [impl_EdgesOf.l1] at h⟩
  | k + 1 => by
    obtain ⟨ih0, ih1⟩ := impl_EdgesOf.mono_l k
    refine ⟨?_, ?_⟩ <;> (intros; first | unfold impl_EdgesOf.l0 | unfold impl_EdgesOf.l1) <;> repeat' first
    | (with_reducible exact ih0 _ _ _ _)
    | (with_reducible exact ih1 _ _ _ _ _ _)
    | (with_reducible exact impl_ForestOk.mono _ _ _)
    | (with_reducible exact impl_hasEdge.mono _ _ _ _)
    | (with_reducible exact impl_withEdge.mono _ _ _ _)
    | (with_reducible exact LeO.refl _)
    | (with_reducible exact LeO.none _)
    | (with_reducible refine LeO.ite ?_ ?_)
    | (with_reducible refine LeO.bind ?_ (fun _ => ?_))
    | exact ih0 _ _ _ _
    | exact ih1 _ _ _ _ _ _
    | exact impl_ForestOk.mono _ _ _
    | exact impl_hasEdge.mono _ _ _ _
    | exact impl_withEdge.mono _ _ _ _
    | exact LeO.none _
    | refine LeO.ite ?_ ?_
    | refine LeO.bind ?_ (fun _ => ?_)
theorem impl_EdgesOf.mono : ∀ a0 a1 k, LeO (impl_EdgesOf.f k a0 a1) (impl_EdgesOf.f (k + 1) a0 a1) := by
  intro a0 a1 k
  obtain ⟨ih0, ih1⟩ := impl_EdgesOf.mono_l k
  unfold impl_EdgesOf.f
  repeat' first
      | (with_reducible exact ih0 _ _ _ _)
      | (with_reducible exact ih1 _ _ _ _ _ _)
      | (with_reducible exact impl_ForestOk.mono _ _ _)
      | (with_reducible exact impl_hasEdge.mono _ _ _ _)
      | (with_reducible exact impl_withEdge.mono _ _ _ _)
      | (with_reducible exact LeO.refl _)
      | (with_reducible exact LeO.none _)
      | (with_reducible refine LeO.ite ?_ ?_)
      | (with_reducible refine LeO.bind ?_ (fun _ => ?_))
      | exact ih0 _ _ _ _
      | exact ih1 _ _ _ _ _ _
      | exact impl_ForestOk.mono _ _ _
      | exact impl_hasEdge.mono _ _ _ _
      | exact impl_withEdge.mono _ _ _ _
      | exact LeO.none _
      | refine LeO.ite ?_ ?_
      | refine LeO.bind ?_ (fun _ => ?_)
def impl_EdgesOf.T10 : Bool × List (List Nat × List Nat) := (true, [([], []), ([], []), ([0, 1], [0, 1]), ([2], [2]), ([], []), ([], []), ([5], [5]), ([4, 6], [4, 6]), ([7], [7]), ([3, 8], [3, 8]), ([], []), ([], []), ([10, 11], [10, 11]), ([12], [12]), ([], []), ([], []), ([15], [15]), ([14, 16], [14, 16]), ([17], [17]), ([13, 18], [13, 18]), ([9, 19], [9, 19]), ([], []), ([21, 20, 0, 1, 2, 3, 4, 5, 6, 7, 8, 9, 10, 11, 12, 13, 14, 15, 16, 17, 18, 19, 20, 21], [20, 21])])
def impl_EdgesOf.B10 : List Nat := [0, 0, 3, 7, 0, 0, 32, 112, 240, 511, 0, 0, 3072, 7168, 0, 0, 32768, 114688, 245760, 523264, 1048575, 0, 4194303]
theorem impl_EdgesOf.tab10 : rtab .any (opsOf Try.f42 10) = impl_EdgesOf.T10 := by kernel_rfl
theorem impl_EdgesOf.bits10 : waitsOk impl_EdgesOf.T10.2 impl_EdgesOf.B10 = true := by kernel_rfl
set_option maxHeartbeats 8000000 in
set_option maxRecDepth 100000 in
theorem impl_EdgesOf.calls (k : Nat) (a0_0 : Int) (A0_1 : Option Addr) (c0_1 : Nat) (l0_1 : List (List Int)) (r : List (S112)) (w : World) (hr0_1 : Kd.C (Kd.slice 3 (Kd.int .i64)) w A0_1 l0_1.length l0_1) (hc0_1 : l0_1.length ≤ c0_1) (h : impl_EdgesOf.f k a0_0 l0_1 = some r) :
  Calls Try.prog 42 #[.agg #[.int .i64 a0_0, .slice A0_1 l0_1.length c0_1]] w fun e w' => ∃ v0_ : Value, e = .returned (v0_) ∧ Kd.R k112 112 w' w.heap.size (fun _ => True) v0_ r ∧ Below w.heap.size w w' := by
 have hu33 := Try.underlying33; have hu112 := Try.underlying112
 have HR0_1 := Aside0.mk hr0_1
 have HC0_1 := Aside0.mk hc0_1
 clear hr0_1 hc0_1
 have HB := Aside0.mk (Below.refl w.heap.size w)
 have H : ((impl_ForestOk.f k a0_0 l0_1).bind fun t361 => (if t361 = true then (impl_EdgesOf.l0 k ([] : List (S112)) l0_1 (l0_1.length : Int) 0) else (some ([] : List (S112))))) = some r := h
 clear h
 obtain ⟨t361, A20, H⟩ := Option.bind_eq_some_iff.mp H; have A2 := Aside0.mk A20; clear A20
 by_cases c3 : t361 = true
 ·subst c3
  rw [if_pos rfl] at H; have H' := Aside0.mk H; clear H
  go_enter Try.func42, Try.ntmps42
  go_wp2_with (first | ((with_reducible refine gate_dst (N := 1) rfl ?_); refine bx_ 1 (cs := #[.int .i64 a0_0, .slice A0_1 l0_1.length c0_1]) (t := 33) ?_; intro gb360 hg w4 hbox hb; have BK360 := Aside0.mk (hbox); have GW360 := Aside0.mk ((qs_ : w.heap.size ≤ gb360)); have GE360 := Aside0.mk ((qs_ : w.heap.size ≤ gb360)); replace HB := Aside0.mk (below_step qB_ hb); clear hb hbox hg; obtain ⟨hcz5_0, hcz5_1, hfz5_0, hfz5_1⟩ := bc2_ BK360) | ((with_reducible refine gate_callee (f := 21) rfl ?_); refine gl_ (some 9) Try.func21 #[.agg #[.int .i64 a0_0, .slice A0_1 l0_1.length c0_1]] ?_; (with_reducible refine (impl_ForestOk.calls k a0_0 _ _ l0_1 true _ ?side1 ?side2 A2.out).mono ?_); (case side1 => exact qC_ HR0_1 HB); (case side2 => exact HC0_1.out); rintro e w6 ⟨rfl, hb⟩; refine ⟨_, rfl, ?_⟩; replace BK360 := Aside0.mk (blk_below (qk_ BK360) hb); replace HB := Aside0.mk (below_step qB_ hb); (try clear hb); (try clear hb2); (try clear hk); (try clear hi); obtain ⟨hcz7_0, hcz7_1, hfz7_0, hfz7_1⟩ := bc2_ BK360))
  go_loopg [3, 15] k (fun kq v3 v15 w' => ∃ (x3_1 : List (S112)) (x15_1 : Int), v15 = .int .i64 x15_1 ∧ Aside0 (impl_EdgesOf.l0 kq x3_1 l0_1 (l0_1.length : Int) x15_1 = some r) ∧ Aside0 (kq ≤ k) ∧ Aside0 (Kd.R k112 112 w' w.heap.size (fun _ => True) v3 x3_1) ∧ Aside0 (w'.heap[gb360]? = some (.cells #[.int .i64 a0_0, (.slice A0_1 l0_1.length c0_1)] 33 (0, 0))) ∧ Aside0 (Below w.heap.size w w'))
  case atStart => exact ⟨(([] : List (S112))), (0), qe_, H', ⟨Nat.le_refl _⟩, ⟨by first | exact Kd.R_nil _ _ _ _ _ | exact Kd.N_nil _ _ _ _ _ | exact Kd.V_nil _ _ _ _ _ | exact Kd.Q_nil _ _ _ _ _ | exact Kd.S_nil _ _ _ _ _⟩, ⟨qk_ BK360⟩, ⟨qB_⟩⟩
  case round =>
   clear H'
   (try clear c2); (try clear p2); (try clear c3); (try clear c4); (try clear hcz5_0); (try clear hcz5_1); (try clear hcz7_0); (try clear hcz7_1); (try clear hfz5_0); (try clear hfz5_1); (try clear hfz7_0); (try clear hfz7_1)
   obtain ⟨x3_1, x15_1, rfl, HA, HK1, HO_3, BK360, HB⟩ := hrel
   cases gk with
   | zero => exact absurd HA.out (by simp [impl_EdgesOf.l0])
   | succ k1 =>
    have H := HA.out; clear HA
    simp only [impl_EdgesOf.l0] at H
    by_cases c8 : x15_1 < (l0_1.length : Int)
    ·rw [if_pos c8] at H
     have c8b0 : decide (x15_1 < (l0_1.length : Int)) = true := decide_eq_true c8
     clear c8
     by_cases c9 : 0 ≤ x15_1
     ·rw [if_pos c9] at H
      have c9b0 : decide (0 ≤ x15_1) = true := decide_eq_true c9
      clear c9
      by_cases c10 : x15_1 < (l0_1.length : Int)
      ·rw [if_pos c10] at H
       have c10b0 : decide (x15_1 < (l0_1.length : Int)) = true := decide_eq_true c10
       clear c10; have H' := Aside0.mk H; clear H
       have p362 : 0 ≤ (x15_1 : Int) := of_decide_eq_true qa_
       have q362 : x15_1 < (l0_1.length : Int) := of_decide_eq_true qa_
       obtain ⟨ad362, A362_0, c362_0, e362, hx362_0, hl362_0, hi362_0⟩ := at_L1 HR0_1.out x15_1 p362 q362
       cases e362
       replace hx362_0 := (HB.out.cell (World.block_lt_of_cell? w _ hx362_0)).trans hx362_0
       have HR362_0 := Aside0.mk hi362_0
       have HC362_0 := Aside0.mk hl362_0
       clear hi362_0 hl362_0; replace p362 := eq_true p362; replace q362 := eq_true q362
       go_wp2
       go_loopg [3, 6] k1 (fun kq v3 v6 w' => ∃ (x3_2 : List (S112)) (x6_2 : Int), v6 = .int .i64 x6_2 ∧ Aside0 (impl_EdgesOf.l1 kq x3_2 (rd_L1 l0_1 x15_1) x6_2 l0_1 (l0_1.length : Int) x15_1 = some r) ∧ Aside0 (kq ≤ k1) ∧ Aside0 (Kd.R k112 112 w' w.heap.size (fun _ => True) v3 x3_2) ∧ Aside0 (w'.heap[gb360]? = some (.cells #[.int .i64 a0_0, (.slice (some ad362) l0_1.length c0_1)] 33 (0, 0))) ∧ Aside0 (Below w.heap.size w w'))
       case atStart => exact ⟨(x3_1), (0), qe_, H', ⟨Nat.le_refl _⟩, ⟨by (with_reducible repeat (first | apply Kd.R_alloc | apply Kd.R_drewN | apply Kd.R_drew)); first | exact HO_3.out | (have h_ := HO_3.out; simp only [own_slice] at h_ ⊢; exact h_)⟩, ⟨qk_ BK360⟩, ⟨qB_⟩⟩
       case round =>
        clear H'
        (try clear c1); (try clear c2); (try clear p2); (try clear c3); (try clear p3); (try clear q3); (try clear hx3); (try clear c4); (try clear c8); (try clear c8b0); (try clear c9); (try clear c9b0); (try clear c10); (try clear c10b0); (try clear hcz5_0); (try clear hcz5_1); (try clear hcz7_0); (try clear hcz7_1); (try clear hfz5_0); (try clear hfz5_1); (try clear hfz7_0); (try clear hfz7_1); (try clear hx362_0); (try clear p2); (try clear p362); (try clear q362)
        obtain ⟨x3_2, x6_2, rfl, HA, HK2, HO_3, BK360, HB⟩ := hrel
        cases gk with
        | zero => exact absurd HA.out (by simp [impl_EdgesOf.l1])
        | succ k2 =>
         have H := HA.out; clear HA
         simp only [impl_EdgesOf.l1] at H
         by_cases c11 : (wrap64 (x6_2 + 1)) < ((rd_L1 l0_1 x15_1).length : Int)
         ·rw [if_pos c11] at H
          have c11b0 : decide ((wrap64 (x6_2 + 1)) < ((rd_L1 l0_1 x15_1).length : Int)) = true := decide_eq_true c11
          clear c11
          by_cases c12 : 0 ≤ x6_2
          ·rw [if_pos c12] at H
           have c12b0 : decide (0 ≤ x6_2) = true := decide_eq_true c12
           clear c12
           by_cases c13 : x6_2 < ((rd_L1 l0_1 x15_1).length : Int)
           ·rw [if_pos c13] at H
            have c13b0 : decide (x6_2 < ((rd_L1 l0_1 x15_1).length : Int)) = true := decide_eq_true c13
            clear c13
            obtain ⟨ji14, hji14⟩ : ∃ j_ : Int, (wrap64 (x6_2 + 1)) = j_ := ⟨_, rfl⟩
            first | rw [hji14] at H | simp only [hji14] at H
            (try rw [hji14] at c11b0)
            have hji14w : (IntKind.i64.wrap (x6_2 + 1)) = ji14 := (i64_w _).trans hji14
            by_cases c15 : 0 ≤ (ji14)
            ·rw [if_pos c15] at H
             have c15b0 : decide (0 ≤ (ji14)) = true := decide_eq_true c15
             clear c15
             obtain ⟨ji16, hji16⟩ : ∃ j_ : Int, (mn (rd (rd_L1 l0_1 x15_1) x6_2) (rd (rd_L1 l0_1 x15_1) (ji14))) = j_ := ⟨_, rfl⟩
             first | rw [hji16] at H | simp only [hji16] at H
             have hji16_ : (if (rd (rd_L1 l0_1 x15_1) (ji14)) < (rd (rd_L1 l0_1 x15_1) x6_2) then (rd (rd_L1 l0_1 x15_1) (ji14)) else (rd (rd_L1 l0_1 x15_1) x6_2)) = ji16 := hji16
             obtain ⟨ji17, hji17⟩ : ∃ j_ : Int, (mx (rd (rd_L1 l0_1 x15_1) x6_2) (rd (rd_L1 l0_1 x15_1) (ji14))) = j_ := ⟨_, rfl⟩
             first | rw [hji17] at H | simp only [hji17] at H
             have hji17_ : (if (rd (rd_L1 l0_1 x15_1) x6_2) < (rd (rd_L1 l0_1 x15_1) (ji14)) then (rd (rd_L1 l0_1 x15_1) (ji14)) else (rd (rd_L1 l0_1 x15_1) x6_2)) = ji17 := hji17
             obtain ⟨t368, A180, H⟩ := Option.bind_eq_some_iff.mp H; have A18 := Aside0.mk A180; clear A180
             by_cases c19 : t368 = true
             ·subst c19
              rw [if_pos rfl] at H; have H' := Aside0.mk H; clear H
              try go_wp2
              have n0_ := Aside0.mk (Kd.R_drew HO_3.out)
              have n1_ := Aside0.mk (blk_drew BK360.out)
              have n2_ := Aside0.mk (below_drew1 HB.out)
              clear HO_3; clear BK360; clear HB; have HO_3 := n0_; have BK360 := n1_; have HB := n2_; clear n0_ n1_ n2_
              have p363 : 0 ≤ (x6_2 : Int) := of_decide_eq_true qa_
              have q363 : x6_2 < ((rd_L1 l0_1 x15_1).length : Int) := of_decide_eq_true qa_
              obtain ⟨ad363, e363, hx363_0⟩ := Kd.at_int HR362_0.out x6_2 p363 q363
              have hw363_0 := hx363_0; cases e363
              replace hx363_0 := (HB.out.cell (World.block_lt_of_cell? w _ hx363_0)).trans hx363_0
              replace p363 := eq_true p363; replace q363 := eq_true q363
              have p364 : 0 ≤ ((ji14) : Int) := of_decide_eq_true qa_
              have q364 : (ji14) < ((rd_L1 l0_1 x15_1).length : Int) := of_decide_eq_true qa_
              obtain ⟨ad364, e364, hx364_0⟩ := Kd.at_int HR362_0.out (ji14) p364 q364
              have hw364_0 := hx364_0
              obtain rfl : ad363 = ad364 := (by injection e364)
              replace hx364_0 := (HB.out.cell (World.block_lt_of_cell? w _ hx364_0)).trans hx364_0
              replace p364 := eq_true p364; replace q364 := eq_true q364
              have p365 : 0 ≤ (x6_2 : Int) := of_decide_eq_true qa_
              have q365 : x6_2 < ((rd_L1 l0_1 x15_1).length : Int) := of_decide_eq_true qa_
              obtain ⟨ad365, e365, hx365_0⟩ := Kd.at_int HR362_0.out x6_2 p365 q365
              have hw365_0 := hx365_0
              obtain rfl : ad363 = ad365 := (by injection e365)
              replace hx365_0 := (HB.out.cell (World.block_lt_of_cell? w _ hx365_0)).trans hx365_0
              replace p365 := eq_true p365; replace q365 := eq_true q365
              have p366 : 0 ≤ ((ji14) : Int) := of_decide_eq_true qa_
              have q366 : (ji14) < ((rd_L1 l0_1 x15_1).length : Int) := of_decide_eq_true qa_
              obtain ⟨ad366, e366, hx366_0⟩ := Kd.at_int HR362_0.out (ji14) p366 q366
              have hw366_0 := hx366_0
              obtain rfl : ad363 = ad366 := (by injection e366)
              replace hx366_0 := (HB.out.cell (World.block_lt_of_cell? w _ hx366_0)).trans hx366_0
              replace p366 := eq_true p366; replace q366 := eq_true q366
              refine start_ (n := 23) (S := fun w' => w'.cell? (ad363.add (x6_2).toNat) = some (.int .i64 (rd (rd_L1 l0_1 x15_1) x6_2)) ∧ w'.cell? (ad363.add ((ji14)).toNat) = some (.int .i64 (rd (rd_L1 l0_1 x15_1) (ji14))) ∧ w'.cell? (ad363.add (x6_2).toNat) = some (.int .i64 (rd (rd_L1 l0_1 x15_1) x6_2)) ∧ w'.cell? (ad363.add ((ji14)).toNat) = some (.int .i64 (rd (rd_L1 l0_1 x15_1) (ji14)))) (ds := []) (bm 23 0) (by kernel_rfl) rfl (by kernel_rfl) ⟨((HB.out.cell (World.block_lt_of_cell? w _ hw363_0)).trans hw363_0), ((HB.out.cell (World.block_lt_of_cell? w _ hw364_0)).trans hw364_0), ((HB.out.cell (World.block_lt_of_cell? w _ hw365_0)).trans hw365_0), ((HB.out.cell (World.block_lt_of_cell? w _ hw366_0)).trans hw366_0)⟩ (fun hHeld => ?_); refine with_tabW impl_EdgesOf.tab10 impl_EdgesOf.bits10 (fun HT_ HW_ => ?_)
              generalize wr.drew = w20 at HO_3 BK360 HB hx363_0 hx364_0 hx365_0 hx366_0 hHeld ⊢
              refine pz_ 0 26 (bm 23 1) ?_; refine pz_ 1 27 (bm 23 3) ?_; refine pz_ 2 28 (bm 23 7) ?_; refine pz_ 4 30 (bm 23 23) ?_; refine pz_ 5 31 (bm 23 55) ?_; refine pz_ 6 32 (bm 23 119) ?_; refine pz_ 7 33 (bm 23 247) ?_; refine pz_ 10 36 (bm 23 1271) ?_; refine pz_ 11 37 (bm 23 3319) ?_; refine pz_ 12 38 (bm 23 7415) ?_; refine pz_ 14 40 (bm 23 23799) ?_; refine pz_ 15 41 (bm 23 56567) ?_; refine pz_ 16 42 (bm 23 122103) ?_; refine pz_ 17 43 (bm 23 253175) ?_; refine tz4_ 3 29 (bm 23 253183) ?_; refine tz4_ 8 34 (bm 23 253439) ?_; refine pz_ 9 35 (bm 23 253951) ?_; refine tz4_ 13 39 (bm 23 262143) ?_; refine tz4_ 18 44 (bm 23 524287) ?_; refine pz_ 19 45 (bm 23 1048575) ?_; refine pz_ 20 46 (bm 23 2097151) ?_
              refine one_ (i := 21) (N := some 7) (bm 23 4194303) rfl rfl (one_of HT_.out (by kernel_rfl)) (by decide) (fun K hK => ?_)
              refine box_step ?hg (N := 7) ?hd (cs := #[.int .i64 0, .int .i64 0]) (t := 112) ?hr ?_; (case hd => rfl); (case hg => rfl); (case hr => first | (go_simp; done) | (go_simp; rfl))
              intro gb367 hg w21 hbox hb
              have n0_ := Aside0.mk (Kd.R_below (Kd.R_elderB (qR_ HO_3) gb367 (Nat.le_of_eq hg.symm)) hb)
              have n1_ := Aside0.mk (blk_below (qk_ BK360) hb)
              have n2_ := Aside0.mk (below_step qB_ hb)
              have n3_ := Aside0.mk (hbox)
              have n4_ := Aside0.mk ((qs_ : w.heap.size ≤ gb367))
              have n5_ := Aside0.mk ((qs_ : w.heap.size ≤ gb367))
              have n6_ := Aside0.mk ((by rw [hg]; exact Nat.ne_of_lt (blk_lt (qk_ BK360)) : gb360 ≠ gb367))
              have n7_ := Aside0.mk ((by rw [hg]; exact Nat.ne_of_gt (blk_lt (qk_ BK360)) : gb367 ≠ gb360))
              clear HO_3; clear BK360; clear HB; have HO_3 := n0_; have BK360 := n1_; have HB := n2_; have BK367 := n3_; have GW367 := n4_; have GE367 := n5_; have NB360_367 := n6_; have NB367_360 := n7_; clear n0_ n1_ n2_ n3_ n4_ n5_ n6_ n7_; clear hb hbox hg
              refine hK.out _ _ ⟨((HB.out.cell (World.block_lt_of_cell? w _ hw363_0)).trans hw363_0), ((HB.out.cell (World.block_lt_of_cell? w _ hw364_0)).trans hw364_0), ((HB.out.cell (World.block_lt_of_cell? w _ hw365_0)).trans hw365_0), ((HB.out.cell (World.block_lt_of_cell? w _ hw366_0)).trans hw366_0)⟩ (fun hHeld => ?_)
              clear hK K
              refine norm_ (a' := ?_) ?_ ?_
              rotate_left
              ·show Act.put _ (some 7) _ = _
               simp only [Act.put, List.setIfInBounds_toArray, List.set_cons_zero, List.set_cons_succ, i64_w, i32_w]
               rfl
              refine one_ (i := 22) (N := none) (bm 23 8388607) rfl rfl (one_of HT_.out (by kernel_rfl)) (by decide) (fun K hK => ?_)
              have hs22 : w21.cell? ⟨gb367, 0, none⟩ = some (.int .i64 0) := (blk_cell BK367.out 0).trans rfl
              have hfs22 := blk_frozen BK367.out 0
              have hns22_0 := NB360_367.out; have hms22_0 := NB367_360.out
              have hs23 : w21.cell? ⟨gb367, 1, none⟩ = some (.int .i64 0) := (blk_cell BK367.out 1).trans rfl
              have hfs23 := blk_frozen BK367.out 1
              have hns23_0 := NB360_367.out; have hms23_0 := NB367_360.out
              refine skip_ (w1 := ?_) (by rfl) rfl ?_ ?_
              rotate_left
              ·go_simp
               rfl
              refine hK.out _ _ ⟨((cell_far (p := ⟨gb367, _, none⟩) (by first | exact Nat.ne_of_lt (Nat.lt_of_lt_of_le (by have := World.block_lt_of_cell? _ _ hw363_0; first | rwa [add_block] at this | exact this) GW367.out) | (rw [add_block]; exact Nat.ne_of_lt (Nat.lt_of_lt_of_le (by have := World.block_lt_of_cell? _ _ hw363_0; first | rwa [add_block] at this | exact this) GW367.out)) | (show (Addr.add _ _).block ≠ _; rw [add_block]; exact Nat.ne_of_lt (Nat.lt_of_lt_of_le (by have := World.block_lt_of_cell? _ _ hw363_0; first | rwa [add_block] at this | exact this) GW367.out)) | (dsimp only; exact Nat.ne_of_lt (Nat.lt_of_lt_of_le (by have := World.block_lt_of_cell? _ _ hw363_0; first | rwa [add_block] at this | exact this) GW367.out))) _).trans (((cell_far (p := ⟨gb367, _, none⟩) (by first | exact Nat.ne_of_lt (Nat.lt_of_lt_of_le (by have := World.block_lt_of_cell? _ _ hw363_0; first | rwa [add_block] at this | exact this) GW367.out) | (rw [add_block]; exact Nat.ne_of_lt (Nat.lt_of_lt_of_le (by have := World.block_lt_of_cell? _ _ hw363_0; first | rwa [add_block] at this | exact this) GW367.out)) | (show (Addr.add _ _).block ≠ _; rw [add_block]; exact Nat.ne_of_lt (Nat.lt_of_lt_of_le (by have := World.block_lt_of_cell? _ _ hw363_0; first | rwa [add_block] at this | exact this) GW367.out)) | (dsimp only; exact Nat.ne_of_lt (Nat.lt_of_lt_of_le (by have := World.block_lt_of_cell? _ _ hw363_0; first | rwa [add_block] at this | exact this) GW367.out))) _).trans (hHeld.1)))), ((cell_far (p := ⟨gb367, _, none⟩) (by first | exact Nat.ne_of_lt (Nat.lt_of_lt_of_le (by have := World.block_lt_of_cell? _ _ hw364_0; first | rwa [add_block] at this | exact this) GW367.out) | (rw [add_block]; exact Nat.ne_of_lt (Nat.lt_of_lt_of_le (by have := World.block_lt_of_cell? _ _ hw364_0; first | rwa [add_block] at this | exact this) GW367.out)) | (show (Addr.add _ _).block ≠ _; rw [add_block]; exact Nat.ne_of_lt (Nat.lt_of_lt_of_le (by have := World.block_lt_of_cell? _ _ hw364_0; first | rwa [add_block] at this | exact this) GW367.out)) | (dsimp only; exact Nat.ne_of_lt (Nat.lt_of_lt_of_le (by have := World.block_lt_of_cell? _ _ hw364_0; first | rwa [add_block] at this | exact this) GW367.out))) _).trans (((cell_far (p := ⟨gb367, _, none⟩) (by first | exact Nat.ne_of_lt (Nat.lt_of_lt_of_le (by have := World.block_lt_of_cell? _ _ hw364_0; first | rwa [add_block] at this | exact this) GW367.out) | (rw [add_block]; exact Nat.ne_of_lt (Nat.lt_of_lt_of_le (by have := World.block_lt_of_cell? _ _ hw364_0; first | rwa [add_block] at this | exact this) GW367.out)) | (show (Addr.add _ _).block ≠ _; rw [add_block]; exact Nat.ne_of_lt (Nat.lt_of_lt_of_le (by have := World.block_lt_of_cell? _ _ hw364_0; first | rwa [add_block] at this | exact this) GW367.out)) | (dsimp only; exact Nat.ne_of_lt (Nat.lt_of_lt_of_le (by have := World.block_lt_of_cell? _ _ hw364_0; first | rwa [add_block] at this | exact this) GW367.out))) _).trans (hHeld.2.1)))), ((cell_far (p := ⟨gb367, _, none⟩) (by first | exact Nat.ne_of_lt (Nat.lt_of_lt_of_le (by have := World.block_lt_of_cell? _ _ hw365_0; first | rwa [add_block] at this | exact this) GW367.out) | (rw [add_block]; exact Nat.ne_of_lt (Nat.lt_of_lt_of_le (by have := World.block_lt_of_cell? _ _ hw365_0; first | rwa [add_block] at this | exact this) GW367.out)) | (show (Addr.add _ _).block ≠ _; rw [add_block]; exact Nat.ne_of_lt (Nat.lt_of_lt_of_le (by have := World.block_lt_of_cell? _ _ hw365_0; first | rwa [add_block] at this | exact this) GW367.out)) | (dsimp only; exact Nat.ne_of_lt (Nat.lt_of_lt_of_le (by have := World.block_lt_of_cell? _ _ hw365_0; first | rwa [add_block] at this | exact this) GW367.out))) _).trans (((cell_far (p := ⟨gb367, _, none⟩) (by first | exact Nat.ne_of_lt (Nat.lt_of_lt_of_le (by have := World.block_lt_of_cell? _ _ hw365_0; first | rwa [add_block] at this | exact this) GW367.out) | (rw [add_block]; exact Nat.ne_of_lt (Nat.lt_of_lt_of_le (by have := World.block_lt_of_cell? _ _ hw365_0; first | rwa [add_block] at this | exact this) GW367.out)) | (show (Addr.add _ _).block ≠ _; rw [add_block]; exact Nat.ne_of_lt (Nat.lt_of_lt_of_le (by have := World.block_lt_of_cell? _ _ hw365_0; first | rwa [add_block] at this | exact this) GW367.out)) | (dsimp only; exact Nat.ne_of_lt (Nat.lt_of_lt_of_le (by have := World.block_lt_of_cell? _ _ hw365_0; first | rwa [add_block] at this | exact this) GW367.out))) _).trans (hHeld.2.2.1)))), ((cell_far (p := ⟨gb367, _, none⟩) (by first | exact Nat.ne_of_lt (Nat.lt_of_lt_of_le (by have := World.block_lt_of_cell? _ _ hw366_0; first | rwa [add_block] at this | exact this) GW367.out) | (rw [add_block]; exact Nat.ne_of_lt (Nat.lt_of_lt_of_le (by have := World.block_lt_of_cell? _ _ hw366_0; first | rwa [add_block] at this | exact this) GW367.out)) | (show (Addr.add _ _).block ≠ _; rw [add_block]; exact Nat.ne_of_lt (Nat.lt_of_lt_of_le (by have := World.block_lt_of_cell? _ _ hw366_0; first | rwa [add_block] at this | exact this) GW367.out)) | (dsimp only; exact Nat.ne_of_lt (Nat.lt_of_lt_of_le (by have := World.block_lt_of_cell? _ _ hw366_0; first | rwa [add_block] at this | exact this) GW367.out))) _).trans (((cell_far (p := ⟨gb367, _, none⟩) (by first | exact Nat.ne_of_lt (Nat.lt_of_lt_of_le (by have := World.block_lt_of_cell? _ _ hw366_0; first | rwa [add_block] at this | exact this) GW367.out) | (rw [add_block]; exact Nat.ne_of_lt (Nat.lt_of_lt_of_le (by have := World.block_lt_of_cell? _ _ hw366_0; first | rwa [add_block] at this | exact this) GW367.out)) | (show (Addr.add _ _).block ≠ _; rw [add_block]; exact Nat.ne_of_lt (Nat.lt_of_lt_of_le (by have := World.block_lt_of_cell? _ _ hw366_0; first | rwa [add_block] at this | exact this) GW367.out)) | (dsimp only; exact Nat.ne_of_lt (Nat.lt_of_lt_of_le (by have := World.block_lt_of_cell? _ _ hw366_0; first | rwa [add_block] at this | exact this) GW367.out))) _).trans (hHeld.2.2.2))))⟩ (fun hHeld => ?_)
              clear hK K
              refine done_ (done_of HT_.out (by kernel_rfl)) ?_
              have hnb24 := NB367_360.out; have hnc24 := NB360_367.out
              obtain ⟨hcz25_0, hcz25_1, hfz25_0, hfz25_1⟩ := bc2_ BK367
              obtain ⟨Ao26, co26, eo26⟩ := Kd.R_slice HO_3.out
              subst eo26
              try go_wp2_with (first | ((with_reducible refine gate_callee (f := 90) rfl ?_); refine goesL_ (some 49) rfl rfl Try.func90 (by kernel_rfl) rfl #[.slice Ao26 x3_2.length co26, .agg #[.int .i64 ji16, .int .i64 ji17]] rfl (by (try simp only [List.map_toArray, List.map_cons, List.map_nil]); first | done | (simp only [hji16, hji17]; rfl) | rfl | (simp only [List.length_drop, List.length_take]; rfl)) ?_; (with_reducible refine (impl_hasEdge.calls k2 _ _ x3_2 ji16 ji17 true _ ?side1 ?side2 A18.out).mono ?_); (case side1 => refine (Kd.R_reads' (e := 112) (base := w.heap.size) (ok := fun k_ => (True ∧ k_ ≠ gb367)) (n := x3_2.length) (c := co26) ?_).2.2; exact (by (with_reducible repeat (first | apply Kd.R_alloc | apply Kd.R_drewN | apply Kd.R_drew)); exact (Kd.R_mono (Kd.R_far (p := ⟨gb367, 1, none⟩) (Kd.R_far (p := ⟨gb367, 0, none⟩) (Kd.R_mono HO_3.out (fun k_ hk => (⟨hk, hk.2⟩ : _ ∧ k_ ≠ gb367))) (fun _ hk => hk.2) (.int .i64 ji16)) (fun _ hk => hk.2) (.int .i64 ji17)) (fun _ h_ => h_.1)))); (case side2 => exact (Kd.R_reads' HO_3.out).2.1); rintro e w27 ⟨rfl, hb⟩; refine ⟨_, rfl, ?_⟩; replace HO_3 := Aside0.mk (Kd.R_below (by (with_reducible repeat (first | apply Kd.R_alloc | apply Kd.R_drewN | apply Kd.R_drew)); exact (Kd.R_mono (Kd.R_far (p := ⟨gb367, 1, none⟩) (Kd.R_far (p := ⟨gb367, 0, none⟩) (Kd.R_mono HO_3.out (fun k_ hk => (⟨hk, hk.2⟩ : _ ∧ k_ ≠ gb367))) (fun _ hk => hk.2) (.int .i64 ji16)) (fun _ hk => hk.2) (.int .i64 ji17)) (fun _ h_ => h_.1))) hb); replace BK360 := Aside0.mk (blk_below (g := gb360) (o := .cells #[.int .i64 a0_0, .slice (some ad362) l0_1.length c0_1] 33 (0, 0)) (by (with_reducible repeat (first | refine blk_drewN ?_ _ | refine blk_drew ?_ | refine blk_alloc ?_ _)); refine blk_far ?_ NB360_367.out _; (with_reducible repeat (first | refine blk_drewN ?_ _ | refine blk_drew ?_ | refine blk_alloc ?_ _)); refine blk_far ?_ NB360_367.out _; (with_reducible repeat (first | refine blk_drewN ?_ _ | refine blk_drew ?_ | refine blk_alloc ?_ _)); exact BK360.out) hb); replace BK367 := Aside0.mk (blk_below (g := gb367) (o := .cells #[.int .i64 ji16, .int .i64 ji17] 112 (0, 0)) (by (with_reducible repeat (first | refine blk_drewN ?_ _ | refine blk_drew ?_ | refine blk_alloc ?_ _)); refine blk_put (cs := #[.int .i64 ji16, .int .i64 0]) ?_ 1 _ rfl; (with_reducible repeat (first | refine blk_drewN ?_ _ | refine blk_drew ?_ | refine blk_alloc ?_ _)); refine blk_put (cs := #[.int .i64 0, .int .i64 0]) ?_ 0 _ rfl; (with_reducible repeat (first | refine blk_drewN ?_ _ | refine blk_drew ?_ | refine blk_alloc ?_ _)); exact BK367.out) hb); replace HB := Aside0.mk (below_step qB_ hb); (try clear hb); (try clear hb2); (try clear hk); (try clear hi)))
              go_roundg k2
              case measure => have := HK1.out; have := HK2.out; omega
              case rel => exact ⟨(x3_2), (ji14), (by first | rfl | (simp; done) | (simp only [← hji14] <;> (first | rfl | simp)) | (simp [*]; done)), H', ⟨by have := HK1.out; have := HK2.out; omega⟩, ⟨by (with_reducible repeat (first | apply Kd.R_alloc | apply Kd.R_drewN | apply Kd.R_drew)); exact Kd.R_mono HO_3.out (fun _ hk => trivial)⟩, ⟨qk_ BK360⟩, ⟨qB_⟩⟩
             ·replace c19 := Bool.eq_false_iff.mpr c19
              subst c19
              rw [if_neg (show ¬ (false = true) by decide)] at H
              obtain ⟨t369, A280, H⟩ := Option.bind_eq_some_iff.mp H; have A28 := Aside0.mk A280; clear A280
              have H' := Aside0.mk H; clear H
              try go_wp2
              have n0_ := Aside0.mk (Kd.R_drew HO_3.out)
              have n1_ := Aside0.mk (blk_drew BK360.out)
              have n2_ := Aside0.mk (below_drew1 HB.out)
              clear HO_3; clear BK360; clear HB; have HO_3 := n0_; have BK360 := n1_; have HB := n2_; clear n0_ n1_ n2_
              have p363 : 0 ≤ (x6_2 : Int) := of_decide_eq_true qa_
              have q363 : x6_2 < ((rd_L1 l0_1 x15_1).length : Int) := of_decide_eq_true qa_
              obtain ⟨ad363, e363, hx363_0⟩ := Kd.at_int HR362_0.out x6_2 p363 q363
              have hw363_0 := hx363_0; cases e363
              replace hx363_0 := (HB.out.cell (World.block_lt_of_cell? w _ hx363_0)).trans hx363_0
              replace p363 := eq_true p363; replace q363 := eq_true q363
              have p364 : 0 ≤ ((ji14) : Int) := of_decide_eq_true qa_
              have q364 : (ji14) < ((rd_L1 l0_1 x15_1).length : Int) := of_decide_eq_true qa_
              obtain ⟨ad364, e364, hx364_0⟩ := Kd.at_int HR362_0.out (ji14) p364 q364
              have hw364_0 := hx364_0
              obtain rfl : ad363 = ad364 := (by injection e364)
              replace hx364_0 := (HB.out.cell (World.block_lt_of_cell? w _ hx364_0)).trans hx364_0
              replace p364 := eq_true p364; replace q364 := eq_true q364
              have p365 : 0 ≤ (x6_2 : Int) := of_decide_eq_true qa_
              have q365 : x6_2 < ((rd_L1 l0_1 x15_1).length : Int) := of_decide_eq_true qa_
              obtain ⟨ad365, e365, hx365_0⟩ := Kd.at_int HR362_0.out x6_2 p365 q365
              have hw365_0 := hx365_0
              obtain rfl : ad363 = ad365 := (by injection e365)
              replace hx365_0 := (HB.out.cell (World.block_lt_of_cell? w _ hx365_0)).trans hx365_0
              replace p365 := eq_true p365; replace q365 := eq_true q365
              have p366 : 0 ≤ ((ji14) : Int) := of_decide_eq_true qa_
              have q366 : (ji14) < ((rd_L1 l0_1 x15_1).length : Int) := of_decide_eq_true qa_
              obtain ⟨ad366, e366, hx366_0⟩ := Kd.at_int HR362_0.out (ji14) p366 q366
              have hw366_0 := hx366_0
              obtain rfl : ad363 = ad366 := (by injection e366)
              replace hx366_0 := (HB.out.cell (World.block_lt_of_cell? w _ hx366_0)).trans hx366_0
              replace p366 := eq_true p366; replace q366 := eq_true q366
              refine start_ (n := 23) (S := fun w' => w'.cell? (ad363.add (x6_2).toNat) = some (.int .i64 (rd (rd_L1 l0_1 x15_1) x6_2)) ∧ w'.cell? (ad363.add ((ji14)).toNat) = some (.int .i64 (rd (rd_L1 l0_1 x15_1) (ji14))) ∧ w'.cell? (ad363.add (x6_2).toNat) = some (.int .i64 (rd (rd_L1 l0_1 x15_1) x6_2)) ∧ w'.cell? (ad363.add ((ji14)).toNat) = some (.int .i64 (rd (rd_L1 l0_1 x15_1) (ji14)))) (ds := []) (bm 23 0) (by kernel_rfl) rfl (by kernel_rfl) ⟨((HB.out.cell (World.block_lt_of_cell? w _ hw363_0)).trans hw363_0), ((HB.out.cell (World.block_lt_of_cell? w _ hw364_0)).trans hw364_0), ((HB.out.cell (World.block_lt_of_cell? w _ hw365_0)).trans hw365_0), ((HB.out.cell (World.block_lt_of_cell? w _ hw366_0)).trans hw366_0)⟩ (fun hHeld => ?_); refine with_tabW impl_EdgesOf.tab10 impl_EdgesOf.bits10 (fun HT_ HW_ => ?_)
              generalize wr.drew = w29 at HO_3 BK360 HB hx363_0 hx364_0 hx365_0 hx366_0 hHeld ⊢
              refine pz_ 0 26 (bm 23 1) ?_; refine pz_ 1 27 (bm 23 3) ?_; refine pz_ 2 28 (bm 23 7) ?_; refine pz_ 4 30 (bm 23 23) ?_; refine pz_ 5 31 (bm 23 55) ?_; refine pz_ 6 32 (bm 23 119) ?_; refine pz_ 7 33 (bm 23 247) ?_; refine pz_ 10 36 (bm 23 1271) ?_; refine pz_ 11 37 (bm 23 3319) ?_; refine pz_ 12 38 (bm 23 7415) ?_; refine pz_ 14 40 (bm 23 23799) ?_; refine pz_ 15 41 (bm 23 56567) ?_; refine pz_ 16 42 (bm 23 122103) ?_; refine pz_ 17 43 (bm 23 253175) ?_; refine tz4_ 3 29 (bm 23 253183) ?_; refine tz4_ 8 34 (bm 23 253439) ?_; refine pz_ 9 35 (bm 23 253951) ?_; refine tz4_ 13 39 (bm 23 262143) ?_; refine tz4_ 18 44 (bm 23 524287) ?_; refine pz_ 19 45 (bm 23 1048575) ?_; refine pz_ 20 46 (bm 23 2097151) ?_
              refine one_ (i := 21) (N := some 7) (bm 23 4194303) rfl rfl (one_of HT_.out (by kernel_rfl)) (by decide) (fun K hK => ?_)
              refine box_step ?hg (N := 7) ?hd (cs := #[.int .i64 0, .int .i64 0]) (t := 112) ?hr ?_; (case hd => rfl); (case hg => rfl); (case hr => first | (go_simp; done) | (go_simp; rfl))
              intro gb367 hg w30 hbox hb
              have n0_ := Aside0.mk (Kd.R_below (Kd.R_elderB (qR_ HO_3) gb367 (Nat.le_of_eq hg.symm)) hb)
              have n1_ := Aside0.mk (blk_below (qk_ BK360) hb)
              have n2_ := Aside0.mk (below_step qB_ hb)
              have n3_ := Aside0.mk (hbox)
              have n4_ := Aside0.mk ((qs_ : w.heap.size ≤ gb367))
              have n5_ := Aside0.mk ((qs_ : w.heap.size ≤ gb367))
              have n6_ := Aside0.mk ((by rw [hg]; exact Nat.ne_of_lt (blk_lt (qk_ BK360)) : gb360 ≠ gb367))
              have n7_ := Aside0.mk ((by rw [hg]; exact Nat.ne_of_gt (blk_lt (qk_ BK360)) : gb367 ≠ gb360))
              clear HO_3; clear BK360; clear HB; have HO_3 := n0_; have BK360 := n1_; have HB := n2_; have BK367 := n3_; have GW367 := n4_; have GE367 := n5_; have NB360_367 := n6_; have NB367_360 := n7_; clear n0_ n1_ n2_ n3_ n4_ n5_ n6_ n7_; clear hb hbox hg
              refine hK.out _ _ ⟨((HB.out.cell (World.block_lt_of_cell? w _ hw363_0)).trans hw363_0), ((HB.out.cell (World.block_lt_of_cell? w _ hw364_0)).trans hw364_0), ((HB.out.cell (World.block_lt_of_cell? w _ hw365_0)).trans hw365_0), ((HB.out.cell (World.block_lt_of_cell? w _ hw366_0)).trans hw366_0)⟩ (fun hHeld => ?_)
              clear hK K
              refine norm_ (a' := ?_) ?_ ?_
              rotate_left
              ·show Act.put _ (some 7) _ = _
               simp only [Act.put, List.setIfInBounds_toArray, List.set_cons_zero, List.set_cons_succ, i64_w, i32_w]
               rfl
              refine one_ (i := 22) (N := none) (bm 23 8388607) rfl rfl (one_of HT_.out (by kernel_rfl)) (by decide) (fun K hK => ?_)
              have hs31 : w30.cell? ⟨gb367, 0, none⟩ = some (.int .i64 0) := (blk_cell BK367.out 0).trans rfl
              have hfs31 := blk_frozen BK367.out 0
              have hns31_0 := NB360_367.out; have hms31_0 := NB367_360.out
              have hs32 : w30.cell? ⟨gb367, 1, none⟩ = some (.int .i64 0) := (blk_cell BK367.out 1).trans rfl
              have hfs32 := blk_frozen BK367.out 1
              have hns32_0 := NB360_367.out; have hms32_0 := NB367_360.out
              refine skip_ (w1 := ?_) (by rfl) rfl ?_ ?_
              rotate_left
              ·go_simp
               rfl
              refine hK.out _ _ ⟨((cell_far (p := ⟨gb367, _, none⟩) (by first | exact Nat.ne_of_lt (Nat.lt_of_lt_of_le (by have := World.block_lt_of_cell? _ _ hw363_0; first | rwa [add_block] at this | exact this) GW367.out) | (rw [add_block]; exact Nat.ne_of_lt (Nat.lt_of_lt_of_le (by have := World.block_lt_of_cell? _ _ hw363_0; first | rwa [add_block] at this | exact this) GW367.out)) | (show (Addr.add _ _).block ≠ _; rw [add_block]; exact Nat.ne_of_lt (Nat.lt_of_lt_of_le (by have := World.block_lt_of_cell? _ _ hw363_0; first | rwa [add_block] at this | exact this) GW367.out)) | (dsimp only; exact Nat.ne_of_lt (Nat.lt_of_lt_of_le (by have := World.block_lt_of_cell? _ _ hw363_0; first | rwa [add_block] at this | exact this) GW367.out))) _).trans (((cell_far (p := ⟨gb367, _, none⟩) (by first | exact Nat.ne_of_lt (Nat.lt_of_lt_of_le (by have := World.block_lt_of_cell? _ _ hw363_0; first | rwa [add_block] at this | exact this) GW367.out) | (rw [add_block]; exact Nat.ne_of_lt (Nat.lt_of_lt_of_le (by have := World.block_lt_of_cell? _ _ hw363_0; first | rwa [add_block] at this | exact this) GW367.out)) | (show (Addr.add _ _).block ≠ _; rw [add_block]; exact Nat.ne_of_lt (Nat.lt_of_lt_of_le (by have := World.block_lt_of_cell? _ _ hw363_0; first | rwa [add_block] at this | exact this) GW367.out)) | (dsimp only; exact Nat.ne_of_lt (Nat.lt_of_lt_of_le (by have := World.block_lt_of_cell? _ _ hw363_0; first | rwa [add_block] at this | exact this) GW367.out))) _).trans (hHeld.1)))), ((cell_far (p := ⟨gb367, _, none⟩) (by first | exact Nat.ne_of_lt (Nat.lt_of_lt_of_le (by have := World.block_lt_of_cell? _ _ hw364_0; first | rwa [add_block] at this | exact this) GW367.out) | (rw [add_block]; exact Nat.ne_of_lt (Nat.lt_of_lt_of_le (by have := World.block_lt_of_cell? _ _ hw364_0; first | rwa [add_block] at this | exact this) GW367.out)) | (show (Addr.add _ _).block ≠ _; rw [add_block]; exact Nat.ne_of_lt (Nat.lt_of_lt_of_le (by have := World.block_lt_of_cell? _ _ hw364_0; first | rwa [add_block] at this | exact this) GW367.out)) | (dsimp only; exact Nat.ne_of_lt (Nat.lt_of_lt_of_le (by have := World.block_lt_of_cell? _ _ hw364_0; first | rwa [add_block] at this | exact this) GW367.out))) _).trans (((cell_far (p := ⟨gb367, _, none⟩) (by first | exact Nat.ne_of_lt (Nat.lt_of_lt_of_le (by have := World.block_lt_of_cell? _ _ hw364_0; first | rwa [add_block] at this | exact this) GW367.out) | (rw [add_block]; exact Nat.ne_of_lt (Nat.lt_of_lt_of_le (by have := World.block_lt_of_cell? _ _ hw364_0; first | rwa [add_block] at this | exact this) GW367.out)) | (show (Addr.add _ _).block ≠ _; rw [add_block]; exact Nat.ne_of_lt (Nat.lt_of_lt_of_le (by have := World.block_lt_of_cell? _ _ hw364_0; first | rwa [add_block] at this | exact this) GW367.out)) | (dsimp only; exact Nat.ne_of_lt (Nat.lt_of_lt_of_le (by have := World.block_lt_of_cell? _ _ hw364_0; first | rwa [add_block] at this | exact this) GW367.out))) _).trans (hHeld.2.1)))), ((cell_far (p := ⟨gb367, _, none⟩) (by first | exact Nat.ne_of_lt (Nat.lt_of_lt_of_le (by have := World.block_lt_of_cell? _ _ hw365_0; first | rwa [add_block] at this | exact this) GW367.out) | (rw [add_block]; exact Nat.ne_of_lt (Nat.lt_of_lt_of_le (by have := World.block_lt_of_cell? _ _ hw365_0; first | rwa [add_block] at this | exact this) GW367.out)) | (show (Addr.add _ _).block ≠ _; rw [add_block]; exact Nat.ne_of_lt (Nat.lt_of_lt_of_le (by have := World.block_lt_of_cell? _ _ hw365_0; first | rwa [add_block] at this | exact this) GW367.out)) | (dsimp only; exact Nat.ne_of_lt (Nat.lt_of_lt_of_le (by have := World.block_lt_of_cell? _ _ hw365_0; first | rwa [add_block] at this | exact this) GW367.out))) _).trans (((cell_far (p := ⟨gb367, _, none⟩) (by first | exact Nat.ne_of_lt (Nat.lt_of_lt_of_le (by have := World.block_lt_of_cell? _ _ hw365_0; first | rwa [add_block] at this | exact this) GW367.out) | (rw [add_block]; exact Nat.ne_of_lt (Nat.lt_of_lt_of_le (by have := World.block_lt_of_cell? _ _ hw365_0; first | rwa [add_block] at this | exact this) GW367.out)) | (show (Addr.add _ _).block ≠ _; rw [add_block]; exact Nat.ne_of_lt (Nat.lt_of_lt_of_le (by have := World.block_lt_of_cell? _ _ hw365_0; first | rwa [add_block] at this | exact this) GW367.out)) | (dsimp only; exact Nat.ne_of_lt (Nat.lt_of_lt_of_le (by have := World.block_lt_of_cell? _ _ hw365_0; first | rwa [add_block] at this | exact this) GW367.out))) _).trans (hHeld.2.2.1)))), ((cell_far (p := ⟨gb367, _, none⟩) (by first | exact Nat.ne_of_lt (Nat.lt_of_lt_of_le (by have := World.block_lt_of_cell? _ _ hw366_0; first | rwa [add_block] at this | exact this) GW367.out) | (rw [add_block]; exact Nat.ne_of_lt (Nat.lt_of_lt_of_le (by have := World.block_lt_of_cell? _ _ hw366_0; first | rwa [add_block] at this | exact this) GW367.out)) | (show (Addr.add _ _).block ≠ _; rw [add_block]; exact Nat.ne_of_lt (Nat.lt_of_lt_of_le (by have := World.block_lt_of_cell? _ _ hw366_0; first | rwa [add_block] at this | exact this) GW367.out)) | (dsimp only; exact Nat.ne_of_lt (Nat.lt_of_lt_of_le (by have := World.block_lt_of_cell? _ _ hw366_0; first | rwa [add_block] at this | exact this) GW367.out))) _).trans (((cell_far (p := ⟨gb367, _, none⟩) (by first | exact Nat.ne_of_lt (Nat.lt_of_lt_of_le (by have := World.block_lt_of_cell? _ _ hw366_0; first | rwa [add_block] at this | exact this) GW367.out) | (rw [add_block]; exact Nat.ne_of_lt (Nat.lt_of_lt_of_le (by have := World.block_lt_of_cell? _ _ hw366_0; first | rwa [add_block] at this | exact this) GW367.out)) | (show (Addr.add _ _).block ≠ _; rw [add_block]; exact Nat.ne_of_lt (Nat.lt_of_lt_of_le (by have := World.block_lt_of_cell? _ _ hw366_0; first | rwa [add_block] at this | exact this) GW367.out)) | (dsimp only; exact Nat.ne_of_lt (Nat.lt_of_lt_of_le (by have := World.block_lt_of_cell? _ _ hw366_0; first | rwa [add_block] at this | exact this) GW367.out))) _).trans (hHeld.2.2.2))))⟩ (fun hHeld => ?_)
              clear hK K
              refine done_ (done_of HT_.out (by kernel_rfl)) ?_
              have hnb33 := NB367_360.out; have hnc33 := NB360_367.out
              obtain ⟨hcz34_0, hcz34_1, hfz34_0, hfz34_1⟩ := bc2_ BK367
              obtain ⟨Ao35, co35, eo35⟩ := Kd.R_slice HO_3.out
              subst eo35
              try go_wp2_with (first | ((with_reducible refine gate_callee (f := 90) rfl ?_); refine goesL_ (some 49) rfl rfl Try.func90 (by kernel_rfl) rfl #[.slice Ao35 x3_2.length co35, .agg #[.int .i64 ji16, .int .i64 ji17]] rfl (by (try simp only [List.map_toArray, List.map_cons, List.map_nil]); first | done | (simp only [hji16, hji17]; rfl) | rfl | (simp only [List.length_drop, List.length_take]; rfl)) ?_; (with_reducible refine (impl_hasEdge.calls k2 _ _ x3_2 ji16 ji17 false _ ?side1 ?side2 A18.out).mono ?_); (case side1 => refine (Kd.R_reads' (e := 112) (base := w.heap.size) (ok := fun k_ => (True ∧ k_ ≠ gb367)) (n := x3_2.length) (c := co35) ?_).2.2; exact (by (with_reducible repeat (first | apply Kd.R_alloc | apply Kd.R_drewN | apply Kd.R_drew)); exact (Kd.R_mono (Kd.R_far (p := ⟨gb367, 1, none⟩) (Kd.R_far (p := ⟨gb367, 0, none⟩) (Kd.R_mono HO_3.out (fun k_ hk => (⟨hk, hk.2⟩ : _ ∧ k_ ≠ gb367))) (fun _ hk => hk.2) (.int .i64 ji16)) (fun _ hk => hk.2) (.int .i64 ji17)) (fun _ h_ => h_.1)))); (case side2 => exact (Kd.R_reads' HO_3.out).2.1); rintro e w36 ⟨rfl, hb⟩; refine ⟨_, rfl, ?_⟩; replace HO_3 := Aside0.mk (Kd.R_below (by (with_reducible repeat (first | apply Kd.R_alloc | apply Kd.R_drewN | apply Kd.R_drew)); exact (Kd.R_mono (Kd.R_far (p := ⟨gb367, 1, none⟩) (Kd.R_far (p := ⟨gb367, 0, none⟩) (Kd.R_mono HO_3.out (fun k_ hk => (⟨hk, hk.2⟩ : _ ∧ k_ ≠ gb367))) (fun _ hk => hk.2) (.int .i64 ji16)) (fun _ hk => hk.2) (.int .i64 ji17)) (fun _ h_ => h_.1))) hb); replace BK360 := Aside0.mk (blk_below (g := gb360) (o := .cells #[.int .i64 a0_0, .slice (some ad362) l0_1.length c0_1] 33 (0, 0)) (by (with_reducible repeat (first | refine blk_drewN ?_ _ | refine blk_drew ?_ | refine blk_alloc ?_ _)); refine blk_far ?_ NB360_367.out _; (with_reducible repeat (first | refine blk_drewN ?_ _ | refine blk_drew ?_ | refine blk_alloc ?_ _)); refine blk_far ?_ NB360_367.out _; (with_reducible repeat (first | refine blk_drewN ?_ _ | refine blk_drew ?_ | refine blk_alloc ?_ _)); exact BK360.out) hb); replace BK367 := Aside0.mk (blk_below (g := gb367) (o := .cells #[.int .i64 ji16, .int .i64 ji17] 112 (0, 0)) (by (with_reducible repeat (first | refine blk_drewN ?_ _ | refine blk_drew ?_ | refine blk_alloc ?_ _)); refine blk_put (cs := #[.int .i64 ji16, .int .i64 0]) ?_ 1 _ rfl; (with_reducible repeat (first | refine blk_drewN ?_ _ | refine blk_drew ?_ | refine blk_alloc ?_ _)); refine blk_put (cs := #[.int .i64 0, .int .i64 0]) ?_ 0 _ rfl; (with_reducible repeat (first | refine blk_drewN ?_ _ | refine blk_drew ?_ | refine blk_alloc ?_ _)); exact BK367.out) hb); replace HB := Aside0.mk (below_step qB_ hb); (try clear hb); (try clear hb2); (try clear hk); (try clear hi); obtain ⟨hcz37_0, hcz37_1, hfz37_0, hfz37_1⟩ := bc2_ BK367) | ((with_reducible refine gate_callee (f := 91) rfl ?_); refine goesL_ (some 53) rfl rfl Try.func91 (by kernel_rfl) rfl #[.slice Ao35 x3_2.length co35, .agg #[.int .i64 ji16, .int .i64 ji17]] rfl (by (try simp only [List.map_toArray, List.map_cons, List.map_nil]); first | done | (simp only [hji16, hji17]; rfl) | rfl | (simp only [List.length_drop, List.length_take]; rfl)) ?_; (with_reducible refine (impl_withEdge.calls k2 _ _ x3_2 ji16 ji17 t369 _ ?side1 ?side2 A28.out).mono ?_); (case side1 => exact qD_ (Kd.R_reads' HO_3.out).2.2); (case side2 => exact (Kd.R_reads' HO_3.out).2.1); rintro e w38 ⟨v370, rfl, ho0, hb⟩; refine ⟨_, rfl, ?_⟩; have HO371 := Aside0.mk (Kd.R_lower (Kd.R_newB (Kd.R_new' ho0 (Kd.R_lt (qR_ HO_3))) (qk_ BK367)) (below_size qB_)); replace HO_3 := Aside0.mk (Kd.R_elder' (qR_ HO_3) (Kd.R_base ho0) hb); replace BK360 := Aside0.mk (blk_below (qk_ BK360) hb); replace BK367 := Aside0.mk (blk_below (qk_ BK367) hb); replace HB := Aside0.mk (below_step qB_ hb); (try clear hb); (try clear hb2); (try clear hk); (try clear hi); (try clear ho0)))
              go_roundg k2
              case measure => have := HK1.out; have := HK2.out; omega
              case rel => exact ⟨(t369), (ji14), (by first | rfl | (simp; done) | (simp only [← hji14] <;> (first | rfl | simp)) | (simp [*]; done)), H', ⟨by have := HK1.out; have := HK2.out; omega⟩, ⟨by (with_reducible repeat (first | apply Kd.R_alloc | apply Kd.R_drewN | apply Kd.R_drew)); exact Kd.R_mono HO371.out (fun _ hk => trivial)⟩, ⟨qk_ BK360⟩, ⟨qB_⟩⟩
            ·rw [if_neg c15] at H
             exact absurd H (by simp)
           ·rw [if_neg c13] at H
            exact absurd H (by simp)
          ·rw [if_neg c12] at H
           exact absurd H (by simp)
         ·rw [if_neg c11] at H
          have c11b0 : decide ((wrap64 (x6_2 + 1)) < ((rd_L1 l0_1 x15_1).length : Int)) = false := decide_eq_false c11
          clear c11; have H' := Aside0.mk H; clear H
          go_wp2
          go_roundg k2
          case measure => have := HK1.out; have := HK2.out; omega
          case rel => exact ⟨(x3_2), (wrap64 (x15_1 + 1)), qe_, H', ⟨by have := HK1.out; have := HK2.out; omega⟩, ⟨by (with_reducible repeat (first | apply Kd.R_alloc | apply Kd.R_drewN | apply Kd.R_drew)); first | exact HO_3.out | (have h_ := HO_3.out; simp only [own_slice] at h_ ⊢; exact h_)⟩, ⟨qk_ BK360⟩, ⟨qB_⟩⟩
      ·rw [if_neg c10] at H
       exact absurd H (by simp)
     ·rw [if_neg c9] at H
      exact absurd H (by simp)
    ·rw [if_neg c8] at H
     have c8b0 : decide (x15_1 < (l0_1.length : Int)) = false := decide_eq_false c8
     clear c8
     obtain rfl := Option.some.inj H
     go_wp2
     go_ret
     exact ⟨_, qr_, by (with_reducible repeat (first | apply Kd.R_alloc | apply Kd.R_drewN | apply Kd.R_drew)); exact HO_3.out, qB_⟩
 ·replace c3 := Bool.eq_false_iff.mpr c3
  subst c3
  rw [if_neg (show ¬ (false = true) by decide)] at H
  obtain rfl := Option.some.inj H
  go_enter Try.func42, Try.ntmps42
  go_wp2_with (first | ((with_reducible refine gate_dst (N := 1) rfl ?_); refine bx_ 1 (cs := #[.int .i64 a0_0, .slice A0_1 l0_1.length c0_1]) (t := 33) ?_; intro gb360 hg w39 hbox hb; have BK360 := Aside0.mk (hbox); have GW360 := Aside0.mk ((qs_ : w.heap.size ≤ gb360)); have GE360 := Aside0.mk ((qs_ : w.heap.size ≤ gb360)); replace HB := Aside0.mk (below_step qB_ hb); clear hb hbox hg; obtain ⟨hcz40_0, hcz40_1, hfz40_0, hfz40_1⟩ := bc2_ BK360) | ((with_reducible refine gate_callee (f := 21) rfl ?_); refine gl_ (some 9) Try.func21 #[.agg #[.int .i64 a0_0, .slice A0_1 l0_1.length c0_1]] ?_; (with_reducible refine (impl_ForestOk.calls k a0_0 _ _ l0_1 false _ ?side1 ?side2 A2.out).mono ?_); (case side1 => exact qC_ HR0_1 HB); (case side2 => exact HC0_1.out); rintro e w41 ⟨rfl, hb⟩; refine ⟨_, rfl, ?_⟩; replace BK360 := Aside0.mk (blk_below (qk_ BK360) hb); replace HB := Aside0.mk (below_step qB_ hb); (try clear hb); (try clear hb2); (try clear hk); (try clear hi)))
  go_ret
  exact ⟨_, qr_, by first | exact Kd.R_nil _ _ _ _ _ | exact Kd.N_nil _ _ _ _ _ | exact Kd.V_nil _ _ _ _ _ | exact Kd.Q_nil _ _ _ _ _ | exact Kd.S_nil _ _ _ _ _, qB_⟩

/-! ### laws_eqEdge: function 92 -/
def laws_eqEdge.f (a0_0 : Int) (a0_1 : Int) (a1_0 : Int) (a1_1 : Int) : Option (Bool) := if a0_0 = a1_0 then (if a0_1 = a1_1 then (some true) else (some false)) else (some false)
set_option maxHeartbeats 8000000 in
set_option maxRecDepth 100000 in
theorem laws_eqEdge.calls (a0_0 : Int) (a0_1 : Int) (a1_0 : Int) (a1_1 : Int) (r : Bool) (w : World) (h : laws_eqEdge.f a0_0 a0_1 a1_0 a1_1 = some r) :
  Calls Try.prog 92 #[.agg #[.int .i64 a0_0, .int .i64 a0_1], .agg #[.int .i64 a1_0, .int .i64 a1_1]] w fun e w' => e = .returned (.bool r) ∧ Below w.heap.size w w' := by
 have hu112 := Try.underlying112
 have HB := Aside0.mk (Below.refl w.heap.size w)
 have H : (if a0_0 = a1_0 then (if a0_1 = a1_1 then (some true) else (some false)) else (some false)) = some r := h
 clear h
 by_cases c3 : a0_0 = a1_0
 ·rw [if_pos c3] at H
  have c3b0 : (a0_0 == a1_0) = true := beq_iff_eq.mpr c3
  have c3b1 : (a0_0 != a1_0) = false := bne_eq_false_iff_eq.mpr c3
  clear c3
  by_cases c4 : a0_1 = a1_1
  ·rw [if_pos c4] at H
   have c4b0 : (a0_1 == a1_1) = true := beq_iff_eq.mpr c4
   have c4b1 : (a0_1 != a1_1) = false := bne_eq_false_iff_eq.mpr c4
   clear c4
   obtain rfl := Option.some.inj H
   go_enter Try.func92, Try.ntmps92
   go_wp2_with (first | ((with_reducible refine gate_dst (N := 2) rfl ?_); refine bx_ 2 (cs := #[.int .i64 a0_0, .int .i64 a0_1]) (t := 112) ?_; intro gb372 hg w5 hbox hb; have BK372 := Aside0.mk (hbox); have GW372 := Aside0.mk ((qs_ : w.heap.size ≤ gb372)); have GE372 := Aside0.mk ((qs_ : w.heap.size ≤ gb372)); replace HB := Aside0.mk (below_step qB_ hb); clear hb hbox hg) | ((with_reducible refine gate_dst (N := 3) rfl ?_); refine bx_ 3 (cs := #[.int .i64 a1_0, .int .i64 a1_1]) (t := 112) ?_; intro gb373 hg w6 hbox hb; have BK373 := Aside0.mk (hbox); have GW373 := Aside0.mk ((qs_ : w.heap.size ≤ gb373)); have GE373 := Aside0.mk ((qs_ : w.heap.size ≤ gb373)); have NB372_373 := Aside0.mk ((by rw [hg]; exact Nat.ne_of_lt (blk_lt (qk_ BK372)) : gb372 ≠ gb373)); have NB373_372 := Aside0.mk ((by rw [hg]; exact Nat.ne_of_gt (blk_lt (qk_ BK372)) : gb373 ≠ gb372)); replace BK372 := Aside0.mk (blk_below (qk_ BK372) hb); replace HB := Aside0.mk (below_step qB_ hb); clear hb hbox hg; have hnb7 := NB372_373.out; have hnc7 := NB373_372.out; obtain ⟨hcz8_0, hcz8_1, hfz8_0, hfz8_1⟩ := bc2_ BK372; obtain ⟨hcz9_0, hcz9_1, hfz9_0, hfz9_1⟩ := bc2_ BK373))
   go_ret
   exact ⟨qr_, qB_⟩
  ·rw [if_neg c4] at H
   have c4b0 : (a0_1 == a1_1) = false := beq_eq_false_iff_ne.mpr c4
   have c4b1 : (a0_1 != a1_1) = true := bne_iff_ne.mpr c4
   obtain rfl := Option.some.inj H
   go_enter Try.func92, Try.ntmps92
   go_wp2_with (first | ((with_reducible refine gate_dst (N := 2) rfl ?_); refine bx_ 2 (cs := #[.int .i64 a0_0, .int .i64 a0_1]) (t := 112) ?_; intro gb372 hg w10 hbox hb; have BK372 := Aside0.mk (hbox); have GW372 := Aside0.mk ((qs_ : w.heap.size ≤ gb372)); have GE372 := Aside0.mk ((qs_ : w.heap.size ≤ gb372)); replace HB := Aside0.mk (below_step qB_ hb); clear hb hbox hg) | ((with_reducible refine gate_dst (N := 3) rfl ?_); refine bx_ 3 (cs := #[.int .i64 a1_0, .int .i64 a1_1]) (t := 112) ?_; intro gb373 hg w11 hbox hb; have BK373 := Aside0.mk (hbox); have GW373 := Aside0.mk ((qs_ : w.heap.size ≤ gb373)); have GE373 := Aside0.mk ((qs_ : w.heap.size ≤ gb373)); have NB372_373 := Aside0.mk ((by rw [hg]; exact Nat.ne_of_lt (blk_lt (qk_ BK372)) : gb372 ≠ gb373)); have NB373_372 := Aside0.mk ((by rw [hg]; exact Nat.ne_of_gt (blk_lt (qk_ BK372)) : gb373 ≠ gb372)); replace BK372 := Aside0.mk (blk_below (qk_ BK372) hb); replace HB := Aside0.mk (below_step qB_ hb); clear hb hbox hg; have hnb12 := NB372_373.out; have hnc12 := NB373_372.out; obtain ⟨hcz13_0, hcz13_1, hfz13_0, hfz13_1⟩ := bc2_ BK372; obtain ⟨hcz14_0, hcz14_1, hfz14_0, hfz14_1⟩ := bc2_ BK373))
   go_ret
   exact ⟨qr_, qB_⟩
 ·rw [if_neg c3] at H
  have c3b0 : (a0_0 == a1_0) = false := beq_eq_false_iff_ne.mpr c3
  have c3b1 : (a0_0 != a1_0) = true := bne_iff_ne.mpr c3
  obtain rfl := Option.some.inj H
  go_enter Try.func92, Try.ntmps92
  go_wp2_with (first | ((with_reducible refine gate_dst (N := 2) rfl ?_); refine bx_ 2 (cs := #[.int .i64 a0_0, .int .i64 a0_1]) (t := 112) ?_; intro gb372 hg w15 hbox hb; have BK372 := Aside0.mk (hbox); have GW372 := Aside0.mk ((qs_ : w.heap.size ≤ gb372)); have GE372 := Aside0.mk ((qs_ : w.heap.size ≤ gb372)); replace HB := Aside0.mk (below_step qB_ hb); clear hb hbox hg) | ((with_reducible refine gate_dst (N := 3) rfl ?_); refine bx_ 3 (cs := #[.int .i64 a1_0, .int .i64 a1_1]) (t := 112) ?_; intro gb373 hg w16 hbox hb; have BK373 := Aside0.mk (hbox); have GW373 := Aside0.mk ((qs_ : w.heap.size ≤ gb373)); have GE373 := Aside0.mk ((qs_ : w.heap.size ≤ gb373)); have NB372_373 := Aside0.mk ((by rw [hg]; exact Nat.ne_of_lt (blk_lt (qk_ BK372)) : gb372 ≠ gb373)); have NB373_372 := Aside0.mk ((by rw [hg]; exact Nat.ne_of_gt (blk_lt (qk_ BK372)) : gb373 ≠ gb372)); replace BK372 := Aside0.mk (blk_below (qk_ BK372) hb); replace HB := Aside0.mk (below_step qB_ hb); clear hb hbox hg; have hnb17 := NB372_373.out; have hnc17 := NB373_372.out; obtain ⟨hcz18_0, hcz18_1, hfz18_0, hfz18_1⟩ := bc2_ BK372; obtain ⟨hcz19_0, hcz19_1, hfz19_0, hfz19_1⟩ := bc2_ BK373))
  go_ret
  exact ⟨qr_, qB_⟩

end Go.Proofs.Ytacnlodcbbhahaa.QFnExactEdgesOf
