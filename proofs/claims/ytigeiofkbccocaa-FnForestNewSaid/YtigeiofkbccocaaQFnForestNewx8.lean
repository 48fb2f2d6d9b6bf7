-- printed for this claim by a program of the session's own (no text of the kit's print)
import Derived.Test.YtigeiofkbccocaaQFnForestNewx0
import Derived.Test.YtigeiofkbccocaaQFnForestNewx7
namespace Go.Proofs.Ytigeiofkbccocaa.QFnForestNew
open Go.RowKit Go.Proofs.YtigeiofkbccocaaW.PrintWords Go.Proofs.YtigeiofkbccocaaW.PrintLast Go.Proofs.YtigeiofkbccocaaW.PrintMore
attribute [local go_sem] max2_int min2_int max_two min_two max_three min_three max_four min_four   -- for this text's walks alone
set_option linter.unusedVariables false
set_option linter.unusedSimpArgs false

/-! ### impl_withEdge: function 107 -/
def impl_withEdge.l0 : Nat → List (S79) → Int → Int → Int → Option ((List (S79)))
  | 0, _, _, _, _ => none
  | k + 1, x0, x5, x270000, x270001 => if x5 < (x0.length : Int) then (if 0 ≤ x5 then ((impl_ahead.f ((rd_T79 x0 x5).f0) ((rd_T79 x0 x5).f1) x270000 x270001).bind fun t271 => (if t271 = true then (impl_withEdge.l0 k x0 (wrap64 (x5 + 1)) x270000 x270001) else (if x5 ≤ (x0.length : Int) then ((some (x0.take (x5 : Int).toNat : List (S79))).bind fun y272 => (if ([] : List (S79)).length + y272.length < 8796093022208 then ((some (([] : List (S79)) ++ y272 : List (S79))).bind fun y276 => ((some (([(⟨x270000, x270001⟩ : S79)] : List (S79)) : List (S79))).bind fun y279 => (if y276.length + y279.length < 8796093022208 then ((some (y276 ++ y279 : List (S79))).bind fun y282 => ((some (x0.drop (x5 : Int).toNat : List (S79))).bind fun y285 => (if y282.length + y285.length < 8796093022208 then (some (y282 ++ y285)) else (none)))) else (none)))) else (none))) else (none)))) else (none)) else (if 0 ≤ x5 then (if x5 ≤ (x0.length : Int) then ((some (x0.take (x5 : Int).toNat : List (S79))).bind fun y292 => (if ([] : List (S79)).length + y292.length < 8796093022208 then ((some (([] : List (S79)) ++ y292 : List (S79))).bind fun y296 => ((some (([(⟨x270000, x270001⟩ : S79)] : List (S79)) : List (S79))).bind fun y299 => (if y296.length + y299.length < 8796093022208 then ((some (y296 ++ y299 : List (S79))).bind fun y302 => ((some (x0.drop (x5 : Int).toNat : List (S79))).bind fun y305 => (if y302.length + y305.length < 8796093022208 then (some (y302 ++ y305)) else (none)))) else (none)))) else (none))) else (none)) else (none))
def impl_withEdge.f (k : Nat) (l0 : List (S79)) (a1_0 : Int) (a1_1 : Int) : Option ((List (S79))) := impl_withEdge.l0 k l0 0 a1_0 a1_1
theorem impl_withEdge.mono_l : ∀ k, (∀ y0 y1 y2 y3, LeO (impl_withEdge.l0 k y0 y1 y2 y3) (impl_withEdge.l0 (k + 1) y0 y1 y2 y3))
  | 0 => fun _ _ _ _ r h => by simp [impl_withEdge.l0] at h
  | k + 1 => by
    have ih0 := impl_withEdge.mono_l k
    · intro y0 y1 y2 y3
      unfold impl_withEdge.l0
      repeat' first
      | (with_reducible exact ih0 _ _ _ _)
      | (with_reducible exact LeO.refl _)
      | (with_reducible exact LeO.none _)
      | (with_reducible refine LeO.ite ?_ ?_)
      | (with_reducible refine LeO.bind ?_ (fun _ => ?_))
      | exact ih0 _ _ _ _
      | exact LeO.none _
      | refine LeO.ite ?_ ?_
      | refine LeO.bind ?_ (fun _ => ?_)
theorem impl_withEdge.mono : ∀ a0 a1 a2 k, LeO (impl_withEdge.f k a0 a1 a2) (impl_withEdge.f (k + 1) a0 a1 a2) := by
  intro a0 a1 a2 k
  have ih0 := impl_withEdge.mono_l k
  unfold impl_withEdge.f
  repeat' first
      | (with_reducible exact ih0 _ _ _ _)
      | (with_reducible exact LeO.refl _)
      | (with_reducible exact LeO.none _)
      | (with_reducible refine LeO.ite ?_ ?_)
      | (with_reducible refine LeO.bind ?_ (fun _ => ?_))
      | exact ih0 _ _ _ _
      | exact LeO.none _
      | refine LeO.ite ?_ ?_
      | refine LeO.bind ?_ (fun _ => ?_)
def impl_withEdge.T2 : Bool × List (List Nat × List Nat) := (true, [([], []), ([], []), ([1], [1]), ([0, 2], [0, 2]), ([3], [3]), ([4], [4]), ([4], [4]), ([5, 6, 4], [4, 5, 6]), ([7, 4], [4, 7]), ([4], [4]), ([8, 9, 4, 4], [4, 8, 9]), ([4, 10], [4, 10])])
def impl_withEdge.B2 : List Nat := [0, 0, 2, 7, 15, 31, 31, 127, 255, 31, 1023, 2047]
theorem impl_withEdge.tab2 : rtab .any (opsOf Try.f107 2) = impl_withEdge.T2 := by kernel_rfl
theorem impl_withEdge.bits2 : waitsOk impl_withEdge.T2.2 impl_withEdge.B2 = true := by kernel_rfl
def impl_withEdge.T4 : Bool × List (List Nat × List Nat) := (true, [([], []), ([], []), ([0, 1], [0, 1]), ([2], [2]), ([], []), ([4], [4]), ([3, 5, 3], [3, 5]), ([], []), ([], []), ([7, 8], [7, 8]), ([6, 9, 6], [6, 9]), ([10, 10, 0, 1, 2, 3, 4, 5, 6, 7, 8, 9, 10], [10])])
def impl_withEdge.B4 : List Nat := [0, 0, 3, 7, 0, 16, 63, 0, 0, 384, 1023, 2047]
theorem impl_withEdge.tab4 : rtab .any (opsOf Try.f107 4) = impl_withEdge.T4 := by kernel_rfl
theorem impl_withEdge.bits4 : waitsOk impl_withEdge.T4.2 impl_withEdge.B4 = true := by kernel_rfl
set_option maxHeartbeats 8000000 in
set_option maxRecDepth 100000 in
theorem impl_withEdge.calls (k : Nat) (A0 : Option Addr) (c0 : Nat) (l0 : List (S79)) (a1_0 : Int) (a1_1 : Int) (r : List (S79)) (w : World) (hr0 : Kd.C k79 w A0 l0.length l0) (hc0 : l0.length ≤ c0) (h : impl_withEdge.f k l0 a1_0 a1_1 = some r) :
  Calls Try.prog 107 #[.slice A0 l0.length c0, .agg #[.int .i64 a1_0, .int .i64 a1_1]] w fun e w' => ∃ v0_ : Value, e = .returned (v0_) ∧ Kd.R k79 79 w' w.heap.size (fun _ => True) v0_ r ∧ Below w.heap.size w w' := by
 have hu79 := Try.underlying79
 have HR0 := Aside0.mk hr0
 have HC0 := Aside0.mk hc0
 clear hr0 hc0
 have HB := Aside0.mk (Below.refl w.heap.size w)
 have H : (impl_withEdge.l0 k l0 0 a1_0 a1_1) = some r := h
 clear h; have H' := Aside0.mk H; clear H
 go_enter Try.func107, Try.ntmps107
 go_wp2_with (first | ((with_reducible refine gate_dst (N := 3) rfl ?_); refine bx_ 3 (cs := #[.int .i64 a1_0, .int .i64 a1_1]) (t := 79) ?_; intro gb269 hg w3 hbox hb; have BK269 := Aside0.mk (hbox); have GW269 := Aside0.mk ((qs_ : w.heap.size ≤ gb269)); have GE269 := Aside0.mk ((qs_ : w.heap.size ≤ gb269)); replace HB := Aside0.mk (below_step qB_ hb); clear hb hbox hg))
 go_loopg [5] k (fun kq v5 w' => ∃ (x5_1 : Int), v5 = .int .i64 x5_1 ∧ Aside0 (impl_withEdge.l0 kq l0 x5_1 a1_0 a1_1 = some r) ∧ Aside0 (kq ≤ k) ∧ Aside0 (w'.heap[gb269]? = some (.cells #[.int .i64 a1_0, .int .i64 a1_1] 79 (0, 0))) ∧ Aside0 (Below w.heap.size w w'))
 case atStart => exact ⟨(0), qe_, H', ⟨Nat.le_refl _⟩, ⟨qk_ BK269⟩, ⟨qB_⟩⟩
 case round =>
  clear H'
  (try clear c1); (try clear p2)
  obtain ⟨x5_1, rfl, HA, HK1, BK269, HB⟩ := hrel
  cases gk with
  | zero => exact absurd HA.out (by simp [impl_withEdge.l0])
  | succ k1 =>
   have H := HA.out; clear HA
   simp only [impl_withEdge.l0] at H
   by_cases c4 : x5_1 < (l0.length : Int)
   ·rw [if_pos c4] at H
    have c4b0 : decide (x5_1 < (l0.length : Int)) = true := decide_eq_true c4
    clear c4
    by_cases c5 : 0 ≤ x5_1
    ·rw [if_pos c5] at H
     have c5b0 : decide (0 ≤ x5_1) = true := decide_eq_true c5
     clear c5
     obtain ⟨t271, A60, H⟩ := Option.bind_eq_some_iff.mp H; have A6 := Aside0.mk A60; clear A60
     by_cases c7 : t271 = true
     ·subst c7
      rw [if_pos rfl] at H; have H' := Aside0.mk H; clear H
      try go_wp2
      have n0_ := Aside0.mk (blk_drew BK269.out)
      have n1_ := Aside0.mk (below_drew1 HB.out)
      clear BK269; clear HB; have BK269 := n0_; have HB := n1_; clear n0_ n1_
      have p270 : 0 ≤ (x5_1 : Int) := of_decide_eq_true qa_
      have q270 : x5_1 < (l0.length : Int) := of_decide_eq_true qa_
      obtain ⟨ad270, e270, hx270_0, hx270_1⟩ := at_T79 HR0.out x5_1 p270 q270
      have hw270_1 := hx270_1; have hw270_0 := hx270_0; cases e270
      replace hx270_0 := (HB.out.cell (World.block_lt_of_cell? w _ hx270_0)).trans hx270_0
      replace hx270_1 := (HB.out.cell (World.block_lt_of_cell? w _ hx270_1)).trans hx270_1
      replace p270 := eq_true p270; replace q270 := eq_true q270
      refine start_ (n := 12) (S := fun w' => w'.cell? ⟨gb269, 0, none⟩ = some (.int .i64 a1_0) ∧ w'.cell? ⟨gb269, 1, none⟩ = some (.int .i64 a1_1) ∧ w'.cell? (ad270.add ((x5_1).toNat * 2)) = some (.int .i64 ((rd_T79 l0 x5_1).f0)) ∧ w'.cell? ⟨(ad270.add ((x5_1).toNat * 2)).block, (ad270.add ((x5_1).toNat * 2)).off + 1, none⟩ = some (.int .i64 ((rd_T79 l0 x5_1).f1))) (ds := []) (bm 12 0) (by kernel_rfl) rfl (by kernel_rfl) ⟨(blk_cell BK269.out 0).trans rfl, (blk_cell BK269.out 1).trans rfl, ((HB.out.cell (World.block_lt_of_cell? w _ hw270_0)).trans hw270_0), ((HB.out.cell (World.block_lt_of_cell? w _ hw270_1)).trans hw270_1)⟩ (fun hHeld => ?_); refine with_tabW impl_withEdge.tab2 impl_withEdge.bits2 (fun HT_ HW_ => ?_)
      generalize wr.drew = w8 at BK269 HB hx270_0 hx270_1 hHeld ⊢
      refine pz_ 0 6 (bm 12 1) ?_; refine pz_ 1 7 (bm 12 3) ?_; refine pz_ 2 8 (bm 12 7) ?_; refine pz_ 3 9 (bm 12 15) ?_; refine pz_ 4 10 (bm 12 31) ?_; refine pz_ 5 11 (bm 12 63) ?_; refine pz_ 6 12 (bm 12 127) ?_; refine pz_ 7 13 (bm 12 255) ?_; refine tz4_ 8 14 (bm 12 511) ?_; refine tz4_ 9 15 (bm 12 1023) ?_
      refine one_ (i := 10) (N := some 16) (bm 12 2047) rfl rfl (one_of HT_.out (by kernel_rfl)) (by decide) (fun K hK => ?_)
      refine goes_ Try.func119 (by kernel_rfl) rfl #[.agg #[.int .i64 ((rd_T79 l0 x5_1).f0), .int .i64 ((rd_T79 l0 x5_1).f1)], .agg #[.int .i64 a1_0, .int .i64 a1_1]] (by rfl) rfl rfl (by (try simp only [List.map_toArray, List.map_cons, List.map_nil]); first | done | rfl | (simp only [List.length_drop, List.length_take]; rfl)) ?_
      with_reducible refine (impl_ahead.calls ((rd_T79 l0 x5_1).f0) ((rd_T79 l0 x5_1).f1) a1_0 a1_1 true _ A6.out).mono ?_
      rintro e w9 ⟨rfl, hb⟩
      refine ⟨_, rfl, ?_⟩
      have n0_ := Aside0.mk (blk_below (qk_ BK269) hb)
      have n1_ := Aside0.mk (below_step qB_ hb)
      clear BK269; clear HB; have BK269 := n0_; have HB := n1_; clear n0_ n1_; (try clear hb); (try clear hb2); (try clear hk); (try clear hi)
      refine hK.out _ _ ⟨(blk_cell BK269.out 0).trans rfl, (blk_cell BK269.out 1).trans rfl, ((HB.out.cell (World.block_lt_of_cell? w _ hw270_0)).trans hw270_0), ((HB.out.cell (World.block_lt_of_cell? w _ hw270_1)).trans hw270_1)⟩ (fun hHeld => ?_)
      clear hK K
      refine norm_ (a' := ?_) ?_ ?_
      rotate_left
      ·show Act.put _ (some 16) _ = _
       simp only [Act.put, List.setIfInBounds_toArray, List.set_cons_zero, List.set_cons_succ, i64_w, i32_w]
       rfl
      refine pz_ 11 17 (bm 12 4095) ?_
      refine done_ (done_of HT_.out (by kernel_rfl)) ?_
      try go_wp2
      go_roundg k1
      case measure => have := HK1.out; omega
      case rel => exact ⟨(wrap64 (x5_1 + 1)), qe_, H', ⟨by have := HK1.out; omega⟩, ⟨qk_ BK269⟩, ⟨qB_⟩⟩
     ·replace c7 := Bool.eq_false_iff.mpr c7
      subst c7
      rw [if_neg (show ¬ (false = true) by decide)] at H
      have c10b0 := eq_true (of_decide_eq_true qa_ : 0 ≤ x5_1)
      by_cases c11 : x5_1 ≤ (l0.length : Int)
      ·rw [if_pos c11] at H
       have c11b0 := eq_true c11
       have c11b1 : decide (x5_1 ≤ (l0.length : Int)) = true := decide_eq_true c11
       clear c11
       obtain ⟨y272, hy272⟩ : ∃ y_ : List (S79), y_ = (l0.take (x5_1 : Int).toNat) := ⟨_, rfl⟩
       replace H : (if ([] : List (S79)).length + y272.length < 8796093022208 then ((some (([] : List (S79)) ++ y272 : List (S79))).bind fun y276 => ((some (([(⟨a1_0, a1_1⟩ : S79)] : List (S79)) : List (S79))).bind fun y279 => (if y276.length + y279.length < 8796093022208 then ((some (y276 ++ y279 : List (S79))).bind fun y282 => ((some (l0.drop (x5_1 : Int).toNat : List (S79))).bind fun y285 => (if y282.length + y285.length < 8796093022208 then (some (y282 ++ y285)) else (none)))) else (none)))) else (none)) = some r := by first | (rw [hy272]; with_reducible exact H) | (have H2_ := (Option.bind_some _ _).symm.trans H; rw [hy272]; with_reducible exact H2_) | (have H2_ := (Option.bind_some _ _).symm.trans H; with_reducible exact H2_) | with_reducible exact H | (rw [hy272]; exact H) | exact H
       have Ny272 := Aside0.mk hy272
       clear hy272
       by_cases c12 : ([] : List (S79)).length + y272.length < 8796093022208
       ·rw [if_pos c12] at H
        have LMc12 := Aside0.mk c12
        clear c12
        obtain ⟨y276, hy276⟩ : ∃ y_ : List (S79), y_ = (([] : List (S79)) ++ y272) := ⟨_, rfl⟩
        replace H : ((some (([(⟨a1_0, a1_1⟩ : S79)] : List (S79)) : List (S79))).bind fun y279 => (if y276.length + y279.length < 8796093022208 then ((some (y276 ++ y279 : List (S79))).bind fun y282 => ((some (l0.drop (x5_1 : Int).toNat : List (S79))).bind fun y285 => (if y282.length + y285.length < 8796093022208 then (some (y282 ++ y285)) else (none)))) else (none))) = some r := by first | (rw [hy276]; with_reducible exact H) | (have H2_ := (Option.bind_some _ _).symm.trans H; rw [hy276]; with_reducible exact H2_) | (have H2_ := (Option.bind_some _ _).symm.trans H; with_reducible exact H2_) | with_reducible exact H | (rw [hy276]; exact H) | exact H
        have Ny276 := Aside0.mk hy276
        clear hy276
        obtain ⟨y279, hy279⟩ : ∃ y_ : List (S79), y_ = (([(⟨a1_0, a1_1⟩ : S79)] : List (S79))) := ⟨_, rfl⟩
        replace H : (if y276.length + y279.length < 8796093022208 then ((some (y276 ++ y279 : List (S79))).bind fun y282 => ((some (l0.drop (x5_1 : Int).toNat : List (S79))).bind fun y285 => (if y282.length + y285.length < 8796093022208 then (some (y282 ++ y285)) else (none)))) else (none)) = some r := by first | (rw [hy279]; with_reducible exact H) | (have H2_ := (Option.bind_some _ _).symm.trans H; rw [hy279]; with_reducible exact H2_) | (have H2_ := (Option.bind_some _ _).symm.trans H; with_reducible exact H2_) | with_reducible exact H | (rw [hy279]; exact H) | exact H
        have Ny279 := Aside0.mk hy279
        clear hy279
        by_cases c13 : y276.length + y279.length < 8796093022208
        ·rw [if_pos c13] at H
         have LMc13 := Aside0.mk c13
         clear c13
         obtain ⟨y282, hy282⟩ : ∃ y_ : List (S79), y_ = (y276 ++ y279) := ⟨_, rfl⟩
         replace H : ((some (l0.drop (x5_1 : Int).toNat : List (S79))).bind fun y285 => (if y282.length + y285.length < 8796093022208 then (some (y282 ++ y285)) else (none))) = some r := by first | (rw [hy282]; with_reducible exact H) | (have H2_ := (Option.bind_some _ _).symm.trans H; rw [hy282]; with_reducible exact H2_) | (have H2_ := (Option.bind_some _ _).symm.trans H; with_reducible exact H2_) | with_reducible exact H | (rw [hy282]; exact H) | exact H
         have Ny282 := Aside0.mk hy282
         clear hy282
         have c14b0 := eq_true (of_decide_eq_true qa_ : 0 ≤ x5_1)
         have c15b0 := eq_true (of_decide_eq_true qa_ : x5_1 ≤ (l0.length : Int))
         obtain ⟨y285, hy285⟩ : ∃ y_ : List (S79), y_ = (l0.drop (x5_1 : Int).toNat) := ⟨_, rfl⟩
         replace H : (if y282.length + y285.length < 8796093022208 then (some (y282 ++ y285)) else (none)) = some r := by first | (rw [hy285]; with_reducible exact H) | (have H2_ := (Option.bind_some _ _).symm.trans H; rw [hy285]; with_reducible exact H2_) | (have H2_ := (Option.bind_some _ _).symm.trans H; with_reducible exact H2_) | with_reducible exact H | (rw [hy285]; exact H) | exact H
         have Ny285 := Aside0.mk hy285
         clear hy285
         by_cases c16 : y282.length + y285.length < 8796093022208
         ·rw [if_pos c16] at H
          have LMc16 := Aside0.mk c16
          clear c16
          obtain ⟨y289, hy289⟩ : ∃ y_ : List (S79), y_ = (y282 ++ y285) := ⟨_, rfl⟩
          replace H : (some y289) = some r := by first | (rw [hy289]; with_reducible exact H) | (have H2_ := (Option.bind_some _ _).symm.trans H; rw [hy289]; with_reducible exact H2_) | (have H2_ := (Option.bind_some _ _).symm.trans H; with_reducible exact H2_) | with_reducible exact H | (rw [hy289]; exact H) | exact H
          have Ny289 := Aside0.mk hy289
          clear hy289
          obtain rfl := Option.some.inj H
          try go_wp2
          have n0_ := Aside0.mk (blk_drew BK269.out)
          have n1_ := Aside0.mk (below_drew1 HB.out)
          clear BK269; clear HB; have BK269 := n0_; have HB := n1_; clear n0_ n1_
          have p270 : 0 ≤ (x5_1 : Int) := of_decide_eq_true qa_
          have q270 : x5_1 < (l0.length : Int) := of_decide_eq_true qa_
          obtain ⟨ad270, e270, hx270_0, hx270_1⟩ := at_T79 HR0.out x5_1 p270 q270
          have hw270_1 := hx270_1; have hw270_0 := hx270_0; cases e270
          replace hx270_0 := (HB.out.cell (World.block_lt_of_cell? w _ hx270_0)).trans hx270_0
          replace hx270_1 := (HB.out.cell (World.block_lt_of_cell? w _ hx270_1)).trans hx270_1
          replace p270 := eq_true p270; replace q270 := eq_true q270
          refine start_ (n := 12) (S := fun w' => w'.cell? ⟨gb269, 0, none⟩ = some (.int .i64 a1_0) ∧ w'.cell? ⟨gb269, 1, none⟩ = some (.int .i64 a1_1) ∧ w'.cell? (ad270.add ((x5_1).toNat * 2)) = some (.int .i64 ((rd_T79 l0 x5_1).f0)) ∧ w'.cell? ⟨(ad270.add ((x5_1).toNat * 2)).block, (ad270.add ((x5_1).toNat * 2)).off + 1, none⟩ = some (.int .i64 ((rd_T79 l0 x5_1).f1))) (ds := []) (bm 12 0) (by kernel_rfl) rfl (by kernel_rfl) ⟨(blk_cell BK269.out 0).trans rfl, (blk_cell BK269.out 1).trans rfl, ((HB.out.cell (World.block_lt_of_cell? w _ hw270_0)).trans hw270_0), ((HB.out.cell (World.block_lt_of_cell? w _ hw270_1)).trans hw270_1)⟩ (fun hHeld => ?_); refine with_tabW impl_withEdge.tab2 impl_withEdge.bits2 (fun HT_ HW_ => ?_)
          generalize wr.drew = w17 at BK269 HB hx270_0 hx270_1 hHeld ⊢
          refine pz_ 0 6 (bm 12 1) ?_; refine pz_ 1 7 (bm 12 3) ?_; refine pz_ 2 8 (bm 12 7) ?_; refine pz_ 3 9 (bm 12 15) ?_; refine pz_ 4 10 (bm 12 31) ?_; refine pz_ 5 11 (bm 12 63) ?_; refine pz_ 6 12 (bm 12 127) ?_; refine pz_ 7 13 (bm 12 255) ?_; refine tz4_ 8 14 (bm 12 511) ?_; refine tz4_ 9 15 (bm 12 1023) ?_
          refine one_ (i := 10) (N := some 16) (bm 12 2047) rfl rfl (one_of HT_.out (by kernel_rfl)) (by decide) (fun K hK => ?_)
          refine goes_ Try.func119 (by kernel_rfl) rfl #[.agg #[.int .i64 ((rd_T79 l0 x5_1).f0), .int .i64 ((rd_T79 l0 x5_1).f1)], .agg #[.int .i64 a1_0, .int .i64 a1_1]] (by rfl) rfl rfl (by (try simp only [List.map_toArray, List.map_cons, List.map_nil]); first | done | rfl | (simp only [List.length_drop, List.length_take]; rfl)) ?_
          with_reducible refine (impl_ahead.calls ((rd_T79 l0 x5_1).f0) ((rd_T79 l0 x5_1).f1) a1_0 a1_1 false _ A6.out).mono ?_
          rintro e w18 ⟨rfl, hb⟩
          refine ⟨_, rfl, ?_⟩
          have n0_ := Aside0.mk (blk_below (qk_ BK269) hb)
          have n1_ := Aside0.mk (below_step qB_ hb)
          clear BK269; clear HB; have BK269 := n0_; have HB := n1_; clear n0_ n1_; (try clear hb); (try clear hb2); (try clear hk); (try clear hi)
          refine hK.out _ _ ⟨(blk_cell BK269.out 0).trans rfl, (blk_cell BK269.out 1).trans rfl, ((HB.out.cell (World.block_lt_of_cell? w _ hw270_0)).trans hw270_0), ((HB.out.cell (World.block_lt_of_cell? w _ hw270_1)).trans hw270_1)⟩ (fun hHeld => ?_)
          clear hK K
          refine norm_ (a' := ?_) ?_ ?_
          rotate_left
          ·show Act.put _ (some 16) _ = _
           simp only [Act.put, List.setIfInBounds_toArray, List.set_cons_zero, List.set_cons_succ, i64_w, i32_w]
           rfl
          refine pz_ 11 17 (bm 12 4095) ?_
          refine done_ (done_of HT_.out (by kernel_rfl)) ?_
          try go_wp2
          have n0_ := Aside0.mk (blk_drew BK269.out)
          have n1_ := Aside0.mk (below_drew1 HB.out)
          clear BK269; clear HB; have BK269 := n0_; have HB := n1_; clear n0_ n1_
          have q20 : (x5_1 : Int) ≤ ((l0.length : Int) : Int) := of_decide_eq_true qa_
          obtain ⟨i020, hi020, _, hsz20, _⟩ := info_parts info79
          have hroom20 : l0.length ≤ c0 := HC0.out
          have hC20 : Kd.C k79 _ (some ad270) l0.length l0 := HR0.out
          have hcut20 := cut_to (P := Try.prog) 37 79 .i64 Try.underlying37 hi020 (some ad270) l0.length c0 x5_1 (of_decide_eq_true qa_) q20 hroom20
          have hr20 := Kd.C_take (m := (x5_1 : Int).toNat) hC20 (by omega)
          have hy20 : y272.length = (x5_1 : Int).toNat := (by rw [Ny272.out, List.length_take]; omega)
          rw [← Ny272.out] at hr20
          rw [← hy20] at hcut20
          have HR275 := Aside0.mk hr20
          have HC275 := Aside0.mk (show y272.length ≤ c0 from by omega)
          clear hr20 hC20 hroom20 hi020 hsz20
          have KY20 := Aside0.mk hy20
          clear hy20; replace q20 := eq_true q20
          have q21 : (x5_1 : Int) ≤ ((l0.length : Int) : Int) := of_decide_eq_true qa_
          obtain ⟨i021, hi021, _, hsz21, _⟩ := info_parts info79
          have hroom21 : l0.length ≤ c0 := HC0.out
          have hC21 : Kd.C k79 _ (some ad270) l0.length l0 := HR0.out
          have q021 : (0 : Int) ≤ (x5_1 : Int) := of_decide_eq_true qa_
          have hcut21 := cut_from (P := Try.prog) 37 79 .i64 Try.underlying37 hi021 2 hsz21 (some ad270) l0.length c0 x5_1 q021 q21
          have hr21 := Kd.C_drop (m := (x5_1 : Int).toNat) (c := c0) hC21 (by omega) hroom21
          obtain ⟨A21, hA21⟩ : ∃ A1, A1 = (if c0 = (x5_1 : Int).toNat then (some ad270) else ((some ad270) : Option Addr).map (·.add ((x5_1 : Int).toNat * 2))) := ⟨_, rfl⟩
          obtain ⟨c21, hc21⟩ : ∃ c1, c1 = c0 - (x5_1 : Int).toNat := ⟨_, rfl⟩
          have hy21 : y285.length = l0.length - (x5_1 : Int).toNat := (by rw [Ny285.out, List.length_drop] <;> omega)
          rw [show (l0).drop (x5_1 : Int).toNat = y285 from Ny285.out.symm] at hr21
          replace hr21 : Kd.C k79 _ A21 y285.length y285 := (by rw [hA21]; exact hr21)
          rw [← hy21, ← hA21, ← hc21] at hcut21
          have HR288 := Aside0.mk hr21
          have HC288 := Aside0.mk (show y285.length ≤ c21 from by rw [hy21, hc21]; exact Nat.sub_le_sub_right hroom21 _)
          clear hr21 hC21 hroom21 hi021 hsz21 hc21
          have KY21 := Aside0.mk hy21
          have KA21 := Aside0.mk hA21
          clear hy21 hA21; replace q21 := eq_true q21
          refine start_ (n := 12) (S := fun w' => w'.cell? ⟨gb269, 0, none⟩ = some (.int .i64 a1_0) ∧ w'.cell? ⟨gb269, 1, none⟩ = some (.int .i64 a1_1)) (ds := []) (bm 12 0) (by kernel_rfl) rfl (by kernel_rfl) ⟨(blk_cell BK269.out 0).trans rfl, (blk_cell BK269.out 1).trans rfl⟩ (fun hHeld => ?_); refine with_tabW impl_withEdge.tab4 impl_withEdge.bits4 (fun HT_ HW_ => ?_)
          generalize w18.drew = w19 at BK269 HB HR275 HR288 hHeld ⊢
          refine pz_ 0 20 (bm 12 1) ?_; refine pz_ 1 21 (bm 12 3) ?_; refine pz_ 2 22 (bm 12 7) ?_; refine pz_ 7 27 (bm 12 135) ?_; refine pz_ 8 28 (bm 12 391) ?_; refine pz_ 9 29 (bm 12 903) ?_; refine tz2_ 4 24 (bm 12 919) ?_
          refine join_ (σ := Value × Value) 3 #[true, true, true, true, true, true, false, true, true, true, false, false] (fun s_ => [(23, s_.1), (25, s_.2)]) (fun s_ w' => (w'.cell? ⟨gb269, 0, none⟩ = some (.int .i64 a1_0) ∧ w'.cell? ⟨gb269, 1, none⟩ = some (.int .i64 a1_1)) ∧ (Kd.R k79 79 w' w.heap.size (fun k_ => some k_ ≠ (s_.2 : Value).ownBlock ∧ k_ ≠ gb269) s_.1 y276) ∧ (Kd.R k79 79 w' w.heap.size (fun k_ => some k_ ≠ (s_.1 : Value).ownBlock ∧ k_ ≠ gb269) s_.2 y279) ∧ (w'.heap[gb269]? = some (.cells #[.int .i64 a1_0, .int .i64 a1_1] 79 (0, 0))) ∧ (Below w.heap.size w w')) ?_ ?_
          rotate_left
          ·intro hCont
           refine two_ (i := 3) (j := 5) (Ni := some 23) (Nj := some 25) (bm 12 927) #[true, true, true, false, true, true, false, true, true, true, false, false] rfl rfl rfl rfl (two_of HT_.out (by kernel_rfl)) (by decide) (by decide) (fun K hK => ?_) (fun K hK => ?_)
           ·skip
            refine Kd.R_append_rows_step k79 (w0 := w) w.heap.size rfl (.const (.slice none 0 0)) (.tmp 22) 37 79 (.agg #[(.int .i64 0), (.int .i64 0)]) 16 rfl Try.underlying37 info79 rfl (by decide) (by omega) (.slice none 0 0) ([] : List (S79)) y272 _ _ _ (fun k_ => k_ ≠ gb269) (fun _ => False) rfl rfl ?aO ?aR (fun _ _ h => h) (fun _ h => h.elim) ?aF ?aB ?aS ?aL ?_
            (case aR => repeat (first | exact (Kd.C_below HR275.out HB.out) | (with_reducible refine Kd.C_alloc ?_ _) | (with_reducible refine Kd.C_drewN ?_ _) | (with_reducible refine Kd.C_drew ?_)))
            (case aB => exact qB_)
            (case aF => exact (fun k_ hk => Kd.freshB (qk_ BK269) k_ hk))
            (case aO => exact ((Kd.R_nil _ _ _ _ (fun k_ => k_ ≠ gb269))))
            (case aS => exact (below_size qB_))
            (case aL => have := LMc12.out; omega)
            intro v277 w22 ho hb hg hat
            rw [← Ny276.out] at ho
            have n0_ := Aside0.mk (blk_grown (qk_ BK269) hg (by simp [Value.ownBlock]))
            have n1_ := Aside0.mk (hb)
            have n2_ := Aside0.mk (ho)
            clear BK269; clear HB; have BK269 := n0_; have HB := n1_; have HO278 := n2_; clear n0_ n1_ n2_; clear ho hb hg hat
            refine hK.out _ _ ⟨(blk_cell BK269.out 0).trans rfl, (blk_cell BK269.out 1).trans rfl⟩ (fun hHeld => ?_)
            clear hK K
            refine norm_ (a' := ?_) ?_ ?_
            rotate_left
            ·show Act.put _ (some 23) _ = _
             simp only [Act.put, List.setIfInBounds_toArray, List.set_cons_zero, List.set_cons_succ, i64_w, i32_w]
             rfl
            refine one_ (i := 5) (N := some 25) (bm 12 959) rfl rfl (one_of HT_.out (by kernel_rfl)) (by decide) (fun K hK => ?_)
            refine Kd.R_lit_step k79 _ 79 ?hg (N := 25) ?hd (xs := ([(⟨a1_0, a1_1⟩ : S79)] : List (S79))) (inner := [.int .i64 a1_0, .int .i64 a1_1]) (ok := fun _ => True) (okp := fun _ => True) ?hr ?hp (fun _ hk => hk) trivial (Below.refl _ _) (Nat.le_refl _) (by simp) ?_; (case hd => rfl); (case hg => rfl); (case hr => first | (go_simp; done) | (go_simp; rfl)); (case hp => exact (Reps.c2 (show Kd.M k79 _ _ _ (⟨a1_0, a1_1⟩ : S79) [.int .i64 a1_0, .int .i64 a1_1] from (k79_mkM _ _ _ (⟨a1_0, a1_1⟩ : S79) )) (Reps.none _ _)))
            intro v280 w23 ho24 hb hg_ hnew_
            clear hg_ hnew_
            (first | rw [← Ny279.out] at ho24 | (simp only [Int.reduceToNat] at ho24; rw [← Ny279.out] at ho24))
            have n0_ := Aside0.mk (Kd.R_elder' (qR_ HO278) (Kd.R_base ho24) hb)
            have n1_ := Aside0.mk (Kd.R_lower (Kd.R_newB (Kd.R_new' ho24 (Kd.R_lt (qR_ HO278))) (qk_ BK269)) (below_size qB_))
            have n2_ := Aside0.mk (blk_below (qk_ BK269) hb)
            have n3_ := Aside0.mk (below_step qB_ hb)
            clear HO278; clear BK269; clear HB; have HO278 := n0_; have HO281 := n1_; have BK269 := n2_; have HB := n3_; clear n0_ n1_ n2_ n3_; clear hb ho24
            refine hK.out _ _ ⟨(blk_cell BK269.out 0).trans rfl, (blk_cell BK269.out 1).trans rfl⟩ (fun hHeld => ?_)
            clear hK K
            refine norm_ (a' := ?_) ?_ ?_
            rotate_left
            ·show Act.put _ (some 25) _ = _
             simp only [Act.put, List.setIfInBounds_toArray, List.set_cons_zero, List.set_cons_succ, i64_w, i32_w]
             rfl
            exact norm_ (by simp only [putAll, Act.put, List.setIfInBounds_toArray, List.set_cons_zero, List.set_cons_succ]) (hCont (v277, v280) _ ⟨hHeld, (by (with_reducible repeat (first | apply Kd.R_alloc | apply Kd.R_drewN | apply Kd.R_drew)); exact Kd.R_mono HO278.out (fun _ hk => ⟨hk.2, hk.1⟩)), (by (with_reducible repeat (first | apply Kd.R_alloc | apply Kd.R_drewN | apply Kd.R_drew)); exact Kd.R_mono HO281.out (fun _ hk => ⟨hk.1.2, hk.2⟩)), (qk_ BK269), qB_⟩)
           ·skip
            refine Kd.R_lit_step k79 _ 79 ?hg (N := 25) ?hd (xs := ([(⟨a1_0, a1_1⟩ : S79)] : List (S79))) (inner := [.int .i64 a1_0, .int .i64 a1_1]) (ok := fun _ => True) (okp := fun _ => True) ?hr ?hp (fun _ hk => hk) trivial (Below.refl _ _) (Nat.le_refl _) (by simp) ?_; (case hd => rfl); (case hg => rfl); (case hr => first | (go_simp; done) | (go_simp; rfl)); (case hp => exact (Reps.c2 (show Kd.M k79 _ _ _ (⟨a1_0, a1_1⟩ : S79) [.int .i64 a1_0, .int .i64 a1_1] from (k79_mkM _ _ _ (⟨a1_0, a1_1⟩ : S79) )) (Reps.none _ _)))
            intro v280 w22 ho23 hb hg_ hnew_
            clear hg_ hnew_
            (first | rw [← Ny279.out] at ho23 | (simp only [Int.reduceToNat] at ho23; rw [← Ny279.out] at ho23))
            have n0_ := Aside0.mk (Kd.R_lower (Kd.R_newB ho23 (qk_ BK269)) (below_size qB_))
            have n1_ := Aside0.mk (blk_below (qk_ BK269) hb)
            have n2_ := Aside0.mk (below_step qB_ hb)
            clear BK269; clear HB; have HO281 := n0_; have BK269 := n1_; have HB := n2_; clear n0_ n1_ n2_; clear hb ho23
            refine hK.out _ _ ⟨(blk_cell BK269.out 0).trans rfl, (blk_cell BK269.out 1).trans rfl⟩ (fun hHeld => ?_)
            clear hK K
            refine norm_ (a' := ?_) ?_ ?_
            rotate_left
            ·show Act.put _ (some 25) _ = _
             simp only [Act.put, List.setIfInBounds_toArray, List.set_cons_zero, List.set_cons_succ, i64_w, i32_w]
             rfl
            refine one_ (i := 3) (N := some 23) (bm 12 959) rfl rfl (one_of HT_.out (by kernel_rfl)) (by decide) (fun K hK => ?_)
            refine Kd.R_append_rows_step k79 (w0 := w) w.heap.size rfl (.const (.slice none 0 0)) (.tmp 22) 37 79 (.agg #[(.int .i64 0), (.int .i64 0)]) 16 rfl Try.underlying37 info79 rfl (by decide) (by omega) (.slice none 0 0) ([] : List (S79)) y272 _ _ _ (fun k_ => some k_ ≠ (v280 : Value).ownBlock ∧ k_ ≠ gb269) (fun _ => False) rfl rfl ?aO ?aR (fun _ _ h => h) (fun _ h => h.elim) ?aF ?aB ?aS ?aL ?_
            (case aR => repeat (first | exact (Kd.C_below HR275.out HB.out) | (with_reducible refine Kd.C_alloc ?_ _) | (with_reducible refine Kd.C_drewN ?_ _) | (with_reducible refine Kd.C_drew ?_)))
            (case aB => exact qB_)
            (case aF => exact (fun k_ hk => ⟨Kd.fresh' (Kd.R_lt (qR_ HO281)) k_ hk, Kd.freshB (qk_ BK269) k_ hk⟩))
            (case aO => exact ((Kd.R_nil _ _ _ _ (fun k_ => some k_ ≠ (v280 : Value).ownBlock ∧ k_ ≠ gb269))))
            (case aS => exact (below_size qB_))
            (case aL => have := LMc12.out; omega)
            intro v277 w24 ho hb hg hat
            rw [← Ny276.out] at ho
            have n0_ := Aside0.mk (blk_grown (qk_ BK269) hg (by simp [Value.ownBlock]))
            have n1_ := Aside0.mk (Kd.R_after (Kd.R_apart_nil (qR_ HO281)) hg hat)
            have n2_ := Aside0.mk (hb)
            have n3_ := Aside0.mk (ho)
            clear BK269; clear HO281; clear HB; have BK269 := n0_; have HO281 := n1_; have HB := n2_; have HO278 := n3_; clear n0_ n1_ n2_ n3_; clear ho hb hg hat
            refine hK.out _ _ ⟨(blk_cell BK269.out 0).trans rfl, (blk_cell BK269.out 1).trans rfl⟩ (fun hHeld => ?_)
            clear hK K
            refine norm_ (a' := ?_) ?_ ?_
            rotate_left
            ·show Act.put _ (some 23) _ = _
             simp only [Act.put, List.setIfInBounds_toArray, List.set_cons_zero, List.set_cons_succ, i64_w, i32_w]
             rfl
            exact norm_ (by simp only [putAll, Act.put, List.setIfInBounds_toArray, List.set_cons_zero, List.set_cons_succ]) (hCont (v277, v280) _ ⟨hHeld, (qR_ HO278), (by (with_reducible repeat (first | apply Kd.R_alloc | apply Kd.R_drewN | apply Kd.R_drew)); exact Kd.R_mono HO281.out (fun _ hk => ⟨hk.2, hk.1.2⟩)), (qk_ BK269), qB_⟩)
          rintro ⟨v277, v280⟩ w25 ⟨hS_, h0_, h1_, h2_, h3_⟩
          have n0_ : Aside0 (Kd.R k79 79 w25 w.heap.size (fun k_ => some k_ ≠ (v280 : Value).ownBlock ∧ k_ ≠ gb269) v277 y276) := ⟨h0_⟩
          have n1_ : Aside0 (Kd.R k79 79 w25 w.heap.size (fun k_ => some k_ ≠ (v277 : Value).ownBlock ∧ k_ ≠ gb269) v280 y279) := ⟨h1_⟩
          have n2_ : Aside0 (w25.heap[gb269]? = some (.cells #[.int .i64 a1_0, .int .i64 a1_1] 79 (0, 0))) := ⟨h2_⟩
          have n3_ : Aside0 (Below w.heap.size w w25) := ⟨h3_⟩
          clear BK269; clear HB; clear h0_ h1_ h2_ h3_; have HO278 := n0_; have HO281 := n1_; have BK269 := n2_; have HB := n3_; clear n0_ n1_ n2_ n3_
          have hHeld : w25.cell? ⟨gb269, 0, none⟩ = some (.int .i64 a1_0) ∧ w25.cell? ⟨gb269, 1, none⟩ = some (.int .i64 a1_1) := hS_
          obtain ⟨Ao27, co27, eo27⟩ := Kd.R_slice HO281.out
          (first | subst eo27 | (injection eo27 with f1_ f2_ f3_; have f4_ := f1_.symm; have f5_ := f3_.symm; clear f1_ f2_ f3_; subst f4_; subst f5_))
          refine norm_ (a' := ?_) ?_ ?_
          rotate_left
          ·simp only [putAll, Act.put, List.setIfInBounds_toArray, List.set_cons_zero, List.set_cons_succ]
           rfl
          refine one_ (i := 6) (N := some 26) (bm 12 1023) rfl rfl (one_of HT_.out (by kernel_rfl)) (by decide) (fun K hK => ?_)
          refine Kd.R_append_rows_step k79 (w0 := w) w.heap.size (by rfl) (.tmp 23) (.tmp 25) 37 79 (.agg #[(.int .i64 0), (.int .i64 0)]) 16 rfl Try.underlying37 info79 rfl (by decide) (by omega) v277 y276 y279 _ _ _ (fun k_ => some k_ ≠ (.slice Ao27 y279.length co27 : Value).ownBlock ∧ k_ ≠ gb269) (fun _ => False) rfl rfl ?aO ?aR (fun _ _ h => h) (fun _ h => h.elim) ?aF ?aB ?aS ?aL ?_
          (case aR => repeat (first | exact (Kd.R_reads' HO281.out).2.2 | (with_reducible refine Kd.C_alloc ?_ _) | (with_reducible refine Kd.C_drewN ?_ _) | (with_reducible refine Kd.C_drew ?_)))
          (case aB => exact qB_)
          (case aF => exact (fun k_ hk => ⟨Kd.fresh' (Kd.R_lt (qR_ HO281)) k_ hk, Kd.freshB (qk_ BK269) k_ hk⟩))
          (case aO => exact (qR_ HO278))
          (case aS => exact (below_size qB_))
          (case aL => have := LMc13.out; omega)
          intro v283 w26 ho hb hg hat
          rw [← Ny282.out] at ho
          have n0_ := Aside0.mk (blk_grown (qk_ BK269) hg (Kd.R_away HO278.out (fun _ hk => hk.2)))
          have n1_ := Aside0.mk (Kd.R_after (ok := (fun k_ => k_ ≠ gb269)) (by (with_reducible repeat (first | apply Kd.R_alloc | apply Kd.R_drewN | apply Kd.R_drew)); exact Kd.R_mono HO281.out (fun _ hk => ⟨hk.2, hk.1⟩)) hg hat)
          have n2_ := Aside0.mk (hb)
          have n3_ := Aside0.mk (ho)
          clear BK269; clear HO281; clear HB; clear HO278; have BK269 := n0_; have HO281 := n1_; have HB := n2_; have HO284 := n3_; clear n0_ n1_ n2_ n3_; clear ho hb hg hat
          refine hK.out _ _ ⟨(blk_cell BK269.out 0).trans rfl, (blk_cell BK269.out 1).trans rfl⟩ (fun hHeld => ?_)
          clear hK K
          refine norm_ (a' := ?_) ?_ ?_
          rotate_left
          ·show Act.put _ (some 26) _ = _
           simp only [Act.put, List.setIfInBounds_toArray, List.set_cons_zero, List.set_cons_succ, i64_w, i32_w]
           rfl
          refine one_ (i := 10) (N := some 30) (bm 12 2047) rfl rfl (one_of HT_.out (by kernel_rfl)) (by decide) (fun K hK => ?_)
          refine Kd.R_append_rows_step k79 (w0 := w) w.heap.size (by rfl) (.tmp 26) (.tmp 29) 37 79 (.agg #[(.int .i64 0), (.int .i64 0)]) 16 rfl Try.underlying37 info79 rfl (by decide) (by omega) v283 y282 y285 _ _ _ (fun k_ => some k_ ≠ (.slice Ao27 y279.length co27 : Value).ownBlock ∧ k_ ≠ gb269) (fun _ => False) rfl rfl ?aO ?aR (fun _ _ h => h) (fun _ h => h.elim) ?aF ?aB ?aS ?aL ?_
          (case aR => repeat (first | exact (Kd.C_below HR288.out HB.out) | (with_reducible refine Kd.C_alloc ?_ _) | (with_reducible refine Kd.C_drewN ?_ _) | (with_reducible refine Kd.C_drew ?_)))
          (case aB => exact qB_)
          (case aF => exact (fun k_ hk => ⟨Kd.fresh' (Kd.R_lt (qR_ HO281)) k_ hk, Kd.freshB (qk_ BK269) k_ hk⟩))
          (case aO => exact (qR_ HO284))
          (case aS => exact (below_size qB_))
          (case aL => have := LMc16.out; omega)
          intro v290 w28 ho hb hg hat
          rw [← Ny289.out] at ho
          have n0_ := Aside0.mk (blk_grown (qk_ BK269) hg (Kd.R_away HO284.out (fun _ hk => hk.2)))
          have n1_ := Aside0.mk (Kd.R_after (ok := (fun k_ => k_ ≠ gb269)) (qR_ HO281) hg hat)
          have n2_ := Aside0.mk (hb)
          have n3_ := Aside0.mk (ho)
          clear BK269; clear HO281; clear HB; clear HO284; have BK269 := n0_; have HO281 := n1_; have HB := n2_; have HO291 := n3_; clear n0_ n1_ n2_ n3_; clear ho hb hg hat
          refine hK.out _ _ ⟨(blk_cell BK269.out 0).trans rfl, (blk_cell BK269.out 1).trans rfl⟩ (fun hHeld => ?_)
          clear hK K
          refine norm_ (a' := ?_) ?_ ?_
          rotate_left
          ·show Act.put _ (some 30) _ = _
           simp only [Act.put, List.setIfInBounds_toArray, List.set_cons_zero, List.set_cons_succ, i64_w, i32_w]
           rfl
          refine pz_ 11 4 (bm 12 4095) ?_
          refine done_ (done_of HT_.out (by kernel_rfl)) ?_
          try go_wp2
          go_ret
          exact ⟨_, qr_, by (with_reducible repeat (first | apply Kd.R_alloc | apply Kd.R_drewN | apply Kd.R_drew)); exact Kd.R_mono HO291.out (fun _ hk => trivial), qB_⟩
         ·rw [if_neg c16] at H
          exact absurd H (by simp)
        ·rw [if_neg c13] at H
         exact absurd H (by simp)
       ·rw [if_neg c12] at H
        exact absurd H (by simp)
      ·rw [if_neg c11] at H
       exact absurd H (by simp)
    ·rw [if_neg c5] at H
     exact absurd H (by simp)
   ·rw [if_neg c4] at H
    have c4b0 : decide (x5_1 < (l0.length : Int)) = false := decide_eq_false c4
    clear c4
    by_cases c29 : 0 ≤ x5_1
    ·rw [if_pos c29] at H
     have c29b0 := eq_true c29
     have c29b1 : decide (0 ≤ x5_1) = true := decide_eq_true c29
     clear c29
     by_cases c30 : x5_1 ≤ (l0.length : Int)
     ·rw [if_pos c30] at H
      have c30b0 := eq_true c30
      have c30b1 : decide (x5_1 ≤ (l0.length : Int)) = true := decide_eq_true c30
      clear c30
      obtain ⟨y292, hy292⟩ : ∃ y_ : List (S79), y_ = (l0.take (x5_1 : Int).toNat) := ⟨_, rfl⟩
      replace H : (if ([] : List (S79)).length + y292.length < 8796093022208 then ((some (([] : List (S79)) ++ y292 : List (S79))).bind fun y296 => ((some (([(⟨a1_0, a1_1⟩ : S79)] : List (S79)) : List (S79))).bind fun y299 => (if y296.length + y299.length < 8796093022208 then ((some (y296 ++ y299 : List (S79))).bind fun y302 => ((some (l0.drop (x5_1 : Int).toNat : List (S79))).bind fun y305 => (if y302.length + y305.length < 8796093022208 then (some (y302 ++ y305)) else (none)))) else (none)))) else (none)) = some r := by first | (rw [hy292]; with_reducible exact H) | (have H2_ := (Option.bind_some _ _).symm.trans H; rw [hy292]; with_reducible exact H2_) | (have H2_ := (Option.bind_some _ _).symm.trans H; with_reducible exact H2_) | with_reducible exact H | (rw [hy292]; exact H) | exact H
      have Ny292 := Aside0.mk hy292
      clear hy292
      by_cases c31 : ([] : List (S79)).length + y292.length < 8796093022208
      ·rw [if_pos c31] at H
       have LMc31 := Aside0.mk c31
       clear c31
       obtain ⟨y296, hy296⟩ : ∃ y_ : List (S79), y_ = (([] : List (S79)) ++ y292) := ⟨_, rfl⟩
       replace H : ((some (([(⟨a1_0, a1_1⟩ : S79)] : List (S79)) : List (S79))).bind fun y299 => (if y296.length + y299.length < 8796093022208 then ((some (y296 ++ y299 : List (S79))).bind fun y302 => ((some (l0.drop (x5_1 : Int).toNat : List (S79))).bind fun y305 => (if y302.length + y305.length < 8796093022208 then (some (y302 ++ y305)) else (none)))) else (none))) = some r := by first | (rw [hy296]; with_reducible exact H) | (have H2_ := (Option.bind_some _ _).symm.trans H; rw [hy296]; with_reducible exact H2_) | (have H2_ := (Option.bind_some _ _).symm.trans H; with_reducible exact H2_) | with_reducible exact H | (rw [hy296]; exact H) | exact H
       have Ny296 := Aside0.mk hy296
       clear hy296
       obtain ⟨y299, hy299⟩ : ∃ y_ : List (S79), y_ = (([(⟨a1_0, a1_1⟩ : S79)] : List (S79))) := ⟨_, rfl⟩
       replace H : (if y296.length + y299.length < 8796093022208 then ((some (y296 ++ y299 : List (S79))).bind fun y302 => ((some (l0.drop (x5_1 : Int).toNat : List (S79))).bind fun y305 => (if y302.length + y305.length < 8796093022208 then (some (y302 ++ y305)) else (none)))) else (none)) = some r := by first | (rw [hy299]; with_reducible exact H) | (have H2_ := (Option.bind_some _ _).symm.trans H; rw [hy299]; with_reducible exact H2_) | (have H2_ := (Option.bind_some _ _).symm.trans H; with_reducible exact H2_) | with_reducible exact H | (rw [hy299]; exact H) | exact H
       have Ny299 := Aside0.mk hy299
       clear hy299
       by_cases c32 : y296.length + y299.length < 8796093022208
       ·rw [if_pos c32] at H
        have LMc32 := Aside0.mk c32
        clear c32
        obtain ⟨y302, hy302⟩ : ∃ y_ : List (S79), y_ = (y296 ++ y299) := ⟨_, rfl⟩
        replace H : ((some (l0.drop (x5_1 : Int).toNat : List (S79))).bind fun y305 => (if y302.length + y305.length < 8796093022208 then (some (y302 ++ y305)) else (none))) = some r := by first | (rw [hy302]; with_reducible exact H) | (have H2_ := (Option.bind_some _ _).symm.trans H; rw [hy302]; with_reducible exact H2_) | (have H2_ := (Option.bind_some _ _).symm.trans H; with_reducible exact H2_) | with_reducible exact H | (rw [hy302]; exact H) | exact H
        have Ny302 := Aside0.mk hy302
        clear hy302
        have c33b0 := eq_true (of_decide_eq_true qa_ : 0 ≤ x5_1)
        have c34b0 := eq_true (of_decide_eq_true qa_ : x5_1 ≤ (l0.length : Int))
        obtain ⟨y305, hy305⟩ : ∃ y_ : List (S79), y_ = (l0.drop (x5_1 : Int).toNat) := ⟨_, rfl⟩
        replace H : (if y302.length + y305.length < 8796093022208 then (some (y302 ++ y305)) else (none)) = some r := by first | (rw [hy305]; with_reducible exact H) | (have H2_ := (Option.bind_some _ _).symm.trans H; rw [hy305]; with_reducible exact H2_) | (have H2_ := (Option.bind_some _ _).symm.trans H; with_reducible exact H2_) | with_reducible exact H | (rw [hy305]; exact H) | exact H
        have Ny305 := Aside0.mk hy305
        clear hy305
        by_cases c35 : y302.length + y305.length < 8796093022208
        ·rw [if_pos c35] at H
         have LMc35 := Aside0.mk c35
         clear c35
         obtain ⟨y309, hy309⟩ : ∃ y_ : List (S79), y_ = (y302 ++ y305) := ⟨_, rfl⟩
         replace H : (some y309) = some r := by first | (rw [hy309]; with_reducible exact H) | (have H2_ := (Option.bind_some _ _).symm.trans H; rw [hy309]; with_reducible exact H2_) | (have H2_ := (Option.bind_some _ _).symm.trans H; with_reducible exact H2_) | with_reducible exact H | (rw [hy309]; exact H) | exact H
         have Ny309 := Aside0.mk hy309
         clear hy309
         obtain rfl := Option.some.inj H
         try go_wp2
         have n0_ := Aside0.mk (blk_drew BK269.out)
         have n1_ := Aside0.mk (below_drew1 HB.out)
         clear BK269; clear HB; have BK269 := n0_; have HB := n1_; clear n0_ n1_
         refine start_ (n := 12) (S := fun w' => True) (ds := []) (bm 12 0) (by kernel_rfl) rfl (by kernel_rfl) trivial (fun hHeld => ?_); refine with_tabW impl_withEdge.tab2 impl_withEdge.bits2 (fun HT_ HW_ => ?_)
         generalize wr.drew = w36 at BK269 HB hHeld ⊢
         refine pz_ 0 6 (bm 12 1) ?_; refine pz_ 1 7 (bm 12 3) ?_; refine pz_ 2 8 (bm 12 7) ?_; refine pz_ 3 9 (bm 12 15) ?_; refine pz_ 4 10 (bm 12 31) ?_
         refine pure_ (i := 5) (N := some 11) (v := undef) (a' := ?_) (bm 12 63) rfl rfl (any_of HT_.out (by kernel_rfl)) (fun _ _ _ h => h) (Or.inr ⟨by rfl, rfl⟩) ?_ ?_
         rotate_left
         ·simp only [Act.put, List.setIfInBounds_toArray, List.set_cons_zero, List.set_cons_succ, i64_w, i32_w]
          rfl
         refine pure_ (i := 6) (N := some 12) (v := undef) (a' := ?_) (bm 12 127) rfl rfl (any_of HT_.out (by kernel_rfl)) (fun _ _ _ h => h) (Or.inr ⟨by rfl, rfl⟩) ?_ ?_
         rotate_left
         ·simp only [Act.put, List.setIfInBounds_toArray, List.set_cons_zero, List.set_cons_succ, i64_w, i32_w]
          rfl
         refine pure_ (i := 7) (N := some 13) (v := undef) (a' := ?_) (bm 12 255) rfl rfl (any_of HT_.out (by kernel_rfl)) (fun _ _ _ h => h) (Or.inr ⟨by rfl, rfl⟩) ?_ ?_
         rotate_left
         ·simp only [Act.put, List.setIfInBounds_toArray, List.set_cons_zero, List.set_cons_succ, i64_w, i32_w]
          rfl
         refine pure_ (i := 8) (N := some 14) (v := undef) (a' := ?_) (bm 12 511) rfl rfl (any_of HT_.out (by kernel_rfl)) (fun _ _ _ h => h) (Or.inr ⟨by rfl, rfl⟩) ?_ ?_
         rotate_left
         ·simp only [Act.put, List.setIfInBounds_toArray, List.set_cons_zero, List.set_cons_succ, i64_w, i32_w]
          rfl
         refine pure_ (i := 9) (N := some 15) (v := undef) (a' := ?_) (bm 12 1023) rfl rfl (any_of HT_.out (by kernel_rfl)) (fun _ _ _ h => h) (Or.inr ⟨by rfl, rfl⟩) ?_ ?_
         rotate_left
         ·simp only [Act.put, List.setIfInBounds_toArray, List.set_cons_zero, List.set_cons_succ, i64_w, i32_w]
          rfl
         refine pure_ (i := 10) (N := some 16) (v := undef) (a' := ?_) (bm 12 2047) rfl rfl (any_of HT_.out (by kernel_rfl)) (fun _ _ _ h => h) (Or.inr ⟨by rfl, rfl⟩) ?_ ?_
         rotate_left
         ·simp only [Act.put, List.setIfInBounds_toArray, List.set_cons_zero, List.set_cons_succ, i64_w, i32_w]
          rfl
         refine pz_ 11 17 (bm 12 4095) ?_
         refine done_ (done_of HT_.out (by kernel_rfl)) ?_
         try go_wp2
         have n0_ := Aside0.mk (blk_drew BK269.out)
         have n1_ := Aside0.mk (below_drew1 HB.out)
         clear BK269; clear HB; have BK269 := n0_; have HB := n1_; clear n0_ n1_
         have q38 : (x5_1 : Int) ≤ ((l0.length : Int) : Int) := of_decide_eq_true qa_
         obtain ⟨i038, hi038, _, hsz38, _⟩ := info_parts info79
         have hroom38 : l0.length ≤ c0 := HC0.out
         have hC38 : Kd.C k79 _ A0 l0.length l0 := HR0.out
         have hcut38 := cut_to (P := Try.prog) 37 79 .i64 Try.underlying37 hi038 A0 l0.length c0 x5_1 (of_decide_eq_true qa_) q38 hroom38
         have hr38 := Kd.C_take (m := (x5_1 : Int).toNat) hC38 (by omega)
         have hy38 : y292.length = (x5_1 : Int).toNat := (by rw [Ny292.out, List.length_take]; omega)
         rw [← Ny292.out] at hr38
         rw [← hy38] at hcut38
         have HR295 := Aside0.mk hr38
         have HC295 := Aside0.mk (show y292.length ≤ c0 from by omega)
         clear hr38 hC38 hroom38 hi038 hsz38
         have KY38 := Aside0.mk hy38
         clear hy38; replace q38 := eq_true q38
         have q39 : (x5_1 : Int) ≤ ((l0.length : Int) : Int) := of_decide_eq_true qa_
         obtain ⟨i039, hi039, _, hsz39, _⟩ := info_parts info79
         have hroom39 : l0.length ≤ c0 := HC0.out
         have hC39 : Kd.C k79 _ A0 l0.length l0 := HR0.out
         have q039 : (0 : Int) ≤ (x5_1 : Int) := of_decide_eq_true qa_
         have hcut39 := cut_from (P := Try.prog) 37 79 .i64 Try.underlying37 hi039 2 hsz39 A0 l0.length c0 x5_1 q039 q39
         have hr39 := Kd.C_drop (m := (x5_1 : Int).toNat) (c := c0) hC39 (by omega) hroom39
         obtain ⟨A39, hA39⟩ : ∃ A1, A1 = (if c0 = (x5_1 : Int).toNat then A0 else (A0 : Option Addr).map (·.add ((x5_1 : Int).toNat * 2))) := ⟨_, rfl⟩
         obtain ⟨c39, hc39⟩ : ∃ c1, c1 = c0 - (x5_1 : Int).toNat := ⟨_, rfl⟩
         have hy39 : y305.length = l0.length - (x5_1 : Int).toNat := (by rw [Ny305.out, List.length_drop] <;> omega)
         rw [show (l0).drop (x5_1 : Int).toNat = y305 from Ny305.out.symm] at hr39
         replace hr39 : Kd.C k79 _ A39 y305.length y305 := (by rw [hA39]; exact hr39)
         rw [← hy39, ← hA39, ← hc39] at hcut39
         have HR308 := Aside0.mk hr39
         have HC308 := Aside0.mk (show y305.length ≤ c39 from by rw [hy39, hc39]; exact Nat.sub_le_sub_right hroom39 _)
         clear hr39 hC39 hroom39 hi039 hsz39 hc39
         have KY39 := Aside0.mk hy39
         have KA39 := Aside0.mk hA39
         clear hy39 hA39; replace q39 := eq_true q39
         refine start_ (n := 12) (S := fun w' => w'.cell? ⟨gb269, 0, none⟩ = some (.int .i64 a1_0) ∧ w'.cell? ⟨gb269, 1, none⟩ = some (.int .i64 a1_1)) (ds := []) (bm 12 0) (by kernel_rfl) rfl (by kernel_rfl) ⟨(blk_cell BK269.out 0).trans rfl, (blk_cell BK269.out 1).trans rfl⟩ (fun hHeld => ?_); refine with_tabW impl_withEdge.tab4 impl_withEdge.bits4 (fun HT_ HW_ => ?_)
         generalize w36.drew = w37 at BK269 HB HR295 HR308 hHeld ⊢
         refine pz_ 0 20 (bm 12 1) ?_; refine pz_ 1 21 (bm 12 3) ?_; refine pz_ 2 22 (bm 12 7) ?_; refine pz_ 7 27 (bm 12 135) ?_; refine pz_ 8 28 (bm 12 391) ?_; refine pz_ 9 29 (bm 12 903) ?_; refine tz2_ 4 24 (bm 12 919) ?_
         refine join_ (σ := Value × Value) 3 #[true, true, true, true, true, true, false, true, true, true, false, false] (fun s_ => [(23, s_.1), (25, s_.2)]) (fun s_ w' => (w'.cell? ⟨gb269, 0, none⟩ = some (.int .i64 a1_0) ∧ w'.cell? ⟨gb269, 1, none⟩ = some (.int .i64 a1_1)) ∧ (Kd.R k79 79 w' w.heap.size (fun k_ => some k_ ≠ (s_.2 : Value).ownBlock ∧ k_ ≠ gb269) s_.1 y296) ∧ (Kd.R k79 79 w' w.heap.size (fun k_ => some k_ ≠ (s_.1 : Value).ownBlock ∧ k_ ≠ gb269) s_.2 y299) ∧ (w'.heap[gb269]? = some (.cells #[.int .i64 a1_0, .int .i64 a1_1] 79 (0, 0))) ∧ (Below w.heap.size w w')) ?_ ?_
         rotate_left
         ·intro hCont
          refine two_ (i := 3) (j := 5) (Ni := some 23) (Nj := some 25) (bm 12 927) #[true, true, true, false, true, true, false, true, true, true, false, false] rfl rfl rfl rfl (two_of HT_.out (by kernel_rfl)) (by decide) (by decide) (fun K hK => ?_) (fun K hK => ?_)
          ·skip
           refine Kd.R_append_rows_step k79 (w0 := w) w.heap.size rfl (.const (.slice none 0 0)) (.tmp 22) 37 79 (.agg #[(.int .i64 0), (.int .i64 0)]) 16 rfl Try.underlying37 info79 rfl (by decide) (by omega) (.slice none 0 0) ([] : List (S79)) y292 _ _ _ (fun k_ => k_ ≠ gb269) (fun _ => False) rfl rfl ?aO ?aR (fun _ _ h => h) (fun _ h => h.elim) ?aF ?aB ?aS ?aL ?_
           (case aR => repeat (first | exact (Kd.C_below HR295.out HB.out) | (with_reducible refine Kd.C_alloc ?_ _) | (with_reducible refine Kd.C_drewN ?_ _) | (with_reducible refine Kd.C_drew ?_)))
           (case aB => exact qB_)
           (case aF => exact (fun k_ hk => Kd.freshB (qk_ BK269) k_ hk))
           (case aO => exact ((Kd.R_nil _ _ _ _ (fun k_ => k_ ≠ gb269))))
           (case aS => exact (below_size qB_))
           (case aL => have := LMc31.out; omega)
           intro v297 w40 ho hb hg hat
           rw [← Ny296.out] at ho
           have n0_ := Aside0.mk (blk_grown (qk_ BK269) hg (by simp [Value.ownBlock]))
           have n1_ := Aside0.mk (hb)
           have n2_ := Aside0.mk (ho)
           clear BK269; clear HB; have BK269 := n0_; have HB := n1_; have HO298 := n2_; clear n0_ n1_ n2_; clear ho hb hg hat
           refine hK.out _ _ ⟨(blk_cell BK269.out 0).trans rfl, (blk_cell BK269.out 1).trans rfl⟩ (fun hHeld => ?_)
           clear hK K
           refine norm_ (a' := ?_) ?_ ?_
           rotate_left
           ·show Act.put _ (some 23) _ = _
            simp only [Act.put, List.setIfInBounds_toArray, List.set_cons_zero, List.set_cons_succ, i64_w, i32_w]
            rfl
           refine one_ (i := 5) (N := some 25) (bm 12 959) rfl rfl (one_of HT_.out (by kernel_rfl)) (by decide) (fun K hK => ?_)
           refine Kd.R_lit_step k79 _ 79 ?hg (N := 25) ?hd (xs := ([(⟨a1_0, a1_1⟩ : S79)] : List (S79))) (inner := [.int .i64 a1_0, .int .i64 a1_1]) (ok := fun _ => True) (okp := fun _ => True) ?hr ?hp (fun _ hk => hk) trivial (Below.refl _ _) (Nat.le_refl _) (by simp) ?_; (case hd => rfl); (case hg => rfl); (case hr => first | (go_simp; done) | (go_simp; rfl)); (case hp => exact (Reps.c2 (show Kd.M k79 _ _ _ (⟨a1_0, a1_1⟩ : S79) [.int .i64 a1_0, .int .i64 a1_1] from (k79_mkM _ _ _ (⟨a1_0, a1_1⟩ : S79) )) (Reps.none _ _)))
           intro v300 w41 ho42 hb hg_ hnew_
           clear hg_ hnew_
           (first | rw [← Ny299.out] at ho42 | (simp only [Int.reduceToNat] at ho42; rw [← Ny299.out] at ho42))
           have n0_ := Aside0.mk (Kd.R_elder' (qR_ HO298) (Kd.R_base ho42) hb)
           have n1_ := Aside0.mk (Kd.R_lower (Kd.R_newB (Kd.R_new' ho42 (Kd.R_lt (qR_ HO298))) (qk_ BK269)) (below_size qB_))
           have n2_ := Aside0.mk (blk_below (qk_ BK269) hb)
           have n3_ := Aside0.mk (below_step qB_ hb)
           clear HO298; clear BK269; clear HB; have HO298 := n0_; have HO301 := n1_; have BK269 := n2_; have HB := n3_; clear n0_ n1_ n2_ n3_; clear hb ho42
           refine hK.out _ _ ⟨(blk_cell BK269.out 0).trans rfl, (blk_cell BK269.out 1).trans rfl⟩ (fun hHeld => ?_)
           clear hK K
           refine norm_ (a' := ?_) ?_ ?_
           rotate_left
           ·show Act.put _ (some 25) _ = _
            simp only [Act.put, List.setIfInBounds_toArray, List.set_cons_zero, List.set_cons_succ, i64_w, i32_w]
            rfl
           exact norm_ (by simp only [putAll, Act.put, List.setIfInBounds_toArray, List.set_cons_zero, List.set_cons_succ]) (hCont (v297, v300) _ ⟨hHeld, (by (with_reducible repeat (first | apply Kd.R_alloc | apply Kd.R_drewN | apply Kd.R_drew)); exact Kd.R_mono HO298.out (fun _ hk => ⟨hk.2, hk.1⟩)), (by (with_reducible repeat (first | apply Kd.R_alloc | apply Kd.R_drewN | apply Kd.R_drew)); exact Kd.R_mono HO301.out (fun _ hk => ⟨hk.1.2, hk.2⟩)), (qk_ BK269), qB_⟩)
          ·skip
           refine Kd.R_lit_step k79 _ 79 ?hg (N := 25) ?hd (xs := ([(⟨a1_0, a1_1⟩ : S79)] : List (S79))) (inner := [.int .i64 a1_0, .int .i64 a1_1]) (ok := fun _ => True) (okp := fun _ => True) ?hr ?hp (fun _ hk => hk) trivial (Below.refl _ _) (Nat.le_refl _) (by simp) ?_; (case hd => rfl); (case hg => rfl); (case hr => first | (go_simp; done) | (go_simp; rfl)); (case hp => exact (Reps.c2 (show Kd.M k79 _ _ _ (⟨a1_0, a1_1⟩ : S79) [.int .i64 a1_0, .int .i64 a1_1] from (k79_mkM _ _ _ (⟨a1_0, a1_1⟩ : S79) )) (Reps.none _ _)))
           intro v300 w40 ho41 hb hg_ hnew_
           clear hg_ hnew_
           (first | rw [← Ny299.out] at ho41 | (simp only [Int.reduceToNat] at ho41; rw [← Ny299.out] at ho41))
           have n0_ := Aside0.mk (Kd.R_lower (Kd.R_newB ho41 (qk_ BK269)) (below_size qB_))
           have n1_ := Aside0.mk (blk_below (qk_ BK269) hb)
           have n2_ := Aside0.mk (below_step qB_ hb)
           clear BK269; clear HB; have HO301 := n0_; have BK269 := n1_; have HB := n2_; clear n0_ n1_ n2_; clear hb ho41
           refine hK.out _ _ ⟨(blk_cell BK269.out 0).trans rfl, (blk_cell BK269.out 1).trans rfl⟩ (fun hHeld => ?_)
           clear hK K
           refine norm_ (a' := ?_) ?_ ?_
           rotate_left
           ·show Act.put _ (some 25) _ = _
            simp only [Act.put, List.setIfInBounds_toArray, List.set_cons_zero, List.set_cons_succ, i64_w, i32_w]
            rfl
           refine one_ (i := 3) (N := some 23) (bm 12 959) rfl rfl (one_of HT_.out (by kernel_rfl)) (by decide) (fun K hK => ?_)
           refine Kd.R_append_rows_step k79 (w0 := w) w.heap.size rfl (.const (.slice none 0 0)) (.tmp 22) 37 79 (.agg #[(.int .i64 0), (.int .i64 0)]) 16 rfl Try.underlying37 info79 rfl (by decide) (by omega) (.slice none 0 0) ([] : List (S79)) y292 _ _ _ (fun k_ => some k_ ≠ (v300 : Value).ownBlock ∧ k_ ≠ gb269) (fun _ => False) rfl rfl ?aO ?aR (fun _ _ h => h) (fun _ h => h.elim) ?aF ?aB ?aS ?aL ?_
           (case aR => repeat (first | exact (Kd.C_below HR295.out HB.out) | (with_reducible refine Kd.C_alloc ?_ _) | (with_reducible refine Kd.C_drewN ?_ _) | (with_reducible refine Kd.C_drew ?_)))
           (case aB => exact qB_)
           (case aF => exact (fun k_ hk => ⟨Kd.fresh' (Kd.R_lt (qR_ HO301)) k_ hk, Kd.freshB (qk_ BK269) k_ hk⟩))
           (case aO => exact ((Kd.R_nil _ _ _ _ (fun k_ => some k_ ≠ (v300 : Value).ownBlock ∧ k_ ≠ gb269))))
           (case aS => exact (below_size qB_))
           (case aL => have := LMc31.out; omega)
           intro v297 w42 ho hb hg hat
           rw [← Ny296.out] at ho
           have n0_ := Aside0.mk (blk_grown (qk_ BK269) hg (by simp [Value.ownBlock]))
           have n1_ := Aside0.mk (Kd.R_after (Kd.R_apart_nil (qR_ HO301)) hg hat)
           have n2_ := Aside0.mk (hb)
           have n3_ := Aside0.mk (ho)
           clear BK269; clear HO301; clear HB; have BK269 := n0_; have HO301 := n1_; have HB := n2_; have HO298 := n3_; clear n0_ n1_ n2_ n3_; clear ho hb hg hat
           refine hK.out _ _ ⟨(blk_cell BK269.out 0).trans rfl, (blk_cell BK269.out 1).trans rfl⟩ (fun hHeld => ?_)
           clear hK K
           refine norm_ (a' := ?_) ?_ ?_
           rotate_left
           ·show Act.put _ (some 23) _ = _
            simp only [Act.put, List.setIfInBounds_toArray, List.set_cons_zero, List.set_cons_succ, i64_w, i32_w]
            rfl
           exact norm_ (by simp only [putAll, Act.put, List.setIfInBounds_toArray, List.set_cons_zero, List.set_cons_succ]) (hCont (v297, v300) _ ⟨hHeld, (qR_ HO298), (by (with_reducible repeat (first | apply Kd.R_alloc | apply Kd.R_drewN | apply Kd.R_drew)); exact Kd.R_mono HO301.out (fun _ hk => ⟨hk.2, hk.1.2⟩)), (qk_ BK269), qB_⟩)
         rintro ⟨v297, v300⟩ w43 ⟨hS_, h0_, h1_, h2_, h3_⟩
         have n0_ : Aside0 (Kd.R k79 79 w43 w.heap.size (fun k_ => some k_ ≠ (v300 : Value).ownBlock ∧ k_ ≠ gb269) v297 y296) := ⟨h0_⟩
         have n1_ : Aside0 (Kd.R k79 79 w43 w.heap.size (fun k_ => some k_ ≠ (v297 : Value).ownBlock ∧ k_ ≠ gb269) v300 y299) := ⟨h1_⟩
         have n2_ : Aside0 (w43.heap[gb269]? = some (.cells #[.int .i64 a1_0, .int .i64 a1_1] 79 (0, 0))) := ⟨h2_⟩
         have n3_ : Aside0 (Below w.heap.size w w43) := ⟨h3_⟩
         clear BK269; clear HB; clear h0_ h1_ h2_ h3_; have HO298 := n0_; have HO301 := n1_; have BK269 := n2_; have HB := n3_; clear n0_ n1_ n2_ n3_
         have hHeld : w43.cell? ⟨gb269, 0, none⟩ = some (.int .i64 a1_0) ∧ w43.cell? ⟨gb269, 1, none⟩ = some (.int .i64 a1_1) := hS_
         obtain ⟨Ao45, co45, eo45⟩ := Kd.R_slice HO301.out
         (first | subst eo45 | (injection eo45 with f1_ f2_ f3_; have f4_ := f1_.symm; have f5_ := f3_.symm; clear f1_ f2_ f3_; subst f4_; subst f5_))
         refine norm_ (a' := ?_) ?_ ?_
         rotate_left
         ·simp only [putAll, Act.put, List.setIfInBounds_toArray, List.set_cons_zero, List.set_cons_succ]
          rfl
         refine one_ (i := 6) (N := some 26) (bm 12 1023) rfl rfl (one_of HT_.out (by kernel_rfl)) (by decide) (fun K hK => ?_)
         refine Kd.R_append_rows_step k79 (w0 := w) w.heap.size (by rfl) (.tmp 23) (.tmp 25) 37 79 (.agg #[(.int .i64 0), (.int .i64 0)]) 16 rfl Try.underlying37 info79 rfl (by decide) (by omega) v297 y296 y299 _ _ _ (fun k_ => some k_ ≠ (.slice Ao45 y299.length co45 : Value).ownBlock ∧ k_ ≠ gb269) (fun _ => False) rfl rfl ?aO ?aR (fun _ _ h => h) (fun _ h => h.elim) ?aF ?aB ?aS ?aL ?_
         (case aR => repeat (first | exact (Kd.R_reads' HO301.out).2.2 | (with_reducible refine Kd.C_alloc ?_ _) | (with_reducible refine Kd.C_drewN ?_ _) | (with_reducible refine Kd.C_drew ?_)))
         (case aB => exact qB_)
         (case aF => exact (fun k_ hk => ⟨Kd.fresh' (Kd.R_lt (qR_ HO301)) k_ hk, Kd.freshB (qk_ BK269) k_ hk⟩))
         (case aO => exact (qR_ HO298))
         (case aS => exact (below_size qB_))
         (case aL => have := LMc32.out; omega)
         intro v303 w44 ho hb hg hat
         rw [← Ny302.out] at ho
         have n0_ := Aside0.mk (blk_grown (qk_ BK269) hg (Kd.R_away HO298.out (fun _ hk => hk.2)))
         have n1_ := Aside0.mk (Kd.R_after (ok := (fun k_ => k_ ≠ gb269)) (by (with_reducible repeat (first | apply Kd.R_alloc | apply Kd.R_drewN | apply Kd.R_drew)); exact Kd.R_mono HO301.out (fun _ hk => ⟨hk.2, hk.1⟩)) hg hat)
         have n2_ := Aside0.mk (hb)
         have n3_ := Aside0.mk (ho)
         clear BK269; clear HO301; clear HB; clear HO298; have BK269 := n0_; have HO301 := n1_; have HB := n2_; have HO304 := n3_; clear n0_ n1_ n2_ n3_; clear ho hb hg hat
         refine hK.out _ _ ⟨(blk_cell BK269.out 0).trans rfl, (blk_cell BK269.out 1).trans rfl⟩ (fun hHeld => ?_)
         clear hK K
         refine norm_ (a' := ?_) ?_ ?_
         rotate_left
         ·show Act.put _ (some 26) _ = _
          simp only [Act.put, List.setIfInBounds_toArray, List.set_cons_zero, List.set_cons_succ, i64_w, i32_w]
          rfl
         refine one_ (i := 10) (N := some 30) (bm 12 2047) rfl rfl (one_of HT_.out (by kernel_rfl)) (by decide) (fun K hK => ?_)
         refine Kd.R_append_rows_step k79 (w0 := w) w.heap.size (by rfl) (.tmp 26) (.tmp 29) 37 79 (.agg #[(.int .i64 0), (.int .i64 0)]) 16 rfl Try.underlying37 info79 rfl (by decide) (by omega) v303 y302 y305 _ _ _ (fun k_ => some k_ ≠ (.slice Ao45 y299.length co45 : Value).ownBlock ∧ k_ ≠ gb269) (fun _ => False) rfl rfl ?aO ?aR (fun _ _ h => h) (fun _ h => h.elim) ?aF ?aB ?aS ?aL ?_
         (case aR => repeat (first | exact (Kd.C_below HR308.out HB.out) | (with_reducible refine Kd.C_alloc ?_ _) | (with_reducible refine Kd.C_drewN ?_ _) | (with_reducible refine Kd.C_drew ?_)))
         (case aB => exact qB_)
         (case aF => exact (fun k_ hk => ⟨Kd.fresh' (Kd.R_lt (qR_ HO301)) k_ hk, Kd.freshB (qk_ BK269) k_ hk⟩))
         (case aO => exact (qR_ HO304))
         (case aS => exact (below_size qB_))
         (case aL => have := LMc35.out; omega)
         intro v310 w46 ho hb hg hat
         rw [← Ny309.out] at ho
         have n0_ := Aside0.mk (blk_grown (qk_ BK269) hg (Kd.R_away HO304.out (fun _ hk => hk.2)))
         have n1_ := Aside0.mk (Kd.R_after (ok := (fun k_ => k_ ≠ gb269)) (qR_ HO301) hg hat)
         have n2_ := Aside0.mk (hb)
         have n3_ := Aside0.mk (ho)
         clear BK269; clear HO301; clear HB; clear HO304; have BK269 := n0_; have HO301 := n1_; have HB := n2_; have HO311 := n3_; clear n0_ n1_ n2_ n3_; clear ho hb hg hat
         refine hK.out _ _ ⟨(blk_cell BK269.out 0).trans rfl, (blk_cell BK269.out 1).trans rfl⟩ (fun hHeld => ?_)
         clear hK K
         refine norm_ (a' := ?_) ?_ ?_
         rotate_left
         ·show Act.put _ (some 30) _ = _
          simp only [Act.put, List.setIfInBounds_toArray, List.set_cons_zero, List.set_cons_succ, i64_w, i32_w]
          rfl
         refine pz_ 11 4 (bm 12 4095) ?_
         refine done_ (done_of HT_.out (by kernel_rfl)) ?_
         try go_wp2
         go_ret
         exact ⟨_, qr_, by (with_reducible repeat (first | apply Kd.R_alloc | apply Kd.R_drewN | apply Kd.R_drew)); exact Kd.R_mono HO311.out (fun _ hk => trivial), qB_⟩
        ·rw [if_neg c35] at H
         exact absurd H (by simp)
       ·rw [if_neg c32] at H
        exact absurd H (by simp)
      ·rw [if_neg c31] at H
       exact absurd H (by simp)
     ·rw [if_neg c30] at H
      exact absurd H (by simp)
    ·rw [if_neg c29] at H
     exact absurd H (by simp)

end Go.Proofs.Ytigeiofkbccocaa.QFnForestNew
