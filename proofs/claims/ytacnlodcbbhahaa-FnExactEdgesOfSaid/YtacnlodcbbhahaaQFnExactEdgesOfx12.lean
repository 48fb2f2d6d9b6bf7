-- printed for this claim by a program of the session's own (no text of the kit's print)
import Derived.Test.YtacnlodcbbhahaaQFnExactEdgesOfx0
import Derived.Test.YtacnlodcbbhahaaQFnExactEdgesOfx11
namespace Go.Proofs.Ytacnlodcbbhahaa.QFnExactEdgesOf
open Go.RowKit Go.Proofs.YtacnlodcbbhahaaW.PrintWords Go.Proofs.YtacnlodcbbhahaaW.PrintLast Go.Proofs.YtacnlodcbbhahaaW.PrintMore
attribute [local go_sem] max2_int min2_int max_two min_two max_three min_three max_four min_four   -- for this text's walks alone
set_option linter.unusedVariables false
set_option linter.unusedSimpArgs false

/-! ### impl_withEdge: function 91 -/
def impl_withEdge.l0 : Nat → List (S112) → Int → Int → Int → Option ((List (S112)))
  | 0, _, _, _, _ => none
  | k + 1, x0, x5, x318000, x318001 => if x5 < (x0.length : Int) then (if 0 ≤ x5 then ((impl_ahead.f ((rd_T112 x0 x5).f0) ((rd_T112 x0 x5).f1) x318000 x318001).bind fun t319 => (if t319 = true then (impl_withEdge.l0 k x0 (wrap64 (x5 + 1)) x318000 x318001) else (if x5 ≤ (x0.length : Int) then ((some (x0.take (x5 : Int).toNat : List (S112))).bind fun y320 => (if ([] : List (S112)).length + y320.length < 8796093022208 then ((some (([] : List (S112)) ++ y320 : List (S112))).bind fun y324 => ((some (([(⟨x318000, x318001⟩ : S112)] : List (S112)) : List (S112))).bind fun y327 => (if y324.length + y327.length < 8796093022208 then ((some (y324 ++ y327 : List (S112))).bind fun y330 => ((some (x0.drop (x5 : Int).toNat : List (S112))).bind fun y333 => (if y330.length + y333.length < 8796093022208 then (some (y330 ++ y333)) else (none)))) else (none)))) else (none))) else (none)))) else (none)) else (if 0 ≤ x5 then (if x5 ≤ (x0.length : Int) then ((some (x0.take (x5 : Int).toNat : List (S112))).bind fun y340 => (if ([] : List (S112)).length + y340.length < 8796093022208 then ((some (([] : List (S112)) ++ y340 : List (S112))).bind fun y344 => ((some (([(⟨x318000, x318001⟩ : S112)] : List (S112)) : List (S112))).bind fun y347 => (if y344.length + y347.length < 8796093022208 then ((some (y344 ++ y347 : List (S112))).bind fun y350 => ((some (x0.drop (x5 : Int).toNat : List (S112))).bind fun y353 => (if y350.length + y353.length < 8796093022208 then (some (y350 ++ y353)) else (none)))) else (none)))) else (none))) else (none)) else (none))
def impl_withEdge.f (k : Nat) (l0 : List (S112)) (a1_0 : Int) (a1_1 : Int) : Option ((List (S112))) := impl_withEdge.l0 k l0 0 a1_0 a1_1
theorem impl_withEdge.mono_l : ∀ k, (∀ y0 y1 y2 y3, LeO (impl_withEdge.l0 k y0 y1 y2 y3) (impl_withEdge.l0 (k + 1) y0 y1 y2 y3))
  | 0 => fun _ _ _ _ r h => by simp [impl_withEdge.l0] at h
  | k + 1 => by
    have ih0 := impl_withEdge.mono_l k
    · intro y0 y1 y2 y3
      unfold impl_withEdge.l0
      repeat' first
      | (with_reducible exact ih0 _ _ _ _)
      | (with_reducible exact LeO.refl _)
      | (with_reducible exact LeO.none _)
      | (with_reducible refine LeO.ite ?_ ?_)
      | (with_reducible refine LeO.bind ?_ (fun _ => ?_))
      | exact ih0 _ _ _ _
      | exact LeO.none _
      | refine LeO.ite ?_ ?_
      | refine LeO.bind ?_ (fun _ => ?_)
theorem impl_withEdge.mono : ∀ a0 a1 a2 k, LeO (impl_withEdge.f k a0 a1 a2) (impl_withEdge.f (k + 1) a0 a1 a2) := by
  intro a0 a1 a2 k
  have ih0 := impl_withEdge.mono_l k
  unfold impl_withEdge.f
  repeat' first
      | (with_reducible exact ih0 _ _ _ _)
      | (with_reducible exact LeO.refl _)
      | (with_reducible exact LeO.none _)
      | (with_reducible refine LeO.ite ?_ ?_)
      | (with_reducible refine LeO.bind ?_ (fun _ => ?_))
      | exact ih0 _ _ _ _
      | exact LeO.none _
      | refine LeO.ite ?_ ?_
      | refine LeO.bind ?_ (fun _ => ?_)
def impl_withEdge.T2 : Bool × List (List Nat × List Nat) := (true, [([], []), ([], []), ([1], [1]), ([0, 2], [0, 2]), ([3], [3]), ([4], [4]), ([4], [4]), ([5, 6, 4], [4, 5, 6]), ([7, 4], [4, 7]), ([4], [4]), ([8, 9, 4, 4], [4, 8, 9]), ([4, 10], [4, 10])])
def impl_withEdge.B2 : List Nat := [0, 0, 2, 7, 15, 31, 31, 127, 255, 31, 1023, 2047]
theorem impl_withEdge.tab2 : rtab .any (opsOf Try.f91 2) = impl_withEdge.T2 := by kernel_rfl
theorem impl_withEdge.bits2 : waitsOk impl_withEdge.T2.2 impl_withEdge.B2 = true := by kernel_rfl
def impl_withEdge.T4 : Bool × List (List Nat × List Nat) := (true, [([], []), ([], []), ([0, 1], [0, 1]), ([2], [2]), ([], []), ([4], [4]), ([3, 5, 3], [3, 5]), ([], []), ([], []), ([7, 8], [7, 8]), ([6, 9, 6], [6, 9]), ([10, 10, 0, 1, 2, 3, 4, 5, 6, 7, 8, 9, 10], [10])])
def impl_withEdge.B4 : List Nat := [0, 0, 3, 7, 0, 16, 63, 0, 0, 384, 1023, 2047]
theorem impl_withEdge.tab4 : rtab .any (opsOf Try.f91 4) = impl_withEdge.T4 := by kernel_rfl
theorem impl_withEdge.bits4 : waitsOk impl_withEdge.T4.2 impl_withEdge.B4 = true := by kernel_rfl
set_option maxHeartbeats 8000000 in
set_option maxRecDepth 100000 in
theorem impl_withEdge.calls (k : Nat) (A0 : Option Addr) (c0 : Nat) (l0 : List (S112)) (a1_0 : Int) (a1_1 : Int) (r : List (S112)) (w : World) (hr0 : Kd.C k112 w A0 l0.length l0) (hc0 : l0.length ≤ c0) (h : impl_withEdge.f k l0 a1_0 a1_1 = some r) :
  Calls Try.prog 91 #[.slice A0 l0.length c0, .agg #[.int .i64 a1_0, .int .i64 a1_1]] w fun e w' => ∃ v0_ : Value, e = .returned (v0_) ∧ Kd.R k112 112 w' w.heap.size (fun _ => True) v0_ r ∧ Below w.heap.size w w' := by
 have hu112 := Try.underlying112
 have HR0 := Aside0.mk hr0
 have HC0 := Aside0.mk hc0
 clear hr0 hc0
 have HB := Aside0.mk (Below.refl w.heap.size w)
 have H : (impl_withEdge.l0 k l0 0 a1_0 a1_1) = some r := h
 clear h; have H' := Aside0.mk H; clear H
 go_enter Try.func91, Try.ntmps91
 go_wp2_with (first | ((with_reducible refine gate_dst (N := 3) rfl ?_); refine bx_ 3 (cs := #[.int .i64 a1_0, .int .i64 a1_1]) (t := 112) ?_; intro gb317 hg w3 hbox hb; have BK317 := Aside0.mk (hbox); have GW317 := Aside0.mk ((qs_ : w.heap.size ≤ gb317)); have GE317 := Aside0.mk ((qs_ : w.heap.size ≤ gb317)); replace HB := Aside0.mk (below_step qB_ hb); clear hb hbox hg))
 go_loopg [5] k (fun kq v5 w' => ∃ (x5_1 : Int), v5 = .int .i64 x5_1 ∧ Aside0 (impl_withEdge.l0 kq l0 x5_1 a1_0 a1_1 = some r) ∧ Aside0 (kq ≤ k) ∧ Aside0 (w'.heap[gb317]? = some (.cells #[.int .i64 a1_0, .int .i64 a1_1] 112 (0, 0))) ∧ Aside0 (Below w.heap.size w w'))
 case atStart => exact ⟨(0), qe_, H', ⟨Nat.le_refl _⟩, ⟨qk_ BK317⟩, ⟨qB_⟩⟩
 case round =>
  clear H'
  (try clear p2)
  obtain ⟨x5_1, rfl, HA, HK1, BK317, HB⟩ := hrel
  cases gk with
  | zero => exact absurd HA.out (by simp [impl_withEdge.l0])
  | succ k1 =>
   have H := HA.out; clear HA
   simp only [impl_withEdge.l0] at H
   by_cases c4 : x5_1 < (l0.length : Int)
   ·rw [if_pos c4] at H
    have c4b0 : decide (x5_1 < (l0.length : Int)) = true := decide_eq_true c4
    clear c4
    by_cases c5 : 0 ≤ x5_1
    ·rw [if_pos c5] at H
     have c5b0 : decide (0 ≤ x5_1) = true := decide_eq_true c5
     clear c5
     obtain ⟨t319, A60, H⟩ := Option.bind_eq_some_iff.mp H; have A6 := Aside0.mk A60; clear A60
     by_cases c7 : t319 = true
     ·subst c7
      rw [if_pos rfl] at H; have H' := Aside0.mk H; clear H
      try go_wp2
      have n0_ := Aside0.mk (blk_drew BK317.out)
      have n1_ := Aside0.mk (below_drew1 HB.out)
      clear BK317; clear HB; have BK317 := n0_; have HB := n1_; clear n0_ n1_
      have p318 : 0 ≤ (x5_1 : Int) := of_decide_eq_true qa_
      have q318 : x5_1 < (l0.length : Int) := of_decide_eq_true qa_
      obtain ⟨ad318, e318, hx318_0, hx318_1⟩ := at_T112 HR0.out x5_1 p318 q318
      have hw318_1 := hx318_1; have hw318_0 := hx318_0; cases e318
      replace hx318_0 := (HB.out.cell (World.block_lt_of_cell? w _ hx318_0)).trans hx318_0
      replace hx318_1 := (HB.out.cell (World.block_lt_of_cell? w _ hx318_1)).trans hx318_1
      replace p318 := eq_true p318; replace q318 := eq_true q318
      refine start_ (n := 12) (S := fun w' => w'.cell? ⟨gb317, 0, none⟩ = some (.int .i64 a1_0) ∧ w'.cell? ⟨gb317, 1, none⟩ = some (.int .i64 a1_1) ∧ w'.cell? (ad318.add ((x5_1).toNat * 2)) = some (.int .i64 ((rd_T112 l0 x5_1).f0)) ∧ w'.cell? ⟨(ad318.add ((x5_1).toNat * 2)).block, (ad318.add ((x5_1).toNat * 2)).off + 1, none⟩ = some (.int .i64 ((rd_T112 l0 x5_1).f1))) (ds := []) (bm 12 0) (by kernel_rfl) rfl (by kernel_rfl) ⟨(blk_cell BK317.out 0).trans rfl, (blk_cell BK317.out 1).trans rfl, ((HB.out.cell (World.block_lt_of_cell? w _ hw318_0)).trans hw318_0), ((HB.out.cell (World.block_lt_of_cell? w _ hw318_1)).trans hw318_1)⟩ (fun hHeld => ?_); refine with_tabW impl_withEdge.tab2 impl_withEdge.bits2 (fun HT_ HW_ => ?_)
      generalize wr.drew = w8 at BK317 HB hx318_0 hx318_1 hHeld ⊢
      refine pz_ 0 6 (bm 12 1) ?_; refine pz_ 1 7 (bm 12 3) ?_; refine pz_ 2 8 (bm 12 7) ?_; refine pz_ 3 9 (bm 12 15) ?_; refine pz_ 4 10 (bm 12 31) ?_; refine pz_ 5 11 (bm 12 63) ?_; refine pz_ 6 12 (bm 12 127) ?_; refine pz_ 7 13 (bm 12 255) ?_; refine tz4_ 8 14 (bm 12 511) ?_; refine tz4_ 9 15 (bm 12 1023) ?_
      refine one_ (i := 10) (N := some 16) (bm 12 2047) rfl rfl (one_of HT_.out (by kernel_rfl)) (by decide) (fun K hK => ?_)
      refine goes_ Try.func112 (by kernel_rfl) rfl #[.agg #[.int .i64 ((rd_T112 l0 x5_1).f0), .int .i64 ((rd_T112 l0 x5_1).f1)], .agg #[.int .i64 a1_0, .int .i64 a1_1]] (by rfl) rfl rfl (by (try simp only [List.map_toArray, List.map_cons, List.map_nil]); first | done | rfl | (simp only [List.length_drop, List.length_take]; rfl)) ?_
      with_reducible refine (impl_ahead.calls ((rd_T112 l0 x5_1).f0) ((rd_T112 l0 x5_1).f1) a1_0 a1_1 true _ A6.out).mono ?_
      rintro e w9 ⟨rfl, hb⟩
      refine ⟨_, rfl, ?_⟩
      have n0_ := Aside0.mk (blk_below (qk_ BK317) hb)
      have n1_ := Aside0.mk (below_step qB_ hb)
      clear BK317; clear HB; have BK317 := n0_; have HB := n1_; clear n0_ n1_; (try clear hb); (try clear hb2); (try clear hk); (try clear hi)
      refine hK.out _ _ ⟨(blk_cell BK317.out 0).trans rfl, (blk_cell BK317.out 1).trans rfl, ((HB.out.cell (World.block_lt_of_cell? w _ hw318_0)).trans hw318_0), ((HB.out.cell (World.block_lt_of_cell? w _ hw318_1)).trans hw318_1)⟩ (fun hHeld => ?_)
      clear hK K
      refine norm_ (a' := ?_) ?_ ?_
      rotate_left
      ·show Act.put _ (some 16) _ = _
       simp only [Act.put, List.setIfInBounds_toArray, List.set_cons_zero, List.set_cons_succ, i64_w, i32_w]
       rfl
      refine pz_ 11 17 (bm 12 4095) ?_
      refine done_ (done_of HT_.out (by kernel_rfl)) ?_
      try go_wp2
      go_roundg k1
      case measure => have := HK1.out; omega
      case rel => exact ⟨(wrap64 (x5_1 + 1)), qe_, H', ⟨by have := HK1.out; omega⟩, ⟨qk_ BK317⟩, ⟨qB_⟩⟩
     ·replace c7 := Bool.eq_false_iff.mpr c7
      subst c7
      rw [if_neg (show ¬ (false = true) by decide)] at H
      have c10b0 := eq_true (of_decide_eq_true qa_ : 0 ≤ x5_1)
      by_cases c11 : x5_1 ≤ (l0.length : Int)
      ·rw [if_pos c11] at H
       have c11b0 := eq_true c11
       have c11b1 : decide (x5_1 ≤ (l0.length : Int)) = true := decide_eq_true c11
       clear c11
       obtain ⟨y320, hy320⟩ : ∃ y_ : List (S112), y_ = (l0.take (x5_1 : Int).toNat) := ⟨_, rfl⟩
       replace H : (if ([] : List (S112)).length + y320.length < 8796093022208 then ((some (([] : List (S112)) ++ y320 : List (S112))).bind fun y324 => ((some (([(⟨a1_0, a1_1⟩ : S112)] : List (S112)) : List (S112))).bind fun y327 => (if y324.length + y327.length < 8796093022208 then ((some (y324 ++ y327 : List (S112))).bind fun y330 => ((some (l0.drop (x5_1 : Int).toNat : List (S112))).bind fun y333 => (if y330.length + y333.length < 8796093022208 then (some (y330 ++ y333)) else (none)))) else (none)))) else (none)) = some r := by first | (rw [hy320]; with_reducible exact H) | (have H2_ := (Option.bind_some _ _).symm.trans H; rw [hy320]; with_reducible exact H2_) | (have H2_ := (Option.bind_some _ _).symm.trans H; with_reducible exact H2_) | with_reducible exact H | (rw [hy320]; exact H) | exact H
       have Ny320 := Aside0.mk hy320
       clear hy320
       by_cases c12 : ([] : List (S112)).length + y320.length < 8796093022208
       ·rw [if_pos c12] at H
        have LMc12 := Aside0.mk c12
        clear c12
        obtain ⟨y324, hy324⟩ : ∃ y_ : List (S112), y_ = (([] : List (S112)) ++ y320) := ⟨_, rfl⟩
        replace H : ((some (([(⟨a1_0, a1_1⟩ : S112)] : List (S112)) : List (S112))).bind fun y327 => (if y324.length + y327.length < 8796093022208 then ((some (y324 ++ y327 : List (S112))).bind fun y330 => ((some (l0.drop (x5_1 : Int).toNat : List (S112))).bind fun y333 => (if y330.length + y333.length < 8796093022208 then (some (y330 ++ y333)) else (none)))) else (none))) = some r := by first | (rw [hy324]; with_reducible exact H) | (have H2_ := (Option.bind_some _ _).symm.trans H; rw [hy324]; with_reducible exact H2_) | (have H2_ := (Option.bind_some _ _).symm.trans H; with_reducible exact H2_) | with_reducible exact H | (rw [hy324]; exact H) | exact H
        have Ny324 := Aside0.mk hy324
        clear hy324
        obtain ⟨y327, hy327⟩ : ∃ y_ : List (S112), y_ = (([(⟨a1_0, a1_1⟩ : S112)] : List (S112))) := ⟨_, rfl⟩
        replace H : (if y324.length + y327.length < 8796093022208 then ((some (y324 ++ y327 : List (S112))).bind fun y330 => ((some (l0.drop (x5_1 : Int).toNat : List (S112))).bind fun y333 => (if y330.length + y333.length < 8796093022208 then (some (y330 ++ y333)) else (none)))) else (none)) = some r := by first | (rw [hy327]; with_reducible exact H) | (have H2_ := (Option.bind_some _ _).symm.trans H; rw [hy327]; with_reducible exact H2_) | (have H2_ := (Option.bind_some _ _).symm.trans H; with_reducible exact H2_) | with_reducible exact H | (rw [hy327]; exact H) | exact H
        have Ny327 := Aside0.mk hy327
        clear hy327
        by_cases c13 : y324.length + y327.length < 8796093022208
        ·rw [if_pos c13] at H
         have LMc13 := Aside0.mk c13
         clear c13
         obtain ⟨y330, hy330⟩ : ∃ y_ : List (S112), y_ = (y324 ++ y327) := ⟨_, rfl⟩
         replace H : ((some (l0.drop (x5_1 : Int).toNat : List (S112))).bind fun y333 => (if y330.length + y333.length < 8796093022208 then (some (y330 ++ y333)) else (none))) = some r := by first | (rw [hy330]; with_reducible exact H) | (have H2_ := (Option.bind_some _ _).symm.trans H; rw [hy330]; with_reducible exact H2_) | (have H2_ := (Option.bind_some _ _).symm.trans H; with_reducible exact H2_) | with_reducible exact H | (rw [hy330]; exact H) | exact H
         have Ny330 := Aside0.mk hy330
         clear hy330
         have c14b0 := eq_true (of_decide_eq_true qa_ : 0 ≤ x5_1)
         have c15b0 := eq_true (of_decide_eq_true qa_ : x5_1 ≤ (l0.length : Int))
         obtain ⟨y333, hy333⟩ : ∃ y_ : List (S112), y_ = (l0.drop (x5_1 : Int).toNat) := ⟨_, rfl⟩
         replace H : (if y330.length + y333.length < 8796093022208 then (some (y330 ++ y333)) else (none)) = some r := by first | (rw [hy333]; with_reducible exact H) | (have H2_ := (Option.bind_some _ _).symm.trans H; rw [hy333]; with_reducible exact H2_) | (have H2_ := (Option.bind_some _ _).symm.trans H; with_reducible exact H2_) | with_reducible exact H | (rw [hy333]; exact H) | exact H
         have Ny333 := Aside0.mk hy333
         clear hy333
         by_cases c16 : y330.length + y333.length < 8796093022208
         ·rw [if_pos c16] at H
          have LMc16 := Aside0.mk c16
          clear c16
          obtain ⟨y337, hy337⟩ : ∃ y_ : List (S112), y_ = (y330 ++ y333) := ⟨_, rfl⟩
          replace H : (some y337) = some r := by first | (rw [hy337]; with_reducible exact H) | (have H2_ := (Option.bind_some _ _).symm.trans H; rw [hy337]; with_reducible exact H2_) | (have H2_ := (Option.bind_some _ _).symm.trans H; with_reducible exact H2_) | with_reducible exact H | (rw [hy337]; exact H) | exact H
          have Ny337 := Aside0.mk hy337
          clear hy337
          obtain rfl := Option.some.inj H
          try go_wp2
          have n0_ := Aside0.mk (blk_drew BK317.out)
          have n1_ := Aside0.mk (below_drew1 HB.out)
          clear BK317; clear HB; have BK317 := n0_; have HB := n1_; clear n0_ n1_
          have p318 : 0 ≤ (x5_1 : Int) := of_decide_eq_true qa_
          have q318 : x5_1 < (l0.length : Int) := of_decide_eq_true qa_
          obtain ⟨ad318, e318, hx318_0, hx318_1⟩ := at_T112 HR0.out x5_1 p318 q318
          have hw318_1 := hx318_1; have hw318_0 := hx318_0; cases e318
          replace hx318_0 := (HB.out.cell (World.block_lt_of_cell? w _ hx318_0)).trans hx318_0
          replace hx318_1 := (HB.out.cell (World.block_lt_of_cell? w _ hx318_1)).trans hx318_1
          replace p318 := eq_true p318; replace q318 := eq_true q318
          refine start_ (n := 12) (S := fun w' => w'.cell? ⟨gb317, 0, none⟩ = some (.int .i64 a1_0) ∧ w'.cell? ⟨gb317, 1, none⟩ = some (.int .i64 a1_1) ∧ w'.cell? (ad318.add ((x5_1).toNat * 2)) = some (.int .i64 ((rd_T112 l0 x5_1).f0)) ∧ w'.cell? ⟨(ad318.add ((x5_1).toNat * 2)).block, (ad318.add ((x5_1).toNat * 2)).off + 1, none⟩ = some (.int .i64 ((rd_T112 l0 x5_1).f1))) (ds := []) (bm 12 0) (by kernel_rfl) rfl (by kernel_rfl) ⟨(blk_cell BK317.out 0).trans rfl, (blk_cell BK317.out 1).trans rfl, ((HB.out.cell (World.block_lt_of_cell? w _ hw318_0)).trans hw318_0), ((HB.out.cell (World.block_lt_of_cell? w _ hw318_1)).trans hw318_1)⟩ (fun hHeld => ?_); refine with_tabW impl_withEdge.tab2 impl_withEdge.bits2 (fun HT_ HW_ => ?_)
          generalize wr.drew = w17 at BK317 HB hx318_0 hx318_1 hHeld ⊢
          refine pz_ 0 6 (bm 12 1) ?_; refine pz_ 1 7 (bm 12 3) ?_; refine pz_ 2 8 (bm 12 7) ?_; refine pz_ 3 9 (bm 12 15) ?_; refine pz_ 4 10 (bm 12 31) ?_; refine pz_ 5 11 (bm 12 63) ?_; refine pz_ 6 12 (bm 12 127) ?_; refine pz_ 7 13 (bm 12 255) ?_; refine tz4_ 8 14 (bm 12 511) ?_; refine tz4_ 9 15 (bm 12 1023) ?_
          refine one_ (i := 10) (N := some 16) (bm 12 2047) rfl rfl (one_of HT_.out (by kernel_rfl)) (by decide) (fun K hK => ?_)
          refine goes_ Try.func112 (by kernel_rfl) rfl #[.agg #[.int .i64 ((rd_T112 l0 x5_1).f0), .int .i64 ((rd_T112 l0 x5_1).f1)], .agg #[.int .i64 a1_0, .int .i64 a1_1]] (by rfl) rfl rfl (by (try simp only [List.map_toArray, List.map_cons, List.map_nil]); first | done | rfl | (simp only [List.length_drop, List.length_take]; rfl)) ?_
          with_reducible refine (impl_ahead.calls ((rd_T112 l0 x5_1).f0) ((rd_T112 l0 x5_1).f1) a1_0 a1_1 false _ A6.out).mono ?_
          rintro e w18 ⟨rfl, hb⟩
          refine ⟨_, rfl, ?_⟩
          have n0_ := Aside0.mk (blk_below (qk_ BK317) hb)
          have n1_ := Aside0.mk (below_step qB_ hb)
          clear BK317; clear HB; have BK317 := n0_; have HB := n1_; clear n0_ n1_; (try clear hb); (try clear hb2); (try clear hk); (try clear hi)
          refine hK.out _ _ ⟨(blk_cell BK317.out 0).trans rfl, (blk_cell BK317.out 1).trans rfl, ((HB.out.cell (World.block_lt_of_cell? w _ hw318_0)).trans hw318_0), ((HB.out.cell (World.block_lt_of_cell? w _ hw318_1)).trans hw318_1)⟩ (fun hHeld => ?_)
          clear hK K
          refine norm_ (a' := ?_) ?_ ?_
          rotate_left
          ·show Act.put _ (some 16) _ = _
           simp only [Act.put, List.setIfInBounds_toArray, List.set_cons_zero, List.set_cons_succ, i64_w, i32_w]
           rfl
          refine pz_ 11 17 (bm 12 4095) ?_
          refine done_ (done_of HT_.out (by kernel_rfl)) ?_
          try go_wp2
          have n0_ := Aside0.mk (blk_drew BK317.out)
          have n1_ := Aside0.mk (below_drew1 HB.out)
          clear BK317; clear HB; have BK317 := n0_; have HB := n1_; clear n0_ n1_
          have q20 : (x5_1 : Int) ≤ ((l0.length : Int) : Int) := of_decide_eq_true qa_
          obtain ⟨i020, hi020, _, hsz20, _⟩ := info_parts info112
          have hroom20 : l0.length ≤ c0 := HC0.out
          have hC20 : Kd.C k112 _ (some ad318) l0.length l0 := HR0.out
          have hcut20 := cut_to (P := Try.prog) 63 112 .i64 Try.underlying63 hi020 (some ad318) l0.length c0 x5_1 (of_decide_eq_true qa_) q20 hroom20
          have hr20 := Kd.C_take (m := (x5_1 : Int).toNat) hC20 (by omega)
          have hy20 : y320.length = (x5_1 : Int).toNat := (by rw [Ny320.out, List.length_take]; omega)
          rw [← Ny320.out] at hr20
          rw [← hy20] at hcut20
          have HR323 := Aside0.mk hr20
          have HC323 := Aside0.mk (show y320.length ≤ c0 from by omega)
          clear hr20 hC20 hroom20 hi020 hsz20
          have KY20 := Aside0.mk hy20
          clear hy20; replace q20 := eq_true q20
          have q21 : (x5_1 : Int) ≤ ((l0.length : Int) : Int) := of_decide_eq_true qa_
          obtain ⟨i021, hi021, _, hsz21, _⟩ := info_parts info112
          have hroom21 : l0.length ≤ c0 := HC0.out
          have hC21 : Kd.C k112 _ (some ad318) l0.length l0 := HR0.out
          have q021 : (0 : Int) ≤ (x5_1 : Int) := of_decide_eq_true qa_
          have hcut21 := cut_from (P := Try.prog) 63 112 .i64 Try.underlying63 hi021 2 hsz21 (some ad318) l0.length c0 x5_1 q021 q21
          have hr21 := Kd.C_drop (m := (x5_1 : Int).toNat) (c := c0) hC21 (by omega) hroom21
          obtain ⟨A21, hA21⟩ : ∃ A1, A1 = (if c0 = (x5_1 : Int).toNat then (some ad318) else ((some ad318) : Option Addr).map (·.add ((x5_1 : Int).toNat * 2))) := ⟨_, rfl⟩
          obtain ⟨c21, hc21⟩ : ∃ c1, c1 = c0 - (x5_1 : Int).toNat := ⟨_, rfl⟩
          have hy21 : y333.length = l0.length - (x5_1 : Int).toNat := (by rw [Ny333.out, List.length_drop] <;> omega)
          rw [show (l0).drop (x5_1 : Int).toNat = y333 from Ny333.out.symm] at hr21
          replace hr21 : Kd.C k112 _ A21 y333.length y333 := (by rw [hA21]; exact hr21)
          rw [← hy21, ← hA21, ← hc21] at hcut21
          have HR336 := Aside0.mk hr21
          have HC336 := Aside0.mk (show y333.length ≤ c21 from by rw [hy21, hc21]; exact Nat.sub_le_sub_right hroom21 _)
          clear hr21 hC21 hroom21 hi021 hsz21 hc21
          have KY21 := Aside0.mk hy21
          have KA21 := Aside0.mk hA21
          clear hy21 hA21; replace q21 := eq_true q21
          refine start_ (n := 12) (S := fun w' => w'.cell? ⟨gb317, 0, none⟩ = some (.int .i64 a1_0) ∧ w'.cell? ⟨gb317, 1, none⟩ = some (.int .i64 a1_1)) (ds := []) (bm 12 0) (by kernel_rfl) rfl (by kernel_rfl) ⟨(blk_cell BK317.out 0).trans rfl, (blk_cell BK317.out 1).trans rfl⟩ (fun hHeld => ?_); refine with_tabW impl_withEdge.tab4 impl_withEdge.bits4 (fun HT_ HW_ => ?_)
          generalize w18.drew = w19 at BK317 HB HR323 HR336 hHeld ⊢
          refine pz_ 0 20 (bm 12 1) ?_; refine pz_ 1 21 (bm 12 3) ?_; refine pz_ 2 22 (bm 12 7) ?_; refine pz_ 7 27 (bm 12 135) ?_; refine pz_ 8 28 (bm 12 391) ?_; refine pz_ 9 29 (bm 12 903) ?_; refine tz2_ 4 24 (bm 12 919) ?_
          refine join_ (σ := Value × Value) 3 #[true, true, true, true, true, true, false, true, true, true, false, false] (fun s_ => [(23, s_.1), (25, s_.2)]) (fun s_ w' => (w'.cell? ⟨gb317, 0, none⟩ = some (.int .i64 a1_0) ∧ w'.cell? ⟨gb317, 1, none⟩ = some (.int .i64 a1_1)) ∧ (Kd.R k112 112 w' w.heap.size (fun k_ => some k_ ≠ (s_.2 : Value).ownBlock ∧ k_ ≠ gb317) s_.1 y324) ∧ (Kd.R k112 112 w' w.heap.size (fun k_ => some k_ ≠ (s_.1 : Value).ownBlock ∧ k_ ≠ gb317) s_.2 y327) ∧ (w'.heap[gb317]? = some (.cells #[.int .i64 a1_0, .int .i64 a1_1] 112 (0, 0))) ∧ (Below w.heap.size w w')) ?_ ?_
          rotate_left
          ·intro hCont
           refine two_ (i := 3) (j := 5) (Ni := some 23) (Nj := some 25) (bm 12 927) #[true, true, true, false, true, true, false, true, true, true, false, false] rfl rfl rfl rfl (two_of HT_.out (by kernel_rfl)) (by decide) (by decide) (fun K hK => ?_) (fun K hK => ?_)
           ·skip
            refine Kd.R_append_rows_step k112 (w0 := w) w.heap.size rfl (.const (.slice none 0 0)) (.tmp 22) 63 112 (.agg #[(.int .i64 0), (.int .i64 0)]) 16 rfl Try.underlying63 info112 rfl (by decide) (by omega) (.slice none 0 0) ([] : List (S112)) y320 _ _ _ (fun k_ => k_ ≠ gb317) (fun _ => False) rfl rfl ?aO ?aR (fun _ _ h => h) (fun _ h => h.elim) ?aF ?aB ?aS ?aL ?_
            (case aR => repeat (first | exact (Kd.C_below HR323.out HB.out) | (with_reducible refine Kd.C_alloc ?_ _) | (with_reducible refine Kd.C_drewN ?_ _) | (with_reducible refine Kd.C_drew ?_)))
            (case aB => exact qB_)
            (case aF => exact (fun k_ hk => Kd.freshB (qk_ BK317) k_ hk))
            (case aO => exact ((Kd.R_nil _ _ _ _ (fun k_ => k_ ≠ gb317))))
            (case aS => exact (below_size qB_))
            (case aL => have := LMc12.out; omega)
            intro v325 w22 ho hb hg hat
            rw [← Ny324.out] at ho
            have n0_ := Aside0.mk (blk_grown (qk_ BK317) hg (by simp [Value.ownBlock]))
            have n1_ := Aside0.mk (hb)
            have n2_ := Aside0.mk (ho)
            clear BK317; clear HB; have BK317 := n0_; have HB := n1_; have HO326 := n2_; clear n0_ n1_ n2_; clear ho hb hg hat
            refine hK.out _ _ ⟨(blk_cell BK317.out 0).trans rfl, (blk_cell BK317.out 1).trans rfl⟩ (fun hHeld => ?_)
            clear hK K
            refine norm_ (a' := ?_) ?_ ?_
            rotate_left
            ·show Act.put _ (some 23) _ = _
             simp only [Act.put, List.setIfInBounds_toArray, List.set_cons_zero, List.set_cons_succ, i64_w, i32_w]
             rfl
            refine one_ (i := 5) (N := some 25) (bm 12 959) rfl rfl (one_of HT_.out (by kernel_rfl)) (by decide) (fun K hK => ?_)
            refine Kd.R_lit_step k112 _ 112 ?hg (N := 25) ?hd (xs := ([(⟨a1_0, a1_1⟩ : S112)] : List (S112))) (inner := [.int .i64 a1_0, .int .i64 a1_1]) (ok := fun _ => True) (okp := fun _ => True) ?hr ?hp (fun _ hk => hk) trivial (Below.refl _ _) (Nat.le_refl _) (by simp) ?_; (case hd => rfl); (case hg => rfl); (case hr => first | (go_simp; done) | (go_simp; rfl)); (case hp => exact (Reps.c2 (show Kd.M k112 _ _ _ (⟨a1_0, a1_1⟩ : S112) [.int .i64 a1_0, .int .i64 a1_1] from (k112_mkM _ _ _ (⟨a1_0, a1_1⟩ : S112) )) (Reps.none _ _)))
            intro v328 w23 ho24 hb hg_ hnew_
            clear hg_ hnew_
            (first | rw [← Ny327.out] at ho24 | (simp only [Int.reduceToNat] at ho24; rw [← Ny327.out] at ho24))
            have n0_ := Aside0.mk (Kd.R_elder' (qR_ HO326) (Kd.R_base ho24) hb)
            have n1_ := Aside0.mk (Kd.R_lower (Kd.R_newB (Kd.R_new' ho24 (Kd.R_lt (qR_ HO326))) (qk_ BK317)) (below_size qB_))
            have n2_ := Aside0.mk (blk_below (qk_ BK317) hb)
            have n3_ := Aside0.mk (below_step qB_ hb)
            clear HO326; clear BK317; clear HB; have HO326 := n0_; have HO329 := n1_; have BK317 := n2_; have HB := n3_; clear n0_ n1_ n2_ n3_; clear hb ho24
            refine hK.out _ _ ⟨(blk_cell BK317.out 0).trans rfl, (blk_cell BK317.out 1).trans rfl⟩ (fun hHeld => ?_)
            clear hK K
            refine norm_ (a' := ?_) ?_ ?_
            rotate_left
            ·show Act.put _ (some 25) _ = _
             simp only [Act.put, List.setIfInBounds_toArray, List.set_cons_zero, List.set_cons_succ, i64_w, i32_w]
             rfl
            exact norm_ (by simp only [putAll, Act.put, List.setIfInBounds_toArray, List.set_cons_zero, List.set_cons_succ]) (hCont (v325, v328) _ ⟨hHeld, (by (with_reducible repeat (first | apply Kd.R_alloc | apply Kd.R_drewN | apply Kd.R_drew)); exact Kd.R_mono HO326.out (fun _ hk => ⟨hk.2, hk.1⟩)), (by (with_reducible repeat (first | apply Kd.R_alloc | apply Kd.R_drewN | apply Kd.R_drew)); exact Kd.R_mono HO329.out (fun _ hk => ⟨hk.1.2, hk.2⟩)), (qk_ BK317), qB_⟩)
           ·skip
            refine Kd.R_lit_step k112 _ 112 ?hg (N := 25) ?hd (xs := ([(⟨a1_0, a1_1⟩ : S112)] : List (S112))) (inner := [.int .i64 a1_0, .int .i64 a1_1]) (ok := fun _ => True) (okp := fun _ => True) ?hr ?hp (fun _ hk => hk) trivial (Below.refl _ _) (Nat.le_refl _) (by simp) ?_; (case hd => rfl); (case hg => rfl); (case hr => first | (go_simp; done) | (go_simp; rfl)); (case hp => exact (Reps.c2 (show Kd.M k112 _ _ _ (⟨a1_0, a1_1⟩ : S112) [.int .i64 a1_0, .int .i64 a1_1] from (k112_mkM _ _ _ (⟨a1_0, a1_1⟩ : S112) )) (Reps.none _ _)))
            intro v328 w22 ho23 hb hg_ hnew_
            clear hg_ hnew_
            (first | rw [← Ny327.out] at ho23 | (simp only [Int.reduceToNat] at ho23; rw [← Ny327.out] at ho23))
            have n0_ := Aside0.mk (Kd.R_lower (Kd.R_newB ho23 (qk_ BK317)) (below_size qB_))
            have n1_ := Aside0.mk (blk_below (qk_ BK317) hb)
            have n2_ := Aside0.mk (below_step qB_ hb)
            clear BK317; clear HB; have HO329 := n0_; have BK317 := n1_; have HB := n2_; clear n0_ n1_ n2_; clear hb ho23
            refine hK.out _ _ ⟨(blk_cell BK317.out 0).trans rfl, (blk_cell BK317.out 1).trans rfl⟩ (fun hHeld => ?_)
            clear hK K
            refine norm_ (a' := ?_) ?_ ?_
            rotate_left
            ·show Act.put _ (some 25) _ = _
             simp only [Act.put, List.setIfInBounds_toArray, List.set_cons_zero, List.set_cons_succ, i64_w, i32_w]
             rfl
            refine one_ (i := 3) (N := some 23) (bm 12 959) rfl rfl (one_of HT_.out (by kernel_rfl)) (by decide) (fun K hK => ?_)
            refine Kd.R_append_rows_step k112 (w0 := w) w.heap.size rfl (.const (.slice none 0 0)) (.tmp 22) 63 112 (.agg #[(.int .i64 0), (.int .i64 0)]) 16 rfl Try.underlying63 info112 rfl (by decide) (by omega) (.slice none 0 0) ([] : List (S112)) y320 _ _ _ (fun k_ => some k_ ≠ (v328 : Value).ownBlock ∧ k_ ≠ gb317) (fun _ => False) rfl rfl ?aO ?aR (fun _ _ h => h) (fun _ h => h.elim) ?aF ?aB ?aS ?aL ?_
            (case aR => repeat (first | exact (Kd.C_below HR323.out HB.out) | (with_reducible refine Kd.C_alloc ?_ _) | (with_reducible refine Kd.C_drewN ?_ _) | (with_reducible refine Kd.C_drew ?_)))
            (case aB => exact qB_)
            (case aF => exact (fun k_ hk => ⟨Kd.fresh' (Kd.R_lt (qR_ HO329)) k_ hk, Kd.freshB (qk_ BK317) k_ hk⟩))
            (case aO => exact ((Kd.R_nil _ _ _ _ (fun k_ => some k_ ≠ (v328 : Value).ownBlock ∧ k_ ≠ gb317))))
            (case aS => exact (below_size qB_))
            (case aL => have := LMc12.out; omega)
            intro v325 w24 ho hb hg hat
            rw [← Ny324.out] at ho
            have n0_ := Aside0.mk (blk_grown (qk_ BK317) hg (by simp [Value.ownBlock]))
            have n1_ := Aside0.mk (Kd.R_after (Kd.R_apart_nil (qR_ HO329)) hg hat)
            have n2_ := Aside0.mk (hb)
            have n3_ := Aside0.mk (ho)
            clear BK317; clear HO329; clear HB; have BK317 := n0_; have HO329 := n1_; have HB := n2_; have HO326 := n3_; clear n0_ n1_ n2_ n3_; clear ho hb hg hat
            refine hK.out _ _ ⟨(blk_cell BK317.out 0).trans rfl, (blk_cell BK317.out 1).trans rfl⟩ (fun hHeld => ?_)
            clear hK K
            refine norm_ (a' := ?_) ?_ ?_
            rotate_left
            ·show Act.put _ (some 23) _ = _
             simp only [Act.put, List.setIfInBounds_toArray, List.set_cons_zero, List.set_cons_succ, i64_w, i32_w]
             rfl
            exact norm_ (by simp only [putAll, Act.put, List.setIfInBounds_toArray, List.set_cons_zero, List.set_cons_succ]) (hCont (v325, v328) _ ⟨hHeld, (qR_ HO326), (by (with_reducible repeat (first | apply Kd.R_alloc | apply Kd.R_drewN | apply Kd.R_drew)); exact Kd.R_mono HO329.out (fun _ hk => ⟨hk.2, hk.1.2⟩)), (qk_ BK317), qB_⟩)
          rintro ⟨v325, v328⟩ w25 ⟨hS_, h0_, h1_, h2_, h3_⟩
          have n0_ : Aside0 (Kd.R k112 112 w25 w.heap.size (fun k_ => some k_ ≠ (v328 : Value).ownBlock ∧ k_ ≠ gb317) v325 y324) := ⟨h0_⟩
          have n1_ : Aside0 (Kd.R k112 112 w25 w.heap.size (fun k_ => some k_ ≠ (v325 : Value).ownBlock ∧ k_ ≠ gb317) v328 y327) := ⟨h1_⟩
          have n2_ : Aside0 (w25.heap[gb317]? = some (.cells #[.int .i64 a1_0, .int .i64 a1_1] 112 (0, 0))) := ⟨h2_⟩
          have n3_ : Aside0 (Below w.heap.size w w25) := ⟨h3_⟩
          clear BK317; clear HB; clear h0_ h1_ h2_ h3_; have HO326 := n0_; have HO329 := n1_; have BK317 := n2_; have HB := n3_; clear n0_ n1_ n2_ n3_
          have hHeld : w25.cell? ⟨gb317, 0, none⟩ = some (.int .i64 a1_0) ∧ w25.cell? ⟨gb317, 1, none⟩ = some (.int .i64 a1_1) := hS_
          obtain ⟨Ao27, co27, eo27⟩ := Kd.R_slice HO329.out
          (first | subst eo27 | (injection eo27 with f1_ f2_ f3_; have f4_ := f1_.symm; have f5_ := f3_.symm; clear f1_ f2_ f3_; subst f4_; subst f5_))
          refine norm_ (a' := ?_) ?_ ?_
          rotate_left
          ·simp only [putAll, Act.put, List.setIfInBounds_toArray, List.set_cons_zero, List.set_cons_succ]
           rfl
          refine one_ (i := 6) (N := some 26) (bm 12 1023) rfl rfl (one_of HT_.out (by kernel_rfl)) (by decide) (fun K hK => ?_)
          refine Kd.R_append_rows_step k112 (w0 := w) w.heap.size (by rfl) (.tmp 23) (.tmp 25) 63 112 (.agg #[(.int .i64 0), (.int .i64 0)]) 16 rfl Try.underlying63 info112 rfl (by decide) (by omega) v325 y324 y327 _ _ _ (fun k_ => some k_ ≠ (.slice Ao27 y327.length co27 : Value).ownBlock ∧ k_ ≠ gb317) (fun _ => False) rfl rfl ?aO ?aR (fun _ _ h => h) (fun _ h => h.elim) ?aF ?aB ?aS ?aL ?_
          (case aR => repeat (first | exact (Kd.R_reads' HO329.out).2.2 | (with_reducible refine Kd.C_alloc ?_ _) | (with_reducible refine Kd.C_drewN ?_ _) | (with_reducible refine Kd.C_drew ?_)))
          (case aB => exact qB_)
          (case aF => exact (fun k_ hk => ⟨Kd.fresh' (Kd.R_lt (qR_ HO329)) k_ hk, Kd.freshB (qk_ BK317) k_ hk⟩))
          (case aO => exact (qR_ HO326))
          (case aS => exact (below_size qB_))
          (case aL => have := LMc13.out; omega)
          intro v331 w26 ho hb hg hat
          rw [← Ny330.out] at ho
          have n0_ := Aside0.mk (blk_grown (qk_ BK317) hg (Kd.R_away HO326.out (fun _ hk => hk.2)))
          have n1_ := Aside0.mk (Kd.R_after (ok := (fun k_ => k_ ≠ gb317)) (by (with_reducible repeat (first | apply Kd.R_alloc | apply Kd.R_drewN | apply Kd.R_drew)); exact Kd.R_mono HO329.out (fun _ hk => ⟨hk.2, hk.1⟩)) hg hat)
          have n2_ := Aside0.mk (hb)
          have n3_ := Aside0.mk (ho)
          clear BK317; clear HO329; clear HB; clear HO326; have BK317 := n0_; have HO329 := n1_; have HB := n2_; have HO332 := n3_; clear n0_ n1_ n2_ n3_; clear ho hb hg hat
          refine hK.out _ _ ⟨(blk_cell BK317.out 0).trans rfl, (blk_cell BK317.out 1).trans rfl⟩ (fun hHeld => ?_)
          clear hK K
          refine norm_ (a' := ?_) ?_ ?_
          rotate_left
          ·show Act.put _ (some 26) _ = _
           simp only [Act.put, List.setIfInBounds_toArray, List.set_cons_zero, List.set_cons_succ, i64_w, i32_w]
           rfl
          refine one_ (i := 10) (N := some 30) (bm 12 2047) rfl rfl (one_of HT_.out (by kernel_rfl)) (by decide) (fun K hK => ?_)
          refine Kd.R_append_rows_step k112 (w0 := w) w.heap.size (by rfl) (.tmp 26) (.tmp 29) 63 112 (.agg #[(.int .i64 0), (.int .i64 0)]) 16 rfl Try.underlying63 info112 rfl (by decide) (by omega) v331 y330 y333 _ _ _ (fun k_ => some k_ ≠ (.slice Ao27 y327.length co27 : Value).ownBlock ∧ k_ ≠ gb317) (fun _ => False) rfl rfl ?aO ?aR (fun _ _ h => h) (fun _ h => h.elim) ?aF ?aB ?aS ?aL ?_
          (case aR => repeat (first | exact (Kd.C_below HR336.out HB.out) | (with_reducible refine Kd.C_alloc ?_ _) | (with_reducible refine Kd.C_drewN ?_ _) | (with_reducible refine Kd.C_drew ?_)))
          (case aB => exact qB_)
          (case aF => exact (fun k_ hk => ⟨Kd.fresh' (Kd.R_lt (qR_ HO329)) k_ hk, Kd.freshB (qk_ BK317) k_ hk⟩))
          (case aO => exact (qR_ HO332))
          (case aS => exact (below_size qB_))
          (case aL => have := LMc16.out; omega)
          intro v338 w28 ho hb hg hat
          rw [← Ny337.out] at ho
          have n0_ := Aside0.mk (blk_grown (qk_ BK317) hg (Kd.R_away HO332.out (fun _ hk => hk.2)))
          have n1_ := Aside0.mk (Kd.R_after (ok := (fun k_ => k_ ≠ gb317)) (qR_ HO329) hg hat)
          have n2_ := Aside0.mk (hb)
          have n3_ := Aside0.mk (ho)
          clear BK317; clear HO329; clear HB; clear HO332; have BK317 := n0_; have HO329 := n1_; have HB := n2_; have HO339 := n3_; clear n0_ n1_ n2_ n3_; clear ho hb hg hat
          refine hK.out _ _ ⟨(blk_cell BK317.out 0).trans rfl, (blk_cell BK317.out 1).trans rfl⟩ (fun hHeld => ?_)
          clear hK K
          refine norm_ (a' := ?_) ?_ ?_
          rotate_left
          ·show Act.put _ (some 30) _ = _
           simp only [Act.put, List.setIfInBounds_toArray, List.set_cons_zero, List.set_cons_succ, i64_w, i32_w]
           rfl
          refine pz_ 11 4 (bm 12 4095) ?_
          refine done_ (done_of HT_.out (by kernel_rfl)) ?_
          try go_wp2
          go_ret
          exact ⟨_, qr_, by (with_reducible repeat (first | apply Kd.R_alloc | apply Kd.R_drewN | apply Kd.R_drew)); exact Kd.R_mono HO339.out (fun _ hk => trivial), qB_⟩
         ·rw [if_neg c16] at H
          exact absurd H (by simp)
        ·rw [if_neg c13] at H
         exact absurd H (by simp)
       ·rw [if_neg c12] at H
        exact absurd H (by simp)
      ·rw [if_neg c11] at H
       exact absurd H (by simp)
    ·rw [if_neg c5] at H
     exact absurd H (by simp)
   ·rw [if_neg c4] at H
    have c4b0 : decide (x5_1 < (l0.length : Int)) = false := decide_eq_false c4
    clear c4
    by_cases c29 : 0 ≤ x5_1
    ·rw [if_pos c29] at H
     have c29b0 := eq_true c29
     have c29b1 : decide (0 ≤ x5_1) = true := decide_eq_true c29
     clear c29
     by_cases c30 : x5_1 ≤ (l0.length : Int)
     ·rw [if_pos c30] at H
      have c30b0 := eq_true c30
      have c30b1 : decide (x5_1 ≤ (l0.length : Int)) = true := decide_eq_true c30
      clear c30
      obtain ⟨y340, hy340⟩ : ∃ y_ : List (S112), y_ = (l0.take (x5_1 : Int).toNat) := ⟨_, rfl⟩
      replace H : (if ([] : List (S112)).length + y340.length < 8796093022208 then ((some (([] : List (S112)) ++ y340 : List (S112))).bind fun y344 => ((some (([(⟨a1_0, a1_1⟩ : S112)] : List (S112)) : List (S112))).bind fun y347 => (if y344.length + y347.length < 8796093022208 then ((some (y344 ++ y347 : List (S112))).bind fun y350 => ((some (l0.drop (x5_1 : Int).toNat : List (S112))).bind fun y353 => (if y350.length + y353.length < 8796093022208 then (some (y350 ++ y353)) else (none)))) else (none)))) else (none)) = some r := by first | (rw [hy340]; with_reducible exact H) | (have H2_ := (Option.bind_some _ _).symm.trans H; rw [hy340]; with_reducible exact H2_) | (have H2_ := (Option.bind_some _ _).symm.trans H; with_reducible exact H2_) | with_reducible exact H | (rw [hy340]; exact H) | exact H
      have Ny340 := Aside0.mk hy340
      clear hy340
      by_cases c31 : ([] : List (S112)).length + y340.length < 8796093022208
      ·rw [if_pos c31] at H
       have LMc31 := Aside0.mk c31
       clear c31
       obtain ⟨y344, hy344⟩ : ∃ y_ : List (S112), y_ = (([] : List (S112)) ++ y340) := ⟨_, rfl⟩
       replace H : ((some (([(⟨a1_0, a1_1⟩ : S112)] : List (S112)) : List (S112))).bind fun y347 => (if y344.length + y347.length < 8796093022208 then ((some (y344 ++ y347 : List (S112))).bind fun y350 => ((some (l0.drop (x5_1 : Int).toNat : List (S112))).bind fun y353 => (if y350.length + y353.length < 8796093022208 then (some (y350 ++ y353)) else (none)))) else (none))) = some r := by first | (rw [hy344]; with_reducible exact H) | (have H2_ := (Option.bind_some _ _).symm.trans H; rw [hy344]; with_reducible exact H2_) | (have H2_ := (Option.bind_some _ _).symm.trans H; with_reducible exact H2_) | with_reducible exact H | (rw [hy344]; exact H) | exact H
       have Ny344 := Aside0.mk hy344
       clear hy344
       obtain ⟨y347, hy347⟩ : ∃ y_ : List (S112), y_ = (([(⟨a1_0, a1_1⟩ : S112)] : List (S112))) := ⟨_, rfl⟩
       replace H : (if y344.length + y347.length < 8796093022208 then ((some (y344 ++ y347 : List (S112))).bind fun y350 => ((some (l0.drop (x5_1 : Int).toNat : List (S112))).bind fun y353 => (if y350.length + y353.length < 8796093022208 then (some (y350 ++ y353)) else (none)))) else (none)) = some r := by first | (rw [hy347]; with_reducible exact H) | (have H2_ := (Option.bind_some _ _).symm.trans H; rw [hy347]; with_reducible exact H2_) | (have H2_ := (Option.bind_some _ _).symm.trans H; with_reducible exact H2_) | with_reducible exact H | (rw [hy347]; exact H) | exact H
       have Ny347 := Aside0.mk hy347
       clear hy347
       by_cases c32 : y344.length + y347.length < 8796093022208
       ·rw [if_pos c32] at H
        have LMc32 := Aside0.mk c32
        clear c32
        obtain ⟨y350, hy350⟩ : ∃ y_ : List (S112), y_ = (y344 ++ y347) := ⟨_, rfl⟩
        replace H : ((some (l0.drop (x5_1 : Int).toNat : List (S112))).bind fun y353 => (if y350.length + y353.length < 8796093022208 then (some (y350 ++ y353)) else (none))) = some r := by first | (rw [hy350]; with_reducible exact H) | (have H2_ := (Option.bind_some _ _).symm.trans H; rw [hy350]; with_reducible exact H2_) | (have H2_ := (Option.bind_some _ _).symm.trans H; with_reducible exact H2_) | with_reducible exact H | (rw [hy350]; exact H) | exact H
        have Ny350 := Aside0.mk hy350
        clear hy350
        have c33b0 := eq_true (of_decide_eq_true qa_ : 0 ≤ x5_1)
        have c34b0 := eq_true (of_decide_eq_true qa_ : x5_1 ≤ (l0.length : Int))
        obtain ⟨y353, hy353⟩ : ∃ y_ : List (S112), y_ = (l0.drop (x5_1 : Int).toNat) := ⟨_, rfl⟩
        replace H : (if y350.length + y353.length < 8796093022208 then (some (y350 ++ y353)) else (none)) = some r := by first | (rw [hy353]; with_reducible exact H) | (have H2_ := (Option.bind_some _ _).symm.trans H; rw [hy353]; with_reducible exact H2_) | (have H2_ := (Option.bind_some _ _).symm.trans H; with_reducible exact H2_) | with_reducible exact H | (rw [hy353]; exact H) | exact H
        have Ny353 := Aside0.mk hy353
        clear hy353
        by_cases c35 : y350.length + y353.length < 8796093022208
        ·rw [if_pos c35] at H
         have LMc35 := Aside0.mk c35
         clear c35
         obtain ⟨y357, hy357⟩ : ∃ y_ : List (S112), y_ = (y350 ++ y353) := ⟨_, rfl⟩
         replace H : (some y357) = some r := by first | (rw [hy357]; with_reducible exact H) | (have H2_ := (Option.bind_some _ _).symm.trans H; rw [hy357]; with_reducible exact H2_) | (have H2_ := (Option.bind_some _ _).symm.trans H; with_reducible exact H2_) | with_reducible exact H | (rw [hy357]; exact H) | exact H
         have Ny357 := Aside0.mk hy357
         clear hy357
         obtain rfl := Option.some.inj H
         try go_wp2
         have n0_ := Aside0.mk (blk_drew BK317.out)
         have n1_ := Aside0.mk (below_drew1 HB.out)
         clear BK317; clear HB; have BK317 := n0_; have HB := n1_; clear n0_ n1_
         refine start_ (n := 12) (S := fun w' => True) (ds := []) (bm 12 0) (by kernel_rfl) rfl (by kernel_rfl) trivial (fun hHeld => ?_); refine with_tabW impl_withEdge.tab2 impl_withEdge.bits2 (fun HT_ HW_ => ?_)
         generalize wr.drew = w36 at BK317 HB hHeld ⊢
         refine pz_ 0 6 (bm 12 1) ?_; refine pz_ 1 7 (bm 12 3) ?_; refine pz_ 2 8 (bm 12 7) ?_; refine pz_ 3 9 (bm 12 15) ?_; refine pz_ 4 10 (bm 12 31) ?_
         refine pure_ (i := 5) (N := some 11) (v := undef) (a' := ?_) (bm 12 63) rfl rfl (any_of HT_.out (by kernel_rfl)) (fun _ _ _ h => h) (Or.inr ⟨by rfl, rfl⟩) ?_ ?_
         rotate_left
         ·simp only [Act.put, List.setIfInBounds_toArray, List.set_cons_zero, List.set_cons_succ, i64_w, i32_w]
          rfl
         refine pure_ (i := 6) (N := some 12) (v := undef) (a' := ?_) (bm 12 127) rfl rfl (any_of HT_.out (by kernel_rfl)) (fun _ _ _ h => h) (Or.inr ⟨by rfl, rfl⟩) ?_ ?_
         rotate_left
         ·simp only [Act.put, List.setIfInBounds_toArray, List.set_cons_zero, List.set_cons_succ, i64_w, i32_w]
          rfl
         refine pure_ (i := 7) (N := some 13) (v := undef) (a' := ?_) (bm 12 255) rfl rfl (any_of HT_.out (by kernel_rfl)) (fun _ _ _ h => h) (Or.inr ⟨by rfl, rfl⟩) ?_ ?_
         rotate_left
         ·simp only [Act.put, List.setIfInBounds_toArray, List.set_cons_zero, List.set_cons_succ, i64_w, i32_w]
          rfl
         refine pure_ (i := 8) (N := some 14) (v := undef) (a' := ?_) (bm 12 511) rfl rfl (any_of HT_.out (by kernel_rfl)) (fun _ _ _ h => h) (Or.inr ⟨by rfl, rfl⟩) ?_ ?_
         rotate_left
         ·simp only [Act.put, List.setIfInBounds_toArray, List.set_cons_zero, List.set_cons_succ, i64_w, i32_w]
          rfl
         refine pure_ (i := 9) (N := some 15) (v := undef) (a' := ?_) (bm 12 1023) rfl rfl (any_of HT_.out (by kernel_rfl)) (fun _ _ _ h => h) (Or.inr ⟨by rfl, rfl⟩) ?_ ?_
         rotate_left
         ·simp only [Act.put, List.setIfInBounds_toArray, List.set_cons_zero, List.set_cons_succ, i64_w, i32_w]
          rfl
         refine pure_ (i := 10) (N := some 16) (v := undef) (a' := ?_) (bm 12 2047) rfl rfl (any_of HT_.out (by kernel_rfl)) (fun _ _ _ h => h) (Or.inr ⟨by rfl, rfl⟩) ?_ ?_
         rotate_left
         ·simp only [Act.put, List.setIfInBounds_toArray, List.set_cons_zero, List.set_cons_succ, i64_w, i32_w]
          rfl
         refine pz_ 11 17 (bm 12 4095) ?_
         refine done_ (done_of HT_.out (by kernel_rfl)) ?_
         try go_wp2
         have n0_ := Aside0.mk (blk_drew BK317.out)
         have n1_ := Aside0.mk (below_drew1 HB.out)
         clear BK317; clear HB; have BK317 := n0_; have HB := n1_; clear n0_ n1_
         have q38 : (x5_1 : Int) ≤ ((l0.length : Int) : Int) := of_decide_eq_true qa_
         obtain ⟨i038, hi038, _, hsz38, _⟩ := info_parts info112
         have hroom38 : l0.length ≤ c0 := HC0.out
         have hC38 : Kd.C k112 _ A0 l0.length l0 := HR0.out
         have hcut38 := cut_to (P := Try.prog) 63 112 .i64 Try.underlying63 hi038 A0 l0.length c0 x5_1 (of_decide_eq_true qa_) q38 hroom38
         have hr38 := Kd.C_take (m := (x5_1 : Int).toNat) hC38 (by omega)
         have hy38 : y340.length = (x5_1 : Int).toNat := (by rw [Ny340.out, List.length_take]; omega)
         rw [← Ny340.out] at hr38
         rw [← hy38] at hcut38
         have HR343 := Aside0.mk hr38
         have HC343 := Aside0.mk (show y340.length ≤ c0 from by omega)
         clear hr38 hC38 hroom38 hi038 hsz38
         have KY38 := Aside0.mk hy38
         clear hy38; replace q38 := eq_true q38
         have q39 : (x5_1 : Int) ≤ ((l0.length : Int) : Int) := of_decide_eq_true qa_
         obtain ⟨i039, hi039, _, hsz39, _⟩ := info_parts info112
         have hroom39 : l0.length ≤ c0 := HC0.out
         have hC39 : Kd.C k112 _ A0 l0.length l0 := HR0.out
         have q039 : (0 : Int) ≤ (x5_1 : Int) := of_decide_eq_true qa_
         have hcut39 := cut_from (P := Try.prog) 63 112 .i64 Try.underlying63 hi039 2 hsz39 A0 l0.length c0 x5_1 q039 q39
         have hr39 := Kd.C_drop (m := (x5_1 : Int).toNat) (c := c0) hC39 (by omega) hroom39
         obtain ⟨A39, hA39⟩ : ∃ A1, A1 = (if c0 = (x5_1 : Int).toNat then A0 else (A0 : Option Addr).map (·.add ((x5_1 : Int).toNat * 2))) := ⟨_, rfl⟩
         obtain ⟨c39, hc39⟩ : ∃ c1, c1 = c0 - (x5_1 : Int).toNat := ⟨_, rfl⟩
         have hy39 : y353.length = l0.length - (x5_1 : Int).toNat := (by rw [Ny353.out, List.length_drop] <;> omega)
         rw [show (l0).drop (x5_1 : Int).toNat = y353 from Ny353.out.symm] at hr39
         replace hr39 : Kd.C k112 _ A39 y353.length y353 := (by rw [hA39]; exact hr39)
         rw [← hy39, ← hA39, ← hc39] at hcut39
         have HR356 := Aside0.mk hr39
         have HC356 := Aside0.mk (show y353.length ≤ c39 from by rw [hy39, hc39]; exact Nat.sub_le_sub_right hroom39 _)
         clear hr39 hC39 hroom39 hi039 hsz39 hc39
         have KY39 := Aside0.mk hy39
         have KA39 := Aside0.mk hA39
         clear hy39 hA39; replace q39 := eq_true q39
         refine start_ (n := 12) (S := fun w' => w'.cell? ⟨gb317, 0, none⟩ = some (.int .i64 a1_0) ∧ w'.cell? ⟨gb317, 1, none⟩ = some (.int .i64 a1_1)) (ds := []) (bm 12 0) (by kernel_rfl) rfl (by kernel_rfl) ⟨(blk_cell BK317.out 0).trans rfl, (blk_cell BK317.out 1).trans rfl⟩ (fun hHeld => ?_); refine with_tabW impl_withEdge.tab4 impl_withEdge.bits4 (fun HT_ HW_ => ?_)
         generalize w36.drew = w37 at BK317 HB HR343 HR356 hHeld ⊢
         refine pz_ 0 20 (bm 12 1) ?_; refine pz_ 1 21 (bm 12 3) ?_; refine pz_ 2 22 (bm 12 7) ?_; refine pz_ 7 27 (bm 12 135) ?_; refine pz_ 8 28 (bm 12 391) ?_; refine pz_ 9 29 (bm 12 903) ?_; refine tz2_ 4 24 (bm 12 919) ?_
         refine join_ (σ := Value × Value) 3 #[true, true, true, true, true, true, false, true, true, true, false, false] (fun s_ => [(23, s_.1), (25, s_.2)]) (fun s_ w' => (w'.cell? ⟨gb317, 0, none⟩ = some (.int .i64 a1_0) ∧ w'.cell? ⟨gb317, 1, none⟩ = some (.int .i64 a1_1)) ∧ (Kd.R k112 112 w' w.heap.size (fun k_ => some k_ ≠ (s_.2 : Value).ownBlock ∧ k_ ≠ gb317) s_.1 y344) ∧ (Kd.R k112 112 w' w.heap.size (fun k_ => some k_ ≠ (s_.1 : Value).ownBlock ∧ k_ ≠ gb317) s_.2 y347) ∧ (w'.heap[gb317]? = some (.cells #[.int .i64 a1_0, .int .i64 a1_1] 112 (0, 0))) ∧ (Below w.heap.size w w')) ?_ ?_
         rotate_left
         ·intro hCont
          refine two_ (i := 3) (j := 5) (Ni := some 23) (Nj := some 25) (bm 12 927) #[true, true, true, false, true, true, false, true, true, true, false, false] rfl rfl rfl rfl (two_of HT_.out (by kernel_rfl)) (by decide) (by decide) (fun K hK => ?_) (fun K hK => ?_)
          ·skip
           refine Kd.R_append_rows_step k112 (w0 := w) w.heap.size rfl (.const (.slice none 0 0)) (.tmp 22) 63 112 (.agg #[(.int .i64 0), (.int .i64 0)]) 16 rfl Try.underlying63 info112 rfl (by decide) (by omega) (.slice none 0 0) ([] : List (S112)) y340 _ _ _ (fun k_ => k_ ≠ gb317) (fun _ => False) rfl rfl ?aO ?aR (fun _ _ h => h) (fun _ h => h.elim) ?aF ?aB ?aS ?aL ?_
           (case aR => repeat (first | exact (Kd.C_below HR343.out HB.out) | (with_reducible refine Kd.C_alloc ?_ _) | (with_reducible refine Kd.C_drewN ?_ _) | (with_reducible refine Kd.C_drew ?_)))
           (case aB => exact qB_)
           (case aF => exact (fun k_ hk => Kd.freshB (qk_ BK317) k_ hk))
           (case aO => exact ((Kd.R_nil _ _ _ _ (fun k_ => k_ ≠ gb317))))
           (case aS => exact (below_size qB_))
           (case aL => have := LMc31.out; omega)
           intro v345 w40 ho hb hg hat
           rw [← Ny344.out] at ho
           have n0_ := Aside0.mk (blk_grown (qk_ BK317) hg (by simp [Value.ownBlock]))
           have n1_ := Aside0.mk (hb)
           have n2_ := Aside0.mk (ho)
           clear BK317; clear HB; have BK317 := n0_; have HB := n1_; have HO346 := n2_; clear n0_ n1_ n2_; clear ho hb hg hat
           refine hK.out _ _ ⟨(blk_cell BK317.out 0).trans rfl, (blk_cell BK317.out 1).trans rfl⟩ (fun hHeld => ?_)
           clear hK K
           refine norm_ (a' := ?_) ?_ ?_
           rotate_left
           ·show Act.put _ (some 23) _ = _
            simp only [Act.put, List.setIfInBounds_toArray, List.set_cons_zero, List.set_cons_succ, i64_w, i32_w]
            rfl
           refine one_ (i := 5) (N := some 25) (bm 12 959) rfl rfl (one_of HT_.out (by kernel_rfl)) (by decide) (fun K hK => ?_)
           refine Kd.R_lit_step k112 _ 112 ?hg (N := 25) ?hd (xs := ([(⟨a1_0, a1_1⟩ : S112)] : List (S112))) (inner := [.int .i64 a1_0, .int .i64 a1_1]) (ok := fun _ => True) (okp := fun _ => True) ?hr ?hp (fun _ hk => hk) trivial (Below.refl _ _) (Nat.le_refl _) (by simp) ?_; (case hd => rfl); (case hg => rfl); (case hr => first | (go_simp; done) | (go_simp; rfl)); (case hp => exact (Reps.c2 (show Kd.M k112 _ _ _ (⟨a1_0, a1_1⟩ : S112) [.int .i64 a1_0, .int .i64 a1_1] from (k112_mkM _ _ _ (⟨a1_0, a1_1⟩ : S112) )) (Reps.none _ _)))
           intro v348 w41 ho42 hb hg_ hnew_
           clear hg_ hnew_
           (first | rw [← Ny347.out] at ho42 | (simp only [Int.reduceToNat] at ho42; rw [← Ny347.out] at ho42))
           have n0_ := Aside0.mk (Kd.R_elder' (qR_ HO346) (Kd.R_base ho42) hb)
           have n1_ := Aside0.mk (Kd.R_lower (Kd.R_newB (Kd.R_new' ho42 (Kd.R_lt (qR_ HO346))) (qk_ BK317)) (below_size qB_))
           have n2_ := Aside0.mk (blk_below (qk_ BK317) hb)
           have n3_ := Aside0.mk (below_step qB_ hb)
           clear HO346; clear BK317; clear HB; have HO346 := n0_; have HO349 := n1_; have BK317 := n2_; have HB := n3_; clear n0_ n1_ n2_ n3_; clear hb ho42
           refine hK.out _ _ ⟨(blk_cell BK317.out 0).trans rfl, (blk_cell BK317.out 1).trans rfl⟩ (fun hHeld => ?_)
           clear hK K
           refine norm_ (a' := ?_) ?_ ?_
           rotate_left
           ·show Act.put _ (some 25) _ = _
            simp only [Act.put, List.setIfInBounds_toArray, List.set_cons_zero, List.set_cons_succ, i64_w, i32_w]
            rfl
           exact norm_ (by simp only [putAll, Act.put, List.setIfInBounds_toArray, List.set_cons_zero, List.set_cons_succ]) (hCont (v345, v348) _ ⟨hHeld, (by (with_reducible repeat (first | apply Kd.R_alloc | apply Kd.R_drewN | apply Kd.R_drew)); exact Kd.R_mono HO346.out (fun _ hk => ⟨hk.2, hk.1⟩)), (by (with_reducible repeat (first | apply Kd.R_alloc | apply Kd.R_drewN | apply Kd.R_drew)); exact Kd.R_mono HO349.out (fun _ hk => ⟨hk.1.2, hk.2⟩)), (qk_ BK317), qB_⟩)
          ·skip
           refine Kd.R_lit_step k112 _ 112 ?hg (N := 25) ?hd (xs := ([(⟨a1_0, a1_1⟩ : S112)] : List (S112))) (inner := [.int .i64 a1_0, .int .i64 a1_1]) (ok := fun _ => True) (okp := fun _ => True) ?hr ?hp (fun _ hk => hk) trivial (Below.refl _ _) (Nat.le_refl _) (by simp) ?_; (case hd => rfl); (case hg => rfl); (case hr => first | (go_simp; done) | (go_simp; rfl)); (case hp => exact (Reps.c2 (show Kd.M k112 _ _ _ (⟨a1_0, a1_1⟩ : S112) [.int .i64 a1_0, .int .i64 a1_1] from (k112_mkM _ _ _ (⟨a1_0, a1_1⟩ : S112) )) (Reps.none _ _)))
           intro v348 w40 ho41 hb hg_ hnew_
           clear hg_ hnew_
           (first | rw [← Ny347.out] at ho41 | (simp only [Int.reduceToNat] at ho41; rw [← Ny347.out] at ho41))
           have n0_ := Aside0.mk (Kd.R_lower (Kd.R_newB ho41 (qk_ BK317)) (below_size qB_))
           have n1_ := Aside0.mk (blk_below (qk_ BK317) hb)
           have n2_ := Aside0.mk (below_step qB_ hb)
           clear BK317; clear HB; have HO349 := n0_; have BK317 := n1_; have HB := n2_; clear n0_ n1_ n2_; clear hb ho41
           refine hK.out _ _ ⟨(blk_cell BK317.out 0).trans rfl, (blk_cell BK317.out 1).trans rfl⟩ (fun hHeld => ?_)
           clear hK K
           refine norm_ (a' := ?_) ?_ ?_
           rotate_left
           ·show Act.put _ (some 25) _ = _
            simp only [Act.put, List.setIfInBounds_toArray, List.set_cons_zero, List.set_cons_succ, i64_w, i32_w]
            rfl
           refine one_ (i := 3) (N := some 23) (bm 12 959) rfl rfl (one_of HT_.out (by kernel_rfl)) (by decide) (fun K hK => ?_)
           refine Kd.R_append_rows_step k112 (w0 := w) w.heap.size rfl (.const (.slice none 0 0)) (.tmp 22) 63 112 (.agg #[(.int .i64 0), (.int .i64 0)]) 16 rfl Try.underlying63 info112 rfl (by decide) (by omega) (.slice none 0 0) ([] : List (S112)) y340 _ _ _ (fun k_ => some k_ ≠ (v348 : Value).ownBlock ∧ k_ ≠ gb317) (fun _ => False) rfl rfl ?aO ?aR (fun _ _ h => h) (fun _ h => h.elim) ?aF ?aB ?aS ?aL ?_
           (case aR => repeat (first | exact (Kd.C_below HR343.out HB.out) | (with_reducible refine Kd.C_alloc ?_ _) | (with_reducible refine Kd.C_drewN ?_ _) | (with_reducible refine Kd.C_drew ?_)))
           (case aB => exact qB_)
           (case aF => exact (fun k_ hk => ⟨Kd.fresh' (Kd.R_lt (qR_ HO349)) k_ hk, Kd.freshB (qk_ BK317) k_ hk⟩))
           (case aO => exact ((Kd.R_nil _ _ _ _ (fun k_ => some k_ ≠ (v348 : Value).ownBlock ∧ k_ ≠ gb317))))
           (case aS => exact (below_size qB_))
           (case aL => have := LMc31.out; omega)
           intro v345 w42 ho hb hg hat
           rw [← Ny344.out] at ho
           have n0_ := Aside0.mk (blk_grown (qk_ BK317) hg (by simp [Value.ownBlock]))
           have n1_ := Aside0.mk (Kd.R_after (Kd.R_apart_nil (qR_ HO349)) hg hat)
           have n2_ := Aside0.mk (hb)
           have n3_ := Aside0.mk (ho)
           clear BK317; clear HO349; clear HB; have BK317 := n0_; have HO349 := n1_; have HB := n2_; have HO346 := n3_; clear n0_ n1_ n2_ n3_; clear ho hb hg hat
           refine hK.out _ _ ⟨(blk_cell BK317.out 0).trans rfl, (blk_cell BK317.out 1).trans rfl⟩ (fun hHeld => ?_)
           clear hK K
           refine norm_ (a' := ?_) ?_ ?_
           rotate_left
           ·show Act.put _ (some 23) _ = _
            simp only [Act.put, List.setIfInBounds_toArray, List.set_cons_zero, List.set_cons_succ, i64_w, i32_w]
            rfl
           exact norm_ (by simp only [putAll, Act.put, List.setIfInBounds_toArray, List.set_cons_zero, List.set_cons_succ]) (hCont (v345, v348) _ ⟨hHeld, (qR_ HO346), (by (with_reducible repeat (first | apply Kd.R_alloc | apply Kd.R_drewN | apply Kd.R_drew)); exact Kd.R_mono HO349.out (fun _ hk => ⟨hk.2, hk.1.2⟩)), (qk_ BK317), qB_⟩)
         rintro ⟨v345, v348⟩ w43 ⟨hS_, h0_, h1_, h2_, h3_⟩
         have n0_ : Aside0 (Kd.R k112 112 w43 w.heap.size (fun k_ => some k_ ≠ (v348 : Value).ownBlock ∧ k_ ≠ gb317) v345 y344) := ⟨h0_⟩
         have n1_ : Aside0 (Kd.R k112 112 w43 w.heap.size (fun k_ => some k_ ≠ (v345 : Value).ownBlock ∧ k_ ≠ gb317) v348 y347) := ⟨h1_⟩
         have n2_ : Aside0 (w43.heap[gb317]? = some (.cells #[.int .i64 a1_0, .int .i64 a1_1] 112 (0, 0))) := ⟨h2_⟩
         have n3_ : Aside0 (Below w.heap.size w w43) := ⟨h3_⟩
         clear BK317; clear HB; clear h0_ h1_ h2_ h3_; have HO346 := n0_; have HO349 := n1_; have BK317 := n2_; have HB := n3_; clear n0_ n1_ n2_ n3_
         have hHeld : w43.cell? ⟨gb317, 0, none⟩ = some (.int .i64 a1_0) ∧ w43.cell? ⟨gb317, 1, none⟩ = some (.int .i64 a1_1) := hS_
         obtain ⟨Ao45, co45, eo45⟩ := Kd.R_slice HO349.out
         (first | subst eo45 | (injection eo45 with f1_ f2_ f3_; have f4_ := f1_.symm; have f5_ := f3_.symm; clear f1_ f2_ f3_; subst f4_; subst f5_))
         refine norm_ (a' := ?_) ?_ ?_
         rotate_left
         ·simp only [putAll, Act.put, List.setIfInBounds_toArray, List.set_cons_zero, List.set_cons_succ]
          rfl
         refine one_ (i := 6) (N := some 26) (bm 12 1023) rfl rfl (one_of HT_.out (by kernel_rfl)) (by decide) (fun K hK => ?_)
         refine Kd.R_append_rows_step k112 (w0 := w) w.heap.size (by rfl) (.tmp 23) (.tmp 25) 63 112 (.agg #[(.int .i64 0), (.int .i64 0)]) 16 rfl Try.underlying63 info112 rfl (by decide) (by omega) v345 y344 y347 _ _ _ (fun k_ => some k_ ≠ (.slice Ao45 y347.length co45 : Value).ownBlock ∧ k_ ≠ gb317) (fun _ => False) rfl rfl ?aO ?aR (fun _ _ h => h) (fun _ h => h.elim) ?aF ?aB ?aS ?aL ?_
         (case aR => repeat (first | exact (Kd.R_reads' HO349.out).2.2 | (with_reducible refine Kd.C_alloc ?_ _) | (with_reducible refine Kd.C_drewN ?_ _) | (with_reducible refine Kd.C_drew ?_)))
         (case aB => exact qB_)
         (case aF => exact (fun k_ hk => ⟨Kd.fresh' (Kd.R_lt (qR_ HO349)) k_ hk, Kd.freshB (qk_ BK317) k_ hk⟩))
         (case aO => exact (qR_ HO346))
         (case aS => exact (below_size qB_))
         (case aL => have := LMc32.out; omega)
         intro v351 w44 ho hb hg hat
         rw [← Ny350.out] at ho
         have n0_ := Aside0.mk (blk_grown (qk_ BK317) hg (Kd.R_away HO346.out (fun _ hk => hk.2)))
         have n1_ := Aside0.mk (Kd.R_after (ok := (fun k_ => k_ ≠ gb317)) (by (with_reducible repeat (first | apply Kd.R_alloc | apply Kd.R_drewN | apply Kd.R_drew)); exact Kd.R_mono HO349.out (fun _ hk => ⟨hk.2, hk.1⟩)) hg hat)
         have n2_ := Aside0.mk (hb)
         have n3_ := Aside0.mk (ho)
         clear BK317; clear HO349; clear HB; clear HO346; have BK317 := n0_; have HO349 := n1_; have HB := n2_; have HO352 := n3_; clear n0_ n1_ n2_ n3_; clear ho hb hg hat
         refine hK.out _ _ ⟨(blk_cell BK317.out 0).trans rfl, (blk_cell BK317.out 1).trans rfl⟩ (fun hHeld => ?_)
         clear hK K
         refine norm_ (a' := ?_) ?_ ?_
         rotate_left
         ·show Act.put _ (some 26) _ = _
          simp only [Act.put, List.setIfInBounds_toArray, List.set_cons_zero, List.set_cons_succ, i64_w, i32_w]
          rfl
         refine one_ (i := 10) (N := some 30) (bm 12 2047) rfl rfl (one_of HT_.out (by kernel_rfl)) (by decide) (fun K hK => ?_)
         refine Kd.R_append_rows_step k112 (w0 := w) w.heap.size (by rfl) (.tmp 26) (.tmp 29) 63 112 (.agg #[(.int .i64 0), (.int .i64 0)]) 16 rfl Try.underlying63 info112 rfl (by decide) (by omega) v351 y350 y353 _ _ _ (fun k_ => some k_ ≠ (.slice Ao45 y347.length co45 : Value).ownBlock ∧ k_ ≠ gb317) (fun _ => False) rfl rfl ?aO ?aR (fun _ _ h => h) (fun _ h => h.elim) ?aF ?aB ?aS ?aL ?_
         (case aR => repeat (first | exact (Kd.C_below HR356.out HB.out) | (with_reducible refine Kd.C_alloc ?_ _) | (with_reducible refine Kd.C_drewN ?_ _) | (with_reducible refine Kd.C_drew ?_)))
         (case aB => exact qB_)
         (case aF => exact (fun k_ hk => ⟨Kd.fresh' (Kd.R_lt (qR_ HO349)) k_ hk, Kd.freshB (qk_ BK317) k_ hk⟩))
         (case aO => exact (qR_ HO352))
         (case aS => exact (below_size qB_))
         (case aL => have := LMc35.out; omega)
         intro v358 w46 ho hb hg hat
         rw [← Ny357.out] at ho
         have n0_ := Aside0.mk (blk_grown (qk_ BK317) hg (Kd.R_away HO352.out (fun _ hk => hk.2)))
         have n1_ := Aside0.mk (Kd.R_after (ok := (fun k_ => k_ ≠ gb317)) (qR_ HO349) hg hat)
         have n2_ := Aside0.mk (hb)
         have n3_ := Aside0.mk (ho)
         clear BK317; clear HO349; clear HB; clear HO352; have BK317 := n0_; have HO349 := n1_; have HB := n2_; have HO359 := n3_; clear n0_ n1_ n2_ n3_; clear ho hb hg hat
         refine hK.out _ _ ⟨(blk_cell BK317.out 0).trans rfl, (blk_cell BK317.out 1).trans rfl⟩ (fun hHeld => ?_)
         clear hK K
         refine norm_ (a' := ?_) ?_ ?_
         rotate_left
         ·show Act.put _ (some 30) _ = _
          simp only [Act.put, List.setIfInBounds_toArray, List.set_cons_zero, List.set_cons_succ, i64_w, i32_w]
          rfl
         refine pz_ 11 4 (bm 12 4095) ?_
         refine done_ (done_of HT_.out (by kernel_rfl)) ?_
         try go_wp2
         go_ret
         exact ⟨_, qr_, by (with_reducible repeat (first | apply Kd.R_alloc | apply Kd.R_drewN | apply Kd.R_drew)); exact Kd.R_mono HO359.out (fun _ hk => trivial), qB_⟩
        ·rw [if_neg c35] at H
         exact absurd H (by simp)
       ·rw [if_neg c32] at H
        exact absurd H (by simp)
      ·rw [if_neg c31] at H
       exact absurd H (by simp)
     ·rw [if_neg c30] at H
      exact absurd H (by simp)
    ·rw [if_neg c29] at H
     exact absurd H (by simp)

end Go.Proofs.Ytacnlodcbbhahaa.QFnExactEdgesOf
