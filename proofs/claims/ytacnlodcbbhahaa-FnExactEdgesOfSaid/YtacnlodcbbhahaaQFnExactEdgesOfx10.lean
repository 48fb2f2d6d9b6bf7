-- printed for this claim by a program of the session's own (no text of the kit's print)
import Derived.Test.YtacnlodcbbhahaaQFnExactEdgesOfx0
import Derived.Test.YtacnlodcbbhahaaQFnExactEdgesOfx6
import Derived.Test.YtacnlodcbbhahaaQFnExactEdgesOfx7
import Derived.Test.YtacnlodcbbhahaaQFnExactEdgesOfx9
namespace Go.Proofs.Ytacnlodcbbhahaa.QFnExactEdgesOf
open Go.RowKit Go.Proofs.YtacnlodcbbhahaaW.PrintWords Go.Proofs.YtacnlodcbbhahaaW.PrintLast Go.Proofs.YtacnlodcbbhahaaW.PrintMore
attribute [local go_sem] max2_int min2_int max_two min_two max_three min_three max_four min_four   -- for this text's walks alone
set_option linter.unusedVariables false
set_option linter.unusedSimpArgs false
theorem now_x10 {P : Program} {ops : Array Oper} {Q : Exit → Act → World → Prop} {md : Region.Mode} {S : World → Prop} {ds : List Nat} {i : Nat} {N : Option Tmp} {oi : Oper} {v : Value} {fuel : Nat} {l : Array Bool} {a : Act} {w : World} (l' : Array Bool) (hi : ops[i]? = some oi) (hN : oi.dst = N) (hc : readyB md ops l l' i = true) (hd : i ∉ ds)
    (hy : YieldsIf P ops (fun w' => w' = w) oi v a) (hS : S w) {a' : Act} (ha : a.put N v = a')
    (h : wpAnyLast P md ops Q S ds fuel l' a' w) : wpAnyLast P md ops Q S ds (fuel + 1) l a w := by
  subst ha
  refine one_ l' hi hN hc hd (fun K hK => ?_)
  subst hN
  rcases hy with ⟨hw, hv⟩ | ⟨hw, rfl⟩
  · simp only [hw, if_true, Oper.wp, hv w rfl, Oper.upon]; exact hK.out _ _ hS (fun _ => h)
  · simp only [hw, Bool.false_eq_true, if_false]; exact hK.out _ _ hS (fun _ => h)


/-! ### impl_ForestOk: function 21 -/
mutual
def impl_ForestOk.l0 : Nat → List Int → List (List Int) → Int → Int → Int → List (List Int) → Option (Bool)
  | 0, _, _, _, _, _, _ => none
  | k + 1, x3, x14, x15, x16, x295000, x295001 => if x16 < x15 then (if 0 ≤ x16 then (if x16 < (x14.length : Int) then ((impl_TourOk.f k (rd_L1 x14 x16)).bind fun t297 => (if t297 = true then ((impl_VertsOf.f k (rd_L1 x14 x16)).bind fun t298 => (impl_ForestOk.l1 k x3 x16 t298 x14 x15 x16 t298 (t298.length : Int) 0 x295000 x295001)) else (some false))) else (none)) else (none)) else (some ((x3.length : Int) == x295000))
def impl_ForestOk.l1 : Nat → List Int → Int → List Int → List (List Int) → Int → Int → List Int → Int → Int → Int → List (List Int) → Option (Bool)
  | 0, _, _, _, _, _, _, _, _, _, _, _ => none
  | k + 1, x3, x4, x6, x14, x15, x16, x26, x27, x28, x295000, x295001 => if x28 < x27 then (if 0 ≤ x28 then (if x28 < (x26.length : Int) then (if (rd x26 x28) ≥ x295000 then (some false) else ((impl_hasInt.f k x3 (rd x26 x28)).bind fun t302 => (if t302 = true then (some false) else (impl_ForestOk.l1 k x3 x4 x6 x14 x15 x16 x26 x27 (wrap64 (x28 + 1)) x295000 x295001)))) else (none)) else (none)) else (if x3.length + x6.length < 17592186044416 then ((some (x3 ++ x6 : List Int)).bind fun y303 => (if x4 > 0 then (if 0 ≤ (wrap64 (x4 - 1)) then (if (wrap64 (x4 - 1)) < (x295001.length : Int) then ((impl_VertsOf.f k (rd_L1 x295001 (wrap64 (x4 - 1)))).bind fun t307 => (if 0 < (t307.length : Int) then (if 0 < (x6.length : Int) then (if (rd t307 0) ≥ (rd x6 0) then (some false) else (impl_ForestOk.l0 k y303 x14 x15 (wrap64 (x16 + 1)) x295000 x295001)) else (none)) else (none))) else (none)) else (none)) else (impl_ForestOk.l0 k y303 x14 x15 (wrap64 (x16 + 1)) x295000 x295001))) else (none))
end
def impl_ForestOk.f (k : Nat) (a0_0 : Int) (l0_1 : List (List Int)) : Option (Bool) := (impl_in.f a0_0 1 12).bind fun t295 => (if t295 = true then (impl_ForestOk.l0 k ([] : List Int) l0_1 (l0_1.length : Int) 0 a0_0 l0_1) else (some false))
theorem impl_ForestOk.mono_l : ∀ k, (∀ y0 y1 y2 y3 y4 y5, LeO (impl_ForestOk.l0 k y0 y1 y2 y3 y4 y5) (impl_ForestOk.l0 (k + 1) y0 y1 y2 y3 y4 y5)) ∧ (∀ y0 y1 y2 y3 y4 y5 y6 y7 y8 y9 y10, LeO (impl_ForestOk.l1 k y0 y1 y2 y3 y4 y5 y6 y7 y8 y9 y10) (impl_ForestOk.l1 (k + 1) y0 y1 y2 y3 y4 y5 y6 y7 y8 y9 y10))
  | 0 => ⟨fun _ _ _ _ _ _ r h => by simp [impl_ForestOk.l0] at h, fun _ _ _ _ _ _ _ _ _ _ _ r h => by simp [impl_ForestOk.l1] at h⟩
  | k + 1 => by
    obtain ⟨ih0, ih1⟩ := impl_ForestOk.mono_l k
    refine ⟨?_, ?_⟩ <;> (intros; first | unfold impl_ForestOk.l0 | unfold impl_ForestOk.l1) <;> repeat' first
    | (with_reducible exact ih0 _ _ _ _ _ _)
    | (with_reducible exact ih1 _ _ _ _ _ _ _ _ _ _ _)
    | (with_reducible exact impl_TourOk.mono _ _)
    | (with_reducible exact impl_VertsOf.mono _ _)
    | (with_reducible exact impl_hasInt.mono _ _ _)
    | (with_reducible exact LeO.refl _)
    | (with_reducible exact LeO.none _)
    | (with_reducible refine LeO.ite ?_ ?_)
    | (with_reducible refine LeO.bind ?_ (fun _ => ?_))
    | exact ih0 _ _ _ _ _ _
    | exact ih1 _ _ _ _ _ _ _ _ _ _ _
    | exact impl_TourOk.mono _ _
    | exact impl_VertsOf.mono _ _
    | exact impl_hasInt.mono _ _ _
    | exact LeO.none _
    | refine LeO.ite ?_ ?_
    | refine LeO.bind ?_ (fun _ => ?_)
theorem impl_ForestOk.mono : ∀ a0 a1 k, LeO (impl_ForestOk.f k a0 a1) (impl_ForestOk.f (k + 1) a0 a1) := by
  intro a0 a1 k
  obtain ⟨ih0, ih1⟩ := impl_ForestOk.mono_l k
  unfold impl_ForestOk.f
  repeat' first
      | (with_reducible exact ih0 _ _ _ _ _ _)
      | (with_reducible exact ih1 _ _ _ _ _ _ _ _ _ _ _)
      | (with_reducible exact impl_TourOk.mono _ _)
      | (with_reducible exact impl_VertsOf.mono _ _)
      | (with_reducible exact impl_hasInt.mono _ _ _)
      | (with_reducible exact LeO.refl _)
      | (with_reducible exact LeO.none _)
      | (with_reducible refine LeO.ite ?_ ?_)
      | (with_reducible refine LeO.bind ?_ (fun _ => ?_))
      | exact ih0 _ _ _ _ _ _
      | exact ih1 _ _ _ _ _ _ _ _ _ _ _
      | exact impl_TourOk.mono _ _
      | exact impl_VertsOf.mono _ _
      | exact impl_hasInt.mono _ _ _
      | exact LeO.none _
      | refine LeO.ite ?_ ?_
      | refine LeO.bind ?_ (fun _ => ?_)
def impl_ForestOk.T17 : Bool × List (List Nat × List Nat) := (true, [([], []), ([0], [0]), ([1], [1]), ([2], [2]), ([3, 2], [2, 3]), ([2], [2]), ([5, 2], [2, 5]), ([4, 6, 2], [2, 4, 6]), ([7, 2], [2, 7]), ([8, 2, 2], [2, 8]), ([9, 2], [2, 9]), ([10, 2], [2, 10]), ([2], [2]), ([12, 2], [2, 12]), ([13, 2], [2, 13]), ([11, 14, 2], [2, 11, 14]), ([2, 15], [2, 15])])
def impl_ForestOk.B17 : List Nat := [0, 1, 3, 7, 15, 7, 39, 127, 255, 511, 1023, 2047, 7, 4103, 12295, 32767, 65535]
theorem impl_ForestOk.tab17 : rtab .any (opsOf Try.f21 17) = impl_ForestOk.T17 := by kernel_rfl
theorem impl_ForestOk.bits17 : waitsOk impl_ForestOk.T17.2 impl_ForestOk.B17 = true := by kernel_rfl
set_option maxHeartbeats 8000000 in
set_option maxRecDepth 100000 in
theorem impl_ForestOk.calls (k : Nat) (a0_0 : Int) (A0_1 : Option Addr) (c0_1 : Nat) (l0_1 : List (List Int)) (r : Bool) (w : World) (hr0_1 : Kd.C (Kd.slice 3 (Kd.int .i64)) w A0_1 l0_1.length l0_1) (hc0_1 : l0_1.length ≤ c0_1) (h : impl_ForestOk.f k a0_0 l0_1 = some r) :
  Calls Try.prog 21 #[.agg #[.int .i64 a0_0, .slice A0_1 l0_1.length c0_1]] w fun e w' => e = .returned (.bool r) ∧ Below w.heap.size w w' := by
 have hu33 := Try.underlying33
 have HR0_1 := Aside0.mk hr0_1
 have HC0_1 := Aside0.mk hc0_1
 clear hr0_1 hc0_1
 have HB := Aside0.mk (Below.refl w.heap.size w)
 have H : ((impl_in.f a0_0 1 12).bind fun t295 => (if t295 = true then (impl_ForestOk.l0 k ([] : List Int) l0_1 (l0_1.length : Int) 0 a0_0 l0_1) else (some false))) = some r := h
 clear h
 obtain ⟨t295, A20, H⟩ := Option.bind_eq_some_iff.mp H; have A2 := Aside0.mk A20; clear A20
 by_cases c3 : t295 = true
 ·subst c3
  rw [if_pos rfl] at H; have H' := Aside0.mk H; clear H
  go_enter Try.func21, Try.ntmps21
  go_wp2_with (first | ((with_reducible refine gate_dst (N := 1) rfl ?_); refine bx_ 1 (cs := #[.int .i64 a0_0, .slice A0_1 l0_1.length c0_1]) (t := 33) ?_; intro gb294 hg w4 hbox hb; have BK294 := Aside0.mk (hbox); have GW294 := Aside0.mk ((qs_ : w.heap.size ≤ gb294)); have GE294 := Aside0.mk ((qs_ : w.heap.size ≤ gb294)); replace HB := Aside0.mk (below_step qB_ hb); clear hb hbox hg; obtain ⟨hcz5_0, hcz5_1, hfz5_0, hfz5_1⟩ := bc2_ BK294) | ((with_reducible refine gate_callee (f := 69) rfl ?_); refine gl_ (some 11) Try.func69 #[.int .i64 a0_0, .int .i64 1, .int .i64 12] ?_; (with_reducible refine (impl_in.calls a0_0 1 12 true _ A2.out).mono ?_); rintro e w' ⟨rfl, ⟨nd, rfl⟩⟩; refine ⟨_, rfl, ?_⟩))
  go_loopg [3, 16] k (fun kq v3 v16 w' => ∃ (x3_1 : List Int) (x16_1 : Int), v16 = .int .i64 x16_1 ∧ Aside0 (impl_ForestOk.l0 kq x3_1 l0_1 (l0_1.length : Int) x16_1 a0_0 l0_1 = some r) ∧ Aside0 (kq ≤ k) ∧ Aside0 (Kd.R (Kd.int .i64) 3 w' w.heap.size (fun _ => True) v3 x3_1) ∧ Aside0 (w'.heap[gb294]? = some (.cells #[.int .i64 a0_0, (.slice A0_1 l0_1.length c0_1)] 33 (0, 0))) ∧ Aside0 (Below w.heap.size w w'))
  case atStart => exact ⟨(([] : List Int)), (0), qe_, H', ⟨Nat.le_refl _⟩, ⟨by first | exact Kd.R_nil _ _ _ _ _ | exact Kd.N_nil _ _ _ _ _ | exact Kd.V_nil _ _ _ _ _ | exact Kd.Q_nil _ _ _ _ _ | exact Kd.S_nil _ _ _ _ _⟩, ⟨qk_ BK294⟩, ⟨qB_⟩⟩
  case round =>
   clear H'
   (try clear c2); (try clear p2); (try clear c3); (try clear hcz5_0); (try clear hcz5_1); (try clear hfz5_0); (try clear hfz5_1)
   obtain ⟨x3_1, x16_1, rfl, HA, HK1, HO_3, BK294, HB⟩ := hrel
   cases gk with
   | zero => exact absurd HA.out (by simp [impl_ForestOk.l0])
   | succ k1 =>
    have H := HA.out; clear HA
    simp only [impl_ForestOk.l0] at H
    by_cases c6 : x16_1 < (l0_1.length : Int)
    ·rw [if_pos c6] at H
     have c6b0 : decide (x16_1 < (l0_1.length : Int)) = true := decide_eq_true c6
     clear c6
     by_cases c7 : 0 ≤ x16_1
     ·rw [if_pos c7] at H
      have c7b0 : decide (0 ≤ x16_1) = true := decide_eq_true c7
      clear c7
      by_cases c8 : x16_1 < (l0_1.length : Int)
      ·rw [if_pos c8] at H
       have c8b0 : decide (x16_1 < (l0_1.length : Int)) = true := decide_eq_true c8
       clear c8
       obtain ⟨t297, A90, H⟩ := Option.bind_eq_some_iff.mp H; have A9 := Aside0.mk A90; clear A90
       by_cases c10 : t297 = true
       ·subst c10
        rw [if_pos rfl] at H
        obtain ⟨t298, A110, H⟩ := Option.bind_eq_some_iff.mp H; have A11 := Aside0.mk A110; clear A110
        have H' := Aside0.mk H; clear H
        have p296 : 0 ≤ (x16_1 : Int) := of_decide_eq_true qa_
        have q296 : x16_1 < (l0_1.length : Int) := of_decide_eq_true qa_
        obtain ⟨ad296, A296_0, c296_0, e296, hx296_0, hl296_0, hi296_0⟩ := at_L1 HR0_1.out x16_1 p296 q296
        cases e296
        replace hx296_0 := (HB.out.cell (World.block_lt_of_cell? w _ hx296_0)).trans hx296_0
        have HR296_0 := Aside0.mk hi296_0
        have HC296_0 := Aside0.mk hl296_0
        clear hi296_0 hl296_0; replace p296 := eq_true p296; replace q296 := eq_true q296
        go_wp2_with (first | ((with_reducible refine gate_callee (f := 70) rfl ?_); refine gl_ (some 22) Try.func70 #[.slice A296_0 (rd_L1 l0_1 x16_1).length c296_0] ?_; (with_reducible refine (impl_TourOk.calls k1 _ _ (rd_L1 l0_1 x16_1) true _ ?side1 ?side2 A9.out).mono ?_); (case side1 => exact qC_ HR296_0 HB); (case side2 => exact HC296_0.out); rintro e w12 ⟨rfl, hb⟩; refine ⟨_, rfl, ?_⟩; replace HO_3 := Aside0.mk (Kd.R_below (qR_ HO_3) hb); replace BK294 := Aside0.mk (blk_below (qk_ BK294) hb); replace HB := Aside0.mk (below_step qB_ hb); (try clear hb); (try clear hb2); (try clear hk); (try clear hi)) | ((with_reducible refine gate_callee (f := 71) rfl ?_); refine gl_ (some 25) Try.func71 #[.slice A296_0 (rd_L1 l0_1 x16_1).length c296_0] ?_; (with_reducible refine (impl_VertsOf.calls k1 _ _ (rd_L1 l0_1 x16_1) t298 _ ?side1 ?side2 A11.out).mono ?_); (case side1 => exact qC_ HR296_0 HB); (case side2 => exact HC296_0.out); rintro e w13 ⟨v299, rfl, ho0, hb⟩; refine ⟨_, rfl, ?_⟩; have HO300 := Aside0.mk (Kd.R_lower (Kd.R_new' ho0 (Kd.R_lt (qR_ HO_3))) (below_size qB_)); replace HO_3 := Aside0.mk (Kd.R_elder' (qR_ HO_3) (Kd.R_base ho0) hb); replace BK294 := Aside0.mk (blk_below (qk_ BK294) hb); replace HB := Aside0.mk (below_step qB_ hb); (try clear hb); (try clear hb2); (try clear hk); (try clear hi); (try clear ho0); obtain ⟨Ao14, co14, eo14⟩ := Kd.R_slice HO300.out; subst eo14))
        go_loopg [28] k1 (fun kq v28 w' => ∃ (x28_2 : Int), v28 = .int .i64 x28_2 ∧ Aside0 (impl_ForestOk.l1 kq x3_1 x16_1 t298 l0_1 (l0_1.length : Int) x16_1 t298 (t298.length : Int) x28_2 a0_0 l0_1 = some r) ∧ Aside0 (kq ≤ k1) ∧ Aside0 (Kd.R (Kd.int .i64) 3 w' w.heap.size (fun k_ => some k_ ≠ ((.slice Ao14 t298.length co14) : Value).ownBlock ∧ some k_ ≠ ((.slice Ao14 t298.length co14) : Value).ownBlock) u3 x3_1) ∧ Aside0 (Kd.R (Kd.int .i64) 3 w' w.heap.size (fun k_ => some k_ ≠ (u3 : Value).ownBlock) (.slice Ao14 t298.length co14) t298) ∧ Aside0 (Kd.R (Kd.int .i64) 3 w' w.heap.size (fun k_ => some k_ ≠ (u3 : Value).ownBlock) (.slice Ao14 t298.length co14) t298) ∧ Aside0 (w'.heap[gb294]? = some (.cells #[.int .i64 a0_0, (.slice (some ad296) l0_1.length c0_1)] 33 (0, 0))) ∧ Aside0 (Below w.heap.size w w'))
        case atStart => exact ⟨(0), qe_, H', ⟨Nat.le_refl _⟩, ⟨by (with_reducible repeat (first | apply Kd.R_alloc | apply Kd.R_drewN | apply Kd.R_drew)); exact Kd.R_mono HO_3.out (fun _ hk => ⟨hk.2, hk.2⟩)⟩, ⟨by (with_reducible repeat (first | apply Kd.R_alloc | apply Kd.R_drewN | apply Kd.R_drew)); exact Kd.R_mono HO300.out (fun _ hk => hk.2)⟩, ⟨by (with_reducible repeat (first | apply Kd.R_alloc | apply Kd.R_drewN | apply Kd.R_drew)); exact Kd.R_mono HO300.out (fun _ hk => hk.2)⟩, ⟨qk_ BK294⟩, ⟨qB_⟩⟩
        case round =>
         clear H'
         (try clear c1); (try clear c2); (try clear p2); (try clear q2); (try clear hx2); (try clear c3); (try clear c6); (try clear c6b0); (try clear c7); (try clear c7b0); (try clear c8); (try clear c8b0); (try clear c10); (try clear hcz5_0); (try clear hcz5_1); (try clear hfz5_0); (try clear hfz5_1); (try clear hx296_0); (try clear p2); (try clear p296); (try clear q296)
         obtain ⟨x28_2, rfl, HA, HK2, HO_3, HO_6, HO_26, BK294, HB⟩ := hrel
         cases gk with
         | zero => exact absurd HA.out (by simp [impl_ForestOk.l1])
         | succ k2 =>
          have H := HA.out; clear HA
          simp only [impl_ForestOk.l1] at H
          by_cases c15 : x28_2 < (t298.length : Int)
          ·rw [if_pos c15] at H
           have c15b0 : decide (x28_2 < (t298.length : Int)) = true := decide_eq_true c15
           clear c15
           by_cases c16 : 0 ≤ x28_2
           ·rw [if_pos c16] at H
            have c16b0 : decide (0 ≤ x28_2) = true := decide_eq_true c16
            clear c16
            by_cases c17 : x28_2 < (t298.length : Int)
            ·rw [if_pos c17] at H
             have c17b0 : decide (x28_2 < (t298.length : Int)) = true := decide_eq_true c17
             clear c17
             by_cases c18 : (rd t298 x28_2) ≥ a0_0
             ·rw [if_pos c18] at H
              have c18b0 : decide (a0_0 ≤ (rd t298 x28_2)) = true := decide_eq_true c18
              clear c18
              obtain rfl := Option.some.inj H
              have p301 : 0 ≤ (x28_2 : Int) := of_decide_eq_true qa_
              have q301 : x28_2 < (t298.length : Int) := of_decide_eq_true qa_
              obtain ⟨ad301, e301, hx301_0⟩ := Kd.at_int (Kd.R_reads' HO_26.out).2.2 x28_2 p301 q301
              cases e301; replace p301 := eq_true p301; replace q301 := eq_true q301
              obtain ⟨hcz19_0, hcz19_1, hfz19_0, hfz19_1⟩ := bc2_ BK294
              go_wp2
              go_ret
              exact ⟨qr_, qB_⟩
             ·rw [if_neg c18] at H
              have c18b0 : decide (a0_0 ≤ (rd t298 x28_2)) = false := decide_eq_false c18
              clear c18
              obtain ⟨t302, A200, H⟩ := Option.bind_eq_some_iff.mp H; have A20 := Aside0.mk A200; clear A200
              by_cases c21 : t302 = true
              ·subst c21
               rw [if_pos rfl] at H
               obtain rfl := Option.some.inj H
               have p301 : 0 ≤ (x28_2 : Int) := of_decide_eq_true qa_
               have q301 : x28_2 < (t298.length : Int) := of_decide_eq_true qa_
               obtain ⟨ad301, e301, hx301_0⟩ := Kd.at_int (Kd.R_reads' HO_26.out).2.2 x28_2 p301 q301
               cases e301; replace p301 := eq_true p301; replace q301 := eq_true q301
               obtain ⟨hcz22_0, hcz22_1, hfz22_0, hfz22_1⟩ := bc2_ BK294
               obtain ⟨Ao23, co23, eo23⟩ := Kd.R_slice HO_3.out
               subst eo23
               go_wp2_with (first | (go_at_call 72; (with_reducible refine (impl_hasInt.calls k2 _ _ x3_1 (rd t298 x28_2) true _ ?side1 ?side2 A20.out).mono ?_); (case side1 => exact qD_ (Kd.R_reads' HO_3.out).2.2); (case side2 => exact (Kd.R_reads' HO_3.out).2.1); rintro e w' ⟨rfl, ⟨nd, rfl⟩⟩))
               go_ret
               exact ⟨qr_, qB_⟩
              ·replace c21 := Bool.eq_false_iff.mpr c21
               subst c21
               rw [if_neg (show ¬ (false = true) by decide)] at H; have H' := Aside0.mk H; clear H
               have p301 : 0 ≤ (x28_2 : Int) := of_decide_eq_true qa_
               have q301 : x28_2 < (t298.length : Int) := of_decide_eq_true qa_
               obtain ⟨ad301, e301, hx301_0⟩ := Kd.at_int (Kd.R_reads' HO_26.out).2.2 x28_2 p301 q301
               cases e301; replace p301 := eq_true p301; replace q301 := eq_true q301
               obtain ⟨hcz24_0, hcz24_1, hfz24_0, hfz24_1⟩ := bc2_ BK294
               obtain ⟨Ao25, co25, eo25⟩ := Kd.R_slice HO_3.out
               subst eo25
               go_wp2_with (first | (go_at_call 72; (with_reducible refine (impl_hasInt.calls k2 _ _ x3_1 (rd t298 x28_2) false _ ?side1 ?side2 A20.out).mono ?_); (case side1 => exact qD_ (Kd.R_reads' HO_3.out).2.2); (case side2 => exact (Kd.R_reads' HO_3.out).2.1); rintro e w' ⟨rfl, ⟨nd, rfl⟩⟩))
               go_roundg k2
               case measure => have := HK1.out; have := HK2.out; omega
               case rel => exact ⟨(wrap64 (x28_2 + 1)), qe_, H', ⟨by have := HK1.out; have := HK2.out; omega⟩, ⟨by (with_reducible repeat (first | apply Kd.R_alloc | apply Kd.R_drewN | apply Kd.R_drew)); first | exact HO_3.out | (have h_ := HO_3.out; simp only [own_slice] at h_ ⊢; exact h_)⟩, ⟨by (with_reducible repeat (first | apply Kd.R_alloc | apply Kd.R_drewN | apply Kd.R_drew)); first | exact HO_6.out | (have h_ := HO_6.out; simp only [own_slice] at h_ ⊢; exact h_)⟩, ⟨by (with_reducible repeat (first | apply Kd.R_alloc | apply Kd.R_drewN | apply Kd.R_drew)); first | exact HO_26.out | (have h_ := HO_26.out; simp only [own_slice] at h_ ⊢; exact h_)⟩, ⟨qk_ BK294⟩, ⟨qB_⟩⟩
            ·rw [if_neg c17] at H
             exact absurd H (by simp)
           ·rw [if_neg c16] at H
            exact absurd H (by simp)
          ·rw [if_neg c15] at H
           have c15b0 : decide (x28_2 < (t298.length : Int)) = false := decide_eq_false c15
           clear c15
           by_cases c26 : x3_1.length + t298.length < 17592186044416
           ·rw [if_pos c26] at H
            have LMc26 := Aside0.mk c26
            clear c26
            obtain ⟨y303, hy303⟩ : ∃ y_ : List Int, y_ = (x3_1 ++ t298) := ⟨_, rfl⟩
            replace H : (if x16_1 > 0 then (if 0 ≤ (wrap64 (x16_1 - 1)) then (if (wrap64 (x16_1 - 1)) < (l0_1.length : Int) then ((impl_VertsOf.f k2 (rd_L1 l0_1 (wrap64 (x16_1 - 1)))).bind fun t307 => (if 0 < (t307.length : Int) then (if 0 < (t298.length : Int) then (if (rd t307 0) ≥ (rd t298 0) then (some false) else (impl_ForestOk.l0 k2 y303 l0_1 (l0_1.length : Int) (wrap64 (x16_1 + 1)) a0_0 l0_1)) else (none)) else (none))) else (none)) else (none)) else (impl_ForestOk.l0 k2 y303 l0_1 (l0_1.length : Int) (wrap64 (x16_1 + 1)) a0_0 l0_1)) = some r := by first | (rw [hy303]; with_reducible exact H) | (have H2_ := (Option.bind_some _ _).symm.trans H; rw [hy303]; with_reducible exact H2_) | (have H2_ := (Option.bind_some _ _).symm.trans H; with_reducible exact H2_) | with_reducible exact H | (rw [hy303]; exact H) | exact H
            have Ny303 := Aside0.mk hy303
            clear hy303
            by_cases c27 : x16_1 > 0
            ·rw [if_pos c27] at H
             have c27b0 : decide (0 < x16_1) = true := decide_eq_true c27
             clear c27
             obtain ⟨ji28, hji28⟩ : ∃ j_ : Int, (wrap64 (x16_1 - 1)) = j_ := ⟨_, rfl⟩
             first | rw [hji28] at H | simp only [hji28] at H
             have hji28w : (IntKind.i64.wrap (x16_1 - 1)) = ji28 := (i64_w _).trans hji28
             by_cases c29 : 0 ≤ (ji28)
             ·rw [if_pos c29] at H
              have c29b0 : decide (0 ≤ (ji28)) = true := decide_eq_true c29
              clear c29
              by_cases c30 : (ji28) < (l0_1.length : Int)
              ·rw [if_pos c30] at H
               have c30b0 : decide ((ji28) < (l0_1.length : Int)) = true := decide_eq_true c30
               clear c30
               obtain ⟨t307, A310, H⟩ := Option.bind_eq_some_iff.mp H; have A31 := Aside0.mk A310; clear A310
               by_cases c32 : 0 < (t307.length : Int)
               ·rw [if_pos c32] at H
                have c32b0 : decide (0 < (t307.length : Int)) = true := decide_eq_true c32
                have c32b1 : decide (0 < t307.length) = true := decide_eq_true (by omega)
                clear c32
                by_cases c33 : 0 < (t298.length : Int)
                ·rw [if_pos c33] at H
                 have c33b0 : decide (0 < (t298.length : Int)) = true := decide_eq_true c33
                 have c33b1 : decide (0 < t298.length) = true := decide_eq_true (by omega)
                 clear c33
                 by_cases c34 : (rd t307 0) ≥ (rd t298 0)
                 ·rw [if_pos c34] at H
                  have c34b0 : decide ((rd t298 0) ≤ (rd t307 0)) = true := decide_eq_true c34
                  clear c34
                  obtain rfl := Option.some.inj H
                  try go_wp2_with (first | ((with_reducible refine gate_builtin (b := .append) (xs := #[.tmp 42, .tmp 43]) rfl ?_); at_builtin; refine Kd.R_append_rows (Kd.int .i64) (w0 := w) w.heap.size rfl (.tmp 42) (.tmp 43) 40 3 (.int .i64 0) 8 rfl Try.underlying40 info3 rfl (by decide) (by omega) u3 x3_1 t298 _ _ _ (fun k_ => some k_ ≠ (.slice Ao14 t298.length co14 : Value).ownBlock ∧ some k_ ≠ (.slice Ao14 t298.length co14 : Value).ownBlock) (fun _ => False) rfl rfl ?aO ?aR (fun _ _ h => h) (fun _ h => h.elim) ?aF ?aB ?aS ?aL ?_; (case aR => repeat (first | exact (Kd.R_reads' HO_6.out).2.2 | (with_reducible refine Kd.C_alloc ?_ _) | (with_reducible refine Kd.C_drewN ?_ _) | (with_reducible refine Kd.C_drew ?_))); (case aB => exact qB_); (case aF => exact (fun k_ hk => ⟨Kd.fresh' (Kd.R_lt (qR_ HO_6)) k_ hk, Kd.fresh' (Kd.R_lt (qR_ HO_26)) k_ hk⟩)); (case aO => exact (qR_ HO_3)); (case aS => exact (below_size qB_)); (case aL => have := LMc26.out; omega); intro v304 w35 ho hb hg hat; rw [← Ny303.out] at ho; have HO305 := Aside0.mk (ho); replace HO_6 := Aside0.mk (Kd.R_after (ok := (fun _ => True)) (by (with_reducible repeat (first | apply Kd.R_alloc | apply Kd.R_drewN | apply Kd.R_drew)); exact Kd.R_mono HO_6.out (fun _ hk => ⟨trivial, hk⟩)) hg hat); replace HO_26 := Aside0.mk (Kd.R_after (ok := (fun _ => True)) (by (with_reducible repeat (first | apply Kd.R_alloc | apply Kd.R_drewN | apply Kd.R_drew)); exact Kd.R_mono HO_26.out (fun _ hk => ⟨trivial, hk⟩)) hg hat); replace BK294 := Aside0.mk (blk_grown (qk_ BK294) hg (Kd.R_ne HO_3.out BK294.out (by decide))); replace HB := Aside0.mk (hb); clear HO_3; clear ho hb hg hat))
                  have n0_ := Aside0.mk (Kd.R_drew HO_6.out)
                  have n1_ := Aside0.mk (Kd.R_drew HO_26.out)
                  have n2_ := Aside0.mk (Kd.R_drew HO305.out)
                  have n3_ := Aside0.mk (blk_drew BK294.out)
                  have n4_ := Aside0.mk (below_drew1 HB.out)
                  clear HO_6; clear HO_26; clear HO305; clear BK294; clear HB; have HO_6 := n0_; have HO_26 := n1_; have HO305 := n2_; have BK294 := n3_; have HB := n4_; clear n0_ n1_ n2_ n3_ n4_
                  have p306 : 0 ≤ ((ji28) : Int) := of_decide_eq_true qa_
                  have q306 : (ji28) < (l0_1.length : Int) := of_decide_eq_true qa_
                  obtain ⟨ad306, A306_0, c306_0, e306, hx306_0, hl306_0, hi306_0⟩ := at_L1 HR0_1.out (ji28) p306 q306
                  have hw306_0 := hx306_0
                  obtain rfl : ad296 = ad306 := (by injection e306)
                  replace hx306_0 := (HB.out.cell (World.block_lt_of_cell? w _ hx306_0)).trans hx306_0
                  have HR306_0 := Aside0.mk hi306_0
                  have HC306_0 := Aside0.mk hl306_0
                  clear hi306_0 hl306_0; replace p306 := eq_true p306; replace q306 := eq_true q306
                  have p311 : 0 ≤ (0 : Int) := (by omega)
                  have q311 : 0 < (t298.length : Int) := of_decide_eq_true qa_
                  obtain ⟨ad311, e311, hx311_0⟩ := Kd.at_int (Kd.R_reads' HO_6.out).2.2 0 p311 q311
                  cases e311
                  have qi311 : (0 < t298.length) = True := eq_true (by omega)
                  (try rw [show ((0 : Int)).toNat = 0 from rfl] at hx311_0)
                  (try rw [Addr.add_zero'] at hx311_0)
                  replace p311 := eq_true p311; replace q311 := eq_true q311
                  refine start_ (n := 17) (S := fun w' => w'.cell? ⟨gb294, 0, none⟩ = some (.int .i64 a0_0) ∧ w'.cell? ⟨gb294, 1, none⟩ = some (.slice (some ad296) l0_1.length c0_1) ∧ w'.cell? (ad296.add ((ji28)).toNat) = some (.slice A306_0 (rd_L1 l0_1 (ji28)).length c306_0) ∧ w'.cell? ad311 = some (.int .i64 (rd t298 0))) (ds := []) (bm 17 0) (by kernel_rfl) rfl (by kernel_rfl) ⟨(blk_cell BK294.out 0).trans rfl, (blk_cell BK294.out 1).trans rfl, ((HB.out.cell (World.block_lt_of_cell? w _ hw306_0)).trans hw306_0), hx311_0⟩ (fun hHeld => ?_); refine with_tabW impl_ForestOk.tab17 impl_ForestOk.bits17 (fun HT_ HW_ => ?_)
                  generalize w35.drew = w36 at HO_6 HO_26 HO305 BK294 HB HR306_0 hx306_0 hx311_0 hHeld ⊢
                  refine pz_ 0 45 (bm 17 1) ?_; refine pz_ 1 46 (bm 17 3) ?_; refine pz_ 2 47 (bm 17 7) ?_; refine pz_ 3 48 (bm 17 15) ?_; refine pz_ 5 50 (bm 17 47) ?_; refine pz_ 6 51 (bm 17 111) ?_; refine pz_ 12 57 (bm 17 4207) ?_; refine pz_ 13 58 (bm 17 12399) ?_; refine tz4_ 4 49 (bm 17 12415) ?_; refine pz_ 7 52 (bm 17 12543) ?_; refine tz4_ 8 53 (bm 17 12799) ?_; refine tz4_ 14 59 (bm 17 29183) ?_
                  refine one_ (i := 9) (N := some 54) (bm 17 29695) rfl rfl (one_of HT_.out (by kernel_rfl)) (by decide) (fun K hK => ?_)
                  refine goes_ Try.func71 (by kernel_rfl) rfl #[.slice A306_0 (rd_L1 l0_1 (ji28)).length c306_0] (by rfl) rfl rfl (by (try simp only [List.map_toArray, List.map_cons, List.map_nil]); first | done | (simp only [hji28]; rfl) | rfl | (simp only [List.length_drop, List.length_take]; rfl)) ?_
                  with_reducible refine (impl_VertsOf.calls k2 _ _ (rd_L1 l0_1 (ji28)) t307 _ ?side1 ?side2 A31.out).mono ?_
                  (case side1 => exact qC_ HR306_0 HB)
                  (case side2 => exact HC306_0.out)
                  rintro e w37 ⟨v308, rfl, ho0, hb⟩
                  have HS3_ := (hb.cell (World.block_lt_of_cell? _ _ (hHeld.2.2.2))).trans (hHeld.2.2.2)

                  refine ⟨_, rfl, ?_⟩
                  have n0_ := Aside0.mk (Kd.R_elder' (qR_ HO_6) (Kd.R_base ho0) hb)
                  have n1_ := Aside0.mk (Kd.R_elder' (qR_ HO_26) (Kd.R_base ho0) hb)
                  have n2_ := Aside0.mk (Kd.R_elder' (qR_ HO305) (Kd.R_base ho0) hb)
                  have n3_ := Aside0.mk (Kd.R_lower (Kd.R_new' (Kd.R_new' (Kd.R_new' ho0 (Kd.R_lt (qR_ HO_6))) (Kd.R_lt (qR_ HO_26))) (Kd.R_lt (qR_ HO305))) (below_size qB_))
                  have n4_ := Aside0.mk (blk_below (qk_ BK294) hb)
                  have n5_ := Aside0.mk (below_step qB_ hb)
                  clear HO_6; clear HO_26; clear HO305; clear BK294; clear HB; have HO_6 := n0_; have HO_26 := n1_; have HO305 := n2_; have HO309 := n3_; have BK294 := n4_; have HB := n5_; clear n0_ n1_ n2_ n3_ n4_ n5_; (try clear hb); (try clear hb2); (try clear hk); (try clear hi); (try clear ho0)
                  obtain ⟨Ao38, co38, eo38⟩ := Kd.R_slice HO309.out
                  (first | subst eo38 | (injection eo38 with f1_ f2_ f3_; have f4_ := f1_.symm; have f5_ := f3_.symm; clear f1_ f2_ f3_; subst f4_; subst f5_))
                  have p310 : 0 ≤ (0 : Int) := (by omega)
                  have q310 : 0 < (t307.length : Int) := of_decide_eq_true qa_
                  obtain ⟨ad310, e310, hx310_0⟩ := Kd.at_int (Kd.R_reads' HO309.out).2.2 0 p310 q310
                  cases e310
                  have qi310 : (0 < t307.length) = True := eq_true (by omega)
                  (try rw [show ((0 : Int)).toNat = 0 from rfl] at hx310_0)
                  (try rw [Addr.add_zero'] at hx310_0)
                  replace p310 := eq_true p310; replace q310 := eq_true q310
                  refine hK.out _ _ ⟨(blk_cell BK294.out 0).trans rfl, (blk_cell BK294.out 1).trans rfl, ((HB.out.cell (World.block_lt_of_cell? w _ hw306_0)).trans hw306_0), HS3_⟩ (fun hHeld => ?_)
                  clear hK K
                  refine norm_ (a' := ?_) ?_ ?_
                  rotate_left
                  ·show Act.put _ (some 54) _ = _
                   simp only [Act.put, List.setIfInBounds_toArray, List.set_cons_zero, List.set_cons_succ, i64_w, i32_w]
                   rfl
                  refine pz_ 10 55 (bm 17 30719) ?_
                  refine now_x10 (i := 11) (N := some 56) (v := ?_) (a' := ?_) (bm 17 32767) rfl rfl (one_of HT_.out (by kernel_rfl)) (by decide) (Or.inl ⟨by rfl, ?_⟩) hHeld ?_ ?_
                  rotate_left
                  ·rintro w' rfl
                   go_simp
                   with_reducible rfl
                  rotate_left
                  ·simp only [Act.put, List.setIfInBounds_toArray, List.set_cons_zero, List.set_cons_succ, i64_w, i32_w]
                   rfl
                  refine pz_ 15 60 (bm 17 65535) ?_; refine pz_ 16 61 (bm 17 131071) ?_
                  refine done_ (done_of HT_.out (by kernel_rfl)) ?_
                  try go_wp2
                  go_ret
                  exact ⟨by first | rfl | (simp [errW_none, errW_some] <;> rfl) | (simp only [← hji28]; first | rfl | (simp [errW_none, errW_some] <;> rfl)) | (simp [*, errW_none, errW_some] <;> rfl), qB_⟩
                 ·rw [if_neg c34] at H
                  have c34b0 : decide ((rd t298 0) ≤ (rd t307 0)) = false := decide_eq_false c34
                  clear c34; have H' := Aside0.mk H; clear H
                  try go_wp2_with (first | ((with_reducible refine gate_builtin (b := .append) (xs := #[.tmp 42, .tmp 43]) rfl ?_); at_builtin; refine Kd.R_append_rows (Kd.int .i64) (w0 := w) w.heap.size rfl (.tmp 42) (.tmp 43) 40 3 (.int .i64 0) 8 rfl Try.underlying40 info3 rfl (by decide) (by omega) u3 x3_1 t298 _ _ _ (fun k_ => some k_ ≠ (.slice Ao14 t298.length co14 : Value).ownBlock ∧ some k_ ≠ (.slice Ao14 t298.length co14 : Value).ownBlock) (fun _ => False) rfl rfl ?aO ?aR (fun _ _ h => h) (fun _ h => h.elim) ?aF ?aB ?aS ?aL ?_; (case aR => repeat (first | exact (Kd.R_reads' HO_6.out).2.2 | (with_reducible refine Kd.C_alloc ?_ _) | (with_reducible refine Kd.C_drewN ?_ _) | (with_reducible refine Kd.C_drew ?_))); (case aB => exact qB_); (case aF => exact (fun k_ hk => ⟨Kd.fresh' (Kd.R_lt (qR_ HO_6)) k_ hk, Kd.fresh' (Kd.R_lt (qR_ HO_26)) k_ hk⟩)); (case aO => exact (qR_ HO_3)); (case aS => exact (below_size qB_)); (case aL => have := LMc26.out; omega); intro v304 w39 ho hb hg hat; rw [← Ny303.out] at ho; have HO305 := Aside0.mk (ho); replace HO_6 := Aside0.mk (Kd.R_after (ok := (fun _ => True)) (by (with_reducible repeat (first | apply Kd.R_alloc | apply Kd.R_drewN | apply Kd.R_drew)); exact Kd.R_mono HO_6.out (fun _ hk => ⟨trivial, hk⟩)) hg hat); replace HO_26 := Aside0.mk (Kd.R_after (ok := (fun _ => True)) (by (with_reducible repeat (first | apply Kd.R_alloc | apply Kd.R_drewN | apply Kd.R_drew)); exact Kd.R_mono HO_26.out (fun _ hk => ⟨trivial, hk⟩)) hg hat); replace BK294 := Aside0.mk (blk_grown (qk_ BK294) hg (Kd.R_ne HO_3.out BK294.out (by decide))); replace HB := Aside0.mk (hb); clear HO_3; clear ho hb hg hat))
                  have n0_ := Aside0.mk (Kd.R_drew HO_6.out)
                  have n1_ := Aside0.mk (Kd.R_drew HO_26.out)
                  have n2_ := Aside0.mk (Kd.R_drew HO305.out)
                  have n3_ := Aside0.mk (blk_drew BK294.out)
                  have n4_ := Aside0.mk (below_drew1 HB.out)
                  clear HO_6; clear HO_26; clear HO305; clear BK294; clear HB; have HO_6 := n0_; have HO_26 := n1_; have HO305 := n2_; have BK294 := n3_; have HB := n4_; clear n0_ n1_ n2_ n3_ n4_
                  have p306 : 0 ≤ ((ji28) : Int) := of_decide_eq_true qa_
                  have q306 : (ji28) < (l0_1.length : Int) := of_decide_eq_true qa_
                  obtain ⟨ad306, A306_0, c306_0, e306, hx306_0, hl306_0, hi306_0⟩ := at_L1 HR0_1.out (ji28) p306 q306
                  have hw306_0 := hx306_0
                  obtain rfl : ad296 = ad306 := (by injection e306)
                  replace hx306_0 := (HB.out.cell (World.block_lt_of_cell? w _ hx306_0)).trans hx306_0
                  have HR306_0 := Aside0.mk hi306_0
                  have HC306_0 := Aside0.mk hl306_0
                  clear hi306_0 hl306_0; replace p306 := eq_true p306; replace q306 := eq_true q306
                  have p311 : 0 ≤ (0 : Int) := (by omega)
                  have q311 : 0 < (t298.length : Int) := of_decide_eq_true qa_
                  obtain ⟨ad311, e311, hx311_0⟩ := Kd.at_int (Kd.R_reads' HO_6.out).2.2 0 p311 q311
                  cases e311
                  have qi311 : (0 < t298.length) = True := eq_true (by omega)
                  (try rw [show ((0 : Int)).toNat = 0 from rfl] at hx311_0)
                  (try rw [Addr.add_zero'] at hx311_0)
                  replace p311 := eq_true p311; replace q311 := eq_true q311
                  refine start_ (n := 17) (S := fun w' => w'.cell? ⟨gb294, 0, none⟩ = some (.int .i64 a0_0) ∧ w'.cell? ⟨gb294, 1, none⟩ = some (.slice (some ad296) l0_1.length c0_1) ∧ w'.cell? (ad296.add ((ji28)).toNat) = some (.slice A306_0 (rd_L1 l0_1 (ji28)).length c306_0) ∧ w'.cell? ad311 = some (.int .i64 (rd t298 0))) (ds := []) (bm 17 0) (by kernel_rfl) rfl (by kernel_rfl) ⟨(blk_cell BK294.out 0).trans rfl, (blk_cell BK294.out 1).trans rfl, ((HB.out.cell (World.block_lt_of_cell? w _ hw306_0)).trans hw306_0), hx311_0⟩ (fun hHeld => ?_); refine with_tabW impl_ForestOk.tab17 impl_ForestOk.bits17 (fun HT_ HW_ => ?_)
                  generalize w39.drew = w40 at HO_6 HO_26 HO305 BK294 HB HR306_0 hx306_0 hx311_0 hHeld ⊢
                  refine pz_ 0 45 (bm 17 1) ?_; refine pz_ 1 46 (bm 17 3) ?_; refine pz_ 2 47 (bm 17 7) ?_; refine pz_ 3 48 (bm 17 15) ?_; refine pz_ 5 50 (bm 17 47) ?_; refine pz_ 6 51 (bm 17 111) ?_; refine pz_ 12 57 (bm 17 4207) ?_; refine pz_ 13 58 (bm 17 12399) ?_; refine tz4_ 4 49 (bm 17 12415) ?_; refine pz_ 7 52 (bm 17 12543) ?_; refine tz4_ 8 53 (bm 17 12799) ?_; refine tz4_ 14 59 (bm 17 29183) ?_
                  refine one_ (i := 9) (N := some 54) (bm 17 29695) rfl rfl (one_of HT_.out (by kernel_rfl)) (by decide) (fun K hK => ?_)
                  refine goes_ Try.func71 (by kernel_rfl) rfl #[.slice A306_0 (rd_L1 l0_1 (ji28)).length c306_0] (by rfl) rfl rfl (by (try simp only [List.map_toArray, List.map_cons, List.map_nil]); first | done | (simp only [hji28]; rfl) | rfl | (simp only [List.length_drop, List.length_take]; rfl)) ?_
                  with_reducible refine (impl_VertsOf.calls k2 _ _ (rd_L1 l0_1 (ji28)) t307 _ ?side1 ?side2 A31.out).mono ?_
                  (case side1 => exact qC_ HR306_0 HB)
                  (case side2 => exact HC306_0.out)
                  rintro e w41 ⟨v308, rfl, ho0, hb⟩
                  have HS3_ := (hb.cell (World.block_lt_of_cell? _ _ (hHeld.2.2.2))).trans (hHeld.2.2.2)

                  refine ⟨_, rfl, ?_⟩
                  have n0_ := Aside0.mk (Kd.R_elder' (qR_ HO_6) (Kd.R_base ho0) hb)
                  have n1_ := Aside0.mk (Kd.R_elder' (qR_ HO_26) (Kd.R_base ho0) hb)
                  have n2_ := Aside0.mk (Kd.R_elder' (qR_ HO305) (Kd.R_base ho0) hb)
                  have n3_ := Aside0.mk (Kd.R_lower (Kd.R_new' (Kd.R_new' (Kd.R_new' ho0 (Kd.R_lt (qR_ HO_6))) (Kd.R_lt (qR_ HO_26))) (Kd.R_lt (qR_ HO305))) (below_size qB_))
                  have n4_ := Aside0.mk (blk_below (qk_ BK294) hb)
                  have n5_ := Aside0.mk (below_step qB_ hb)
                  clear HO_6; clear HO_26; clear HO305; clear BK294; clear HB; have HO_6 := n0_; have HO_26 := n1_; have HO305 := n2_; have HO309 := n3_; have BK294 := n4_; have HB := n5_; clear n0_ n1_ n2_ n3_ n4_ n5_; (try clear hb); (try clear hb2); (try clear hk); (try clear hi); (try clear ho0)
                  obtain ⟨Ao42, co42, eo42⟩ := Kd.R_slice HO309.out
                  (first | subst eo42 | (injection eo42 with f1_ f2_ f3_; have f4_ := f1_.symm; have f5_ := f3_.symm; clear f1_ f2_ f3_; subst f4_; subst f5_))
                  have p310 : 0 ≤ (0 : Int) := (by omega)
                  have q310 : 0 < (t307.length : Int) := of_decide_eq_true qa_
                  obtain ⟨ad310, e310, hx310_0⟩ := Kd.at_int (Kd.R_reads' HO309.out).2.2 0 p310 q310
                  cases e310
                  have qi310 : (0 < t307.length) = True := eq_true (by omega)
                  (try rw [show ((0 : Int)).toNat = 0 from rfl] at hx310_0)
                  (try rw [Addr.add_zero'] at hx310_0)
                  replace p310 := eq_true p310; replace q310 := eq_true q310
                  refine hK.out _ _ ⟨(blk_cell BK294.out 0).trans rfl, (blk_cell BK294.out 1).trans rfl, ((HB.out.cell (World.block_lt_of_cell? w _ hw306_0)).trans hw306_0), HS3_⟩ (fun hHeld => ?_)
                  clear hK K
                  refine norm_ (a' := ?_) ?_ ?_
                  rotate_left
                  ·show Act.put _ (some 54) _ = _
                   simp only [Act.put, List.setIfInBounds_toArray, List.set_cons_zero, List.set_cons_succ, i64_w, i32_w]
                   rfl
                  refine pz_ 10 55 (bm 17 30719) ?_
                  refine now_x10 (i := 11) (N := some 56) (v := ?_) (a' := ?_) (bm 17 32767) rfl rfl (one_of HT_.out (by kernel_rfl)) (by decide) (Or.inl ⟨by rfl, ?_⟩) hHeld ?_ ?_
                  rotate_left
                  ·rintro w' rfl
                   go_simp
                   with_reducible rfl
                  rotate_left
                  ·simp only [Act.put, List.setIfInBounds_toArray, List.set_cons_zero, List.set_cons_succ, i64_w, i32_w]
                   rfl
                  refine pz_ 15 60 (bm 17 65535) ?_; refine pz_ 16 61 (bm 17 131071) ?_
                  refine done_ (done_of HT_.out (by kernel_rfl)) ?_
                  try go_wp2
                  go_roundg k2
                  case measure => have := HK1.out; have := HK2.out; omega
                  case rel => exact ⟨(y303), (wrap64 (x16_1 + 1)), qe_, H', ⟨by have := HK1.out; have := HK2.out; omega⟩, ⟨by (with_reducible repeat (first | apply Kd.R_alloc | apply Kd.R_drewN | apply Kd.R_drew)); exact Kd.R_mono HO305.out (fun _ hk => trivial)⟩, ⟨qk_ BK294⟩, ⟨qB_⟩⟩
                ·rw [if_neg c33] at H
                 exact absurd H (by simp)
               ·rw [if_neg c32] at H
                exact absurd H (by simp)
              ·rw [if_neg c30] at H
               exact absurd H (by simp)
             ·rw [if_neg c29] at H
              exact absurd H (by simp)
            ·rw [if_neg c27] at H
             have c27b0 : decide (0 < x16_1) = false := decide_eq_false c27
             clear c27; have H' := Aside0.mk H; clear H
             try go_wp2_with (first | ((with_reducible refine gate_builtin (b := .append) (xs := #[.tmp 42, .tmp 43]) rfl ?_); at_builtin; refine Kd.R_append_rows (Kd.int .i64) (w0 := w) w.heap.size rfl (.tmp 42) (.tmp 43) 40 3 (.int .i64 0) 8 rfl Try.underlying40 info3 rfl (by decide) (by omega) u3 x3_1 t298 _ _ _ (fun k_ => some k_ ≠ (.slice Ao14 t298.length co14 : Value).ownBlock ∧ some k_ ≠ (.slice Ao14 t298.length co14 : Value).ownBlock) (fun _ => False) rfl rfl ?aO ?aR (fun _ _ h => h) (fun _ h => h.elim) ?aF ?aB ?aS ?aL ?_; (case aR => repeat (first | exact (Kd.R_reads' HO_6.out).2.2 | (with_reducible refine Kd.C_alloc ?_ _) | (with_reducible refine Kd.C_drewN ?_ _) | (with_reducible refine Kd.C_drew ?_))); (case aB => exact qB_); (case aF => exact (fun k_ hk => ⟨Kd.fresh' (Kd.R_lt (qR_ HO_6)) k_ hk, Kd.fresh' (Kd.R_lt (qR_ HO_26)) k_ hk⟩)); (case aO => exact (qR_ HO_3)); (case aS => exact (below_size qB_)); (case aL => have := LMc26.out; omega); intro v304 w43 ho hb hg hat; rw [← Ny303.out] at ho; have HO305 := Aside0.mk (ho); replace HO_6 := Aside0.mk (Kd.R_after (ok := (fun _ => True)) (by (with_reducible repeat (first | apply Kd.R_alloc | apply Kd.R_drewN | apply Kd.R_drew)); exact Kd.R_mono HO_6.out (fun _ hk => ⟨trivial, hk⟩)) hg hat); replace HO_26 := Aside0.mk (Kd.R_after (ok := (fun _ => True)) (by (with_reducible repeat (first | apply Kd.R_alloc | apply Kd.R_drewN | apply Kd.R_drew)); exact Kd.R_mono HO_26.out (fun _ hk => ⟨trivial, hk⟩)) hg hat); replace BK294 := Aside0.mk (blk_grown (qk_ BK294) hg (Kd.R_ne HO_3.out BK294.out (by decide))); replace HB := Aside0.mk (hb); clear HO_3; clear ho hb hg hat))
             have n0_ := Aside0.mk (Kd.R_drew HO_6.out)
             have n1_ := Aside0.mk (Kd.R_drew HO_26.out)
             have n2_ := Aside0.mk (Kd.R_drew HO305.out)
             have n3_ := Aside0.mk (blk_drew BK294.out)
             have n4_ := Aside0.mk (below_drew1 HB.out)
             clear HO_6; clear HO_26; clear HO305; clear BK294; clear HB; have HO_6 := n0_; have HO_26 := n1_; have HO305 := n2_; have BK294 := n3_; have HB := n4_; clear n0_ n1_ n2_ n3_ n4_
             refine start_ (n := 17) (S := fun w' => True) (ds := []) (bm 17 0) (by kernel_rfl) rfl (by kernel_rfl) trivial (fun hHeld => ?_); refine with_tabW impl_ForestOk.tab17 impl_ForestOk.bits17 (fun HT_ HW_ => ?_)
             generalize w43.drew = w44 at HO_6 HO_26 HO305 BK294 HB hHeld ⊢
             refine pz_ 0 45 (bm 17 1) ?_; refine pz_ 1 46 (bm 17 3) ?_; refine pz_ 2 47 (bm 17 7) ?_
             refine pure_ (i := 3) (N := some 48) (v := undef) (a' := ?_) (bm 17 15) rfl rfl (any_of HT_.out (by kernel_rfl)) (fun _ _ _ h => h) (Or.inr ⟨by rfl, rfl⟩) ?_ ?_
             rotate_left
             ·simp only [Act.put, List.setIfInBounds_toArray, List.set_cons_zero, List.set_cons_succ, i64_w, i32_w]
              rfl
             refine pure_ (i := 4) (N := some 49) (v := undef) (a' := ?_) (bm 17 31) rfl rfl (any_of HT_.out (by kernel_rfl)) (fun _ _ _ h => h) (Or.inr ⟨by rfl, rfl⟩) ?_ ?_
             rotate_left
             ·simp only [Act.put, List.setIfInBounds_toArray, List.set_cons_zero, List.set_cons_succ, i64_w, i32_w]
              rfl
             refine pure_ (i := 5) (N := some 50) (v := undef) (a' := ?_) (bm 17 63) rfl rfl (any_of HT_.out (by kernel_rfl)) (fun _ _ _ h => h) (Or.inr ⟨by rfl, rfl⟩) ?_ ?_
             rotate_left
             ·simp only [Act.put, List.setIfInBounds_toArray, List.set_cons_zero, List.set_cons_succ, i64_w, i32_w]
              rfl
             refine pure_ (i := 6) (N := some 51) (v := undef) (a' := ?_) (bm 17 127) rfl rfl (any_of HT_.out (by kernel_rfl)) (fun _ _ _ h => h) (Or.inr ⟨by rfl, rfl⟩) ?_ ?_
             rotate_left
             ·simp only [Act.put, List.setIfInBounds_toArray, List.set_cons_zero, List.set_cons_succ, i64_w, i32_w]
              rfl
             refine pure_ (i := 7) (N := some 52) (v := undef) (a' := ?_) (bm 17 255) rfl rfl (any_of HT_.out (by kernel_rfl)) (fun _ _ _ h => h) (Or.inr ⟨by rfl, rfl⟩) ?_ ?_
             rotate_left
             ·simp only [Act.put, List.setIfInBounds_toArray, List.set_cons_zero, List.set_cons_succ, i64_w, i32_w]
              rfl
             refine pure_ (i := 8) (N := some 53) (v := undef) (a' := ?_) (bm 17 511) rfl rfl (any_of HT_.out (by kernel_rfl)) (fun _ _ _ h => h) (Or.inr ⟨by rfl, rfl⟩) ?_ ?_
             rotate_left
             ·simp only [Act.put, List.setIfInBounds_toArray, List.set_cons_zero, List.set_cons_succ, i64_w, i32_w]
              rfl
             refine pure_ (i := 9) (N := some 54) (v := undef) (a' := ?_) (bm 17 1023) rfl rfl (any_of HT_.out (by kernel_rfl)) (fun _ _ _ h => h) (Or.inr ⟨by rfl, rfl⟩) ?_ ?_
             rotate_left
             ·simp only [Act.put, List.setIfInBounds_toArray, List.set_cons_zero, List.set_cons_succ, i64_w, i32_w]
              rfl
             refine pure_ (i := 10) (N := some 55) (v := undef) (a' := ?_) (bm 17 2047) rfl rfl (any_of HT_.out (by kernel_rfl)) (fun _ _ _ h => h) (Or.inr ⟨by rfl, rfl⟩) ?_ ?_
             rotate_left
             ·simp only [Act.put, List.setIfInBounds_toArray, List.set_cons_zero, List.set_cons_succ, i64_w, i32_w]
              rfl
             refine pure_ (i := 11) (N := some 56) (v := undef) (a' := ?_) (bm 17 4095) rfl rfl (any_of HT_.out (by kernel_rfl)) (fun _ _ _ h => h) (Or.inr ⟨by rfl, rfl⟩) ?_ ?_
             rotate_left
             ·simp only [Act.put, List.setIfInBounds_toArray, List.set_cons_zero, List.set_cons_succ, i64_w, i32_w]
              rfl
             refine pure_ (i := 12) (N := some 57) (v := undef) (a' := ?_) (bm 17 8191) rfl rfl (any_of HT_.out (by kernel_rfl)) (fun _ _ _ h => h) (Or.inr ⟨by rfl, rfl⟩) ?_ ?_
             rotate_left
             ·simp only [Act.put, List.setIfInBounds_toArray, List.set_cons_zero, List.set_cons_succ, i64_w, i32_w]
              rfl
             refine pure_ (i := 13) (N := some 58) (v := undef) (a' := ?_) (bm 17 16383) rfl rfl (any_of HT_.out (by kernel_rfl)) (fun _ _ _ h => h) (Or.inr ⟨by rfl, rfl⟩) ?_ ?_
             rotate_left
             ·simp only [Act.put, List.setIfInBounds_toArray, List.set_cons_zero, List.set_cons_succ, i64_w, i32_w]
              rfl
             refine pure_ (i := 14) (N := some 59) (v := undef) (a' := ?_) (bm 17 32767) rfl rfl (any_of HT_.out (by kernel_rfl)) (fun _ _ _ h => h) (Or.inr ⟨by rfl, rfl⟩) ?_ ?_
             rotate_left
             ·simp only [Act.put, List.setIfInBounds_toArray, List.set_cons_zero, List.set_cons_succ, i64_w, i32_w]
              rfl
             refine pure_ (i := 15) (N := some 60) (v := undef) (a' := ?_) (bm 17 65535) rfl rfl (any_of HT_.out (by kernel_rfl)) (fun _ _ _ h => h) (Or.inr ⟨by rfl, rfl⟩) ?_ ?_
             rotate_left
             ·simp only [Act.put, List.setIfInBounds_toArray, List.set_cons_zero, List.set_cons_succ, i64_w, i32_w]
              rfl
             refine pz_ 16 61 (bm 17 131071) ?_
             refine done_ (done_of HT_.out (by kernel_rfl)) ?_
             try go_wp2
             go_roundg k2
             case measure => have := HK1.out; have := HK2.out; omega
             case rel => exact ⟨(y303), (wrap64 (x16_1 + 1)), qe_, H', ⟨by have := HK1.out; have := HK2.out; omega⟩, ⟨by (with_reducible repeat (first | apply Kd.R_alloc | apply Kd.R_drewN | apply Kd.R_drew)); exact Kd.R_mono HO305.out (fun _ hk => trivial)⟩, ⟨qk_ BK294⟩, ⟨qB_⟩⟩
           ·rw [if_neg c26] at H
            exact absurd H (by simp)
       ·replace c10 := Bool.eq_false_iff.mpr c10
        subst c10
        rw [if_neg (show ¬ (false = true) by decide)] at H
        obtain rfl := Option.some.inj H
        have p296 : 0 ≤ (x16_1 : Int) := of_decide_eq_true qa_
        have q296 : x16_1 < (l0_1.length : Int) := of_decide_eq_true qa_
        obtain ⟨ad296, A296_0, c296_0, e296, hx296_0, hl296_0, hi296_0⟩ := at_L1 HR0_1.out x16_1 p296 q296
        cases e296
        replace hx296_0 := (HB.out.cell (World.block_lt_of_cell? w _ hx296_0)).trans hx296_0
        have HR296_0 := Aside0.mk hi296_0
        have HC296_0 := Aside0.mk hl296_0
        clear hi296_0 hl296_0; replace p296 := eq_true p296; replace q296 := eq_true q296
        go_wp2_with (first | ((with_reducible refine gate_callee (f := 70) rfl ?_); refine gl_ (some 22) Try.func70 #[.slice A296_0 (rd_L1 l0_1 x16_1).length c296_0] ?_; (with_reducible refine (impl_TourOk.calls k1 _ _ (rd_L1 l0_1 x16_1) false _ ?side1 ?side2 A9.out).mono ?_); (case side1 => exact qC_ HR296_0 HB); (case side2 => exact HC296_0.out); rintro e w45 ⟨rfl, hb⟩; refine ⟨_, rfl, ?_⟩; replace HO_3 := Aside0.mk (Kd.R_below (qR_ HO_3) hb); replace BK294 := Aside0.mk (blk_below (qk_ BK294) hb); replace HB := Aside0.mk (below_step qB_ hb); (try clear hb); (try clear hb2); (try clear hk); (try clear hi)))
        go_ret
        exact ⟨qr_, qB_⟩
      ·rw [if_neg c8] at H
       exact absurd H (by simp)
     ·rw [if_neg c7] at H
      exact absurd H (by simp)
    ·rw [if_neg c6] at H
     have c6b0 : decide (x16_1 < (l0_1.length : Int)) = false := decide_eq_false c6
     clear c6
     obtain rfl := Option.some.inj H
     obtain ⟨Ao46, co46, eo46⟩ := Kd.R_slice HO_3.out
     subst eo46
     obtain ⟨hcz47_0, hcz47_1, hfz47_0, hfz47_1⟩ := bc2_ BK294
     go_wp2
     go_ret
     exact ⟨qr_, qB_⟩
 ·replace c3 := Bool.eq_false_iff.mpr c3
  subst c3
  rw [if_neg (show ¬ (false = true) by decide)] at H
  obtain rfl := Option.some.inj H
  go_enter Try.func21, Try.ntmps21
  go_wp2_with (first | ((with_reducible refine gate_dst (N := 1) rfl ?_); refine bx_ 1 (cs := #[.int .i64 a0_0, .slice A0_1 l0_1.length c0_1]) (t := 33) ?_; intro gb294 hg w48 hbox hb; have BK294 := Aside0.mk (hbox); have GW294 := Aside0.mk ((qs_ : w.heap.size ≤ gb294)); have GE294 := Aside0.mk ((qs_ : w.heap.size ≤ gb294)); replace HB := Aside0.mk (below_step qB_ hb); clear hb hbox hg; obtain ⟨hcz49_0, hcz49_1, hfz49_0, hfz49_1⟩ := bc2_ BK294) | ((with_reducible refine gate_callee (f := 69) rfl ?_); refine gl_ (some 11) Try.func69 #[.int .i64 a0_0, .int .i64 1, .int .i64 12] ?_; (with_reducible refine (impl_in.calls a0_0 1 12 false _ A2.out).mono ?_); rintro e w' ⟨rfl, ⟨nd, rfl⟩⟩; refine ⟨_, rfl, ?_⟩))
  go_ret
  exact ⟨qr_, qB_⟩

end Go.Proofs.Ytacnlodcbbhahaa.QFnExactEdgesOf
