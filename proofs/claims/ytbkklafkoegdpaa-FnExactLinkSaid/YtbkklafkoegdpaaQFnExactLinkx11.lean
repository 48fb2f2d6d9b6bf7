import Derived.Test.YtbkklafkoegdpaaQFnExactLinkx10
namespace Go.Proofs.Ytbkklafkoegdpaa.QFnExactLink
open Go.RowKit Go.Proofs.YtbkklafkoegdpaaW.PrintWords Go.Proofs.YtbkklafkoegdpaaW.PrintLast Go.Proofs.YtbkklafkoegdpaaW.PrintMore
set_option linter.unusedVariables false
set_option linter.unusedSimpArgs false
theorem now_x11 {P : Program} {ops : Array Oper} {Q : Exit → Act → World → Prop} {md : Region.Mode} {S : World → Prop} {ds : List Nat} {i : Nat} {N : Option Tmp} {oi : Oper} {v : Value} {fuel : Nat} {l : Array Bool} {a : Act} {w : World} (l' : Array Bool) (hi : ops[i]? = some oi) (hN : oi.dst = N) (hc : readyB md ops l l' i = true) (hd : i ∉ ds)
    (hy : YieldsIf P ops (fun w' => w' = w) oi v a) (hS : S w) {a' : Act} (ha : a.put N v = a')
    (h : wpAnyLast P md ops Q S ds fuel l' a' w) : wpAnyLast P md ops Q S ds (fuel + 1) l a w := by
  subst ha
  refine one_ l' hi hN hc hd (fun K hK => ?_)
  subst hN
  rcases hy with ⟨hw, hv⟩ | ⟨hw, rfl⟩
  · simp only [hw, if_true, Oper.wp, hv w rfl, Oper.upon]; exact hK.out _ _ hS (fun _ => h)
  · simp only [hw, Bool.false_eq_true, if_false]; exact hK.out _ _ hS (fun _ => h)
mutual
def impl_ForestOk.l0 : Nat → List Int → List (List Int) → Int → Int → Int → List (List Int) → Option (Bool)
  | 0, _, _, _, _, _, _ => none
  | k + 1, x3, x14, x15, x16, x390000, x390001 => if x16 < x15 then (if 0 ≤ x16 then (if x16 < (x14.length : Int) then ((impl_TourOk.f k (rd_L1 x14 x16)).bind fun t392 => (if t392 = true then ((impl_VertsOf.f k (rd_L1 x14 x16)).bind fun t393 => (impl_ForestOk.l1 k x3 x16 t393 x14 x15 x16 t393 (t393.length : Int) 0 x390000 x390001)) else (some false))) else (none)) else (none)) else (some ((x3.length : Int) == x390000))
def impl_ForestOk.l1 : Nat → List Int → Int → List Int → List (List Int) → Int → Int → List Int → Int → Int → Int → List (List Int) → Option (Bool)
  | 0, _, _, _, _, _, _, _, _, _, _, _ => none
  | k + 1, x3, x4, x6, x14, x15, x16, x26, x27, x28, x390000, x390001 => if x28 < x27 then (if 0 ≤ x28 then (if x28 < (x26.length : Int) then (if (rd x26 x28) ≥ x390000 then (some false) else ((impl_hasInt.f k x3 (rd x26 x28)).bind fun t397 => (if t397 = true then (some false) else (impl_ForestOk.l1 k x3 x4 x6 x14 x15 x16 x26 x27 (wrap64 (x28 + 1)) x390000 x390001)))) else (none)) else (none)) else (if x3.length + x6.length < 17592186044416 then ((some (x3 ++ x6 : List Int)).bind fun y398 => (if x4 > 0 then (if 0 ≤ (wrap64 (x4 - 1)) then (if (wrap64 (x4 - 1)) < (x390001.length : Int) then ((impl_VertsOf.f k (rd_L1 x390001 (wrap64 (x4 - 1)))).bind fun t402 => (if 0 < (t402.length : Int) then (if 0 < (x6.length : Int) then (if (rd t402 0) ≥ (rd x6 0) then (some false) else (impl_ForestOk.l0 k y398 x14 x15 (wrap64 (x16 + 1)) x390000 x390001)) else (none)) else (none))) else (none)) else (none)) else (impl_ForestOk.l0 k y398 x14 x15 (wrap64 (x16 + 1)) x390000 x390001))) else (none))
end
def impl_ForestOk.f (k : Nat) (a0_0 : Int) (l0_1 : List (List Int)) : Option (Bool) := (impl_in.f a0_0 1 12).bind fun t390 => (if t390 = true then (impl_ForestOk.l0 k ([] : List Int) l0_1 (l0_1.length : Int) 0 a0_0 l0_1) else (some false))
theorem impl_ForestOk.mono_l : ∀ k, (∀ y0 y1 y2 y3 y4 y5, LeO (impl_ForestOk.l0 k y0 y1 y2 y3 y4 y5) (impl_ForestOk.l0 (k + 1) y0 y1 y2 y3 y4 y5)) ∧ (∀ y0 y1 y2 y3 y4 y5 y6 y7 y8 y9 y10, LeO (impl_ForestOk.l1 k y0 y1 y2 y3 y4 y5 y6 y7 y8 y9 y10) (impl_ForestOk.l1 (k + 1) y0 y1 y2 y3 y4 y5 y6 y7 y8 y9 y10))
  | 0 => ⟨fun _ _ _ _ _ _ r h => by simp [impl_ForestOk.l0] at h, fun _ _ _ _ _ _ _ _ _ _ _ r h => by simp [impl_ForestOk.l1] at h⟩
  | k + 1 => by
    obtain ⟨ih0, ih1⟩ := impl_ForestOk.mono_l k
    refine ⟨?_, ?_⟩ <;> (intros; first | unfold impl_ForestOk.l0 | unfold impl_ForestOk.l1) <;> repeat' first | (with_reducible first | exact ih0 _ _ _ _ _ _ | exact ih1 _ _ _ _ _ _ _ _ _ _ _ | exact impl_TourOk.mono _ _ | exact impl_VertsOf.mono _ _ | exact impl_hasInt.mono _ _ _ | exact LeO.refl _ | exact LeO.none _ | refine LeO.ite ?_ ?_ | refine LeO.bind ?_ (fun _ => ?_)) | exact LeO.none _ | refine LeO.ite ?_ ?_ | refine LeO.bind ?_ (fun _ => ?_)
theorem impl_ForestOk.mono : ∀ a0 a1 k, LeO (impl_ForestOk.f k a0 a1) (impl_ForestOk.f (k + 1) a0 a1) := by
  intro a0 a1 k
  obtain ⟨ih0, ih1⟩ := impl_ForestOk.mono_l k
  unfold impl_ForestOk.f
  repeat' first | (with_reducible first | exact ih0 _ _ _ _ _ _ | exact ih1 _ _ _ _ _ _ _ _ _ _ _ | exact impl_TourOk.mono _ _ | exact impl_VertsOf.mono _ _ | exact impl_hasInt.mono _ _ _ | exact LeO.refl _ | exact LeO.none _ | refine LeO.ite ?_ ?_ | refine LeO.bind ?_ (fun _ => ?_)) | exact LeO.none _ | refine LeO.ite ?_ ?_ | refine LeO.bind ?_ (fun _ => ?_)
def impl_ForestOk.T17 : Bool × List (List Nat × List Nat) := (true, [([], []), ([0], [0]), ([1], [1]), ([2], [2]), ([3, 2], [2, 3]), ([2], [2]), ([5, 2], [2, 5]), ([4, 6, 2], [2, 4, 6]), ([7, 2], [2, 7]), ([8, 2, 2], [2, 8]), ([9, 2], [2, 9]), ([10, 2], [2, 10]), ([2], [2]), ([12, 2], [2, 12]), ([13, 2], [2, 13]), ([11, 14, 2], [2, 11, 14]), ([2, 15], [2, 15])])
def impl_ForestOk.B17 : List Nat := [0, 1, 3, 7, 15, 7, 39, 127, 255, 511, 1023, 2047, 7, 4103, 12295, 32767, 65535]
theorem impl_ForestOk.tab17 : rtab .any (opsOf Try.f75 17) = impl_ForestOk.T17 := by kernel_rfl
theorem impl_ForestOk.bits17 : waitsOk impl_ForestOk.T17.2 impl_ForestOk.B17 = true := by kernel_rfl
set_option maxHeartbeats 8000000 in
set_option maxRecDepth 100000 in
theorem impl_ForestOk.calls (k : Nat) (a0_0 : Int) (A0_1 : Option Addr) (c0_1 : Nat) (l0_1 : List (List Int)) (r : Bool) (w : World) (hr0_1 : Kd.C (Kd.slice 3 (Kd.int .i64)) w A0_1 l0_1.length l0_1) (hc0_1 : l0_1.length ≤ c0_1) (h : impl_ForestOk.f k a0_0 l0_1 = some r) :
  Calls Try.prog 75 #[.agg #[.int .i64 a0_0, .slice A0_1 l0_1.length c0_1]] w fun e w' => e = .returned (.bool r) ∧ Below w.heap.size w w' := by
 have hu39 := Try.underlying39
 have HR0_1 := am_ hr0_1
 have HC0_1 := am_ hc0_1
 clear hr0_1 hc0_1
 have HB := am_ (Below.refl w.heap.size w)
 have H : ((impl_in.f a0_0 1 12).bind fun c9 => (if c9 = true then (impl_ForestOk.l0 k ([] : List Int) l0_1 (l0_1.length : Int) 0 a0_0 l0_1) else (some false))) = some r := h
 clear h
 obtain ⟨c9, A20, H⟩ := Option.bind_eq_some_iff.mp H; have A2 := am_ A20; clear A20
 by_cases c3 : c9 = true
 rotate_left
 ·replace c3 := Bool.eq_false_iff.mpr c3
  subst c3
  rw [if_neg ff_] at H
  obtain rfl := Option.some.inj H
  go_enter Try.func75, Try.ntmps75
  go_wp2_with (first | ((with_reducible refine gate_dst (N := 1) rfl ?_); refine by_ 1 (cs := #[.int .i64 a0_0, .slice A0_1 l0_1.length c0_1]) (t := 39) ?_; intro b2 hg w48 a0 hb; have b7 := gw_ hg; have d0 := b7; replace HB := hs_ hb; clear hb hg; obtain ⟨d7, d8, d9, e0⟩ := bc2_ a0) | ((with_reducible refine gate_callee (f := 66) rfl ?_); refine gl_ (some 11) Try.func66 #[.int .i64 a0_0, .int .i64 1, .int .i64 12] ?_; (with_reducible refine (impl_in.calls a0_0 1 12 false _ A2.out).mono ?_); rintro e w' ⟨rfl, ⟨nd, rfl⟩⟩; refine ⟨_, rfl, ?_⟩))
  go_ret
  exact ⟨qr_, qB_⟩
 subst c3
 rw [if_pos rfl] at H; have H' := am_ H; clear H
 go_enter Try.func75, Try.ntmps75
 go_wp2_with (first | ((with_reducible refine gate_dst (N := 1) rfl ?_); refine by_ 1 (cs := #[.int .i64 a0_0, .slice A0_1 l0_1.length c0_1]) (t := 39) ?_; intro b2 hg w4 a0 hb; have b7 := gw_ hg; have d0 := b7; replace HB := hs_ hb; clear hb hg; obtain ⟨b8, b9, c0, c2⟩ := bc2_ a0) | ((with_reducible refine gate_callee (f := 66) rfl ?_); refine gl_ (some 11) Try.func66 #[.int .i64 a0_0, .int .i64 1, .int .i64 12] ?_; (with_reducible refine (impl_in.calls a0_0 1 12 true _ A2.out).mono ?_); rintro e w' ⟨rfl, ⟨nd, rfl⟩⟩; refine ⟨_, rfl, ?_⟩))
 go_loopg [3, 16] k (fun kq v3 v16 w' => ∃ (x3_1 : List Int) (x16_1 : Int), v16 = .int .i64 x16_1 ∧ Aside0 (impl_ForestOk.l0 kq x3_1 l0_1 (l0_1.length : Int) x16_1 a0_0 l0_1 = some r) ∧ Aside0 (kq ≤ k) ∧ Aside0 (Kd.R (Kd.int .i64) 3 w' w.heap.size (fun _ => True) v3 x3_1) ∧ Aside0 (w'.heap[b2]? = some (.cells #[.int .i64 a0_0, (.slice A0_1 l0_1.length c0_1)] 39 (0, 0))) ∧ Aside0 (Below w.heap.size w w'))
 case atStart => exact ⟨(([] : List Int)), (0), qe_, H', ⟨Nat.le_refl _⟩, ⟨by first | exact Kd.R_nil _ _ _ _ _ | exact Kd.N_nil _ _ _ _ _ | exact Kd.V_nil _ _ _ _ _ | exact Kd.Q_nil _ _ _ _ _ | exact Kd.S_nil _ _ _ _ _⟩, ⟨qk_ a0⟩, ⟨qB_⟩⟩
 case round =>
  clear H'
  (try clear p2); (try clear c3); (try clear b8 b9 c0 c2)
  obtain ⟨x3_1, x16_1, rfl, HA, HK1, a5, a0, HB⟩ := hrel
  cases gk with
  | zero => exact absurd HA.out (by simp [impl_ForestOk.l0])
  | succ k1 =>
   have H := HA.out; clear HA
   simp only [impl_ForestOk.l0] at H
   by_cases c6 : x16_1 < (l0_1.length : Int)
   rotate_left
   ·rw [if_neg c6] at H
    have c6b0 := decide_eq_false c6
    clear c6
    obtain rfl := Option.some.inj H
    obtain ⟨g4, g5, f7⟩ := Kd.R_slice a5.out
    subst f7
    obtain ⟨e1, e2, e3, e4⟩ := bc2_ a0
    go_wp2
    go_ret
    exact ⟨qr_, qB_⟩
   rw [if_pos c6] at H
   have c6b0 := decide_eq_true c6
   clear c6
   by_cases c7 : 0 ≤ x16_1
   rotate_left
   ·rw [if_neg c7] at H
    exact absurd H (by simp)
   rw [if_pos c7] at H
   have c7b0 := decide_eq_true c7
   clear c7
   by_cases c8 : x16_1 < (l0_1.length : Int)
   rotate_left
   ·rw [if_neg c8] at H
    exact absurd H (by simp)
   rw [if_pos c8] at H
   have c8b0 := decide_eq_true c8
   clear c8
   obtain ⟨f8, A90, H⟩ := Option.bind_eq_some_iff.mp H; have A9 := am_ A90; clear A90
   by_cases c10 : f8 = true
   rotate_left
   ·replace c10 := Bool.eq_false_iff.mpr c10
    subst c10
    rw [if_neg ff_] at H
    obtain rfl := Option.some.inj H
    have p391 := dp_ x16_1
    have q391 := dl_ x16_1 l0_1.length
    obtain ⟨ad391, A391_0, c391_0, e391, a8, hl391_0, hi391_0⟩ := at_L1 HR0_1.out x16_1 p391 q391
    cases e391
    replace a8 := qx_ HB a8
    have HR391_0 := am_ hi391_0
    have HC391_0 := am_ hl391_0
    clear hi391_0 hl391_0; replace p391 := eq_true p391; replace q391 := eq_true q391
    go_wp2_with (first | ((with_reducible refine gate_callee (f := 119) rfl ?_); refine gl_ (some 22) Try.func119 #[.slice A391_0 (rd_L1 l0_1 x16_1).length c391_0] ?_; (with_reducible refine (impl_TourOk.calls k1 _ _ (rd_L1 l0_1 x16_1) false _ ?side1 ?side2 A9.out).mono ?_); (case side1 => exact qC_ HR391_0 HB); (case side2 => exact HC391_0.out); rintro e w45 ⟨rfl, hb⟩; refine ⟨_, rfl, ?_⟩; replace a5 := am_ (Kd.R_below (qR_ a5) hb); replace a0 := qbl_ a0 hb; replace HB := hs_ hb; (try clear hb); (try clear hb2); (try clear hk); (try clear hi)))
    go_ret
    exact ⟨qr_, qB_⟩
   subst c10
   rw [if_pos rfl] at H
   obtain ⟨a1, d1, H⟩ := Option.bind_eq_some_iff.mp H; have A11 := am_ d1; clear d1
   have H' := am_ H; clear H
   have p391 := dp_ x16_1
   have q391 := dl_ x16_1 l0_1.length
   obtain ⟨ad391, A391_0, c391_0, e391, a8, hl391_0, hi391_0⟩ := at_L1 HR0_1.out x16_1 p391 q391
   cases e391
   replace a8 := qx_ HB a8
   have HR391_0 := am_ hi391_0
   have HC391_0 := am_ hl391_0
   clear hi391_0 hl391_0; replace p391 := eq_true p391; replace q391 := eq_true q391
   go_wp2_with (first | ((with_reducible refine gate_callee (f := 119) rfl ?_); refine gl_ (some 22) Try.func119 #[.slice A391_0 (rd_L1 l0_1 x16_1).length c391_0] ?_; (with_reducible refine (impl_TourOk.calls k1 _ _ (rd_L1 l0_1 x16_1) true _ ?side1 ?side2 A9.out).mono ?_); (case side1 => exact qC_ HR391_0 HB); (case side2 => exact HC391_0.out); rintro e w12 ⟨rfl, hb⟩; refine ⟨_, rfl, ?_⟩; replace a5 := am_ (Kd.R_below (qR_ a5) hb); replace a0 := qbl_ a0 hb; replace HB := hs_ hb; (try clear hb); (try clear hb2); (try clear hk); (try clear hi)) | ((with_reducible refine gate_callee (f := 106) rfl ?_); refine gl_ (some 25) Try.func106 #[.slice A391_0 (rd_L1 l0_1 x16_1).length c391_0] ?_; (with_reducible refine (impl_VertsOf.calls k1 _ _ (rd_L1 l0_1 x16_1) a1 _ ?side1 ?side2 A11.out).mono ?_); (case side1 => exact qC_ HR391_0 HB); (case side2 => exact HC391_0.out); rintro e w13 ⟨g6, rfl, ho0, hb⟩; refine ⟨_, rfl, ?_⟩; have c4 := am_ (Kd.R_lower (Kd.R_new' ho0 (Kd.R_lt (qR_ a5))) (below_size qB_)); replace a5 := am_ (Kd.R_elder' (qR_ a5) (Kd.R_base ho0) hb); replace a0 := qbl_ a0 hb; replace HB := hs_ hb; (try clear hb); (try clear hb2); (try clear hk); (try clear hi); (try clear ho0); obtain ⟨b3, b4, f9⟩ := Kd.R_slice c4.out; subst f9))
   go_loopg [28] k1 (fun kq v28 w' => ∃ (x28_2 : Int), v28 = .int .i64 x28_2 ∧ Aside0 (impl_ForestOk.l1 kq x3_1 x16_1 a1 l0_1 (l0_1.length : Int) x16_1 a1 (a1.length : Int) x28_2 a0_0 l0_1 = some r) ∧ Aside0 (kq ≤ k1) ∧ Aside0 (Kd.R (Kd.int .i64) 3 w' w.heap.size (fun k_ => some k_ ≠ ((.slice b3 a1.length b4) : Value).ownBlock ∧ some k_ ≠ ((.slice b3 a1.length b4) : Value).ownBlock) u3 x3_1) ∧ Aside0 (Kd.R (Kd.int .i64) 3 w' w.heap.size (fun k_ => some k_ ≠ (u3 : Value).ownBlock) (.slice b3 a1.length b4) a1) ∧ Aside0 (Kd.R (Kd.int .i64) 3 w' w.heap.size (fun k_ => some k_ ≠ (u3 : Value).ownBlock) (.slice b3 a1.length b4) a1) ∧ Aside0 (w'.heap[b2]? = some (.cells #[.int .i64 a0_0, (.slice (some ad391) l0_1.length c0_1)] 39 (0, 0))) ∧ Aside0 (Below w.heap.size w w'))
   case atStart => exact ⟨(0), qe_, H', ⟨Nat.le_refl _⟩, ⟨by (with_reducible repeat (first | apply Kd.R_alloc | apply Kd.R_drewN | apply Kd.R_drew)); exact Kd.R_mono a5.out (fun _ hk => ⟨hk.2, hk.2⟩)⟩, ⟨by (with_reducible repeat (first | apply Kd.R_alloc | apply Kd.R_drewN | apply Kd.R_drew)); exact Kd.R_mono c4.out (fun _ hk => hk.2)⟩, ⟨by (with_reducible repeat (first | apply Kd.R_alloc | apply Kd.R_drewN | apply Kd.R_drew)); exact Kd.R_mono c4.out (fun _ hk => hk.2)⟩, ⟨qk_ a0⟩, ⟨qB_⟩⟩
   case round =>
    clear H'
    (try clear c1); (try clear p2); (try clear c3); (try clear p3); (try clear q3); (try clear h5); (try clear c6); (try clear c6b0); (try clear c7); (try clear c7b0); (try clear c8); (try clear c8b0); (try clear c10); (try clear c11); (try clear b8 b9 c0 c2); (try clear a8); (try clear p2); (try clear p391); (try clear q391)
    obtain ⟨x28_2, rfl, HA, HK2, a5, a3, a2, a0, HB⟩ := hrel
    cases gk with
    | zero => exact absurd HA.out (by simp [impl_ForestOk.l1])
    | succ k2 =>
     have H := HA.out; clear HA
     simp only [impl_ForestOk.l1] at H
     by_cases c15 : x28_2 < (a1.length : Int)
     ·rw [if_pos c15] at H
      have c15b0 := decide_eq_true c15
      clear c15
      by_cases c16 : 0 ≤ x28_2
      rotate_left
      ·rw [if_neg c16] at H
       exact absurd H (by simp)
      rw [if_pos c16] at H
      have c16b0 := decide_eq_true c16
      clear c16
      by_cases c17 : x28_2 < (a1.length : Int)
      rotate_left
      ·rw [if_neg c17] at H
       exact absurd H (by simp)
      rw [if_pos c17] at H
      have c17b0 := decide_eq_true c17
      clear c17
      by_cases c18 : (rd a1 x28_2) ≥ a0_0
      ·rw [if_pos c18] at H
       have c18b0 : decide (a0_0 ≤ (rd a1 x28_2)) = true := decide_eq_true c18
       clear c18
       obtain rfl := Option.some.inj H
       have p396 := dp_ x28_2
       have q396 := dl_ x28_2 a1.length
       obtain ⟨ad396, e396, b6⟩ := Kd.at_int (Kd.R_reads' a2.out).2.2 x28_2 p396 q396
       cases e396; replace p396 := eq_true p396; replace q396 := eq_true q396
       obtain ⟨e5, e6, e7, e8⟩ := bc2_ a0
       go_wp2
       go_ret
       exact ⟨qr_, qB_⟩
      rw [if_neg c18] at H
      have c18b0 : decide (a0_0 ≤ (rd a1 x28_2)) = false := decide_eq_false c18
      clear c18
      obtain ⟨g0, d2, H⟩ := Option.bind_eq_some_iff.mp H; have A20 := am_ d2; clear d2
      by_cases c21 : g0 = true
      ·subst c21
       rw [if_pos rfl] at H
       obtain rfl := Option.some.inj H
       have p396 := dp_ x28_2
       have q396 := dl_ x28_2 a1.length
       obtain ⟨ad396, e396, b6⟩ := Kd.at_int (Kd.R_reads' a2.out).2.2 x28_2 p396 q396
       cases e396; replace p396 := eq_true p396; replace q396 := eq_true q396
       obtain ⟨e9, f0, f1, f2⟩ := bc2_ a0
       obtain ⟨g7, g8, g1⟩ := Kd.R_slice a5.out
       subst g1
       go_wp2_with (first | (go_at_call 120; (with_reducible refine (impl_hasInt.calls k2 _ _ x3_1 (rd a1 x28_2) true _ ?side1 ?side2 A20.out).mono ?_); (case side1 => exact qD_ (Kd.R_reads' a5.out).2.2); (case side2 => exact (Kd.R_reads' a5.out).2.1); rintro e w' ⟨rfl, ⟨nd, rfl⟩⟩))
       go_ret
       exact ⟨qr_, qB_⟩
      replace c21 := Bool.eq_false_iff.mpr c21
      subst c21
      rw [if_neg ff_] at H; have H' := am_ H; clear H
      have p396 := dp_ x28_2
      have q396 := dl_ x28_2 a1.length
      obtain ⟨ad396, e396, b6⟩ := Kd.at_int (Kd.R_reads' a2.out).2.2 x28_2 p396 q396
      cases e396; replace p396 := eq_true p396; replace q396 := eq_true q396
      obtain ⟨f3, f4, f5, f6⟩ := bc2_ a0
      obtain ⟨g9, h0, g2⟩ := Kd.R_slice a5.out
      subst g2
      go_wp2_with (first | (go_at_call 120; (with_reducible refine (impl_hasInt.calls k2 _ _ x3_1 (rd a1 x28_2) false _ ?side1 ?side2 A20.out).mono ?_); (case side1 => exact qD_ (Kd.R_reads' a5.out).2.2); (case side2 => exact (Kd.R_reads' a5.out).2.1); rintro e w' ⟨rfl, ⟨nd, rfl⟩⟩))
      go_roundg k2
      case measure => have := HK1.out; have := HK2.out; omega
      case rel => exact ⟨(wrap64 (x28_2 + 1)), qe_, H', ⟨by have := HK1.out; have := HK2.out; omega⟩, ⟨by (with_reducible repeat (first | apply Kd.R_alloc | apply Kd.R_drewN | apply Kd.R_drew)); first | exact a5.out | (have h_ := a5.out; simp only [own_slice] at h_ ⊢; exact h_)⟩, ⟨by (with_reducible repeat (first | apply Kd.R_alloc | apply Kd.R_drewN | apply Kd.R_drew)); first | exact a3.out | (have h_ := a3.out; simp only [own_slice] at h_ ⊢; exact h_)⟩, ⟨by (with_reducible repeat (first | apply Kd.R_alloc | apply Kd.R_drewN | apply Kd.R_drew)); first | exact a2.out | (have h_ := a2.out; simp only [own_slice] at h_ ⊢; exact h_)⟩, ⟨qk_ a0⟩, ⟨qB_⟩⟩
     rw [if_neg c15] at H
     have c15b0 := decide_eq_false c15
     clear c15
     by_cases c26 : x3_1.length + a1.length < 17592186044416
     rotate_left
     ·rw [if_neg c26] at H
      exact absurd H (by simp)
     rw [if_pos c26] at H
     have LMc26 := am_ c26
     clear c26
     obtain ⟨c5, hy398⟩ : ∃ y_ : List Int, y_ = (x3_1 ++ a1) := ⟨_, rfl⟩
     replace H : (if x16_1 > 0 then (if 0 ≤ (wrap64 (x16_1 - 1)) then (if (wrap64 (x16_1 - 1)) < (l0_1.length : Int) then ((impl_VertsOf.f k2 (rd_L1 l0_1 (wrap64 (x16_1 - 1)))).bind fun a9 => (if 0 < (a9.length : Int) then (if 0 < (a1.length : Int) then (if (rd a9 0) ≥ (rd a1 0) then (some false) else (impl_ForestOk.l0 k2 c5 l0_1 (l0_1.length : Int) (wrap64 (x16_1 + 1)) a0_0 l0_1)) else (none)) else (none))) else (none)) else (none)) else (impl_ForestOk.l0 k2 c5 l0_1 (l0_1.length : Int) (wrap64 (x16_1 + 1)) a0_0 l0_1)) = some r := by first | (rw [hy398]; with_reducible exact H) | (have H2_ := (Option.bind_some _ _).symm.trans H; rw [hy398]; with_reducible exact H2_) | (have H2_ := (Option.bind_some _ _).symm.trans H; with_reducible exact H2_) | with_reducible exact H | (rw [hy398]; exact H) | exact H
     have Ny398 := am_ hy398
     clear hy398
     by_cases c27 : x16_1 > 0
     rotate_left
     ·rw [if_neg c27] at H
      have c27b0 : decide (0 < x16_1) = false := decide_eq_false c27
      clear c27; have H' := am_ H; clear H
      try go_wp2_with (first | ((with_reducible refine gate_builtin (b := .append) (xs := #[.tmp 42, .tmp 43]) rfl ?_); at_builtin; refine Kd.R_append_rows (Kd.int .i64) (w0 := w) w.heap.size rfl (.tmp 42) (.tmp 43) 51 3 (.int .i64 0) 8 rfl Try.underlying51 info3 rfl (by decide) (by omega) u3 x3_1 a1 _ _ _ (fun k_ => some k_ ≠ (.slice b3 a1.length b4 : Value).ownBlock ∧ some k_ ≠ (.slice b3 a1.length b4 : Value).ownBlock) (fun _ => False) rfl rfl ?aO ?aR (fun _ _ h => h) (fun _ h => h.elim) ?aF ?aB ?aS ?aL ?_; (case aR => repeat (first | exact (Kd.R_reads' a3.out).2.2 | (with_reducible refine Kd.C_alloc ?_ _) | (with_reducible refine Kd.C_drewN ?_ _) | (with_reducible refine Kd.C_drew ?_))); (case aB => exact qB_); (case aF => exact (fun k_ hk => ⟨Kd.fresh' (Kd.R_lt (qR_ a3)) k_ hk, Kd.fresh' (Kd.R_lt (qR_ a2)) k_ hk⟩)); (case aO => exact (qR_ a5)); (case aS => exact (below_size qB_)); (case aL => have := LMc26.out; omega); intro d3 w43 ho hb hg hat; rw [← Ny398.out] at ho; have a4 := am_ (ho); replace a3 := am_ (Kd.R_after (ok := (fun _ => True)) (by (with_reducible repeat (first | apply Kd.R_alloc | apply Kd.R_drewN | apply Kd.R_drew)); exact Kd.R_mono a3.out (fun _ hk => ⟨trivial, hk⟩)) hg hat); replace a2 := am_ (Kd.R_after (ok := (fun _ => True)) (by (with_reducible repeat (first | apply Kd.R_alloc | apply Kd.R_drewN | apply Kd.R_drew)); exact Kd.R_mono a2.out (fun _ hk => ⟨trivial, hk⟩)) hg hat); replace a0 := am_ (blk_grown (qk_ a0) hg (Kd.R_ne a5.out a0.out (by decide))); replace HB := am_ (hb); clear a5; clear ho hb hg hat))
      replace a3 := am_ (Kd.R_drew a3.out); replace a2 := am_ (Kd.R_drew a2.out); replace a4 := am_ (Kd.R_drew a4.out); replace a0 := am_ (blk_drew a0.out); replace HB := am_ (below_drew1 HB.out)
      refine start_ (n := 17) (S := fun w' => True) (ds := []) (bm 17 0) (by kernel_rfl) rfl (by kernel_rfl) trivial (fun hHeld => ?_); refine with_tabW impl_ForestOk.tab17 impl_ForestOk.bits17 (fun HT_ HW_ => ?_)
      generalize w43.drew = w44 at a3 a2 a4 a0 HB hHeld ⊢
      refine pz_ 0 45 (bm 17 1) ?_; refine pz_ 1 46 (bm 17 3) ?_; refine pz_ 2 47 (bm 17 7) ?_
      refine pu_ 3 48 (bm 17 15) ?_
      refine pu_ 4 49 (bm 17 31) ?_
      refine pu_ 5 50 (bm 17 63) ?_
      refine pu_ 6 51 (bm 17 127) ?_
      refine pu_ 7 52 (bm 17 255) ?_
      refine pu_ 8 53 (bm 17 511) ?_
      refine pu_ 9 54 (bm 17 1023) ?_
      refine pu_ 10 55 (bm 17 2047) ?_
      refine pu_ 11 56 (bm 17 4095) ?_
      refine pu_ 12 57 (bm 17 8191) ?_
      refine pu_ 13 58 (bm 17 16383) ?_
      refine pu_ 14 59 (bm 17 32767) ?_
      refine pu_ 15 60 (bm 17 65535) ?_
      refine pz_ 16 61 (bm 17 131071) ?_
      refine done_ (done_of HT_.out (by kernel_rfl)) ?_
      try go_wp2
      go_roundg k2
      case measure => have := HK1.out; have := HK2.out; omega
      case rel => exact ⟨(c5), (wrap64 (x16_1 + 1)), qe_, H', ⟨by have := HK1.out; have := HK2.out; omega⟩, ⟨by (with_reducible repeat (first | apply Kd.R_alloc | apply Kd.R_drewN | apply Kd.R_drew)); exact Kd.R_mono a4.out (fun _ hk => trivial)⟩, ⟨qk_ a0⟩, ⟨qB_⟩⟩
     rw [if_pos c27] at H
     have c27b0 : decide (0 < x16_1) = true := decide_eq_true c27
     clear c27
     obtain ⟨ji28, hji28⟩ : ∃ j_ : Int, (wrap64 (x16_1 - 1)) = j_ := ⟨_, rfl⟩
     first | rw [hji28] at H | simp only [hji28] at H
     have hji28w : (IntKind.i64.wrap (x16_1 - 1)) = ji28 := (i64_w _).trans hji28
     by_cases c29 : 0 ≤ (ji28)
     rotate_left
     ·rw [if_neg c29] at H
      exact absurd H (by simp)
     rw [if_pos c29] at H
     have c29b0 := decide_eq_true c29
     clear c29
     by_cases c30 : (ji28) < (l0_1.length : Int)
     rotate_left
     ·rw [if_neg c30] at H
      exact absurd H (by simp)
     rw [if_pos c30] at H
     have c30b0 := decide_eq_true c30
     clear c30
     obtain ⟨a9, d4, H⟩ := Option.bind_eq_some_iff.mp H; have A31 := am_ d4; clear d4
     by_cases c32 : 0 < (a9.length : Int)
     rotate_left
     ·rw [if_neg c32] at H
      exact absurd H (by simp)
     rw [if_pos c32] at H
     have c32b0 := decide_eq_true c32
     have c32b1 : decide (0 < a9.length) = true := decide_eq_true (by omega)
     clear c32
     by_cases c33 : 0 < (a1.length : Int)
     rotate_left
     ·rw [if_neg c33] at H
      exact absurd H (by simp)
     rw [if_pos c33] at H
     have c33b0 := decide_eq_true c33
     have c33b1 : decide (0 < a1.length) = true := decide_eq_true (by omega)
     clear c33
     by_cases c34 : (rd a9 0) ≥ (rd a1 0)
     ·rw [if_pos c34] at H
      have c34b0 : decide ((rd a1 0) ≤ (rd a9 0)) = true := decide_eq_true c34
      clear c34
      obtain rfl := Option.some.inj H
      try go_wp2_with (first | ((with_reducible refine gate_builtin (b := .append) (xs := #[.tmp 42, .tmp 43]) rfl ?_); at_builtin; refine Kd.R_append_rows (Kd.int .i64) (w0 := w) w.heap.size rfl (.tmp 42) (.tmp 43) 51 3 (.int .i64 0) 8 rfl Try.underlying51 info3 rfl (by decide) (by omega) u3 x3_1 a1 _ _ _ (fun k_ => some k_ ≠ (.slice b3 a1.length b4 : Value).ownBlock ∧ some k_ ≠ (.slice b3 a1.length b4 : Value).ownBlock) (fun _ => False) rfl rfl ?aO ?aR (fun _ _ h => h) (fun _ h => h.elim) ?aF ?aB ?aS ?aL ?_; (case aR => repeat (first | exact (Kd.R_reads' a3.out).2.2 | (with_reducible refine Kd.C_alloc ?_ _) | (with_reducible refine Kd.C_drewN ?_ _) | (with_reducible refine Kd.C_drew ?_))); (case aB => exact qB_); (case aF => exact (fun k_ hk => ⟨Kd.fresh' (Kd.R_lt (qR_ a3)) k_ hk, Kd.fresh' (Kd.R_lt (qR_ a2)) k_ hk⟩)); (case aO => exact (qR_ a5)); (case aS => exact (below_size qB_)); (case aL => have := LMc26.out; omega); intro d3 w35 ho hb hg hat; rw [← Ny398.out] at ho; have a4 := am_ (ho); replace a3 := am_ (Kd.R_after (ok := (fun _ => True)) (by (with_reducible repeat (first | apply Kd.R_alloc | apply Kd.R_drewN | apply Kd.R_drew)); exact Kd.R_mono a3.out (fun _ hk => ⟨trivial, hk⟩)) hg hat); replace a2 := am_ (Kd.R_after (ok := (fun _ => True)) (by (with_reducible repeat (first | apply Kd.R_alloc | apply Kd.R_drewN | apply Kd.R_drew)); exact Kd.R_mono a2.out (fun _ hk => ⟨trivial, hk⟩)) hg hat); replace a0 := am_ (blk_grown (qk_ a0) hg (Kd.R_ne a5.out a0.out (by decide))); replace HB := am_ (hb); clear a5; clear ho hb hg hat))
      replace a3 := am_ (Kd.R_drew a3.out); replace a2 := am_ (Kd.R_drew a2.out); replace a4 := am_ (Kd.R_drew a4.out); replace a0 := am_ (blk_drew a0.out); replace HB := am_ (below_drew1 HB.out)
      have p401 := dp_ ((ji28))
      have q401 := dl_ (ji28) l0_1.length
      obtain ⟨ad401, A401_0, c401_0, e401, a6, hl401_0, hi401_0⟩ := at_L1 HR0_1.out (ji28) p401 q401
      have b0 := a6
      obtain rfl : ad391 = ad401 := (by injection e401)
      replace a6 := qx_ HB a6
      have HR401_0 := am_ hi401_0
      have HC401_0 := am_ hl401_0
      clear hi401_0 hl401_0; replace p401 := eq_true p401; replace q401 := eq_true q401
      have p406 : 0 ≤ (0 : Int) := (by omega)
      have q406 := dl_ 0 a1.length
      obtain ⟨ad406, e406, a7⟩ := Kd.at_int (Kd.R_reads' a3.out).2.2 0 p406 q406
      cases e406
      have qi406 : (0 < a1.length) = True := eq_true (by omega)
      (try rw [show ((0 : Int)).toNat = 0 from rfl] at a7)
      (try rw [Addr.add_zero'] at a7)
      replace p406 := eq_true p406; replace q406 := eq_true q406
      refine start_ (n := 17) (S := fun w' => w'.cell? ⟨b2, 0, none⟩ = some (.int .i64 a0_0) ∧ w'.cell? ⟨b2, 1, none⟩ = some (.slice (some ad391) l0_1.length c0_1) ∧ w'.cell? (ad391.add ((ji28)).toNat) = some (.slice A401_0 (rd_L1 l0_1 (ji28)).length c401_0) ∧ w'.cell? ad406 = some (.int .i64 (rd a1 0))) (ds := []) (bm 17 0) (by kernel_rfl) rfl (by kernel_rfl) ⟨bl_ a0 0, bl_ a0 1, ((qx_ HB b0).trans rfl), a7⟩ (fun hHeld => ?_); refine with_tabW impl_ForestOk.tab17 impl_ForestOk.bits17 (fun HT_ HW_ => ?_)
      generalize w35.drew = w36 at a3 a2 a4 a0 HB HR401_0 a6 a7 hHeld ⊢
      refine pz_ 0 45 (bm 17 1) ?_; refine pz_ 1 46 (bm 17 3) ?_; refine pz_ 2 47 (bm 17 7) ?_; refine pz_ 3 48 (bm 17 15) ?_; refine pz_ 5 50 (bm 17 47) ?_; refine pz_ 6 51 (bm 17 111) ?_; refine pz_ 12 57 (bm 17 4207) ?_; refine pz_ 13 58 (bm 17 12399) ?_; refine tz4_ 4 49 (bm 17 12415) ?_; refine pz_ 7 52 (bm 17 12543) ?_; refine tz4_ 8 53 (bm 17 12799) ?_; refine tz4_ 14 59 (bm 17 29183) ?_
      refine o1_ 9 (some 54) (bm 17 29695) (fun K hK => ?_)
      refine goes_ Try.func106 (by kernel_rfl) rfl #[.slice A401_0 (rd_L1 l0_1 (ji28)).length c401_0] (by rfl) rfl rfl (by (try simp only [List.map_toArray, List.map_cons, List.map_nil]); first | done | (simp only [hji28]; rfl) | rfl | (simp only [List.length_drop, List.length_take]; rfl)) ?_
      with_reducible refine (impl_VertsOf.calls k2 _ _ (rd_L1 l0_1 (ji28)) a9 _ ?side1 ?side2 A31.out).mono ?_
      (case side1 => exact qC_ HR401_0 HB)
      (case side2 => exact HC401_0.out)
      rintro e w37 ⟨g3, rfl, ho0, hb⟩
      have HS3_ := (hb.cell (World.block_lt_of_cell? _ _ (hHeld.2.2.2))).trans (hHeld.2.2.2)
      refine ⟨_, rfl, ?_⟩
      have b5 := am_ (Kd.R_lower (Kd.R_new' (Kd.R_new' (Kd.R_new' ho0 (Kd.R_lt (qR_ a3))) (Kd.R_lt (qR_ a2))) (Kd.R_lt (qR_ a4))) (below_size qB_)); replace a3 := am_ (Kd.R_elder' (qR_ a3) (Kd.R_base ho0) hb); replace a2 := am_ (Kd.R_elder' (qR_ a2) (Kd.R_base ho0) hb); replace a4 := am_ (Kd.R_elder' (qR_ a4) (Kd.R_base ho0) hb); replace a0 := qbl_ a0 hb; replace HB := am_ (below_step qB_ hb); (try clear hb); (try clear hb2); (try clear hk); (try clear hi); (try clear ho0)
      obtain ⟨h1, h2, d5⟩ := Kd.R_slice b5.out
      (first | subst d5 | (injection d5 with f1_ f2_ f3_; have f4_ := f1_.symm; have f5_ := f3_.symm; clear f1_ f2_ f3_; subst f4_; subst f5_))
      have p405 : 0 ≤ (0 : Int) := (by omega)
      have q405 := dl_ 0 a9.length
      obtain ⟨ad405, e405, b1⟩ := Kd.at_int (Kd.R_reads' b5.out).2.2 0 p405 q405
      cases e405
      have qi405 : (0 < a9.length) = True := eq_true (by omega)
      (try rw [show ((0 : Int)).toNat = 0 from rfl] at b1)
      (try rw [Addr.add_zero'] at b1)
      replace p405 := eq_true p405; replace q405 := eq_true q405
      refine hK.out _ _ ⟨bl_ a0 0, bl_ a0 1, ((qx_ HB b0).trans rfl), HS3_⟩ (fun hHeld => ?_)
      clear hK K
      refine nm_ 54 ?_
      refine pz_ 10 55 (bm 17 30719) ?_
      refine now_x11 (i := 11) (N := some 56) (v := ?_) (a' := ?_) (bm 17 32767) rfl rfl (one_of HT_.out (by kernel_rfl)) (by decide) (Or.inl ⟨by rfl, ?_⟩) hHeld ?_ ?_
      rotate_left
      ·rintro w' rfl
       go_simp
       with_reducible rfl
      rotate_left
      ·simp only [Act.put, sA_, sB_, sC_, i64_w, i32_w]
       rfl
      refine pz_ 15 60 (bm 17 65535) ?_; refine pz_ 16 61 (bm 17 131071) ?_
      refine done_ (done_of HT_.out (by kernel_rfl)) ?_
      try go_wp2
      go_ret
      exact ⟨by first | rfl | (simp [errW_none, errW_some] <;> rfl) | (simp only [← hji28]; first | rfl | (simp [errW_none, errW_some] <;> rfl)) | (simp [*, errW_none, errW_some] <;> rfl), qB_⟩
     rw [if_neg c34] at H
     have c34b0 : decide ((rd a1 0) ≤ (rd a9 0)) = false := decide_eq_false c34
     clear c34; have H' := am_ H; clear H
     try go_wp2_with (first | ((with_reducible refine gate_builtin (b := .append) (xs := #[.tmp 42, .tmp 43]) rfl ?_); at_builtin; refine Kd.R_append_rows (Kd.int .i64) (w0 := w) w.heap.size rfl (.tmp 42) (.tmp 43) 51 3 (.int .i64 0) 8 rfl Try.underlying51 info3 rfl (by decide) (by omega) u3 x3_1 a1 _ _ _ (fun k_ => some k_ ≠ (.slice b3 a1.length b4 : Value).ownBlock ∧ some k_ ≠ (.slice b3 a1.length b4 : Value).ownBlock) (fun _ => False) rfl rfl ?aO ?aR (fun _ _ h => h) (fun _ h => h.elim) ?aF ?aB ?aS ?aL ?_; (case aR => repeat (first | exact (Kd.R_reads' a3.out).2.2 | (with_reducible refine Kd.C_alloc ?_ _) | (with_reducible refine Kd.C_drewN ?_ _) | (with_reducible refine Kd.C_drew ?_))); (case aB => exact qB_); (case aF => exact (fun k_ hk => ⟨Kd.fresh' (Kd.R_lt (qR_ a3)) k_ hk, Kd.fresh' (Kd.R_lt (qR_ a2)) k_ hk⟩)); (case aO => exact (qR_ a5)); (case aS => exact (below_size qB_)); (case aL => have := LMc26.out; omega); intro d3 w39 ho hb hg hat; rw [← Ny398.out] at ho; have a4 := am_ (ho); replace a3 := am_ (Kd.R_after (ok := (fun _ => True)) (by (with_reducible repeat (first | apply Kd.R_alloc | apply Kd.R_drewN | apply Kd.R_drew)); exact Kd.R_mono a3.out (fun _ hk => ⟨trivial, hk⟩)) hg hat); replace a2 := am_ (Kd.R_after (ok := (fun _ => True)) (by (with_reducible repeat (first | apply Kd.R_alloc | apply Kd.R_drewN | apply Kd.R_drew)); exact Kd.R_mono a2.out (fun _ hk => ⟨trivial, hk⟩)) hg hat); replace a0 := am_ (blk_grown (qk_ a0) hg (Kd.R_ne a5.out a0.out (by decide))); replace HB := am_ (hb); clear a5; clear ho hb hg hat))
     replace a3 := am_ (Kd.R_drew a3.out); replace a2 := am_ (Kd.R_drew a2.out); replace a4 := am_ (Kd.R_drew a4.out); replace a0 := am_ (blk_drew a0.out); replace HB := am_ (below_drew1 HB.out)
     have p401 := dp_ ((ji28))
     have q401 := dl_ (ji28) l0_1.length
     obtain ⟨ad401, A401_0, c401_0, e401, a6, hl401_0, hi401_0⟩ := at_L1 HR0_1.out (ji28) p401 q401
     have b0 := a6
     obtain rfl : ad391 = ad401 := (by injection e401)
     replace a6 := qx_ HB a6
     have HR401_0 := am_ hi401_0
     have HC401_0 := am_ hl401_0
     clear hi401_0 hl401_0; replace p401 := eq_true p401; replace q401 := eq_true q401
     have p406 : 0 ≤ (0 : Int) := (by omega)
     have q406 := dl_ 0 a1.length
     obtain ⟨ad406, e406, a7⟩ := Kd.at_int (Kd.R_reads' a3.out).2.2 0 p406 q406
     cases e406
     have qi406 : (0 < a1.length) = True := eq_true (by omega)
     (try rw [show ((0 : Int)).toNat = 0 from rfl] at a7)
     (try rw [Addr.add_zero'] at a7)
     replace p406 := eq_true p406; replace q406 := eq_true q406
     refine start_ (n := 17) (S := fun w' => w'.cell? ⟨b2, 0, none⟩ = some (.int .i64 a0_0) ∧ w'.cell? ⟨b2, 1, none⟩ = some (.slice (some ad391) l0_1.length c0_1) ∧ w'.cell? (ad391.add ((ji28)).toNat) = some (.slice A401_0 (rd_L1 l0_1 (ji28)).length c401_0) ∧ w'.cell? ad406 = some (.int .i64 (rd a1 0))) (ds := []) (bm 17 0) (by kernel_rfl) rfl (by kernel_rfl) ⟨bl_ a0 0, bl_ a0 1, ((qx_ HB b0).trans rfl), a7⟩ (fun hHeld => ?_); refine with_tabW impl_ForestOk.tab17 impl_ForestOk.bits17 (fun HT_ HW_ => ?_)
     generalize w39.drew = w40 at a3 a2 a4 a0 HB HR401_0 a6 a7 hHeld ⊢
     refine pz_ 0 45 (bm 17 1) ?_; refine pz_ 1 46 (bm 17 3) ?_; refine pz_ 2 47 (bm 17 7) ?_; refine pz_ 3 48 (bm 17 15) ?_; refine pz_ 5 50 (bm 17 47) ?_; refine pz_ 6 51 (bm 17 111) ?_; refine pz_ 12 57 (bm 17 4207) ?_; refine pz_ 13 58 (bm 17 12399) ?_; refine tz4_ 4 49 (bm 17 12415) ?_; refine pz_ 7 52 (bm 17 12543) ?_; refine tz4_ 8 53 (bm 17 12799) ?_; refine tz4_ 14 59 (bm 17 29183) ?_
     refine o1_ 9 (some 54) (bm 17 29695) (fun K hK => ?_)
     refine goes_ Try.func106 (by kernel_rfl) rfl #[.slice A401_0 (rd_L1 l0_1 (ji28)).length c401_0] (by rfl) rfl rfl (by (try simp only [List.map_toArray, List.map_cons, List.map_nil]); first | done | (simp only [hji28]; rfl) | rfl | (simp only [List.length_drop, List.length_take]; rfl)) ?_
     with_reducible refine (impl_VertsOf.calls k2 _ _ (rd_L1 l0_1 (ji28)) a9 _ ?side1 ?side2 A31.out).mono ?_
     (case side1 => exact qC_ HR401_0 HB)
     (case side2 => exact HC401_0.out)
     rintro e w41 ⟨g3, rfl, ho0, hb⟩
     have HS3_ := (hb.cell (World.block_lt_of_cell? _ _ (hHeld.2.2.2))).trans (hHeld.2.2.2)
     refine ⟨_, rfl, ?_⟩
     have b5 := am_ (Kd.R_lower (Kd.R_new' (Kd.R_new' (Kd.R_new' ho0 (Kd.R_lt (qR_ a3))) (Kd.R_lt (qR_ a2))) (Kd.R_lt (qR_ a4))) (below_size qB_)); replace a3 := am_ (Kd.R_elder' (qR_ a3) (Kd.R_base ho0) hb); replace a2 := am_ (Kd.R_elder' (qR_ a2) (Kd.R_base ho0) hb); replace a4 := am_ (Kd.R_elder' (qR_ a4) (Kd.R_base ho0) hb); replace a0 := qbl_ a0 hb; replace HB := am_ (below_step qB_ hb); (try clear hb); (try clear hb2); (try clear hk); (try clear hi); (try clear ho0)
     obtain ⟨h3, h4, d6⟩ := Kd.R_slice b5.out
     (first | subst d6 | (injection d6 with f1_ f2_ f3_; have f4_ := f1_.symm; have f5_ := f3_.symm; clear f1_ f2_ f3_; subst f4_; subst f5_))
     have p405 : 0 ≤ (0 : Int) := (by omega)
     have q405 := dl_ 0 a9.length
     obtain ⟨ad405, e405, b1⟩ := Kd.at_int (Kd.R_reads' b5.out).2.2 0 p405 q405
     cases e405
     have qi405 : (0 < a9.length) = True := eq_true (by omega)
     (try rw [show ((0 : Int)).toNat = 0 from rfl] at b1)
     (try rw [Addr.add_zero'] at b1)
     replace p405 := eq_true p405; replace q405 := eq_true q405
     refine hK.out _ _ ⟨bl_ a0 0, bl_ a0 1, ((qx_ HB b0).trans rfl), HS3_⟩ (fun hHeld => ?_)
     clear hK K
     refine nm_ 54 ?_
     refine pz_ 10 55 (bm 17 30719) ?_
     refine now_x11 (i := 11) (N := some 56) (v := ?_) (a' := ?_) (bm 17 32767) rfl rfl (one_of HT_.out (by kernel_rfl)) (by decide) (Or.inl ⟨by rfl, ?_⟩) hHeld ?_ ?_
     rotate_left
     ·rintro w' rfl
      go_simp
      with_reducible rfl
     rotate_left
     ·simp only [Act.put, sA_, sB_, sC_, i64_w, i32_w]
      rfl
     refine pz_ 15 60 (bm 17 65535) ?_; refine pz_ 16 61 (bm 17 131071) ?_
     refine done_ (done_of HT_.out (by kernel_rfl)) ?_
     try go_wp2
     go_roundg k2
     case measure => have := HK1.out; have := HK2.out; omega
     case rel => exact ⟨(c5), (wrap64 (x16_1 + 1)), qe_, H', ⟨by have := HK1.out; have := HK2.out; omega⟩, ⟨by (with_reducible repeat (first | apply Kd.R_alloc | apply Kd.R_drewN | apply Kd.R_drew)); exact Kd.R_mono a4.out (fun _ hk => trivial)⟩, ⟨qk_ a0⟩, ⟨qB_⟩⟩
end Go.Proofs.Ytbkklafkoegdpaa.QFnExactLink
