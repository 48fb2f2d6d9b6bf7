-- printed for this claim by a program of the session's own (no text of the kit's print)
import Derived.Test.YtacnlodcbbhahaaQFnExactEdgesOfx0
import Derived.Test.YtacnlodcbbhahaaQFnExactEdgesOfx3
namespace Go.Proofs.Ytacnlodcbbhahaa.QFnExactEdgesOf
open Go.RowKit Go.Proofs.YtacnlodcbbhahaaW.PrintWords Go.Proofs.YtacnlodcbbhahaaW.PrintLast Go.Proofs.YtacnlodcbbhahaaW.PrintMore
attribute [local go_sem] max2_int min2_int max_two min_two max_three min_three max_four min_four   -- for this text's walks alone
set_option linter.unusedVariables false
set_option linter.unusedSimpArgs false
theorem now_x4 {P : Program} {ops : Array Oper} {Q : Exit → Act → World → Prop} {md : Region.Mode} {S : World → Prop} {ds : List Nat} {i : Nat} {N : Option Tmp} {oi : Oper} {v : Value} {fuel : Nat} {l : Array Bool} {a : Act} {w : World} (l' : Array Bool) (hi : ops[i]? = some oi) (hN : oi.dst = N) (hc : readyB md ops l l' i = true) (hd : i ∉ ds)
    (hy : YieldsIf P ops (fun w' => w' = w) oi v a) (hS : S w) {a' : Act} (ha : a.put N v = a')
    (h : wpAnyLast P md ops Q S ds fuel l' a' w) : wpAnyLast P md ops Q S ds (fuel + 1) l a w := by
  subst ha
  refine one_ l' hi hN hc hd (fun K hK => ?_)
  subst hN
  rcases hy with ⟨hw, hv⟩ | ⟨hw, rfl⟩
  · simp only [hw, if_true, Oper.wp, hv w rfl, Oper.upon]; exact hK.out _ _ hS (fun _ => h)
  · simp only [hw, Bool.false_eq_true, if_false]; exact hK.out _ _ hS (fun _ => h)


/-! ### spec_ForestOk: function 19 -/
mutual
def spec_ForestOk.j0 : Nat → Bool → Int → List (List Int) → Option (Bool)
  | 0, _, _, _ => none
  | k + 1, x17, x168000, x168001 => if x17 = true then (some false) else (spec_ForestOk.l0 k 0 0 x168000 x168001)
def spec_ForestOk.l0 : Nat → Int → Int → Int → List (List Int) → Option (Bool)
  | 0, _, _, _, _ => none
  | k + 1, x3, x4, x168000, x168001 => if x4 < (x168001.length : Int) then (if 0 ≤ x4 then ((spec_TourOk.f k (rd_L1 x168001 x4)).bind fun t170 => (if t170 = true then ((spec_VertsOf.f k (rd_L1 x168001 x4)).bind fun t172 => (if 0 ≤ (wrap64 ((t172.length : Int) - 1)) then (if (wrap64 ((t172.length : Int) - 1)) < (t172.length : Int) then (if (rd t172 (wrap64 ((t172.length : Int) - 1))) ≥ x168000 then (spec_ForestOk.j2 k (wrap64 (x3 + (t172.length : Int))) x4 t172 true x168000 x168001) else (if x4 > 0 then (if 0 ≤ (wrap64 (x4 - 1)) then (if (wrap64 (x4 - 1)) < (x168001.length : Int) then ((spec_VertsOf.f k (rd_L1 x168001 (wrap64 (x4 - 1)))).bind fun t177 => (if 0 < (t177.length : Int) then (if 0 < (t172.length : Int) then (spec_ForestOk.j2 k (wrap64 (x3 + (t172.length : Int))) x4 t172 (decide ((rd t177 0) ≥ (rd t172 0))) x168000 x168001) else (none)) else (none))) else (none)) else (none)) else (spec_ForestOk.j2 k (wrap64 (x3 + (t172.length : Int))) x4 t172 false x168000 x168001))) else (none)) else (none))) else (some false))) else (none)) else (some (x3 == x168000))
def spec_ForestOk.j2 : Nat → Int → Int → List Int → Bool → Int → List (List Int) → Option (Bool)
  | 0, _, _, _, _, _, _ => none
  | k + 1, x3, x4, x5, x69, x168000, x168001 => if x69 = true then (some false) else (spec_ForestOk.l1 k x3 x4 x5 0 x168000 x168001)
def spec_ForestOk.l1 : Nat → Int → Int → List Int → Int → Int → List (List Int) → Option (Bool)
  | 0, _, _, _, _, _, _ => none
  | k + 1, x3, x4, x5, x6, x168000, x168001 => if x6 < x4 then (spec_ForestOk.l2 k x3 x4 x5 x6 0 x168000 x168001) else (spec_ForestOk.l0 k x3 (wrap64 (x4 + 1)) x168000 x168001)
def spec_ForestOk.l2 : Nat → Int → Int → List Int → Int → Int → Int → List (List Int) → Option (Bool)
  | 0, _, _, _, _, _, _, _ => none
  | k + 1, x3, x4, x5, x6, x7, x168000, x168001 => if x7 < (x5.length : Int) then (if 0 ≤ x6 then (if x6 < (x168001.length : Int) then (if 0 ≤ x7 then ((spec_l05In.f k (rd_L1 x168001 x6) (rd x5 x7)).bind fun t184 => (if t184 = true then (some false) else (spec_ForestOk.l2 k x3 x4 x5 x6 (wrap64 (x7 + 1)) x168000 x168001))) else (none)) else (none)) else (none)) else (spec_ForestOk.l1 k x3 x4 x5 (wrap64 (x6 + 1)) x168000 x168001)
end
def spec_ForestOk.f (k : Nat) (a0_0 : Int) (l0_1 : List (List Int)) : Option (Bool) := (spec_l01In.f a0_0 1 12).bind fun t168 => (if t168 = true then (spec_ForestOk.j0 k (decide ((l0_1.length : Int) > 12)) a0_0 l0_1) else (spec_ForestOk.j0 k true a0_0 l0_1))
theorem spec_ForestOk.mono_l : ∀ k, (∀ y0 y1 y2, LeO (spec_ForestOk.j0 k y0 y1 y2) (spec_ForestOk.j0 (k + 1) y0 y1 y2)) ∧ (∀ y0 y1 y2 y3, LeO (spec_ForestOk.l0 k y0 y1 y2 y3) (spec_ForestOk.l0 (k + 1) y0 y1 y2 y3)) ∧ (∀ y0 y1 y2 y3 y4 y5, LeO (spec_ForestOk.j2 k y0 y1 y2 y3 y4 y5) (spec_ForestOk.j2 (k + 1) y0 y1 y2 y3 y4 y5)) ∧ (∀ y0 y1 y2 y3 y4 y5, LeO (spec_ForestOk.l1 k y0 y1 y2 y3 y4 y5) (spec_ForestOk.l1 (k + 1) y0 y1 y2 y3 y4 y5)) ∧ (∀ y0 y1 y2 y3 y4 y5 y6, LeO (spec_ForestOk.l2 k y0 y1 y2 y3 y4 y5 y6) (spec_ForestOk.l2 (k + 1) y0 y1 y2 y3 y4 y5 y6))
  | 0 => ⟨fun _ _ _ r h => by simp [spec_ForestOk.j0] at h, fun _ _ _ _ r h => by simp [spec_ForestOk.l0] at h, fun _ _ _ _ _ _ r h => by simp [spec_ForestOk.j2] at h, fun _ _ _ _ _ _ r h => by simp [spec_ForestOk.l1] at h, fun _ _ _ _ _ _ _ r h => by simp [spec_ForestOk.l2] at h⟩
  | k + 1 => by
    obtain ⟨ih0, ih1, ih2, ih3, ih4⟩ := spec_ForestOk.mono_l k
    refine ⟨?_, ?_, ?_, ?_, ?_⟩ <;> (intros; first | unfold spec_ForestOk.j0 | unfold spec_ForestOk.l0 | unfold spec_ForestOk.j2 | unfold spec_ForestOk.l1 | unfold spec_ForestOk.l2) <;> repeat' first
    | (with_reducible exact ih0 _ _ _)
    | (with_reducible exact ih1 _ _ _ _)
    | (with_reducible exact ih2 _ _ _ _ _ _)
    | (with_reducible exact ih3 _ _ _ _ _ _)
    | (with_reducible exact ih4 _ _ _ _ _ _ _)
    | (with_reducible exact spec_TourOk.mono _ _)
    | (with_reducible exact spec_VertsOf.mono _ _)
    | (with_reducible exact spec_l05In.mono _ _ _)
    | (with_reducible exact LeO.refl _)
    | (with_reducible exact LeO.none _)
    | (with_reducible refine LeO.ite ?_ ?_)
    | (with_reducible refine LeO.bind ?_ (fun _ => ?_))
    | exact ih0 _ _ _
    | exact ih1 _ _ _ _
    | exact ih2 _ _ _ _ _ _
    | exact ih3 _ _ _ _ _ _
    | exact ih4 _ _ _ _ _ _ _
    | exact spec_TourOk.mono _ _
    | exact spec_VertsOf.mono _ _
    | exact spec_l05In.mono _ _ _
    | exact LeO.none _
    | refine LeO.ite ?_ ?_
    | refine LeO.bind ?_ (fun _ => ?_)
theorem spec_ForestOk.mono : ∀ a0 a1 k, LeO (spec_ForestOk.f k a0 a1) (spec_ForestOk.f (k + 1) a0 a1) := by
  intro a0 a1 k
  obtain ⟨ih0, ih1, ih2, ih3, ih4⟩ := spec_ForestOk.mono_l k
  unfold spec_ForestOk.f
  repeat' first
      | (with_reducible exact ih0 _ _ _)
      | (with_reducible exact ih1 _ _ _ _)
      | (with_reducible exact ih2 _ _ _ _ _ _)
      | (with_reducible exact ih3 _ _ _ _ _ _)
      | (with_reducible exact ih4 _ _ _ _ _ _ _)
      | (with_reducible exact spec_TourOk.mono _ _)
      | (with_reducible exact spec_VertsOf.mono _ _)
      | (with_reducible exact spec_l05In.mono _ _ _)
      | (with_reducible exact LeO.refl _)
      | (with_reducible exact LeO.none _)
      | (with_reducible refine LeO.ite ?_ ?_)
      | (with_reducible refine LeO.bind ?_ (fun _ => ?_))
      | exact ih0 _ _ _
      | exact ih1 _ _ _ _
      | exact ih2 _ _ _ _ _ _
      | exact ih3 _ _ _ _ _ _
      | exact ih4 _ _ _ _ _ _ _
      | exact spec_TourOk.mono _ _
      | exact spec_VertsOf.mono _ _
      | exact spec_l05In.mono _ _ _
      | exact LeO.none _
      | refine LeO.ite ?_ ?_
      | refine LeO.bind ?_ (fun _ => ?_)
def spec_ForestOk.T11 : Bool × List (List Nat × List Nat) := (true, [([], []), ([], []), ([1], [1]), ([2], [2]), ([0, 3], [0, 3]), ([4], [4]), ([], []), ([6], [6]), ([5, 7], [5, 7]), ([8], [8]), ([9], [9]), ([10, 9], [9, 10]), ([11, 9, 9], [9, 11]), ([12], [12]), ([13, 12], [12, 13]), ([12], [12]), ([15, 12], [12, 15]), ([14, 16, 12], [12, 14, 16]), ([17, 12], [12, 17]), ([18, 12, 12], [12, 18]), ([19, 12], [12, 19]), ([20, 12], [12, 20]), ([12], [12]), ([22, 12], [12, 22]), ([23, 12], [12, 23]), ([21, 24, 12], [12, 21, 24]), ([12, 25, 9], [9, 12, 25]), ([9, 26], [9, 26])])
def spec_ForestOk.B11 : List Nat := [0, 0, 2, 6, 15, 31, 0, 64, 255, 511, 1023, 2047, 4095, 8191, 16383, 8191, 40959, 131071, 262143, 524287, 1048575, 2097151, 8191, 4202495, 12591103, 33554431, 67108863, 134217727]
theorem spec_ForestOk.tab11 : rtab .any (opsOf Try.f19 11) = spec_ForestOk.T11 := by kernel_rfl
theorem spec_ForestOk.bits11 : waitsOk spec_ForestOk.T11.2 spec_ForestOk.B11 = true := by kernel_rfl
def spec_ForestOk.T19 : Bool × List (List Nat × List Nat) := (true, [([], []), ([0], [0]), ([], []), ([1, 2], [1, 2]), ([3], [3]), ([], []), ([], []), ([5, 6], [5, 6]), ([7], [7]), ([4, 8], [4, 8])])
def spec_ForestOk.B19 : List Nat := [0, 1, 0, 7, 15, 0, 0, 96, 224, 511]
theorem spec_ForestOk.tab19 : rtab .any (opsOf Try.f19 19) = spec_ForestOk.T19 := by kernel_rfl
theorem spec_ForestOk.bits19 : waitsOk spec_ForestOk.T19.2 spec_ForestOk.B19 = true := by kernel_rfl
set_option maxHeartbeats 8000000 in
set_option maxRecDepth 100000 in
theorem spec_ForestOk.calls (k : Nat) (a0_0 : Int) (A0_1 : Option Addr) (c0_1 : Nat) (l0_1 : List (List Int)) (r : Bool) (w : World) (hr0_1 : Kd.C (Kd.slice 3 (Kd.int .i64)) w A0_1 l0_1.length l0_1) (hc0_1 : l0_1.length ≤ c0_1) (h : spec_ForestOk.f k a0_0 l0_1 = some r) :
  Calls Try.prog 19 #[.agg #[.int .i64 a0_0, .slice A0_1 l0_1.length c0_1]] w fun e w' => e = .returned (.bool r) ∧ Below w.heap.size w w' := by
 have hu33 := Try.underlying33
 have HR0_1 := Aside0.mk hr0_1
 have HC0_1 := Aside0.mk hc0_1
 clear hr0_1 hc0_1
 have HB := Aside0.mk (Below.refl w.heap.size w)
 have H : ((spec_l01In.f a0_0 1 12).bind fun t168 => (if t168 = true then (spec_ForestOk.j0 k (decide ((l0_1.length : Int) > 12)) a0_0 l0_1) else (spec_ForestOk.j0 k true a0_0 l0_1))) = some r := h
 clear h
 have HC2 := Aside0.mk H
 clear H
 go_enter Try.func19, Try.ntmps19
 go_upto_region 1 with (first | ((with_reducible refine gate_dst (N := 1) rfl ?_); (try (refine gate_guard (by rfl) ?_; dsimp only)); refine bx_ 1 (cs := #[.int .i64 a0_0, .slice A0_1 l0_1.length c0_1]) (t := 33) ?_; intro gb167 hg w3 hbox hb; have BK167 := Aside0.mk (hbox); have GW167 := Aside0.mk ((qs_ : w.heap.size ≤ gb167)); have GE167 := Aside0.mk ((qs_ : w.heap.size ≤ gb167)); replace HB := Aside0.mk (below_step qB_ hb); clear hb hbox hg))
 (try simp only [Act.put, List.setIfInBounds_toArray, List.set_cons_zero, List.set_cons_succ])
 go_cut [17] (fun v17 wc => ∃ (kq : Nat) (x17_1 : Bool), v17 = .bool x17_1 ∧ Aside0 (spec_ForestOk.j0 kq x17_1 a0_0 l0_1 = some r) ∧ Aside0 (kq ≤ k) ∧ Aside0 (wc.heap[gb167]? = some (.cells #[.int .i64 a0_0, (.slice A0_1 l0_1.length c0_1)] 33 (0, 0))) ∧ Aside0 (Below w.heap.size w wc))
 case first =>
  have H := HC2.out; clear HC2
  obtain ⟨t168, A40, H⟩ := Option.bind_eq_some_iff.mp H; have A4 := Aside0.mk A40; clear A40
  by_cases c5 : t168 = true
  ·subst c5
   rw [if_pos rfl] at H; have H' := Aside0.mk H; clear H
   obtain ⟨hcz6_0, hcz6_1, hfz6_0, hfz6_1⟩ := bc2_ BK167
   go_wp2_with (first | ((with_reducible refine gate_callee (f := 64) rfl ?_); refine gl_ (some 10) Try.func64 #[.int .i64 a0_0, .int .i64 1, .int .i64 12] ?_; (with_reducible refine (spec_l01In.calls a0_0 1 12 true _ A4.out).mono ?_); rintro e w' ⟨rfl, ⟨nd, rfl⟩⟩; refine ⟨_, rfl, ?_⟩))
   go_meet
   case rel => exact ⟨_, (decide ((l0_1.length : Int) > 12)), qe_, H', ⟨qo_⟩, ⟨qk_ BK167⟩, ⟨qB_⟩⟩
  ·replace c5 := Bool.eq_false_iff.mpr c5
   subst c5
   rw [if_neg (show ¬ (false = true) by decide)] at H; have H' := Aside0.mk H; clear H
   obtain ⟨hcz7_0, hcz7_1, hfz7_0, hfz7_1⟩ := bc2_ BK167
   go_wp2_with (first | ((with_reducible refine gate_callee (f := 64) rfl ?_); refine gl_ (some 10) Try.func64 #[.int .i64 a0_0, .int .i64 1, .int .i64 12] ?_; (with_reducible refine (spec_l01In.calls a0_0 1 12 false _ A4.out).mono ?_); rintro e w' ⟨rfl, ⟨nd, rfl⟩⟩; refine ⟨_, rfl, ?_⟩))
   go_meet
   case rel => exact ⟨_, (true), qe_, H', ⟨qo_⟩, ⟨qk_ BK167⟩, ⟨qB_⟩⟩
 case rest =>
  clear HC2; (try clear c1); (try clear p2); (try clear c5); (try clear c6); (try clear hcz6_0); (try clear hcz6_1); (try clear hcz7_0); (try clear hcz7_1); (try clear hfz6_0); (try clear hfz6_1); (try clear hfz7_0); (try clear hfz7_1)
  obtain ⟨kq, x17_1, rfl, HA, HJ1, BK167, HB⟩ := hcut
  cases kq with
  | zero => exact absurd HA.out (by simp [spec_ForestOk.j0])
  | succ kj1 =>
   have H := HA.out; clear HA
   simp only [spec_ForestOk.j0] at H
   by_cases c8 : x17_1 = true
   ·subst c8
    rw [if_pos rfl] at H
    obtain rfl := Option.some.inj H
    go_wp2
    go_ret
    exact ⟨qr_, qB_⟩
   ·replace c8 := Bool.eq_false_iff.mpr c8
    subst c8
    rw [if_neg (show ¬ (false = true) by decide)] at H; have H' := Aside0.mk H; clear H
    go_wp2
    go_loopg [3, 4] kj1 (fun kq v3 v4 w' => ∃ (x3_2 : Int) (x4_2 : Int), v3 = .int .i64 x3_2 ∧ v4 = .int .i64 x4_2 ∧ Aside0 (spec_ForestOk.l0 kq x3_2 x4_2 a0_0 l0_1 = some r) ∧ Aside0 (kq ≤ kj1) ∧ Aside0 (w'.heap[gb167]? = some (.cells #[.int .i64 a0_0, (.slice A0_1 l0_1.length c0_1)] 33 (0, 0))) ∧ Aside0 (Below w.heap.size w w'))
    case atStart => exact ⟨(0), (0), qe_, qe_, H', ⟨Nat.le_refl _⟩, ⟨qk_ BK167⟩, ⟨qB_⟩⟩
    case round =>
     clear H'
     (try clear c1); (try clear p2); (try clear c5); (try clear c6); (try clear c8); (try clear hcz6_0); (try clear hcz6_1); (try clear hcz7_0); (try clear hcz7_1); (try clear hfz6_0); (try clear hfz6_1); (try clear hfz7_0); (try clear hfz7_1); (try clear p2)
     obtain ⟨x3_2, x4_2, rfl, rfl, HA, HK2, BK167, HB⟩ := hrel
     cases gk with
     | zero => exact absurd HA.out (by simp [spec_ForestOk.l0])
     | succ k2 =>
      have H := HA.out; clear HA
      simp only [spec_ForestOk.l0] at H
      by_cases c9 : x4_2 < (l0_1.length : Int)
      ·rw [if_pos c9] at H
       have c9b0 : decide (x4_2 < (l0_1.length : Int)) = true := decide_eq_true c9
       clear c9
       by_cases c10 : 0 ≤ x4_2
       ·rw [if_pos c10] at H
        have c10b0 : decide (0 ≤ x4_2) = true := decide_eq_true c10
        clear c10
        obtain ⟨t170, A110, H⟩ := Option.bind_eq_some_iff.mp H; have A11 := Aside0.mk A110; clear A110
        by_cases c12 : t170 = true
        ·subst c12
         rw [if_pos rfl] at H
         obtain ⟨t172, A130, H⟩ := Option.bind_eq_some_iff.mp H; have A13 := Aside0.mk A130; clear A130
         have HC14 := Aside0.mk H
         clear H
         obtain ⟨hcz15_0, hcz15_1, hfz15_0, hfz15_1⟩ := bc2_ BK167
         have p169 : 0 ≤ (x4_2 : Int) := of_decide_eq_true qa_
         have q169 : x4_2 < (l0_1.length : Int) := of_decide_eq_true qa_
         obtain ⟨ad169, A169_0, c169_0, e169, hx169_0, hl169_0, hi169_0⟩ := at_L1 HR0_1.out x4_2 p169 q169
         cases e169
         replace hx169_0 := (HB.out.cell (World.block_lt_of_cell? w _ hx169_0)).trans hx169_0
         have HR169_0 := Aside0.mk hi169_0
         have HC169_0 := Aside0.mk hl169_0
         clear hi169_0 hl169_0; replace p169 := eq_true p169; replace q169 := eq_true q169
         go_upto_region 11 with (first | ((with_reducible refine gate_callee (f := 65) rfl ?_); refine gl_ (some 30) Try.func65 #[.slice A169_0 (rd_L1 l0_1 x4_2).length c169_0] ?_; (with_reducible refine (spec_TourOk.calls k2 _ _ (rd_L1 l0_1 x4_2) true _ ?side1 ?side2 A11.out).mono ?_); (case side1 => exact qC_ HR169_0 HB); (case side2 => exact HC169_0.out); rintro e w16 ⟨rfl, hb⟩; refine ⟨_, rfl, ?_⟩; replace BK167 := Aside0.mk (blk_below (qk_ BK167) hb); replace HB := Aside0.mk (below_step qB_ hb); (try clear hb); (try clear hb2); (try clear hk); (try clear hi); obtain ⟨hcz17_0, hcz17_1, hfz17_0, hfz17_1⟩ := bc2_ BK167; have p171 : 0 ≤ (x4_2 : Int) := of_decide_eq_true qa_; have q171 : x4_2 < (l0_1.length : Int) := of_decide_eq_true qa_; obtain ⟨ad171, A171_0, c171_0, e171, hx171_0, hl171_0, hi171_0⟩ := at_L1 HR0_1.out x4_2 p171 q171; obtain rfl : ad169 = ad171 := (by injection e171); replace hx171_0 := (HB.out.cell (World.block_lt_of_cell? w _ hx171_0)).trans hx171_0; have HR171_0 := Aside0.mk hi171_0; have HC171_0 := Aside0.mk hl171_0; clear hi171_0 hl171_0; replace p171 := eq_true p171; replace q171 := eq_true q171) | ((with_reducible refine gate_callee (f := 66) rfl ?_); refine gl_ (some 37) Try.func66 #[.slice A171_0 (rd_L1 l0_1 x4_2).length c171_0] ?_; (with_reducible refine (spec_VertsOf.calls k2 _ _ (rd_L1 l0_1 x4_2) t172 _ ?side1 ?side2 A13.out).mono ?_); (case side1 => exact qC_ HR171_0 HB); (case side2 => exact HC171_0.out); rintro e w18 ⟨v173, rfl, ho0, hb⟩; refine ⟨_, rfl, ?_⟩; have HO174 := Aside0.mk (Kd.R_lower ho0 (below_size qB_)); replace BK167 := Aside0.mk (blk_below (qk_ BK167) hb); replace HB := Aside0.mk (below_step qB_ hb); (try clear hb); (try clear hb2); (try clear hk); (try clear hi); (try clear ho0); obtain ⟨Ao19, co19, eo19⟩ := Kd.R_slice HO174.out; subst eo19))
         (try simp only [Act.put, List.setIfInBounds_toArray, List.set_cons_zero, List.set_cons_succ])
         go_cut [69] (fun v69 wc => ∃ (kq : Nat) (x69_13 : Bool), v69 = .bool x69_13 ∧ Aside0 (spec_ForestOk.j2 kq (wrap64 (x3_2 + (t172.length : Int))) x4_2 t172 x69_13 a0_0 l0_1 = some r) ∧ Aside0 (kq ≤ k2) ∧ Aside0 (Kd.R (Kd.int .i64) 3 wc w.heap.size (fun _ => True) (.slice Ao19 t172.length co19) t172) ∧ Aside0 (wc.heap[gb167]? = some (.cells #[.int .i64 a0_0, (.slice (some ad169) l0_1.length c0_1)] 33 (0, 0))) ∧ Aside0 (Below w.heap.size w wc))
         case first =>
          have H := HC14.out; clear HC14
          obtain ⟨ji20, hji20⟩ : ∃ j_ : Int, (wrap64 ((t172.length : Int) - 1)) = j_ := ⟨_, rfl⟩
          first | rw [hji20] at H | simp only [hji20] at H
          have hji20w : (IntKind.i64.wrap ((t172.length : Int) - 1)) = ji20 := (i64_w _).trans hji20
          by_cases c21 : 0 ≤ (ji20)
          ·rw [if_pos c21] at H
           have c21b0 : decide (0 ≤ (ji20)) = true := decide_eq_true c21
           clear c21
           (first | rw [c21b0] | (simp only [i64_w, i32_w]; rw [c21b0]) | skip)
           by_cases c22 : (ji20) < (t172.length : Int)
           ·rw [if_pos c22] at H
            have c22b0 : decide ((ji20) < (t172.length : Int)) = true := decide_eq_true c22
            clear c22
            by_cases c23 : (rd t172 (ji20)) ≥ a0_0
            ·rw [if_pos c23] at H
             have c23b0 : decide (a0_0 ≤ (rd t172 (ji20))) = true := decide_eq_true c23
             clear c23; have H' := Aside0.mk H; clear H
             try go_wp2
             have n0_ := Aside0.mk (Kd.R_drew HO174.out)
             have n1_ := Aside0.mk (blk_drew BK167.out)
             have n2_ := Aside0.mk (below_drew1 HB.out)
             clear HO174; clear BK167; clear HB; have HO174 := n0_; have BK167 := n1_; have HB := n2_; clear n0_ n1_ n2_
             have p175 : 0 ≤ ((ji20) : Int) := of_decide_eq_true qa_
             have q175 : (ji20) < (t172.length : Int) := of_decide_eq_true qa_
             obtain ⟨ad175, e175, hx175_0⟩ := Kd.at_int (Kd.R_reads' HO174.out).2.2 (ji20) p175 q175
             cases e175; replace p175 := eq_true p175; replace q175 := eq_true q175
             refine start_ (n := 28) (S := fun w' => w'.cell? ⟨gb167, 0, none⟩ = some (.int .i64 a0_0) ∧ w'.cell? ⟨gb167, 1, none⟩ = some (.slice (some ad169) l0_1.length c0_1) ∧ w'.cell? (ad175.add ((ji20)).toNat) = some (.int .i64 (rd t172 (ji20)))) (ds := []) (bm 28 0) (by kernel_rfl) rfl (by kernel_rfl) ⟨(blk_cell BK167.out 0).trans rfl, (blk_cell BK167.out 1).trans rfl, hx175_0⟩ (fun hHeld => ?_); refine with_tabW spec_ForestOk.tab11 spec_ForestOk.bits11 (fun HT_ HW_ => ?_)
             generalize w18.drew = w24 at HO174 BK167 HB hx175_0 hHeld ⊢
             refine pz_ 0 42 (bm 28 1) ?_; refine pz_ 1 43 (bm 28 3) ?_; refine pz_ 2 44 (bm 28 7) ?_; refine pz_ 3 45 (bm 28 15) ?_; refine pz_ 4 46 (bm 28 31) ?_; refine pz_ 6 48 (bm 28 95) ?_; refine tz3_ 5 47 (bm 28 127) ?_; refine tz3_ 7 49 (bm 28 255) ?_; refine pz_ 8 50 (bm 28 511) ?_; refine pz_ 9 51 (bm 28 1023) ?_
             refine pure_ (i := 10) (N := some 52) (v := undef) (a' := ?_) (bm 28 2047) rfl rfl (any_of HT_.out (by kernel_rfl)) (fun _ _ _ h => h) (Or.inr ⟨by rfl, rfl⟩) ?_ ?_
             rotate_left
             ·simp only [Act.put, List.setIfInBounds_toArray, List.set_cons_zero, List.set_cons_succ, i64_w, i32_w]
              rfl
             refine pure_ (i := 11) (N := some 53) (v := undef) (a' := ?_) (bm 28 4095) rfl rfl (any_of HT_.out (by kernel_rfl)) (fun _ _ _ h => h) (Or.inr ⟨by rfl, rfl⟩) ?_ ?_
             rotate_left
             ·simp only [Act.put, List.setIfInBounds_toArray, List.set_cons_zero, List.set_cons_succ, i64_w, i32_w]
              rfl
             refine pure_ (i := 12) (N := some 54) (v := undef) (a' := ?_) (bm 28 8191) rfl rfl (any_of HT_.out (by kernel_rfl)) (fun _ _ _ h => h) (Or.inr ⟨by rfl, rfl⟩) ?_ ?_
             rotate_left
             ·simp only [Act.put, List.setIfInBounds_toArray, List.set_cons_zero, List.set_cons_succ, i64_w, i32_w]
              rfl
             refine pure_ (i := 13) (N := some 55) (v := undef) (a' := ?_) (bm 28 16383) rfl rfl (any_of HT_.out (by kernel_rfl)) (fun _ _ _ h => h) (Or.inr ⟨by rfl, rfl⟩) ?_ ?_
             rotate_left
             ·simp only [Act.put, List.setIfInBounds_toArray, List.set_cons_zero, List.set_cons_succ, i64_w, i32_w]
              rfl
             refine pure_ (i := 14) (N := some 56) (v := undef) (a' := ?_) (bm 28 32767) rfl rfl (any_of HT_.out (by kernel_rfl)) (fun _ _ _ h => h) (Or.inr ⟨by rfl, rfl⟩) ?_ ?_
             rotate_left
             ·simp only [Act.put, List.setIfInBounds_toArray, List.set_cons_zero, List.set_cons_succ, i64_w, i32_w]
              rfl
             refine pure_ (i := 15) (N := some 57) (v := undef) (a' := ?_) (bm 28 65535) rfl rfl (any_of HT_.out (by kernel_rfl)) (fun _ _ _ h => h) (Or.inr ⟨by rfl, rfl⟩) ?_ ?_
             rotate_left
             ·simp only [Act.put, List.setIfInBounds_toArray, List.set_cons_zero, List.set_cons_succ, i64_w, i32_w]
              rfl
             refine pure_ (i := 16) (N := some 58) (v := undef) (a' := ?_) (bm 28 131071) rfl rfl (any_of HT_.out (by kernel_rfl)) (fun _ _ _ h => h) (Or.inr ⟨by rfl, rfl⟩) ?_ ?_
             rotate_left
             ·simp only [Act.put, List.setIfInBounds_toArray, List.set_cons_zero, List.set_cons_succ, i64_w, i32_w]
              rfl
             refine pure_ (i := 17) (N := some 59) (v := undef) (a' := ?_) (bm 28 262143) rfl rfl (any_of HT_.out (by kernel_rfl)) (fun _ _ _ h => h) (Or.inr ⟨by rfl, rfl⟩) ?_ ?_
             rotate_left
             ·simp only [Act.put, List.setIfInBounds_toArray, List.set_cons_zero, List.set_cons_succ, i64_w, i32_w]
              rfl
             refine pure_ (i := 18) (N := some 60) (v := undef) (a' := ?_) (bm 28 524287) rfl rfl (any_of HT_.out (by kernel_rfl)) (fun _ _ _ h => h) (Or.inr ⟨by rfl, rfl⟩) ?_ ?_
             rotate_left
             ·simp only [Act.put, List.setIfInBounds_toArray, List.set_cons_zero, List.set_cons_succ, i64_w, i32_w]
              rfl
             refine pure_ (i := 19) (N := some 61) (v := undef) (a' := ?_) (bm 28 1048575) rfl rfl (any_of HT_.out (by kernel_rfl)) (fun _ _ _ h => h) (Or.inr ⟨by rfl, rfl⟩) ?_ ?_
             rotate_left
             ·simp only [Act.put, List.setIfInBounds_toArray, List.set_cons_zero, List.set_cons_succ, i64_w, i32_w]
              rfl
             refine pure_ (i := 20) (N := some 62) (v := undef) (a' := ?_) (bm 28 2097151) rfl rfl (any_of HT_.out (by kernel_rfl)) (fun _ _ _ h => h) (Or.inr ⟨by rfl, rfl⟩) ?_ ?_
             rotate_left
             ·simp only [Act.put, List.setIfInBounds_toArray, List.set_cons_zero, List.set_cons_succ, i64_w, i32_w]
              rfl
             refine pure_ (i := 21) (N := some 63) (v := undef) (a' := ?_) (bm 28 4194303) rfl rfl (any_of HT_.out (by kernel_rfl)) (fun _ _ _ h => h) (Or.inr ⟨by rfl, rfl⟩) ?_ ?_
             rotate_left
             ·simp only [Act.put, List.setIfInBounds_toArray, List.set_cons_zero, List.set_cons_succ, i64_w, i32_w]
              rfl
             refine pure_ (i := 22) (N := some 64) (v := undef) (a' := ?_) (bm 28 8388607) rfl rfl (any_of HT_.out (by kernel_rfl)) (fun _ _ _ h => h) (Or.inr ⟨by rfl, rfl⟩) ?_ ?_
             rotate_left
             ·simp only [Act.put, List.setIfInBounds_toArray, List.set_cons_zero, List.set_cons_succ, i64_w, i32_w]
              rfl
             refine pure_ (i := 23) (N := some 65) (v := undef) (a' := ?_) (bm 28 16777215) rfl rfl (any_of HT_.out (by kernel_rfl)) (fun _ _ _ h => h) (Or.inr ⟨by rfl, rfl⟩) ?_ ?_
             rotate_left
             ·simp only [Act.put, List.setIfInBounds_toArray, List.set_cons_zero, List.set_cons_succ, i64_w, i32_w]
              rfl
             refine pure_ (i := 24) (N := some 66) (v := undef) (a' := ?_) (bm 28 33554431) rfl rfl (any_of HT_.out (by kernel_rfl)) (fun _ _ _ h => h) (Or.inr ⟨by rfl, rfl⟩) ?_ ?_
             rotate_left
             ·simp only [Act.put, List.setIfInBounds_toArray, List.set_cons_zero, List.set_cons_succ, i64_w, i32_w]
              rfl
             refine pure_ (i := 25) (N := some 67) (v := undef) (a' := ?_) (bm 28 67108863) rfl rfl (any_of HT_.out (by kernel_rfl)) (fun _ _ _ h => h) (Or.inr ⟨by rfl, rfl⟩) ?_ ?_
             rotate_left
             ·simp only [Act.put, List.setIfInBounds_toArray, List.set_cons_zero, List.set_cons_succ, i64_w, i32_w]
              rfl
             refine pure_ (i := 26) (N := some 68) (v := undef) (a' := ?_) (bm 28 134217727) rfl rfl (any_of HT_.out (by kernel_rfl)) (fun _ _ _ h => h) (Or.inr ⟨by rfl, rfl⟩) ?_ ?_
             rotate_left
             ·simp only [Act.put, List.setIfInBounds_toArray, List.set_cons_zero, List.set_cons_succ, i64_w, i32_w]
              rfl
             refine pz_ 27 69 (bm 28 268435455) ?_
             refine done_ (done_of HT_.out (by kernel_rfl)) ?_
             try go_wp2
             go_meet
             case rel => exact ⟨_, (true), qe_, H', ⟨by have := HJ1.out; have := HK2.out; first | omega | exact Nat.le_refl _⟩, ⟨by (with_reducible repeat (first | apply Kd.R_alloc | apply Kd.R_drewN | apply Kd.R_drew)); first | exact HO174.out | (have h_ := HO174.out; simp only [own_slice] at h_ ⊢; exact h_)⟩, ⟨qk_ BK167⟩, ⟨qB_⟩⟩
            ·rw [if_neg c23] at H
             have c23b0 : decide (a0_0 ≤ (rd t172 (ji20))) = false := decide_eq_false c23
             clear c23
             by_cases c25 : x4_2 > 0
             ·rw [if_pos c25] at H
              have c25b0 : decide (0 < x4_2) = true := decide_eq_true c25
              clear c25
              obtain ⟨ji26, hji26⟩ : ∃ j_ : Int, (wrap64 (x4_2 - 1)) = j_ := ⟨_, rfl⟩
              first | rw [hji26] at H | simp only [hji26] at H
              have hji26w : (IntKind.i64.wrap (x4_2 - 1)) = ji26 := (i64_w _).trans hji26
              by_cases c27 : 0 ≤ (ji26)
              ·rw [if_pos c27] at H
               have c27b0 : decide (0 ≤ (ji26)) = true := decide_eq_true c27
               clear c27
               by_cases c28 : (ji26) < (l0_1.length : Int)
               ·rw [if_pos c28] at H
                have c28b0 : decide ((ji26) < (l0_1.length : Int)) = true := decide_eq_true c28
                clear c28
                obtain ⟨t177, A290, H⟩ := Option.bind_eq_some_iff.mp H; have A29 := Aside0.mk A290; clear A290
                by_cases c30 : 0 < (t177.length : Int)
                ·rw [if_pos c30] at H
                 have c30b0 : decide (0 < (t177.length : Int)) = true := decide_eq_true c30
                 have c30b1 : decide (0 < t177.length) = true := decide_eq_true (by omega)
                 clear c30
                 by_cases c31 : 0 < (t172.length : Int)
                 ·rw [if_pos c31] at H
                  have c31b0 : decide (0 < (t172.length : Int)) = true := decide_eq_true c31
                  have c31b1 : decide (0 < t172.length) = true := decide_eq_true (by omega)
                  clear c31; have H' := Aside0.mk H; clear H
                  try go_wp2
                  have n0_ := Aside0.mk (Kd.R_drew HO174.out)
                  have n1_ := Aside0.mk (blk_drew BK167.out)
                  have n2_ := Aside0.mk (below_drew1 HB.out)
                  clear HO174; clear BK167; clear HB; have HO174 := n0_; have BK167 := n1_; have HB := n2_; clear n0_ n1_ n2_
                  have p175 : 0 ≤ ((ji20) : Int) := of_decide_eq_true qa_
                  have q175 : (ji20) < (t172.length : Int) := of_decide_eq_true qa_
                  obtain ⟨ad175, e175, hx175_0⟩ := Kd.at_int (Kd.R_reads' HO174.out).2.2 (ji20) p175 q175
                  cases e175; replace p175 := eq_true p175; replace q175 := eq_true q175
                  have p176 : 0 ≤ ((ji26) : Int) := of_decide_eq_true qa_
                  have q176 : (ji26) < (l0_1.length : Int) := of_decide_eq_true qa_
                  obtain ⟨ad176, A176_0, c176_0, e176, hx176_0, hl176_0, hi176_0⟩ := at_L1 HR0_1.out (ji26) p176 q176
                  have hw176_0 := hx176_0
                  obtain rfl : ad169 = ad176 := (by injection e176)
                  replace hx176_0 := (HB.out.cell (World.block_lt_of_cell? w _ hx176_0)).trans hx176_0
                  have HR176_0 := Aside0.mk hi176_0
                  have HC176_0 := Aside0.mk hl176_0
                  clear hi176_0 hl176_0; replace p176 := eq_true p176; replace q176 := eq_true q176
                  have p181 : 0 ≤ (0 : Int) := (by omega)
                  have q181 : 0 < (t172.length : Int) := of_decide_eq_true qa_
                  obtain ⟨ad181, e181, hx181_0⟩ := Kd.at_int (Kd.R_reads' HO174.out).2.2 0 p181 q181
                  obtain rfl : ad175 = ad181 := (by injection e181)
                  have qi181 : (0 < t172.length) = True := eq_true (by omega)
                  (try rw [show ((0 : Int)).toNat = 0 from rfl] at hx181_0)
                  (try rw [Addr.add_zero'] at hx181_0)
                  replace p181 := eq_true p181; replace q181 := eq_true q181
                  refine start_ (n := 28) (S := fun w' => w'.cell? ⟨gb167, 0, none⟩ = some (.int .i64 a0_0) ∧ w'.cell? ⟨gb167, 1, none⟩ = some (.slice (some ad169) l0_1.length c0_1) ∧ w'.cell? (ad175.add ((ji20)).toNat) = some (.int .i64 (rd t172 (ji20))) ∧ w'.cell? (ad169.add ((ji26)).toNat) = some (.slice A176_0 (rd_L1 l0_1 (ji26)).length c176_0) ∧ w'.cell? ad175 = some (.int .i64 (rd t172 0))) (ds := []) (bm 28 0) (by kernel_rfl) rfl (by kernel_rfl) ⟨(blk_cell BK167.out 0).trans rfl, (blk_cell BK167.out 1).trans rfl, hx175_0, ((HB.out.cell (World.block_lt_of_cell? w _ hw176_0)).trans hw176_0), hx181_0⟩ (fun hHeld => ?_); refine with_tabW spec_ForestOk.tab11 spec_ForestOk.bits11 (fun HT_ HW_ => ?_)
                  generalize w18.drew = w32 at HO174 BK167 HB HR176_0 hx175_0 hx176_0 hx181_0 hHeld ⊢
                  refine pz_ 0 42 (bm 28 1) ?_; refine pz_ 1 43 (bm 28 3) ?_; refine pz_ 2 44 (bm 28 7) ?_; refine pz_ 3 45 (bm 28 15) ?_; refine pz_ 4 46 (bm 28 31) ?_; refine pz_ 6 48 (bm 28 95) ?_; refine tz5_ 5 47 (bm 28 127) ?_; refine tz5_ 7 49 (bm 28 255) ?_; refine pz_ 8 50 (bm 28 511) ?_; refine pz_ 9 51 (bm 28 1023) ?_; refine pz_ 10 52 (bm 28 2047) ?_; refine pz_ 11 53 (bm 28 4095) ?_; refine pz_ 12 54 (bm 28 8191) ?_; refine pz_ 13 55 (bm 28 16383) ?_; refine pz_ 15 57 (bm 28 49151) ?_; refine pz_ 16 58 (bm 28 114687) ?_; refine pz_ 22 64 (bm 28 4308991) ?_; refine pz_ 23 65 (bm 28 12697599) ?_; refine tz5_ 14 56 (bm 28 12713983) ?_; refine pz_ 17 59 (bm 28 12845055) ?_; refine tz5_ 18 60 (bm 28 13107199) ?_; refine tz5_ 24 66 (bm 28 29884415) ?_
                  refine one_ (i := 19) (N := some 61) (bm 28 30408703) rfl rfl (one_of HT_.out (by kernel_rfl)) (by decide) (fun K hK => ?_)
                  refine goes_ Try.func66 (by kernel_rfl) rfl #[.slice A176_0 (rd_L1 l0_1 (ji26)).length c176_0] (by rfl) rfl rfl (by (try simp only [List.map_toArray, List.map_cons, List.map_nil]); first | done | (simp only [hji26]; rfl) | rfl | (simp only [List.length_drop, List.length_take]; rfl)) ?_
                  with_reducible refine (spec_VertsOf.calls k2 _ _ (rd_L1 l0_1 (ji26)) t177 _ ?side1 ?side2 A29.out).mono ?_
                  (case side1 => exact qC_ HR176_0 HB)
                  (case side2 => exact HC176_0.out)
                  rintro e w33 ⟨v178, rfl, ho0, hb⟩
                  have HS2_ := (hb.cell (World.block_lt_of_cell? _ _ (hHeld.2.2.1))).trans (hHeld.2.2.1)
                  have HS4_ := (hb.cell (World.block_lt_of_cell? _ _ (hHeld.2.2.2.2))).trans (hHeld.2.2.2.2)

                  refine ⟨_, rfl, ?_⟩
                  have n0_ := Aside0.mk (Kd.R_elder' (qR_ HO174) (Kd.R_base ho0) hb)
                  have n1_ := Aside0.mk (Kd.R_lower (Kd.R_new' ho0 (Kd.R_lt (qR_ HO174))) (below_size qB_))
                  have n2_ := Aside0.mk (blk_below (qk_ BK167) hb)
                  have n3_ := Aside0.mk (below_step qB_ hb)
                  clear HO174; clear BK167; clear HB; have HO174 := n0_; have HO179 := n1_; have BK167 := n2_; have HB := n3_; clear n0_ n1_ n2_ n3_; (try clear hb); (try clear hb2); (try clear hk); (try clear hi); (try clear ho0)
                  obtain ⟨Ao34, co34, eo34⟩ := Kd.R_slice HO179.out
                  (first | subst eo34 | (injection eo34 with f1_ f2_ f3_; have f4_ := f1_.symm; have f5_ := f3_.symm; clear f1_ f2_ f3_; subst f4_; subst f5_))
                  have p180 : 0 ≤ (0 : Int) := (by omega)
                  have q180 : 0 < (t177.length : Int) := of_decide_eq_true qa_
                  obtain ⟨ad180, e180, hx180_0⟩ := Kd.at_int (Kd.R_reads' HO179.out).2.2 0 p180 q180
                  cases e180
                  have qi180 : (0 < t177.length) = True := eq_true (by omega)
                  (try rw [show ((0 : Int)).toNat = 0 from rfl] at hx180_0)
                  (try rw [Addr.add_zero'] at hx180_0)
                  replace p180 := eq_true p180; replace q180 := eq_true q180
                  refine hK.out _ _ ⟨(blk_cell BK167.out 0).trans rfl, (blk_cell BK167.out 1).trans rfl, HS2_, ((HB.out.cell (World.block_lt_of_cell? w _ hw176_0)).trans hw176_0), HS4_⟩ (fun hHeld => ?_)
                  clear hK K
                  refine norm_ (a' := ?_) ?_ ?_
                  rotate_left
                  ·show Act.put _ (some 61) _ = _
                   simp only [Act.put, List.setIfInBounds_toArray, List.set_cons_zero, List.set_cons_succ, i64_w, i32_w]
                   rfl
                  refine pz_ 20 62 (bm 28 31457279) ?_
                  refine now_x4 (i := 21) (N := some 63) (v := ?_) (a' := ?_) (bm 28 33554431) rfl rfl (one_of HT_.out (by kernel_rfl)) (by decide) (Or.inl ⟨by rfl, ?_⟩) hHeld ?_ ?_
                  rotate_left
                  ·rintro w' rfl
                   go_simp
                   with_reducible rfl
                  rotate_left
                  ·simp only [Act.put, List.setIfInBounds_toArray, List.set_cons_zero, List.set_cons_succ, i64_w, i32_w]
                   rfl
                  refine pz_ 25 67 (bm 28 67108863) ?_; refine pz_ 26 68 (bm 28 134217727) ?_; refine pz_ 27 69 (bm 28 268435455) ?_
                  refine done_ (done_of HT_.out (by kernel_rfl)) ?_
                  try go_wp2
                  go_meet
                  case rel => exact ⟨_, (decide ((rd t177 0) ≥ (rd t172 0))), qe_, H', ⟨by have := HJ1.out; have := HK2.out; first | omega | exact Nat.le_refl _⟩, ⟨by (with_reducible repeat (first | apply Kd.R_alloc | apply Kd.R_drewN | apply Kd.R_drew)); exact Kd.R_mono HO174.out (fun _ hk => trivial)⟩, ⟨qk_ BK167⟩, ⟨qB_⟩⟩
                 ·rw [if_neg c31] at H
                  exact absurd H (by simp)
                ·rw [if_neg c30] at H
                 exact absurd H (by simp)
               ·rw [if_neg c28] at H
                exact absurd H (by simp)
              ·rw [if_neg c27] at H
               exact absurd H (by simp)
             ·rw [if_neg c25] at H
              have c25b0 : decide (0 < x4_2) = false := decide_eq_false c25
              clear c25; have H' := Aside0.mk H; clear H
              try go_wp2
              have n0_ := Aside0.mk (Kd.R_drew HO174.out)
              have n1_ := Aside0.mk (blk_drew BK167.out)
              have n2_ := Aside0.mk (below_drew1 HB.out)
              clear HO174; clear BK167; clear HB; have HO174 := n0_; have BK167 := n1_; have HB := n2_; clear n0_ n1_ n2_
              have p175 : 0 ≤ ((ji20) : Int) := of_decide_eq_true qa_
              have q175 : (ji20) < (t172.length : Int) := of_decide_eq_true qa_
              obtain ⟨ad175, e175, hx175_0⟩ := Kd.at_int (Kd.R_reads' HO174.out).2.2 (ji20) p175 q175
              cases e175; replace p175 := eq_true p175; replace q175 := eq_true q175
              refine start_ (n := 28) (S := fun w' => w'.cell? ⟨gb167, 0, none⟩ = some (.int .i64 a0_0) ∧ w'.cell? ⟨gb167, 1, none⟩ = some (.slice (some ad169) l0_1.length c0_1) ∧ w'.cell? (ad175.add ((ji20)).toNat) = some (.int .i64 (rd t172 (ji20)))) (ds := []) (bm 28 0) (by kernel_rfl) rfl (by kernel_rfl) ⟨(blk_cell BK167.out 0).trans rfl, (blk_cell BK167.out 1).trans rfl, hx175_0⟩ (fun hHeld => ?_); refine with_tabW spec_ForestOk.tab11 spec_ForestOk.bits11 (fun HT_ HW_ => ?_)
              generalize w18.drew = w35 at HO174 BK167 HB hx175_0 hHeld ⊢
              refine pz_ 0 42 (bm 28 1) ?_; refine pz_ 1 43 (bm 28 3) ?_; refine pz_ 2 44 (bm 28 7) ?_; refine pz_ 3 45 (bm 28 15) ?_; refine pz_ 4 46 (bm 28 31) ?_; refine pz_ 6 48 (bm 28 95) ?_; refine tz3_ 5 47 (bm 28 127) ?_; refine tz3_ 7 49 (bm 28 255) ?_; refine pz_ 8 50 (bm 28 511) ?_; refine pz_ 9 51 (bm 28 1023) ?_; refine pz_ 10 52 (bm 28 2047) ?_; refine pz_ 11 53 (bm 28 4095) ?_; refine pz_ 12 54 (bm 28 8191) ?_
              refine pure_ (i := 13) (N := some 55) (v := undef) (a' := ?_) (bm 28 16383) rfl rfl (any_of HT_.out (by kernel_rfl)) (fun _ _ _ h => h) (Or.inr ⟨by rfl, rfl⟩) ?_ ?_
              rotate_left
              ·simp only [Act.put, List.setIfInBounds_toArray, List.set_cons_zero, List.set_cons_succ, i64_w, i32_w]
               rfl
              refine pure_ (i := 14) (N := some 56) (v := undef) (a' := ?_) (bm 28 32767) rfl rfl (any_of HT_.out (by kernel_rfl)) (fun _ _ _ h => h) (Or.inr ⟨by rfl, rfl⟩) ?_ ?_
              rotate_left
              ·simp only [Act.put, List.setIfInBounds_toArray, List.set_cons_zero, List.set_cons_succ, i64_w, i32_w]
               rfl
              refine pure_ (i := 15) (N := some 57) (v := undef) (a' := ?_) (bm 28 65535) rfl rfl (any_of HT_.out (by kernel_rfl)) (fun _ _ _ h => h) (Or.inr ⟨by rfl, rfl⟩) ?_ ?_
              rotate_left
              ·simp only [Act.put, List.setIfInBounds_toArray, List.set_cons_zero, List.set_cons_succ, i64_w, i32_w]
               rfl
              refine pure_ (i := 16) (N := some 58) (v := undef) (a' := ?_) (bm 28 131071) rfl rfl (any_of HT_.out (by kernel_rfl)) (fun _ _ _ h => h) (Or.inr ⟨by rfl, rfl⟩) ?_ ?_
              rotate_left
              ·simp only [Act.put, List.setIfInBounds_toArray, List.set_cons_zero, List.set_cons_succ, i64_w, i32_w]
               rfl
              refine pure_ (i := 17) (N := some 59) (v := undef) (a' := ?_) (bm 28 262143) rfl rfl (any_of HT_.out (by kernel_rfl)) (fun _ _ _ h => h) (Or.inr ⟨by rfl, rfl⟩) ?_ ?_
              rotate_left
              ·simp only [Act.put, List.setIfInBounds_toArray, List.set_cons_zero, List.set_cons_succ, i64_w, i32_w]
               rfl
              refine pure_ (i := 18) (N := some 60) (v := undef) (a' := ?_) (bm 28 524287) rfl rfl (any_of HT_.out (by kernel_rfl)) (fun _ _ _ h => h) (Or.inr ⟨by rfl, rfl⟩) ?_ ?_
              rotate_left
              ·simp only [Act.put, List.setIfInBounds_toArray, List.set_cons_zero, List.set_cons_succ, i64_w, i32_w]
               rfl
              refine pure_ (i := 19) (N := some 61) (v := undef) (a' := ?_) (bm 28 1048575) rfl rfl (any_of HT_.out (by kernel_rfl)) (fun _ _ _ h => h) (Or.inr ⟨by rfl, rfl⟩) ?_ ?_
              rotate_left
              ·simp only [Act.put, List.setIfInBounds_toArray, List.set_cons_zero, List.set_cons_succ, i64_w, i32_w]
               rfl
              refine pure_ (i := 20) (N := some 62) (v := undef) (a' := ?_) (bm 28 2097151) rfl rfl (any_of HT_.out (by kernel_rfl)) (fun _ _ _ h => h) (Or.inr ⟨by rfl, rfl⟩) ?_ ?_
              rotate_left
              ·simp only [Act.put, List.setIfInBounds_toArray, List.set_cons_zero, List.set_cons_succ, i64_w, i32_w]
               rfl
              refine pure_ (i := 21) (N := some 63) (v := undef) (a' := ?_) (bm 28 4194303) rfl rfl (any_of HT_.out (by kernel_rfl)) (fun _ _ _ h => h) (Or.inr ⟨by rfl, rfl⟩) ?_ ?_
              rotate_left
              ·simp only [Act.put, List.setIfInBounds_toArray, List.set_cons_zero, List.set_cons_succ, i64_w, i32_w]
               rfl
              refine pure_ (i := 22) (N := some 64) (v := undef) (a' := ?_) (bm 28 8388607) rfl rfl (any_of HT_.out (by kernel_rfl)) (fun _ _ _ h => h) (Or.inr ⟨by rfl, rfl⟩) ?_ ?_
              rotate_left
              ·simp only [Act.put, List.setIfInBounds_toArray, List.set_cons_zero, List.set_cons_succ, i64_w, i32_w]
               rfl
              refine pure_ (i := 23) (N := some 65) (v := undef) (a' := ?_) (bm 28 16777215) rfl rfl (any_of HT_.out (by kernel_rfl)) (fun _ _ _ h => h) (Or.inr ⟨by rfl, rfl⟩) ?_ ?_
              rotate_left
              ·simp only [Act.put, List.setIfInBounds_toArray, List.set_cons_zero, List.set_cons_succ, i64_w, i32_w]
               rfl
              refine pure_ (i := 24) (N := some 66) (v := undef) (a' := ?_) (bm 28 33554431) rfl rfl (any_of HT_.out (by kernel_rfl)) (fun _ _ _ h => h) (Or.inr ⟨by rfl, rfl⟩) ?_ ?_
              rotate_left
              ·simp only [Act.put, List.setIfInBounds_toArray, List.set_cons_zero, List.set_cons_succ, i64_w, i32_w]
               rfl
              refine pure_ (i := 25) (N := some 67) (v := undef) (a' := ?_) (bm 28 67108863) rfl rfl (any_of HT_.out (by kernel_rfl)) (fun _ _ _ h => h) (Or.inr ⟨by rfl, rfl⟩) ?_ ?_
              rotate_left
              ·simp only [Act.put, List.setIfInBounds_toArray, List.set_cons_zero, List.set_cons_succ, i64_w, i32_w]
               rfl
              refine pz_ 26 68 (bm 28 134217727) ?_; refine pz_ 27 69 (bm 28 268435455) ?_
              refine done_ (done_of HT_.out (by kernel_rfl)) ?_
              try go_wp2
              go_meet
              case rel => exact ⟨_, (false), qe_, H', ⟨by have := HJ1.out; have := HK2.out; first | omega | exact Nat.le_refl _⟩, ⟨by (with_reducible repeat (first | apply Kd.R_alloc | apply Kd.R_drewN | apply Kd.R_drew)); first | exact HO174.out | (have h_ := HO174.out; simp only [own_slice] at h_ ⊢; exact h_)⟩, ⟨qk_ BK167⟩, ⟨qB_⟩⟩
           ·rw [if_neg c22] at H
            exact absurd H (by simp)
          ·rw [if_neg c21] at H
           exact absurd H (by simp)
         case rest =>
          clear HC14; (try clear c1); (try clear p1); (try clear q1); (try clear hx1); (try clear qi1); (try clear c2); (try clear p2); (try clear c3); (try clear c6); (try clear p6); (try clear c17); (try clear p17); (try clear q17); (try clear hx17); (try clear p18); (try clear q18); (try clear hx18); (try clear qi18); (try clear c21); (try clear c22); (try clear c23); (try clear c23b0); (try clear c25); (try clear c25b0); (try clear c27); (try clear c27b0); (try clear c28); (try clear c28b0); (try clear c30); (try clear c30b0); (try clear c30b1); (try clear c31); (try clear c31b0); (try clear c31b1); (try clear hx175_0); (try clear hx176_0); (try clear hx180_0); (try clear hx181_0); (try clear p175); (try clear p176); (try clear p180); (try clear p181); (try clear q175); (try clear q176); (try clear q180); (try clear q181)
          obtain ⟨kq, x69_13, rfl, HA, HJ13, HO_5, BK167, HB⟩ := hcut
          cases kq with
          | zero => exact absurd HA.out (by simp [spec_ForestOk.j2])
          | succ kj13 =>
           have H := HA.out; clear HA
           simp only [spec_ForestOk.j2] at H
           by_cases c36 : x69_13 = true
           ·subst c36
            rw [if_pos rfl] at H
            obtain rfl := Option.some.inj H
            go_wp2
            go_ret
            exact ⟨qr_, qB_⟩
           ·replace c36 := Bool.eq_false_iff.mpr c36
            subst c36
            rw [if_neg (show ¬ (false = true) by decide)] at H; have H' := Aside0.mk H; clear H
            go_wp2
            go_loopg [6] kj13 (fun kq v6 w' => ∃ (x6_4 : Int), v6 = .int .i64 x6_4 ∧ Aside0 (spec_ForestOk.l1 kq (wrap64 (x3_2 + (t172.length : Int))) x4_2 t172 x6_4 a0_0 l0_1 = some r) ∧ Aside0 (kq ≤ kj13) ∧ Aside0 (Kd.R (Kd.int .i64) 3 w' w.heap.size (fun _ => True) (.slice Ao19 t172.length co19) t172) ∧ Aside0 (w'.heap[gb167]? = some (.cells #[.int .i64 a0_0, (.slice (some ad169) l0_1.length c0_1)] 33 (0, 0))) ∧ Aside0 (Below w.heap.size w w'))
            case atStart => exact ⟨(0), qe_, H', ⟨Nat.le_refl _⟩, ⟨by (with_reducible repeat (first | apply Kd.R_alloc | apply Kd.R_drewN | apply Kd.R_drew)); first | exact HO_5.out | (have h_ := HO_5.out; simp only [own_slice] at h_ ⊢; exact h_)⟩, ⟨qk_ BK167⟩, ⟨qB_⟩⟩
            case round =>
             clear H'
             (try clear c1); (try clear p1); (try clear q1); (try clear hx1); (try clear qi1); (try clear c2); (try clear p2); (try clear c3); (try clear c6); (try clear p6); (try clear c17); (try clear p17); (try clear q17); (try clear hx17); (try clear p18); (try clear q18); (try clear hx18); (try clear qi18); (try clear c21); (try clear c22); (try clear c23); (try clear c23b0); (try clear c25); (try clear c25b0); (try clear c27); (try clear c27b0); (try clear c28); (try clear c28b0); (try clear c30); (try clear c30b0); (try clear c30b1); (try clear c31); (try clear c31b0); (try clear c31b1); (try clear c36); (try clear hx175_0); (try clear hx176_0); (try clear hx180_0); (try clear hx181_0); (try clear p1); (try clear p17); (try clear p175); (try clear p176); (try clear p18); (try clear p180); (try clear p181); (try clear p2); (try clear p6); (try clear q1); (try clear q17); (try clear q175); (try clear q176); (try clear q18); (try clear q180); (try clear q181)
             obtain ⟨x6_4, rfl, HA, HK4, HO_5, BK167, HB⟩ := hrel
             cases gk with
             | zero => exact absurd HA.out (by simp [spec_ForestOk.l1])
             | succ k4 =>
              have H := HA.out; clear HA
              simp only [spec_ForestOk.l1] at H
              by_cases c37 : x6_4 < x4_2
              ·rw [if_pos c37] at H
               have c37b0 : decide (x6_4 < x4_2) = true := decide_eq_true c37
               clear c37; have H' := Aside0.mk H; clear H
               go_wp2
               go_loopg [7] k4 (fun kq v7 w' => ∃ (x7_5 : Int), v7 = .int .i64 x7_5 ∧ Aside0 (spec_ForestOk.l2 kq (wrap64 (x3_2 + (t172.length : Int))) x4_2 t172 x6_4 x7_5 a0_0 l0_1 = some r) ∧ Aside0 (kq ≤ k4) ∧ Aside0 (Kd.R (Kd.int .i64) 3 w' w.heap.size (fun _ => True) (.slice Ao19 t172.length co19) t172) ∧ Aside0 (w'.heap[gb167]? = some (.cells #[.int .i64 a0_0, (.slice (some ad169) l0_1.length c0_1)] 33 (0, 0))) ∧ Aside0 (Below w.heap.size w w'))
               case atStart => exact ⟨(0), qe_, H', ⟨Nat.le_refl _⟩, ⟨by (with_reducible repeat (first | apply Kd.R_alloc | apply Kd.R_drewN | apply Kd.R_drew)); first | exact HO_5.out | (have h_ := HO_5.out; simp only [own_slice] at h_ ⊢; exact h_)⟩, ⟨qk_ BK167⟩, ⟨qB_⟩⟩
               case round =>
                clear H'
                (try clear c1); (try clear p1); (try clear q1); (try clear hx1); (try clear qi1); (try clear c2); (try clear p2); (try clear c3); (try clear c6); (try clear p6); (try clear c17); (try clear p17); (try clear q17); (try clear hx17); (try clear p18); (try clear q18); (try clear hx18); (try clear qi18); (try clear c21); (try clear c22); (try clear c23); (try clear c23b0); (try clear c25); (try clear c25b0); (try clear c27); (try clear c27b0); (try clear c28); (try clear c28b0); (try clear c30); (try clear c30b0); (try clear c30b1); (try clear c31); (try clear c31b0); (try clear c31b1); (try clear c36); (try clear c37); (try clear c37b0); (try clear hx175_0); (try clear hx176_0); (try clear hx180_0); (try clear hx181_0); (try clear p1); (try clear p17); (try clear p175); (try clear p176); (try clear p18); (try clear p180); (try clear p181); (try clear p2); (try clear p6); (try clear q1); (try clear q17); (try clear q175); (try clear q176); (try clear q18); (try clear q180); (try clear q181)
                obtain ⟨x7_5, rfl, HA, HK5, HO_5, BK167, HB⟩ := hrel
                cases gk with
                | zero => exact absurd HA.out (by simp [spec_ForestOk.l2])
                | succ k5 =>
                 have H := HA.out; clear HA
                 simp only [spec_ForestOk.l2] at H
                 by_cases c38 : x7_5 < (t172.length : Int)
                 ·rw [if_pos c38] at H
                  have c38b0 : decide (x7_5 < (t172.length : Int)) = true := decide_eq_true c38
                  clear c38
                  by_cases c39 : 0 ≤ x6_4
                  ·rw [if_pos c39] at H
                   have c39b0 : decide (0 ≤ x6_4) = true := decide_eq_true c39
                   clear c39
                   by_cases c40 : x6_4 < (l0_1.length : Int)
                   ·rw [if_pos c40] at H
                    have c40b0 : decide (x6_4 < (l0_1.length : Int)) = true := decide_eq_true c40
                    clear c40
                    by_cases c41 : 0 ≤ x7_5
                    ·rw [if_pos c41] at H
                     have c41b0 : decide (0 ≤ x7_5) = true := decide_eq_true c41
                     clear c41
                     obtain ⟨t184, A420, H⟩ := Option.bind_eq_some_iff.mp H; have A42 := Aside0.mk A420; clear A420
                     by_cases c43 : t184 = true
                     ·subst c43
                      rw [if_pos rfl] at H
                      obtain rfl := Option.some.inj H
                      try go_wp2
                      have n0_ := Aside0.mk (Kd.R_drew HO_5.out)
                      have n1_ := Aside0.mk (blk_drew BK167.out)
                      have n2_ := Aside0.mk (below_drew1 HB.out)
                      clear HO_5; clear BK167; clear HB; have HO_5 := n0_; have BK167 := n1_; have HB := n2_; clear n0_ n1_ n2_
                      have p182 : 0 ≤ (x6_4 : Int) := of_decide_eq_true qa_
                      have q182 : x6_4 < (l0_1.length : Int) := of_decide_eq_true qa_
                      obtain ⟨ad182, A182_0, c182_0, e182, hx182_0, hl182_0, hi182_0⟩ := at_L1 HR0_1.out x6_4 p182 q182
                      have hw182_0 := hx182_0
                      obtain rfl : ad169 = ad182 := (by injection e182)
                      replace hx182_0 := (HB.out.cell (World.block_lt_of_cell? w _ hx182_0)).trans hx182_0
                      have HR182_0 := Aside0.mk hi182_0
                      have HC182_0 := Aside0.mk hl182_0
                      clear hi182_0 hl182_0; replace p182 := eq_true p182; replace q182 := eq_true q182
                      have p183 : 0 ≤ (x7_5 : Int) := of_decide_eq_true qa_
                      have q183 : x7_5 < (t172.length : Int) := of_decide_eq_true qa_
                      obtain ⟨ad183, e183, hx183_0⟩ := Kd.at_int (Kd.R_reads' HO_5.out).2.2 x7_5 p183 q183
                      cases e183; replace p183 := eq_true p183; replace q183 := eq_true q183
                      refine start_ (n := 10) (S := fun w' => w'.cell? ⟨gb167, 0, none⟩ = some (.int .i64 a0_0) ∧ w'.cell? ⟨gb167, 1, none⟩ = some (.slice (some ad169) l0_1.length c0_1) ∧ w'.cell? (ad169.add (x6_4).toNat) = some (.slice A182_0 (rd_L1 l0_1 x6_4).length c182_0) ∧ w'.cell? (ad183.add (x7_5).toNat) = some (.int .i64 (rd t172 x7_5))) (ds := []) (bm 10 0) (by kernel_rfl) rfl (by kernel_rfl) ⟨(blk_cell BK167.out 0).trans rfl, (blk_cell BK167.out 1).trans rfl, ((HB.out.cell (World.block_lt_of_cell? w _ hw182_0)).trans hw182_0), hx183_0⟩ (fun hHeld => ?_); refine with_tabW spec_ForestOk.tab19 spec_ForestOk.bits19 (fun HT_ HW_ => ?_)
                      generalize wr.drew = w44 at HO_5 BK167 HB HR182_0 hx182_0 hx183_0 hHeld ⊢
                      refine pz_ 0 81 (bm 10 1) ?_; refine pz_ 2 83 (bm 10 5) ?_; refine pz_ 5 86 (bm 10 37) ?_; refine pz_ 6 87 (bm 10 101) ?_; refine pz_ 7 88 (bm 10 229) ?_; refine tz4_ 1 82 (bm 10 231) ?_; refine pz_ 3 84 (bm 10 239) ?_; refine tz4_ 4 85 (bm 10 255) ?_; refine tz4_ 8 89 (bm 10 511) ?_
                      refine one_ (i := 9) (N := some 90) (bm 10 1023) rfl rfl (one_of HT_.out (by kernel_rfl)) (by decide) (fun K hK => ?_)
                      refine goes_ Try.func67 (by kernel_rfl) rfl #[.slice A182_0 (rd_L1 l0_1 x6_4).length c182_0, .int .i64 (rd t172 x7_5)] (by rfl) rfl rfl (by (try simp only [List.map_toArray, List.map_cons, List.map_nil]); first | done | rfl | (simp only [List.length_drop, List.length_take]; rfl)) ?_
                      with_reducible refine (spec_l05In.calls k5 _ _ (rd_L1 l0_1 x6_4) (rd t172 x7_5) true _ ?side1 ?side2 A42.out).mono ?_
                      (case side1 => exact qC_ HR182_0 HB)
                      (case side2 => exact HC182_0.out)
                      rintro e w' ⟨rfl, ⟨nd, rfl⟩⟩
                      refine ⟨_, rfl, ?_⟩
                      refine hK.out _ _ ⟨(blk_cell BK167.out 0).trans rfl, (blk_cell BK167.out 1).trans rfl, ((HB.out.cell (World.block_lt_of_cell? w _ hw182_0)).trans hw182_0), hHeld.2.2.2⟩ (fun hHeld => ?_)
                      clear hK K
                      refine norm_ (a' := ?_) ?_ ?_
                      rotate_left
                      ·show Act.put _ (some 90) _ = _
                       simp only [Act.put, List.setIfInBounds_toArray, List.set_cons_zero, List.set_cons_succ, i64_w, i32_w]
                       rfl
                      refine done_ (done_of HT_.out (by kernel_rfl)) ?_
                      try go_wp2
                      go_ret
                      exact ⟨qr_, qB_⟩
                     ·replace c43 := Bool.eq_false_iff.mpr c43
                      subst c43
                      rw [if_neg (show ¬ (false = true) by decide)] at H; have H' := Aside0.mk H; clear H
                      try go_wp2
                      have n0_ := Aside0.mk (Kd.R_drew HO_5.out)
                      have n1_ := Aside0.mk (blk_drew BK167.out)
                      have n2_ := Aside0.mk (below_drew1 HB.out)
                      clear HO_5; clear BK167; clear HB; have HO_5 := n0_; have BK167 := n1_; have HB := n2_; clear n0_ n1_ n2_
                      have p182 : 0 ≤ (x6_4 : Int) := of_decide_eq_true qa_
                      have q182 : x6_4 < (l0_1.length : Int) := of_decide_eq_true qa_
                      obtain ⟨ad182, A182_0, c182_0, e182, hx182_0, hl182_0, hi182_0⟩ := at_L1 HR0_1.out x6_4 p182 q182
                      have hw182_0 := hx182_0
                      obtain rfl : ad169 = ad182 := (by injection e182)
                      replace hx182_0 := (HB.out.cell (World.block_lt_of_cell? w _ hx182_0)).trans hx182_0
                      have HR182_0 := Aside0.mk hi182_0
                      have HC182_0 := Aside0.mk hl182_0
                      clear hi182_0 hl182_0; replace p182 := eq_true p182; replace q182 := eq_true q182
                      have p183 : 0 ≤ (x7_5 : Int) := of_decide_eq_true qa_
                      have q183 : x7_5 < (t172.length : Int) := of_decide_eq_true qa_
                      obtain ⟨ad183, e183, hx183_0⟩ := Kd.at_int (Kd.R_reads' HO_5.out).2.2 x7_5 p183 q183
                      cases e183; replace p183 := eq_true p183; replace q183 := eq_true q183
                      refine start_ (n := 10) (S := fun w' => w'.cell? ⟨gb167, 0, none⟩ = some (.int .i64 a0_0) ∧ w'.cell? ⟨gb167, 1, none⟩ = some (.slice (some ad169) l0_1.length c0_1) ∧ w'.cell? (ad169.add (x6_4).toNat) = some (.slice A182_0 (rd_L1 l0_1 x6_4).length c182_0) ∧ w'.cell? (ad183.add (x7_5).toNat) = some (.int .i64 (rd t172 x7_5))) (ds := []) (bm 10 0) (by kernel_rfl) rfl (by kernel_rfl) ⟨(blk_cell BK167.out 0).trans rfl, (blk_cell BK167.out 1).trans rfl, ((HB.out.cell (World.block_lt_of_cell? w _ hw182_0)).trans hw182_0), hx183_0⟩ (fun hHeld => ?_); refine with_tabW spec_ForestOk.tab19 spec_ForestOk.bits19 (fun HT_ HW_ => ?_)
                      generalize wr.drew = w45 at HO_5 BK167 HB HR182_0 hx182_0 hx183_0 hHeld ⊢
                      refine pz_ 0 81 (bm 10 1) ?_; refine pz_ 2 83 (bm 10 5) ?_; refine pz_ 5 86 (bm 10 37) ?_; refine pz_ 6 87 (bm 10 101) ?_; refine pz_ 7 88 (bm 10 229) ?_; refine tz4_ 1 82 (bm 10 231) ?_; refine pz_ 3 84 (bm 10 239) ?_; refine tz4_ 4 85 (bm 10 255) ?_; refine tz4_ 8 89 (bm 10 511) ?_
                      refine one_ (i := 9) (N := some 90) (bm 10 1023) rfl rfl (one_of HT_.out (by kernel_rfl)) (by decide) (fun K hK => ?_)
                      refine goes_ Try.func67 (by kernel_rfl) rfl #[.slice A182_0 (rd_L1 l0_1 x6_4).length c182_0, .int .i64 (rd t172 x7_5)] (by rfl) rfl rfl (by (try simp only [List.map_toArray, List.map_cons, List.map_nil]); first | done | rfl | (simp only [List.length_drop, List.length_take]; rfl)) ?_
                      with_reducible refine (spec_l05In.calls k5 _ _ (rd_L1 l0_1 x6_4) (rd t172 x7_5) false _ ?side1 ?side2 A42.out).mono ?_
                      (case side1 => exact qC_ HR182_0 HB)
                      (case side2 => exact HC182_0.out)
                      rintro e w' ⟨rfl, ⟨nd, rfl⟩⟩
                      refine ⟨_, rfl, ?_⟩
                      refine hK.out _ _ ⟨(blk_cell BK167.out 0).trans rfl, (blk_cell BK167.out 1).trans rfl, ((HB.out.cell (World.block_lt_of_cell? w _ hw182_0)).trans hw182_0), hHeld.2.2.2⟩ (fun hHeld => ?_)
                      clear hK K
                      refine norm_ (a' := ?_) ?_ ?_
                      rotate_left
                      ·show Act.put _ (some 90) _ = _
                       simp only [Act.put, List.setIfInBounds_toArray, List.set_cons_zero, List.set_cons_succ, i64_w, i32_w]
                       rfl
                      refine done_ (done_of HT_.out (by kernel_rfl)) ?_
                      try go_wp2
                      go_roundg k5
                      case measure => have := HJ1.out; have := HK2.out; have := HJ13.out; have := HK4.out; have := HK5.out; omega
                      case rel => exact ⟨(wrap64 (x7_5 + 1)), qe_, H', ⟨by have := HJ1.out; have := HK2.out; have := HJ13.out; have := HK4.out; have := HK5.out; omega⟩, ⟨by (with_reducible repeat (first | apply Kd.R_alloc | apply Kd.R_drewN | apply Kd.R_drew)); first | exact HO_5.out | (have h_ := HO_5.out; simp only [own_slice] at h_ ⊢; exact h_)⟩, ⟨qk_ BK167⟩, ⟨qB_⟩⟩
                    ·rw [if_neg c41] at H
                     exact absurd H (by simp)
                   ·rw [if_neg c40] at H
                    exact absurd H (by simp)
                  ·rw [if_neg c39] at H
                   exact absurd H (by simp)
                 ·rw [if_neg c38] at H
                  have c38b0 : decide (x7_5 < (t172.length : Int)) = false := decide_eq_false c38
                  clear c38; have H' := Aside0.mk H; clear H
                  go_wp2
                  go_roundg k5
                  case measure => have := HJ1.out; have := HK2.out; have := HJ13.out; have := HK4.out; have := HK5.out; omega
                  case rel => exact ⟨(wrap64 (x6_4 + 1)), qe_, H', ⟨by have := HJ1.out; have := HK2.out; have := HJ13.out; have := HK4.out; have := HK5.out; omega⟩, ⟨by (with_reducible repeat (first | apply Kd.R_alloc | apply Kd.R_drewN | apply Kd.R_drew)); first | exact HO_5.out | (have h_ := HO_5.out; simp only [own_slice] at h_ ⊢; exact h_)⟩, ⟨qk_ BK167⟩, ⟨qB_⟩⟩
              ·rw [if_neg c37] at H
               have c37b0 : decide (x6_4 < x4_2) = false := decide_eq_false c37
               clear c37; have H' := Aside0.mk H; clear H
               go_wp2
               go_roundg k4
               case measure => have := HJ1.out; have := HK2.out; have := HJ13.out; have := HK4.out; omega
               case rel => exact ⟨((wrap64 (x3_2 + (t172.length : Int)))), (wrap64 (x4_2 + 1)), qe_, qe_, H', ⟨by have := HJ1.out; have := HK2.out; have := HJ13.out; have := HK4.out; omega⟩, ⟨qk_ BK167⟩, ⟨qB_⟩⟩
        ·replace c12 := Bool.eq_false_iff.mpr c12
         subst c12
         rw [if_neg (show ¬ (false = true) by decide)] at H
         obtain rfl := Option.some.inj H
         obtain ⟨hcz46_0, hcz46_1, hfz46_0, hfz46_1⟩ := bc2_ BK167
         have p169 : 0 ≤ (x4_2 : Int) := of_decide_eq_true qa_
         have q169 : x4_2 < (l0_1.length : Int) := of_decide_eq_true qa_
         obtain ⟨ad169, A169_0, c169_0, e169, hx169_0, hl169_0, hi169_0⟩ := at_L1 HR0_1.out x4_2 p169 q169
         cases e169
         replace hx169_0 := (HB.out.cell (World.block_lt_of_cell? w _ hx169_0)).trans hx169_0
         have HR169_0 := Aside0.mk hi169_0
         have HC169_0 := Aside0.mk hl169_0
         clear hi169_0 hl169_0; replace p169 := eq_true p169; replace q169 := eq_true q169
         go_wp2_with (first | ((with_reducible refine gate_callee (f := 65) rfl ?_); refine gl_ (some 30) Try.func65 #[.slice A169_0 (rd_L1 l0_1 x4_2).length c169_0] ?_; (with_reducible refine (spec_TourOk.calls k2 _ _ (rd_L1 l0_1 x4_2) false _ ?side1 ?side2 A11.out).mono ?_); (case side1 => exact qC_ HR169_0 HB); (case side2 => exact HC169_0.out); rintro e w47 ⟨rfl, hb⟩; refine ⟨_, rfl, ?_⟩; replace BK167 := Aside0.mk (blk_below (qk_ BK167) hb); replace HB := Aside0.mk (below_step qB_ hb); (try clear hb); (try clear hb2); (try clear hk); (try clear hi)))
         go_ret
         exact ⟨qr_, qB_⟩
       ·rw [if_neg c10] at H
        exact absurd H (by simp)
      ·rw [if_neg c9] at H
       have c9b0 : decide (x4_2 < (l0_1.length : Int)) = false := decide_eq_false c9
       clear c9
       obtain rfl := Option.some.inj H
       obtain ⟨hcz48_0, hcz48_1, hfz48_0, hfz48_1⟩ := bc2_ BK167
       go_wp2
       go_ret
       exact ⟨qr_, qB_⟩

end Go.Proofs.Ytacnlodcbbhahaa.QFnExactEdgesOf
