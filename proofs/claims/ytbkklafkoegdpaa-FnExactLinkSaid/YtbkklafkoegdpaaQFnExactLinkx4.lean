import Derived.Test.YtbkklafkoegdpaaQFnExactLinkx3
namespace Go.Proofs.Ytbkklafkoegdpaa.QFnExactLink
open Go.RowKit Go.Proofs.YtbkklafkoegdpaaW.PrintWords Go.Proofs.YtbkklafkoegdpaaW.PrintLast Go.Proofs.YtbkklafkoegdpaaW.PrintMore
set_option linter.unusedVariables false
set_option linter.unusedSimpArgs false
theorem now_x4 {P : Program} {ops : Array Oper} {Q : Exit → Act → World → Prop} {md : Region.Mode} {S : World → Prop} {ds : List Nat} {i : Nat} {N : Option Tmp} {oi : Oper} {v : Value} {fuel : Nat} {l : Array Bool} {a : Act} {w : World} (l' : Array Bool) (hi : ops[i]? = some oi) (hN : oi.dst = N) (hc : readyB md ops l l' i = true) (hd : i ∉ ds)
    (hy : YieldsIf P ops (fun w' => w' = w) oi v a) (hS : S w) {a' : Act} (ha : a.put N v = a')
    (h : wpAnyLast P md ops Q S ds fuel l' a' w) : wpAnyLast P md ops Q S ds (fuel + 1) l a w := by
  subst ha
  refine one_ l' hi hN hc hd (fun K hK => ?_)
  subst hN
  rcases hy with ⟨hw, hv⟩ | ⟨hw, rfl⟩
  · simp only [hw, if_true, Oper.wp, hv w rfl, Oper.upon]; exact hK.out _ _ hS (fun _ => h)
  · simp only [hw, Bool.false_eq_true, if_false]; exact hK.out _ _ hS (fun _ => h)
mutual
def spec_ForestOk.j0 : Nat → Bool → Int → List (List Int) → Option (Bool)
  | 0, _, _, _ => none
  | k + 1, x17, x179000, x179001 => if x17 = true then (some false) else (spec_ForestOk.l0 k 0 0 x179000 x179001)
def spec_ForestOk.l0 : Nat → Int → Int → Int → List (List Int) → Option (Bool)
  | 0, _, _, _, _ => none
  | k + 1, x3, x4, x179000, x179001 => if x4 < (x179001.length : Int) then (if 0 ≤ x4 then ((spec_TourOk.f k (rd_L1 x179001 x4)).bind fun t181 => (if t181 = true then ((spec_VertsOf.f k (rd_L1 x179001 x4)).bind fun t183 => (if 0 ≤ (wrap64 ((t183.length : Int) - 1)) then (if (wrap64 ((t183.length : Int) - 1)) < (t183.length : Int) then (if (rd t183 (wrap64 ((t183.length : Int) - 1))) ≥ x179000 then (spec_ForestOk.j2 k (wrap64 (x3 + (t183.length : Int))) x4 t183 true x179000 x179001) else (if x4 > 0 then (if 0 ≤ (wrap64 (x4 - 1)) then (if (wrap64 (x4 - 1)) < (x179001.length : Int) then ((spec_VertsOf.f k (rd_L1 x179001 (wrap64 (x4 - 1)))).bind fun t188 => (if 0 < (t188.length : Int) then (if 0 < (t183.length : Int) then (spec_ForestOk.j2 k (wrap64 (x3 + (t183.length : Int))) x4 t183 (decide ((rd t188 0) ≥ (rd t183 0))) x179000 x179001) else (none)) else (none))) else (none)) else (none)) else (spec_ForestOk.j2 k (wrap64 (x3 + (t183.length : Int))) x4 t183 false x179000 x179001))) else (none)) else (none))) else (some false))) else (none)) else (some (x3 == x179000))
def spec_ForestOk.j2 : Nat → Int → Int → List Int → Bool → Int → List (List Int) → Option (Bool)
  | 0, _, _, _, _, _, _ => none
  | k + 1, x3, x4, x5, x69, x179000, x179001 => if x69 = true then (some false) else (spec_ForestOk.l1 k x3 x4 x5 0 x179000 x179001)
def spec_ForestOk.l1 : Nat → Int → Int → List Int → Int → Int → List (List Int) → Option (Bool)
  | 0, _, _, _, _, _, _ => none
  | k + 1, x3, x4, x5, x6, x179000, x179001 => if x6 < x4 then (spec_ForestOk.l2 k x3 x4 x5 x6 0 x179000 x179001) else (spec_ForestOk.l0 k x3 (wrap64 (x4 + 1)) x179000 x179001)
def spec_ForestOk.l2 : Nat → Int → Int → List Int → Int → Int → Int → List (List Int) → Option (Bool)
  | 0, _, _, _, _, _, _, _ => none
  | k + 1, x3, x4, x5, x6, x7, x179000, x179001 => if x7 < (x5.length : Int) then (if 0 ≤ x6 then (if x6 < (x179001.length : Int) then (if 0 ≤ x7 then ((spec_l05In.f k (rd_L1 x179001 x6) (rd x5 x7)).bind fun t195 => (if t195 = true then (some false) else (spec_ForestOk.l2 k x3 x4 x5 x6 (wrap64 (x7 + 1)) x179000 x179001))) else (none)) else (none)) else (none)) else (spec_ForestOk.l1 k x3 x4 x5 (wrap64 (x6 + 1)) x179000 x179001)
end
def spec_ForestOk.f (k : Nat) (a0_0 : Int) (l0_1 : List (List Int)) : Option (Bool) := (spec_l01In.f a0_0 1 12).bind fun t179 => (if t179 = true then (spec_ForestOk.j0 k (decide ((l0_1.length : Int) > 12)) a0_0 l0_1) else (spec_ForestOk.j0 k true a0_0 l0_1))
theorem spec_ForestOk.mono_l : ∀ k, (∀ y0 y1 y2, LeO (spec_ForestOk.j0 k y0 y1 y2) (spec_ForestOk.j0 (k + 1) y0 y1 y2)) ∧ (∀ y0 y1 y2 y3, LeO (spec_ForestOk.l0 k y0 y1 y2 y3) (spec_ForestOk.l0 (k + 1) y0 y1 y2 y3)) ∧ (∀ y0 y1 y2 y3 y4 y5, LeO (spec_ForestOk.j2 k y0 y1 y2 y3 y4 y5) (spec_ForestOk.j2 (k + 1) y0 y1 y2 y3 y4 y5)) ∧ (∀ y0 y1 y2 y3 y4 y5, LeO (spec_ForestOk.l1 k y0 y1 y2 y3 y4 y5) (spec_ForestOk.l1 (k + 1) y0 y1 y2 y3 y4 y5)) ∧ (∀ y0 y1 y2 y3 y4 y5 y6, LeO (spec_ForestOk.l2 k y0 y1 y2 y3 y4 y5 y6) (spec_ForestOk.l2 (k + 1) y0 y1 y2 y3 y4 y5 y6))
  | 0 => ⟨fun _ _ _ r h => by simp [spec_ForestOk.j0] at h, fun _ _ _ _ r h => by simp [spec_ForestOk.l0] at h, fun _ _ _ _ _ _ r h => by simp [spec_ForestOk.j2] at h, fun _ _ _ _ _ _ r h => by simp [spec_ForestOk.l1] at h, fun _ _ _ _ _ _ _ r h => by simp [spec_ForestOk.l2] at h⟩
  | k + 1 => by
    obtain ⟨ih0, ih1, ih2, ih3, ih4⟩ := spec_ForestOk.mono_l k
    refine ⟨?_, ?_, ?_, ?_, ?_⟩ <;> (intros; first | unfold spec_ForestOk.j0 | unfold spec_ForestOk.l0 | unfold spec_ForestOk.j2 | unfold spec_ForestOk.l1 | unfold spec_ForestOk.l2) <;> repeat' first | (with_reducible first | exact ih0 _ _ _ | exact ih1 _ _ _ _ | exact ih2 _ _ _ _ _ _ | exact ih3 _ _ _ _ _ _ | exact ih4 _ _ _ _ _ _ _ | exact spec_TourOk.mono _ _ | exact spec_VertsOf.mono _ _ | exact spec_l05In.mono _ _ _ | exact LeO.refl _ | exact LeO.none _ | refine LeO.ite ?_ ?_ | refine LeO.bind ?_ (fun _ => ?_)) | exact LeO.none _ | refine LeO.ite ?_ ?_ | refine LeO.bind ?_ (fun _ => ?_)
theorem spec_ForestOk.mono : ∀ a0 a1 k, LeO (spec_ForestOk.f k a0 a1) (spec_ForestOk.f (k + 1) a0 a1) := by
  intro a0 a1 k
  obtain ⟨ih0, ih1, ih2, ih3, ih4⟩ := spec_ForestOk.mono_l k
  unfold spec_ForestOk.f
  repeat' first | (with_reducible first | exact ih0 _ _ _ | exact ih1 _ _ _ _ | exact ih2 _ _ _ _ _ _ | exact ih3 _ _ _ _ _ _ | exact ih4 _ _ _ _ _ _ _ | exact spec_TourOk.mono _ _ | exact spec_VertsOf.mono _ _ | exact spec_l05In.mono _ _ _ | exact LeO.refl _ | exact LeO.none _ | refine LeO.ite ?_ ?_ | refine LeO.bind ?_ (fun _ => ?_)) | exact LeO.none _ | refine LeO.ite ?_ ?_ | refine LeO.bind ?_ (fun _ => ?_)
def spec_ForestOk.T11 : Bool × List (List Nat × List Nat) := (true, [([], []), ([], []), ([1], [1]), ([2], [2]), ([0, 3], [0, 3]), ([4], [4]), ([], []), ([6], [6]), ([5, 7], [5, 7]), ([8], [8]), ([9], [9]), ([10, 9], [9, 10]), ([11, 9, 9], [9, 11]), ([12], [12]), ([13, 12], [12, 13]), ([12], [12]), ([15, 12], [12, 15]), ([14, 16, 12], [12, 14, 16]), ([17, 12], [12, 17]), ([18, 12, 12], [12, 18]), ([19, 12], [12, 19]), ([20, 12], [12, 20]), ([12], [12]), ([22, 12], [12, 22]), ([23, 12], [12, 23]), ([21, 24, 12], [12, 21, 24]), ([12, 25, 9], [9, 12, 25]), ([9, 26], [9, 26])])
def spec_ForestOk.B11 : List Nat := [0, 0, 2, 6, 15, 31, 0, 64, 255, 511, 1023, 2047, 4095, 8191, 16383, 8191, 40959, 131071, 262143, 524287, 1048575, 2097151, 8191, 4202495, 12591103, 33554431, 67108863, 134217727]
theorem spec_ForestOk.tab11 : rtab .any (opsOf Try.f51 11) = spec_ForestOk.T11 := by kernel_rfl
theorem spec_ForestOk.bits11 : waitsOk spec_ForestOk.T11.2 spec_ForestOk.B11 = true := by kernel_rfl
def spec_ForestOk.T19 : Bool × List (List Nat × List Nat) := (true, [([], []), ([0], [0]), ([], []), ([1, 2], [1, 2]), ([3], [3]), ([], []), ([], []), ([5, 6], [5, 6]), ([7], [7]), ([4, 8], [4, 8])])
def spec_ForestOk.B19 : List Nat := [0, 1, 0, 7, 15, 0, 0, 96, 224, 511]
theorem spec_ForestOk.tab19 : rtab .any (opsOf Try.f51 19) = spec_ForestOk.T19 := by kernel_rfl
theorem spec_ForestOk.bits19 : waitsOk spec_ForestOk.T19.2 spec_ForestOk.B19 = true := by kernel_rfl
set_option maxHeartbeats 8000000 in
set_option maxRecDepth 100000 in
theorem spec_ForestOk.calls (k : Nat) (a0_0 : Int) (A0_1 : Option Addr) (c0_1 : Nat) (l0_1 : List (List Int)) (r : Bool) (w : World) (hr0_1 : Kd.C (Kd.slice 3 (Kd.int .i64)) w A0_1 l0_1.length l0_1) (hc0_1 : l0_1.length ≤ c0_1) (h : spec_ForestOk.f k a0_0 l0_1 = some r) :
  Calls Try.prog 51 #[.agg #[.int .i64 a0_0, .slice A0_1 l0_1.length c0_1]] w fun e w' => e = .returned (.bool r) ∧ Below w.heap.size w w' := by
 have hu39 := Try.underlying39
 have HR0_1 := am_ hr0_1
 have HC0_1 := am_ hc0_1
 clear hr0_1 hc0_1
 have HB := am_ (Below.refl w.heap.size w)
 have H : ((spec_l01In.f a0_0 1 12).bind fun d3 => (if d3 = true then (spec_ForestOk.j0 k (decide ((l0_1.length : Int) > 12)) a0_0 l0_1) else (spec_ForestOk.j0 k true a0_0 l0_1))) = some r := h
 clear h
 have g1 := am_ H
 clear H
 go_enter Try.func51, Try.ntmps51
 go_upto_region 1 with (first | ((with_reducible refine gate_dst (N := 1) rfl ?_); (try (refine gate_guard (by rfl) ?_; dsimp only)); refine by_ 1 (cs := #[.int .i64 a0_0, .slice A0_1 l0_1.length c0_1]) (t := 39) ?_; intro a5 hg w3 a0 hb; have d7 := gw_ hg; have g5 := d7; replace HB := hs_ hb; clear hb hg))
 (try simp only [Act.put, sA_, sB_, sC_])
 go_cut [17] (fun v17 wc => ∃ (kq : Nat) (x17_1 : Bool), v17 = .bool x17_1 ∧ Aside0 (spec_ForestOk.j0 kq x17_1 a0_0 l0_1 = some r) ∧ Aside0 (kq ≤ k) ∧ Aside0 (wc.heap[a5]? = some (.cells #[.int .i64 a0_0, (.slice A0_1 l0_1.length c0_1)] 39 (0, 0))) ∧ Aside0 (Below w.heap.size w wc))
 case first =>
  have H := g1.out; clear g1
  obtain ⟨d3, A40, H⟩ := Option.bind_eq_some_iff.mp H; have A4 := am_ A40; clear A40
  by_cases c5 : d3 = true
  ·subst c5
   rw [if_pos rfl] at H; have H' := am_ H; clear H
   obtain ⟨b7, b8, b9, c0⟩ := bc2_ a0
   go_wp2_with (first | ((with_reducible refine gate_callee (f := 57) rfl ?_); refine gl_ (some 10) Try.func57 #[.int .i64 a0_0, .int .i64 1, .int .i64 12] ?_; (with_reducible refine (spec_l01In.calls a0_0 1 12 true _ A4.out).mono ?_); rintro e w' ⟨rfl, ⟨nd, rfl⟩⟩; refine ⟨_, rfl, ?_⟩))
   go_meet
   case rel => exact ⟨_, (decide ((l0_1.length : Int) > 12)), qe_, H', ⟨qo_⟩, ⟨qk_ a0⟩, ⟨qB_⟩⟩
  replace c5 := Bool.eq_false_iff.mpr c5
  subst c5
  rw [if_neg ff_] at H; have H' := am_ H; clear H
  obtain ⟨c4, c6, c7, d0⟩ := bc2_ a0
  go_wp2_with (first | ((with_reducible refine gate_callee (f := 57) rfl ?_); refine gl_ (some 10) Try.func57 #[.int .i64 a0_0, .int .i64 1, .int .i64 12] ?_; (with_reducible refine (spec_l01In.calls a0_0 1 12 false _ A4.out).mono ?_); rintro e w' ⟨rfl, ⟨nd, rfl⟩⟩; refine ⟨_, rfl, ?_⟩))
  go_meet
  case rel => exact ⟨_, (true), qe_, H', ⟨qo_⟩, ⟨qk_ a0⟩, ⟨qB_⟩⟩
 case rest =>
  clear g1; (try clear p2); (try clear c5); (try clear b7 b8); (try clear c4 c6); (try clear b9 c0); (try clear c7 d0)
  obtain ⟨kq, x17_1, rfl, HA, d1, a0, HB⟩ := hcut
  cases kq with
  | zero => exact absurd HA.out (by simp [spec_ForestOk.j0])
  | succ kj1 =>
   have H := HA.out; clear HA
   simp only [spec_ForestOk.j0] at H
   by_cases c8 : x17_1 = true
   ·subst c8
    rw [if_pos rfl] at H
    obtain rfl := Option.some.inj H
    go_wp2
    go_ret
    exact ⟨qr_, qB_⟩
   replace c8 := Bool.eq_false_iff.mpr c8
   subst c8
   rw [if_neg ff_] at H; have H' := am_ H; clear H
   go_wp2
   go_loopg [3, 4] kj1 (fun kq v3 v4 w' => ∃ (x3_2 : Int) (x4_2 : Int), v3 = .int .i64 x3_2 ∧ v4 = .int .i64 x4_2 ∧ Aside0 (spec_ForestOk.l0 kq x3_2 x4_2 a0_0 l0_1 = some r) ∧ Aside0 (kq ≤ kj1) ∧ Aside0 (w'.heap[a5]? = some (.cells #[.int .i64 a0_0, (.slice A0_1 l0_1.length c0_1)] 39 (0, 0))) ∧ Aside0 (Below w.heap.size w w'))
   case atStart => exact ⟨(0), (0), qe_, qe_, H', ⟨Nat.le_refl _⟩, ⟨qk_ a0⟩, ⟨qB_⟩⟩
   case round =>
    clear H'
    (try clear p2); (try clear c5); (try clear c8); (try clear b7 b8); (try clear c4 c6); (try clear b9 c0); (try clear c7 d0); (try clear p2)
    obtain ⟨x3_2, x4_2, rfl, rfl, HA, HK2, a0, HB⟩ := hrel
    cases gk with
    | zero => exact absurd HA.out (by simp [spec_ForestOk.l0])
    | succ k2 =>
     have H := HA.out; clear HA
     simp only [spec_ForestOk.l0] at H
     by_cases c9 : x4_2 < (l0_1.length : Int)
     rotate_left
     ·rw [if_neg c9] at H
      have c9b0 := decide_eq_false c9
      clear c9
      obtain rfl := Option.some.inj H
      obtain ⟨e5, e6, e7, e8⟩ := bc2_ a0
      go_wp2
      go_ret
      exact ⟨qr_, qB_⟩
     rw [if_pos c9] at H
     have c9b0 := decide_eq_true c9
     clear c9
     by_cases c10 : 0 ≤ x4_2
     rotate_left
     ·rw [if_neg c10] at H
      exact absurd H (by simp)
     rw [if_pos c10] at H
     have c10b0 := decide_eq_true c10
     clear c10
     obtain ⟨g2, d8, H⟩ := Option.bind_eq_some_iff.mp H; have A11 := am_ d8; clear d8
     by_cases c12 : g2 = true
     rotate_left
     ·replace c12 := Bool.eq_false_iff.mpr c12
      subst c12
      rw [if_neg ff_] at H
      obtain rfl := Option.some.inj H
      obtain ⟨e9, f0, f1, f2⟩ := bc2_ a0
      have p180 := dp_ x4_2
      have q180 := dl_ x4_2 l0_1.length
      obtain ⟨ad180, A180_0, c180_0, e180, a9, hl180_0, hi180_0⟩ := at_L1 HR0_1.out x4_2 p180 q180
      cases e180
      replace a9 := qx_ HB a9
      have HR180_0 := am_ hi180_0
      have HC180_0 := am_ hl180_0
      clear hi180_0 hl180_0; replace p180 := eq_true p180; replace q180 := eq_true q180
      go_wp2_with (first | ((with_reducible refine gate_callee (f := 104) rfl ?_); refine gl_ (some 30) Try.func104 #[.slice A180_0 (rd_L1 l0_1 x4_2).length c180_0] ?_; (with_reducible refine (spec_TourOk.calls k2 _ _ (rd_L1 l0_1 x4_2) false _ ?side1 ?side2 A11.out).mono ?_); (case side1 => exact qC_ HR180_0 HB); (case side2 => exact HC180_0.out); rintro e w47 ⟨rfl, hb⟩; refine ⟨_, rfl, ?_⟩; replace a0 := qbl_ a0 hb; replace HB := hs_ hb; (try clear hb); (try clear hb2); (try clear hk); (try clear hi)))
      go_ret
      exact ⟨qr_, qB_⟩
     subst c12
     rw [if_pos rfl] at H
     obtain ⟨a1, d9, H⟩ := Option.bind_eq_some_iff.mp H; have A13 := am_ d9; clear d9
     have d4 := am_ H
     clear H
     obtain ⟨f3, f4, f5, f6⟩ := bc2_ a0
     have p180 := dp_ x4_2
     have q180 := dl_ x4_2 l0_1.length
     obtain ⟨ad180, A180_0, c180_0, e180, a9, hl180_0, hi180_0⟩ := at_L1 HR0_1.out x4_2 p180 q180
     cases e180
     replace a9 := qx_ HB a9
     have HR180_0 := am_ hi180_0
     have HC180_0 := am_ hl180_0
     clear hi180_0 hl180_0; replace p180 := eq_true p180; replace q180 := eq_true q180
     go_upto_region 11 with (first | ((with_reducible refine gate_callee (f := 104) rfl ?_); refine gl_ (some 30) Try.func104 #[.slice A180_0 (rd_L1 l0_1 x4_2).length c180_0] ?_; (with_reducible refine (spec_TourOk.calls k2 _ _ (rd_L1 l0_1 x4_2) true _ ?side1 ?side2 A11.out).mono ?_); (case side1 => exact qC_ HR180_0 HB); (case side2 => exact HC180_0.out); rintro e w16 ⟨rfl, hb⟩; refine ⟨_, rfl, ?_⟩; replace a0 := qbl_ a0 hb; replace HB := hs_ hb; (try clear hb); (try clear hb2); (try clear hk); (try clear hi); obtain ⟨f7, f8, f9, g0⟩ := bc2_ a0; have p182 := dp_ x4_2; have q182 := dl_ x4_2 l0_1.length; obtain ⟨ad182, A182_0, c182_0, e182, b3, hl182_0, hi182_0⟩ := at_L1 HR0_1.out x4_2 p182 q182; obtain rfl : ad180 = ad182 := (by injection e182); replace b3 := qx_ HB b3; have HR182_0 := am_ hi182_0; have HC182_0 := am_ hl182_0; clear hi182_0 hl182_0; replace p182 := eq_true p182; replace q182 := eq_true q182) | ((with_reducible refine gate_callee (f := 59) rfl ?_); refine gl_ (some 37) Try.func59 #[.slice A182_0 (rd_L1 l0_1 x4_2).length c182_0] ?_; (with_reducible refine (spec_VertsOf.calls k2 _ _ (rd_L1 l0_1 x4_2) a1 _ ?side1 ?side2 A13.out).mono ?_); (case side1 => exact qC_ HR182_0 HB); (case side2 => exact HC182_0.out); rintro e w18 ⟨g7, rfl, ho0, hb⟩; refine ⟨_, rfl, ?_⟩; have a2 := am_ (Kd.R_lower ho0 (below_size qB_)); replace a0 := qbl_ a0 hb; replace HB := hs_ hb; (try clear hb); (try clear hb2); (try clear hk); (try clear hi); (try clear ho0); obtain ⟨d5, d6, g3⟩ := Kd.R_slice a2.out; subst g3))
     (try simp only [Act.put, sA_, sB_, sC_])
     go_cut [69] (fun v69 wc => ∃ (kq : Nat) (x69_13 : Bool), v69 = .bool x69_13 ∧ Aside0 (spec_ForestOk.j2 kq (wrap64 (x3_2 + (a1.length : Int))) x4_2 a1 x69_13 a0_0 l0_1 = some r) ∧ Aside0 (kq ≤ k2) ∧ Aside0 (Kd.R (Kd.int .i64) 3 wc w.heap.size (fun _ => True) (.slice d5 a1.length d6) a1) ∧ Aside0 (wc.heap[a5]? = some (.cells #[.int .i64 a0_0, (.slice (some ad180) l0_1.length c0_1)] 39 (0, 0))) ∧ Aside0 (Below w.heap.size w wc))
     case first =>
      have H := d4.out; clear d4
      obtain ⟨ji20, hji20⟩ : ∃ j_ : Int, (wrap64 ((a1.length : Int) - 1)) = j_ := ⟨_, rfl⟩
      first | rw [hji20] at H | simp only [hji20] at H
      have hji20w : (IntKind.i64.wrap ((a1.length : Int) - 1)) = ji20 := (i64_w _).trans hji20
      by_cases c21 : 0 ≤ (ji20)
      rotate_left
      ·rw [if_neg c21] at H
       exact absurd H (by simp)
      rw [if_pos c21] at H
      have c21b0 := decide_eq_true c21
      clear c21
      (first | rw [c21b0] | (simp only [i64_w, i32_w]; rw [c21b0]) | skip)
      by_cases c22 : (ji20) < (a1.length : Int)
      rotate_left
      ·rw [if_neg c22] at H
       exact absurd H (by simp)
      rw [if_pos c22] at H
      have c22b0 := decide_eq_true c22
      clear c22
      by_cases c23 : (rd a1 (ji20)) ≥ a0_0
      ·rw [if_pos c23] at H
       have c23b0 : decide (a0_0 ≤ (rd a1 (ji20))) = true := decide_eq_true c23
       clear c23; have H' := am_ H; clear H
       try go_wp2
       replace a2 := am_ (Kd.R_drew a2.out); replace a0 := am_ (blk_drew a0.out); replace HB := am_ (below_drew1 HB.out)
       have p186 := dp_ ((ji20))
       have q186 := dl_ (ji20) a1.length
       obtain ⟨ad186, e186, a3⟩ := Kd.at_int (Kd.R_reads' a2.out).2.2 (ji20) p186 q186
       cases e186; replace p186 := eq_true p186; replace q186 := eq_true q186
       refine start_ (n := 28) (S := fun w' => w'.cell? ⟨a5, 0, none⟩ = some (.int .i64 a0_0) ∧ w'.cell? ⟨a5, 1, none⟩ = some (.slice (some ad180) l0_1.length c0_1) ∧ w'.cell? (ad186.add ((ji20)).toNat) = some (.int .i64 (rd a1 (ji20)))) (ds := []) (bm 28 0) (by kernel_rfl) rfl (by kernel_rfl) ⟨bl_ a0 0, bl_ a0 1, a3⟩ (fun hHeld => ?_); refine with_tabW spec_ForestOk.tab11 spec_ForestOk.bits11 (fun HT_ HW_ => ?_)
       generalize w18.drew = w24 at a2 a0 HB a3 hHeld ⊢
       refine pz_ 0 42 (bm 28 1) ?_; refine pz_ 1 43 (bm 28 3) ?_; refine pz_ 2 44 (bm 28 7) ?_; refine pz_ 3 45 (bm 28 15) ?_; refine pz_ 4 46 (bm 28 31) ?_; refine pz_ 6 48 (bm 28 95) ?_; refine tz3_ 5 47 (bm 28 127) ?_; refine tz3_ 7 49 (bm 28 255) ?_; refine pz_ 8 50 (bm 28 511) ?_; refine pz_ 9 51 (bm 28 1023) ?_
       refine pu_ 10 52 (bm 28 2047) ?_
       refine pu_ 11 53 (bm 28 4095) ?_
       refine pu_ 12 54 (bm 28 8191) ?_
       refine pu_ 13 55 (bm 28 16383) ?_
       refine pu_ 14 56 (bm 28 32767) ?_
       refine pu_ 15 57 (bm 28 65535) ?_
       refine pu_ 16 58 (bm 28 131071) ?_
       refine pu_ 17 59 (bm 28 262143) ?_
       refine pu_ 18 60 (bm 28 524287) ?_
       refine pu_ 19 61 (bm 28 1048575) ?_
       refine pu_ 20 62 (bm 28 2097151) ?_
       refine pu_ 21 63 (bm 28 4194303) ?_
       refine pu_ 22 64 (bm 28 8388607) ?_
       refine pu_ 23 65 (bm 28 16777215) ?_
       refine pu_ 24 66 (bm 28 33554431) ?_
       refine pu_ 25 67 (bm 28 67108863) ?_
       refine pu_ 26 68 (bm 28 134217727) ?_
       refine pz_ 27 69 (bm 28 268435455) ?_
       refine done_ (done_of HT_.out (by kernel_rfl)) ?_
       try go_wp2
       go_meet
       case rel => exact ⟨_, (true), qe_, H', ⟨by have := d1.out; have := HK2.out; first | omega | exact Nat.le_refl _⟩, ⟨by (with_reducible repeat (first | apply Kd.R_alloc | apply Kd.R_drewN | apply Kd.R_drew)); first | exact a2.out | (have h_ := a2.out; simp only [own_slice] at h_ ⊢; exact h_)⟩, ⟨qk_ a0⟩, ⟨qB_⟩⟩
      rw [if_neg c23] at H
      have c23b0 : decide (a0_0 ≤ (rd a1 (ji20))) = false := decide_eq_false c23
      clear c23
      by_cases c25 : x4_2 > 0
      rotate_left
      ·rw [if_neg c25] at H
       have c25b0 : decide (0 < x4_2) = false := decide_eq_false c25
       clear c25; have H' := am_ H; clear H
       try go_wp2
       replace a2 := am_ (Kd.R_drew a2.out); replace a0 := am_ (blk_drew a0.out); replace HB := am_ (below_drew1 HB.out)
       have p186 := dp_ ((ji20))
       have q186 := dl_ (ji20) a1.length
       obtain ⟨ad186, e186, a3⟩ := Kd.at_int (Kd.R_reads' a2.out).2.2 (ji20) p186 q186
       cases e186; replace p186 := eq_true p186; replace q186 := eq_true q186
       refine start_ (n := 28) (S := fun w' => w'.cell? ⟨a5, 0, none⟩ = some (.int .i64 a0_0) ∧ w'.cell? ⟨a5, 1, none⟩ = some (.slice (some ad180) l0_1.length c0_1) ∧ w'.cell? (ad186.add ((ji20)).toNat) = some (.int .i64 (rd a1 (ji20)))) (ds := []) (bm 28 0) (by kernel_rfl) rfl (by kernel_rfl) ⟨bl_ a0 0, bl_ a0 1, a3⟩ (fun hHeld => ?_); refine with_tabW spec_ForestOk.tab11 spec_ForestOk.bits11 (fun HT_ HW_ => ?_)
       generalize w18.drew = w35 at a2 a0 HB a3 hHeld ⊢
       refine pz_ 0 42 (bm 28 1) ?_; refine pz_ 1 43 (bm 28 3) ?_; refine pz_ 2 44 (bm 28 7) ?_; refine pz_ 3 45 (bm 28 15) ?_; refine pz_ 4 46 (bm 28 31) ?_; refine pz_ 6 48 (bm 28 95) ?_; refine tz3_ 5 47 (bm 28 127) ?_; refine tz3_ 7 49 (bm 28 255) ?_; refine pz_ 8 50 (bm 28 511) ?_; refine pz_ 9 51 (bm 28 1023) ?_; refine pz_ 10 52 (bm 28 2047) ?_; refine pz_ 11 53 (bm 28 4095) ?_; refine pz_ 12 54 (bm 28 8191) ?_
       refine pu_ 13 55 (bm 28 16383) ?_
       refine pu_ 14 56 (bm 28 32767) ?_
       refine pu_ 15 57 (bm 28 65535) ?_
       refine pu_ 16 58 (bm 28 131071) ?_
       refine pu_ 17 59 (bm 28 262143) ?_
       refine pu_ 18 60 (bm 28 524287) ?_
       refine pu_ 19 61 (bm 28 1048575) ?_
       refine pu_ 20 62 (bm 28 2097151) ?_
       refine pu_ 21 63 (bm 28 4194303) ?_
       refine pu_ 22 64 (bm 28 8388607) ?_
       refine pu_ 23 65 (bm 28 16777215) ?_
       refine pu_ 24 66 (bm 28 33554431) ?_
       refine pu_ 25 67 (bm 28 67108863) ?_
       refine pz_ 26 68 (bm 28 134217727) ?_; refine pz_ 27 69 (bm 28 268435455) ?_
       refine done_ (done_of HT_.out (by kernel_rfl)) ?_
       try go_wp2
       go_meet
       case rel => exact ⟨_, (false), qe_, H', ⟨by have := d1.out; have := HK2.out; first | omega | exact Nat.le_refl _⟩, ⟨by (with_reducible repeat (first | apply Kd.R_alloc | apply Kd.R_drewN | apply Kd.R_drew)); first | exact a2.out | (have h_ := a2.out; simp only [own_slice] at h_ ⊢; exact h_)⟩, ⟨qk_ a0⟩, ⟨qB_⟩⟩
      rw [if_pos c25] at H
      have c25b0 : decide (0 < x4_2) = true := decide_eq_true c25
      clear c25
      obtain ⟨ji26, hji26⟩ : ∃ j_ : Int, (wrap64 (x4_2 - 1)) = j_ := ⟨_, rfl⟩
      first | rw [hji26] at H | simp only [hji26] at H
      have hji26w : (IntKind.i64.wrap (x4_2 - 1)) = ji26 := (i64_w _).trans hji26
      by_cases c27 : 0 ≤ (ji26)
      rotate_left
      ·rw [if_neg c27] at H
       exact absurd H (by simp)
      rw [if_pos c27] at H
      have c27b0 := decide_eq_true c27
      clear c27
      by_cases c28 : (ji26) < (l0_1.length : Int)
      rotate_left
      ·rw [if_neg c28] at H
       exact absurd H (by simp)
      rw [if_pos c28] at H
      have c28b0 := decide_eq_true c28
      clear c28
      obtain ⟨b5, e0, H⟩ := Option.bind_eq_some_iff.mp H; have A29 := am_ e0; clear e0
      by_cases c30 : 0 < (b5.length : Int)
      rotate_left
      ·rw [if_neg c30] at H
       exact absurd H (by simp)
      rw [if_pos c30] at H
      have c30b0 := decide_eq_true c30
      have c30b1 : decide (0 < b5.length) = true := decide_eq_true (by omega)
      clear c30
      by_cases c31 : 0 < (a1.length : Int)
      rotate_left
      ·rw [if_neg c31] at H
       exact absurd H (by simp)
      rw [if_pos c31] at H
      have c31b0 := decide_eq_true c31
      have c31b1 : decide (0 < a1.length) = true := decide_eq_true (by omega)
      clear c31; have H' := am_ H; clear H
      try go_wp2
      replace a2 := am_ (Kd.R_drew a2.out); replace a0 := am_ (blk_drew a0.out); replace HB := am_ (below_drew1 HB.out)
      have p186 := dp_ ((ji20))
      have q186 := dl_ (ji20) a1.length
      obtain ⟨ad186, e186, a3⟩ := Kd.at_int (Kd.R_reads' a2.out).2.2 (ji20) p186 q186
      cases e186; replace p186 := eq_true p186; replace q186 := eq_true q186
      have p187 := dp_ ((ji26))
      have q187 := dl_ (ji26) l0_1.length
      obtain ⟨ad187, A187_0, c187_0, e187, a6, hl187_0, hi187_0⟩ := at_L1 HR0_1.out (ji26) p187 q187
      have b4 := a6
      obtain rfl : ad180 = ad187 := (by injection e187)
      replace a6 := qx_ HB a6
      have HR187_0 := am_ hi187_0
      have HC187_0 := am_ hl187_0
      clear hi187_0 hl187_0; replace p187 := eq_true p187; replace q187 := eq_true q187
      have p192 : 0 ≤ (0 : Int) := (by omega)
      have q192 := dl_ 0 a1.length
      obtain ⟨ad192, e192, a7⟩ := Kd.at_int (Kd.R_reads' a2.out).2.2 0 p192 q192
      obtain rfl : ad186 = ad192 := (by injection e192)
      have qi192 : (0 < a1.length) = True := eq_true (by omega)
      (try rw [show ((0 : Int)).toNat = 0 from rfl] at a7)
      (try rw [Addr.add_zero'] at a7)
      replace p192 := eq_true p192; replace q192 := eq_true q192
      refine start_ (n := 28) (S := fun w' => w'.cell? ⟨a5, 0, none⟩ = some (.int .i64 a0_0) ∧ w'.cell? ⟨a5, 1, none⟩ = some (.slice (some ad180) l0_1.length c0_1) ∧ w'.cell? (ad186.add ((ji20)).toNat) = some (.int .i64 (rd a1 (ji20))) ∧ w'.cell? (ad180.add ((ji26)).toNat) = some (.slice A187_0 (rd_L1 l0_1 (ji26)).length c187_0) ∧ w'.cell? ad186 = some (.int .i64 (rd a1 0))) (ds := []) (bm 28 0) (by kernel_rfl) rfl (by kernel_rfl) ⟨bl_ a0 0, bl_ a0 1, a3, ((qx_ HB b4).trans rfl), a7⟩ (fun hHeld => ?_); refine with_tabW spec_ForestOk.tab11 spec_ForestOk.bits11 (fun HT_ HW_ => ?_)
      generalize w18.drew = w32 at a2 a0 HB HR187_0 a3 a6 a7 hHeld ⊢
      refine pz_ 0 42 (bm 28 1) ?_; refine pz_ 1 43 (bm 28 3) ?_; refine pz_ 2 44 (bm 28 7) ?_; refine pz_ 3 45 (bm 28 15) ?_; refine pz_ 4 46 (bm 28 31) ?_; refine pz_ 6 48 (bm 28 95) ?_; refine tz5_ 5 47 (bm 28 127) ?_; refine tz5_ 7 49 (bm 28 255) ?_; refine pz_ 8 50 (bm 28 511) ?_; refine pz_ 9 51 (bm 28 1023) ?_; refine pz_ 10 52 (bm 28 2047) ?_; refine pz_ 11 53 (bm 28 4095) ?_; refine pz_ 12 54 (bm 28 8191) ?_; refine pz_ 13 55 (bm 28 16383) ?_; refine pz_ 15 57 (bm 28 49151) ?_; refine pz_ 16 58 (bm 28 114687) ?_; refine pz_ 22 64 (bm 28 4308991) ?_; refine pz_ 23 65 (bm 28 12697599) ?_; refine tz5_ 14 56 (bm 28 12713983) ?_; refine pz_ 17 59 (bm 28 12845055) ?_; refine tz5_ 18 60 (bm 28 13107199) ?_; refine tz5_ 24 66 (bm 28 29884415) ?_
      refine o1_ 19 (some 61) (bm 28 30408703) (fun K hK => ?_)
      refine goes_ Try.func59 (by kernel_rfl) rfl #[.slice A187_0 (rd_L1 l0_1 (ji26)).length c187_0] (by rfl) rfl rfl (by (try simp only [List.map_toArray, List.map_cons, List.map_nil]); first | done | (simp only [hji26]; rfl) | rfl | (simp only [List.length_drop, List.length_take]; rfl)) ?_
      with_reducible refine (spec_VertsOf.calls k2 _ _ (rd_L1 l0_1 (ji26)) b5 _ ?side1 ?side2 A29.out).mono ?_
      (case side1 => exact qC_ HR187_0 HB)
      (case side2 => exact HC187_0.out)
      rintro e w33 ⟨g8, rfl, ho0, hb⟩
      have HS2_ := (hb.cell (World.block_lt_of_cell? _ _ (hHeld.2.2.1))).trans (hHeld.2.2.1)
      have HS4_ := (hb.cell (World.block_lt_of_cell? _ _ (hHeld.2.2.2.2))).trans (hHeld.2.2.2.2)
      refine ⟨_, rfl, ?_⟩
      have d2 := am_ (Kd.R_lower (Kd.R_new' ho0 (Kd.R_lt (qR_ a2))) (below_size qB_)); replace a2 := am_ (Kd.R_elder' (qR_ a2) (Kd.R_base ho0) hb); replace a0 := qbl_ a0 hb; replace HB := am_ (below_step qB_ hb); (try clear hb); (try clear hb2); (try clear hk); (try clear hi); (try clear ho0)
      obtain ⟨g9, h0, e1⟩ := Kd.R_slice d2.out
      (first | subst e1 | (injection e1 with f1_ f2_ f3_; have f4_ := f1_.symm; have f5_ := f3_.symm; clear f1_ f2_ f3_; subst f4_; subst f5_))
      have p191 : 0 ≤ (0 : Int) := (by omega)
      have q191 := dl_ 0 b5.length
      obtain ⟨ad191, e191, b0⟩ := Kd.at_int (Kd.R_reads' d2.out).2.2 0 p191 q191
      cases e191
      have qi191 : (0 < b5.length) = True := eq_true (by omega)
      (try rw [show ((0 : Int)).toNat = 0 from rfl] at b0)
      (try rw [Addr.add_zero'] at b0)
      replace p191 := eq_true p191; replace q191 := eq_true q191
      refine hK.out _ _ ⟨bl_ a0 0, bl_ a0 1, HS2_, ((qx_ HB b4).trans rfl), HS4_⟩ (fun hHeld => ?_)
      clear hK K
      refine nm_ 61 ?_
      refine pz_ 20 62 (bm 28 31457279) ?_
      refine now_x4 (i := 21) (N := some 63) (v := ?_) (a' := ?_) (bm 28 33554431) rfl rfl (one_of HT_.out (by kernel_rfl)) (by decide) (Or.inl ⟨by rfl, ?_⟩) hHeld ?_ ?_
      rotate_left
      ·rintro w' rfl
       go_simp
       with_reducible rfl
      rotate_left
      ·simp only [Act.put, sA_, sB_, sC_, i64_w, i32_w]
       rfl
      refine pz_ 25 67 (bm 28 67108863) ?_; refine pz_ 26 68 (bm 28 134217727) ?_; refine pz_ 27 69 (bm 28 268435455) ?_
      refine done_ (done_of HT_.out (by kernel_rfl)) ?_
      try go_wp2
      go_meet
      case rel => exact ⟨_, (decide ((rd b5 0) ≥ (rd a1 0))), qe_, H', ⟨by have := d1.out; have := HK2.out; first | omega | exact Nat.le_refl _⟩, ⟨by (with_reducible repeat (first | apply Kd.R_alloc | apply Kd.R_drewN | apply Kd.R_drew)); exact Kd.R_mono a2.out (fun _ hk => trivial)⟩, ⟨qk_ a0⟩, ⟨qB_⟩⟩
     case rest =>
      clear d4; (try clear c1); (try clear p1); (try clear q1); (try clear g6); (try clear qi1); (try clear c2); (try clear p2); (try clear c3); (try clear c5); (try clear p6); (try clear c18); (try clear p18); (try clear q18); (try clear e2); (try clear p19); (try clear q19); (try clear e3); (try clear qi19); (try clear c21); (try clear c22); (try clear c23); (try clear c23b0); (try clear c25); (try clear c25b0); (try clear c27); (try clear c27b0); (try clear c28); (try clear c28b0); (try clear c30); (try clear c30b0); (try clear c30b1); (try clear c31); (try clear c31b0); (try clear c31b1); (try clear a3); (try clear a6); (try clear b0); (try clear a7); (try clear p186); (try clear p187); (try clear p191); (try clear p192); (try clear q186); (try clear q187); (try clear q191); (try clear q192)
      obtain ⟨kq, x69_13, rfl, HA, b6, a8, a0, HB⟩ := hcut
      cases kq with
      | zero => exact absurd HA.out (by simp [spec_ForestOk.j2])
      | succ kj13 =>
       have H := HA.out; clear HA
       simp only [spec_ForestOk.j2] at H
       by_cases c36 : x69_13 = true
       ·subst c36
        rw [if_pos rfl] at H
        obtain rfl := Option.some.inj H
        go_wp2
        go_ret
        exact ⟨qr_, qB_⟩
       replace c36 := Bool.eq_false_iff.mpr c36
       subst c36
       rw [if_neg ff_] at H; have H' := am_ H; clear H
       go_wp2
       go_loopg [6] kj13 (fun kq v6 w' => ∃ (x6_4 : Int), v6 = .int .i64 x6_4 ∧ Aside0 (spec_ForestOk.l1 kq (wrap64 (x3_2 + (a1.length : Int))) x4_2 a1 x6_4 a0_0 l0_1 = some r) ∧ Aside0 (kq ≤ kj13) ∧ Aside0 (Kd.R (Kd.int .i64) 3 w' w.heap.size (fun _ => True) (.slice d5 a1.length d6) a1) ∧ Aside0 (w'.heap[a5]? = some (.cells #[.int .i64 a0_0, (.slice (some ad180) l0_1.length c0_1)] 39 (0, 0))) ∧ Aside0 (Below w.heap.size w w'))
       case atStart => exact ⟨(0), qe_, H', ⟨Nat.le_refl _⟩, ⟨by (with_reducible repeat (first | apply Kd.R_alloc | apply Kd.R_drewN | apply Kd.R_drew)); first | exact a8.out | (have h_ := a8.out; simp only [own_slice] at h_ ⊢; exact h_)⟩, ⟨qk_ a0⟩, ⟨qB_⟩⟩
       case round =>
        clear H'
        (try clear c1); (try clear p1); (try clear q1); (try clear g6); (try clear qi1); (try clear c2); (try clear p2); (try clear c3); (try clear c5); (try clear p6); (try clear c18); (try clear p18); (try clear q18); (try clear e2); (try clear p19); (try clear q19); (try clear e3); (try clear qi19); (try clear c21); (try clear c22); (try clear c23); (try clear c23b0); (try clear c25); (try clear c25b0); (try clear c27); (try clear c27b0); (try clear c28); (try clear c28b0); (try clear c30); (try clear c30b0); (try clear c30b1); (try clear c31); (try clear c31b0); (try clear c31b1); (try clear c36); (try clear a3); (try clear a6); (try clear b0); (try clear a7); (try clear p1); (try clear p18); (try clear p186); (try clear p187); (try clear p19); (try clear p191); (try clear p192); (try clear p2); (try clear p6); (try clear q1); (try clear q18); (try clear q186); (try clear q187); (try clear q19); (try clear q191); (try clear q192)
        obtain ⟨x6_4, rfl, HA, HK4, a8, a0, HB⟩ := hrel
        cases gk with
        | zero => exact absurd HA.out (by simp [spec_ForestOk.l1])
        | succ k4 =>
         have H := HA.out; clear HA
         simp only [spec_ForestOk.l1] at H
         by_cases c37 : x6_4 < x4_2
         rotate_left
         ·rw [if_neg c37] at H
          have c37b0 := decide_eq_false c37
          clear c37; have H' := am_ H; clear H
          go_wp2
          go_roundg k4
          case measure => have := d1.out; have := HK2.out; have := b6.out; have := HK4.out; omega
          case rel => exact ⟨((wrap64 (x3_2 + (a1.length : Int)))), (wrap64 (x4_2 + 1)), qe_, qe_, H', ⟨by have := d1.out; have := HK2.out; have := b6.out; have := HK4.out; omega⟩, ⟨qk_ a0⟩, ⟨qB_⟩⟩
         rw [if_pos c37] at H
         have c37b0 := decide_eq_true c37
         clear c37; have H' := am_ H; clear H
         go_wp2
         go_loopg [7] k4 (fun kq v7 w' => ∃ (x7_5 : Int), v7 = .int .i64 x7_5 ∧ Aside0 (spec_ForestOk.l2 kq (wrap64 (x3_2 + (a1.length : Int))) x4_2 a1 x6_4 x7_5 a0_0 l0_1 = some r) ∧ Aside0 (kq ≤ k4) ∧ Aside0 (Kd.R (Kd.int .i64) 3 w' w.heap.size (fun _ => True) (.slice d5 a1.length d6) a1) ∧ Aside0 (w'.heap[a5]? = some (.cells #[.int .i64 a0_0, (.slice (some ad180) l0_1.length c0_1)] 39 (0, 0))) ∧ Aside0 (Below w.heap.size w w'))
         case atStart => exact ⟨(0), qe_, H', ⟨Nat.le_refl _⟩, ⟨by (with_reducible repeat (first | apply Kd.R_alloc | apply Kd.R_drewN | apply Kd.R_drew)); first | exact a8.out | (have h_ := a8.out; simp only [own_slice] at h_ ⊢; exact h_)⟩, ⟨qk_ a0⟩, ⟨qB_⟩⟩
         case round =>
          clear H'
          (try clear c1); (try clear p1); (try clear q1); (try clear g6); (try clear qi1); (try clear c2); (try clear p2); (try clear c3); (try clear c5); (try clear p6); (try clear c18); (try clear p18); (try clear q18); (try clear e2); (try clear p19); (try clear q19); (try clear e3); (try clear qi19); (try clear c21); (try clear c22); (try clear c23); (try clear c23b0); (try clear c25); (try clear c25b0); (try clear c27); (try clear c27b0); (try clear c28); (try clear c28b0); (try clear c30); (try clear c30b0); (try clear c30b1); (try clear c31); (try clear c31b0); (try clear c31b1); (try clear c36); (try clear c37); (try clear c37b0); (try clear a3); (try clear a6); (try clear b0); (try clear a7); (try clear p1); (try clear p18); (try clear p186); (try clear p187); (try clear p19); (try clear p191); (try clear p192); (try clear p2); (try clear p6); (try clear q1); (try clear q18); (try clear q186); (try clear q187); (try clear q19); (try clear q191); (try clear q192)
          obtain ⟨x7_5, rfl, HA, HK5, a8, a0, HB⟩ := hrel
          cases gk with
          | zero => exact absurd HA.out (by simp [spec_ForestOk.l2])
          | succ k5 =>
           have H := HA.out; clear HA
           simp only [spec_ForestOk.l2] at H
           by_cases c38 : x7_5 < (a1.length : Int)
           rotate_left
           ·rw [if_neg c38] at H
            have c38b0 := decide_eq_false c38
            clear c38; have H' := am_ H; clear H
            go_wp2
            go_roundg k5
            case measure => have := d1.out; have := HK2.out; have := b6.out; have := HK4.out; have := HK5.out; omega
            case rel => exact ⟨(wrap64 (x6_4 + 1)), qe_, H', ⟨by have := d1.out; have := HK2.out; have := b6.out; have := HK4.out; have := HK5.out; omega⟩, ⟨by (with_reducible repeat (first | apply Kd.R_alloc | apply Kd.R_drewN | apply Kd.R_drew)); first | exact a8.out | (have h_ := a8.out; simp only [own_slice] at h_ ⊢; exact h_)⟩, ⟨qk_ a0⟩, ⟨qB_⟩⟩
           rw [if_pos c38] at H
           have c38b0 := decide_eq_true c38
           clear c38
           by_cases c39 : 0 ≤ x6_4
           rotate_left
           ·rw [if_neg c39] at H
            exact absurd H (by simp)
           rw [if_pos c39] at H
           have c39b0 := decide_eq_true c39
           clear c39
           by_cases c40 : x6_4 < (l0_1.length : Int)
           rotate_left
           ·rw [if_neg c40] at H
            exact absurd H (by simp)
           rw [if_pos c40] at H
           have c40b0 := decide_eq_true c40
           clear c40
           by_cases c41 : 0 ≤ x7_5
           rotate_left
           ·rw [if_neg c41] at H
            exact absurd H (by simp)
           rw [if_pos c41] at H
           have c41b0 := decide_eq_true c41
           clear c41
           obtain ⟨g4, e4, H⟩ := Option.bind_eq_some_iff.mp H; have A42 := am_ e4; clear e4
           by_cases c43 : g4 = true
           ·subst c43
            rw [if_pos rfl] at H
            obtain rfl := Option.some.inj H
            try go_wp2
            replace a8 := am_ (Kd.R_drew a8.out); replace a0 := am_ (blk_drew a0.out); replace HB := am_ (below_drew1 HB.out)
            have p193 := dp_ x6_4
            have q193 := dl_ x6_4 l0_1.length
            obtain ⟨ad193, A193_0, c193_0, e193, a4, hl193_0, hi193_0⟩ := at_L1 HR0_1.out x6_4 p193 q193
            have b1 := a4
            obtain rfl : ad180 = ad193 := (by injection e193)
            replace a4 := qx_ HB a4
            have HR193_0 := am_ hi193_0
            have HC193_0 := am_ hl193_0
            clear hi193_0 hl193_0; replace p193 := eq_true p193; replace q193 := eq_true q193
            have p194 := dp_ x7_5
            have q194 := dl_ x7_5 a1.length
            obtain ⟨ad194, e194, b2⟩ := Kd.at_int (Kd.R_reads' a8.out).2.2 x7_5 p194 q194
            cases e194; replace p194 := eq_true p194; replace q194 := eq_true q194
            refine start_ (n := 10) (S := fun w' => w'.cell? ⟨a5, 0, none⟩ = some (.int .i64 a0_0) ∧ w'.cell? ⟨a5, 1, none⟩ = some (.slice (some ad180) l0_1.length c0_1) ∧ w'.cell? (ad180.add (x6_4).toNat) = some (.slice A193_0 (rd_L1 l0_1 x6_4).length c193_0) ∧ w'.cell? (ad194.add (x7_5).toNat) = some (.int .i64 (rd a1 x7_5))) (ds := []) (bm 10 0) (by kernel_rfl) rfl (by kernel_rfl) ⟨bl_ a0 0, bl_ a0 1, ((qx_ HB b1).trans rfl), b2⟩ (fun hHeld => ?_); refine with_tabW spec_ForestOk.tab19 spec_ForestOk.bits19 (fun HT_ HW_ => ?_)
            generalize wr.drew = w44 at a8 a0 HB HR193_0 a4 b2 hHeld ⊢
            refine pz_ 0 81 (bm 10 1) ?_; refine pz_ 2 83 (bm 10 5) ?_; refine pz_ 5 86 (bm 10 37) ?_; refine pz_ 6 87 (bm 10 101) ?_; refine pz_ 7 88 (bm 10 229) ?_; refine tz4_ 1 82 (bm 10 231) ?_; refine pz_ 3 84 (bm 10 239) ?_; refine tz4_ 4 85 (bm 10 255) ?_; refine tz4_ 8 89 (bm 10 511) ?_
            refine o1_ 9 (some 90) (bm 10 1023) (fun K hK => ?_)
            refine gs_ Try.func105 #[.slice A193_0 (rd_L1 l0_1 x6_4).length c193_0, .int .i64 (rd a1 x7_5)] ?_
            with_reducible refine (spec_l05In.calls k5 _ _ (rd_L1 l0_1 x6_4) (rd a1 x7_5) true _ ?side1 ?side2 A42.out).mono ?_
            (case side1 => exact qC_ HR193_0 HB)
            (case side2 => exact HC193_0.out)
            rintro e w' ⟨rfl, ⟨nd, rfl⟩⟩
            refine ⟨_, rfl, ?_⟩
            refine hK.out _ _ ⟨bl_ a0 0, bl_ a0 1, ((qx_ HB b1).trans rfl), hHeld.2.2.2⟩ (fun hHeld => ?_)
            clear hK K
            refine nm_ 90 ?_
            refine done_ (done_of HT_.out (by kernel_rfl)) ?_
            try go_wp2
            go_ret
            exact ⟨qr_, qB_⟩
           replace c43 := Bool.eq_false_iff.mpr c43
           subst c43
           rw [if_neg ff_] at H; have H' := am_ H; clear H
           try go_wp2
           replace a8 := am_ (Kd.R_drew a8.out); replace a0 := am_ (blk_drew a0.out); replace HB := am_ (below_drew1 HB.out)
           have p193 := dp_ x6_4
           have q193 := dl_ x6_4 l0_1.length
           obtain ⟨ad193, A193_0, c193_0, e193, a4, hl193_0, hi193_0⟩ := at_L1 HR0_1.out x6_4 p193 q193
           have b1 := a4
           obtain rfl : ad180 = ad193 := (by injection e193)
           replace a4 := qx_ HB a4
           have HR193_0 := am_ hi193_0
           have HC193_0 := am_ hl193_0
           clear hi193_0 hl193_0; replace p193 := eq_true p193; replace q193 := eq_true q193
           have p194 := dp_ x7_5
           have q194 := dl_ x7_5 a1.length
           obtain ⟨ad194, e194, b2⟩ := Kd.at_int (Kd.R_reads' a8.out).2.2 x7_5 p194 q194
           cases e194; replace p194 := eq_true p194; replace q194 := eq_true q194
           refine start_ (n := 10) (S := fun w' => w'.cell? ⟨a5, 0, none⟩ = some (.int .i64 a0_0) ∧ w'.cell? ⟨a5, 1, none⟩ = some (.slice (some ad180) l0_1.length c0_1) ∧ w'.cell? (ad180.add (x6_4).toNat) = some (.slice A193_0 (rd_L1 l0_1 x6_4).length c193_0) ∧ w'.cell? (ad194.add (x7_5).toNat) = some (.int .i64 (rd a1 x7_5))) (ds := []) (bm 10 0) (by kernel_rfl) rfl (by kernel_rfl) ⟨bl_ a0 0, bl_ a0 1, ((qx_ HB b1).trans rfl), b2⟩ (fun hHeld => ?_); refine with_tabW spec_ForestOk.tab19 spec_ForestOk.bits19 (fun HT_ HW_ => ?_)
           generalize wr.drew = w45 at a8 a0 HB HR193_0 a4 b2 hHeld ⊢
           refine pz_ 0 81 (bm 10 1) ?_; refine pz_ 2 83 (bm 10 5) ?_; refine pz_ 5 86 (bm 10 37) ?_; refine pz_ 6 87 (bm 10 101) ?_; refine pz_ 7 88 (bm 10 229) ?_; refine tz4_ 1 82 (bm 10 231) ?_; refine pz_ 3 84 (bm 10 239) ?_; refine tz4_ 4 85 (bm 10 255) ?_; refine tz4_ 8 89 (bm 10 511) ?_
           refine o1_ 9 (some 90) (bm 10 1023) (fun K hK => ?_)
           refine gs_ Try.func105 #[.slice A193_0 (rd_L1 l0_1 x6_4).length c193_0, .int .i64 (rd a1 x7_5)] ?_
           with_reducible refine (spec_l05In.calls k5 _ _ (rd_L1 l0_1 x6_4) (rd a1 x7_5) false _ ?side1 ?side2 A42.out).mono ?_
           (case side1 => exact qC_ HR193_0 HB)
           (case side2 => exact HC193_0.out)
           rintro e w' ⟨rfl, ⟨nd, rfl⟩⟩
           refine ⟨_, rfl, ?_⟩
           refine hK.out _ _ ⟨bl_ a0 0, bl_ a0 1, ((qx_ HB b1).trans rfl), hHeld.2.2.2⟩ (fun hHeld => ?_)
           clear hK K
           refine nm_ 90 ?_
           refine done_ (done_of HT_.out (by kernel_rfl)) ?_
           try go_wp2
           go_roundg k5
           case measure => have := d1.out; have := HK2.out; have := b6.out; have := HK4.out; have := HK5.out; omega
           case rel => exact ⟨(wrap64 (x7_5 + 1)), qe_, H', ⟨by have := d1.out; have := HK2.out; have := b6.out; have := HK4.out; have := HK5.out; omega⟩, ⟨by (with_reducible repeat (first | apply Kd.R_alloc | apply Kd.R_drewN | apply Kd.R_drew)); first | exact a8.out | (have h_ := a8.out; simp only [own_slice] at h_ ⊢; exact h_)⟩, ⟨qk_ a0⟩, ⟨qB_⟩⟩
end Go.Proofs.Ytbkklafkoegdpaa.QFnExactLink
