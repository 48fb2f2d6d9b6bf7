import Derived.Test.YtbkklafkoegdpaaQFnExactWebAddx8
namespace Go.Proofs.Ytbkklafkoegdpaa.QFnExactWebAdd
open Go.RowKit Go.Proofs.YtbkklafkoegdpaaW.PrintWords Go.Proofs.YtbkklafkoegdpaaW.PrintLast Go.Proofs.YtbkklafkoegdpaaW.PrintMore
set_option maxHeartbeats 8000000
set_option maxRecDepth 100000
set_option linter.unusedVariables false
set_option linter.unusedSimpArgs false
theorem now_x9 {P : Program} {ops : Array Oper} {Q : Exit → Act → World → Prop} {md : Region.Mode} {S : World → Prop} {ds : List Nat} {i : Nat} {N : Option Tmp} {oi : Oper} {v : Value} {fuel : Nat} {l : Array Bool} {a : Act} {w : World} (l' : Array Bool) (hi : ops[i]? = some oi) (hN : oi.dst = N) (hc : readyB md ops l l' i = true) (hd : i ∉ ds)
    (hy : YieldsIf P ops (fun w' => w' = w) oi v a) (hS : S w) {a' : Act} (ha : a.put N v = a')
    (h : wpAnyLast P md ops Q S ds fuel l' a' w) : wpAnyLast P md ops Q S ds (fuel + 1) l a w := by
  subst ha
  refine one_ l' hi hN hc hd (fun K hK => ?_)
  subst hN
  rcases hy with ⟨hw, hv⟩ | ⟨hw, rfl⟩
  · simp only [hw, if_true, Oper.wp, hv w rfl, Oper.upon]; exact hK.out _ _ hS (fun _ => h)
  · simp only [hw, Bool.false_eq_true, if_false]; exact hK.out _ _ hS (fun _ => h)
mutual
def spec_ForestOk.j0 : Nat → Bool → Int → List (List Int) → Option (Bool)
  | 0, _, _, _ => none
  | k + 1, x17, x268000, x268001 => if x17 = true then (some false) else (spec_ForestOk.l0 k 0 0 x268000 x268001)
def spec_ForestOk.l0 : Nat → Int → Int → Int → List (List Int) → Option (Bool)
  | 0, _, _, _, _ => none
  | k + 1, x3, x4, x268000, x268001 => if x4 < (x268001.length : Int) then (if 0 ≤ x4 then ((spec_TourOk.f k (rd_L5 x268001 x4)).bind fun t270 => (if t270 = true then ((spec_VertsOf.f k (rd_L5 x268001 x4)).bind fun t272 => (if 0 ≤ (wrap64 ((t272.length : Int) - 1)) then (if (wrap64 ((t272.length : Int) - 1)) < (t272.length : Int) then (if (rd t272 (wrap64 ((t272.length : Int) - 1))) ≥ x268000 then (spec_ForestOk.j2 k (wrap64 (x3 + (t272.length : Int))) x4 t272 true x268000 x268001) else (if x4 > 0 then (if 0 ≤ (wrap64 (x4 - 1)) then (if (wrap64 (x4 - 1)) < (x268001.length : Int) then ((spec_VertsOf.f k (rd_L5 x268001 (wrap64 (x4 - 1)))).bind fun t277 => (if 0 < (t277.length : Int) then (if 0 < (t272.length : Int) then (spec_ForestOk.j2 k (wrap64 (x3 + (t272.length : Int))) x4 t272 (decide ((rd t277 0) ≥ (rd t272 0))) x268000 x268001) else (none)) else (none))) else (none)) else (none)) else (spec_ForestOk.j2 k (wrap64 (x3 + (t272.length : Int))) x4 t272 false x268000 x268001))) else (none)) else (none))) else (some false))) else (none)) else (some (x3 == x268000))
def spec_ForestOk.j2 : Nat → Int → Int → List Int → Bool → Int → List (List Int) → Option (Bool)
  | 0, _, _, _, _, _, _ => none
  | k + 1, x3, x4, x5, x69, x268000, x268001 => if x69 = true then (some false) else (spec_ForestOk.l1 k x3 x4 x5 0 x268000 x268001)
def spec_ForestOk.l1 : Nat → Int → Int → List Int → Int → Int → List (List Int) → Option (Bool)
  | 0, _, _, _, _, _, _ => none
  | k + 1, x3, x4, x5, x6, x268000, x268001 => if x6 < x4 then (spec_ForestOk.l2 k x3 x4 x5 x6 0 x268000 x268001) else (spec_ForestOk.l0 k x3 (wrap64 (x4 + 1)) x268000 x268001)
def spec_ForestOk.l2 : Nat → Int → Int → List Int → Int → Int → Int → List (List Int) → Option (Bool)
  | 0, _, _, _, _, _, _, _ => none
  | k + 1, x3, x4, x5, x6, x7, x268000, x268001 => if x7 < (x5.length : Int) then (if 0 ≤ x6 then (if x6 < (x268001.length : Int) then (if 0 ≤ x7 then ((spec_l05In.f k (rd_L5 x268001 x6) (rd x5 x7)).bind fun t284 => (if t284 = true then (some false) else (spec_ForestOk.l2 k x3 x4 x5 x6 (wrap64 (x7 + 1)) x268000 x268001))) else (none)) else (none)) else (none)) else (spec_ForestOk.l1 k x3 x4 x5 (wrap64 (x6 + 1)) x268000 x268001)
end
def spec_ForestOk.f (k : Nat) (a0_0 : Int) (l0_1 : List (List Int)) : Option (Bool) := (spec_l01In.f a0_0 1 12).bind fun t268 => (if t268 = true then (spec_ForestOk.j0 k (decide ((l0_1.length : Int) > 12)) a0_0 l0_1) else (spec_ForestOk.j0 k true a0_0 l0_1))
theorem spec_ForestOk.mono_l : ∀ k, (∀ y0 y1 y2, LeO (spec_ForestOk.j0 k y0 y1 y2) (spec_ForestOk.j0 (k + 1) y0 y1 y2)) ∧ (∀ y0 y1 y2 y3, LeO (spec_ForestOk.l0 k y0 y1 y2 y3) (spec_ForestOk.l0 (k + 1) y0 y1 y2 y3)) ∧ (∀ y0 y1 y2 y3 y4 y5, LeO (spec_ForestOk.j2 k y0 y1 y2 y3 y4 y5) (spec_ForestOk.j2 (k + 1) y0 y1 y2 y3 y4 y5)) ∧ (∀ y0 y1 y2 y3 y4 y5, LeO (spec_ForestOk.l1 k y0 y1 y2 y3 y4 y5) (spec_ForestOk.l1 (k + 1) y0 y1 y2 y3 y4 y5)) ∧ (∀ y0 y1 y2 y3 y4 y5 y6, LeO (spec_ForestOk.l2 k y0 y1 y2 y3 y4 y5 y6) (spec_ForestOk.l2 (k + 1) y0 y1 y2 y3 y4 y5 y6))
  | 0 => ⟨fun _ _ _ r h => by simp [spec_ForestOk.j0] at h, fun _ _ _ _ r h => by simp [spec_ForestOk.l0] at h, fun _ _ _ _ _ _ r h => by simp [spec_ForestOk.j2] at h, fun _ _ _ _ _ _ r h => by simp [spec_ForestOk.l1] at h, fun _ _ _ _ _ _ _ r h => by simp [spec_ForestOk.l2] at h⟩
  | k + 1 => by
    obtain ⟨ih0, ih1, ih2, ih3, ih4⟩ := spec_ForestOk.mono_l k
    have m0 := @spec_TourOk.mono; have m1 := @spec_VertsOf.mono; have m2 := @spec_l05In.mono
    refine ⟨?_, ?_, ?_, ?_, ?_⟩ <;> (intros; first | unfold spec_ForestOk.j0 | unfold spec_ForestOk.l0 | unfold spec_ForestOk.j2 | unfold spec_ForestOk.l1 | unfold spec_ForestOk.l2) <;> exact lo_
theorem spec_ForestOk.mono : ∀ a0 a1 k, LeO (spec_ForestOk.f k a0 a1) (spec_ForestOk.f (k + 1) a0 a1) := by
  intro a0 a1 k
  obtain ⟨ih0, ih1, ih2, ih3, ih4⟩ := spec_ForestOk.mono_l k
  have m0 := @spec_TourOk.mono; have m1 := @spec_VertsOf.mono; have m2 := @spec_l05In.mono
  unfold spec_ForestOk.f
  exact lo_
def spec_ForestOk.T11 : Bool × List (List Nat × List Nat) := (true, [([], []), ([], []), ([1], [1]), ([2], [2]), ([0, 3], [0, 3]), ([4], [4]), ([], []), ([6], [6]), ([5, 7], [5, 7]), ([8], [8]), ([9], [9]), ([10, 9], [9, 10]), ([11, 9, 9], [9, 11]), ([12], [12]), ([13, 12], [12, 13]), ([12], [12]), ([15, 12], [12, 15]), ([14, 16, 12], [12, 14, 16]), ([17, 12], [12, 17]), ([18, 12, 12], [12, 18]), ([19, 12], [12, 19]), ([20, 12], [12, 20]), ([12], [12]), ([22, 12], [12, 22]), ([23, 12], [12, 23]), ([21, 24, 12], [12, 21, 24]), ([12, 25, 9], [9, 12, 25]), ([9, 26], [9, 26])])
def spec_ForestOk.B11 : List Nat := [0, 0, 2, 6, 15, 31, 0, 64, 255, 511, 1023, 2047, 4095, 8191, 16383, 8191, 40959, 131071, 262143, 524287, 1048575, 2097151, 8191, 4202495, 12591103, 33554431, 67108863, 134217727]
theorem spec_ForestOk.tab11 : rtab .any (opsOf Try.f51 11) = spec_ForestOk.T11 := by kernel_rfl
theorem spec_ForestOk.bits11 : waitsOk spec_ForestOk.T11.2 spec_ForestOk.B11 = true := by kernel_rfl
def spec_ForestOk.T19 : Bool × List (List Nat × List Nat) := (true, [([], []), ([0], [0]), ([], []), ([1, 2], [1, 2]), ([3], [3]), ([], []), ([], []), ([5, 6], [5, 6]), ([7], [7]), ([4, 8], [4, 8])])
def spec_ForestOk.B19 : List Nat := [0, 1, 0, 7, 15, 0, 0, 96, 224, 511]
theorem spec_ForestOk.tab19 : rtab .any (opsOf Try.f51 19) = spec_ForestOk.T19 := by kernel_rfl
theorem spec_ForestOk.bits19 : waitsOk spec_ForestOk.T19.2 spec_ForestOk.B19 = true := by kernel_rfl
theorem spec_ForestOk.calls (k : Nat) (a0_0 : Int) (A0_1 : Option Addr) (c0_1 : Nat) (l0_1 : List (List Int)) (r : Bool) (w : World) (hr0_1 : Kd.C (Kd.slice 3 (Kd.int .i64)) w A0_1 l0_1.length l0_1) (hc0_1 : l0_1.length ≤ c0_1) (h : spec_ForestOk.f k a0_0 l0_1 = some r) :
  Calls Try.prog 51 #[.agg #[.int .i64 a0_0, .slice A0_1 l0_1.length c0_1]] w fun e w' => e = .returned (.bool r) ∧ Below w.heap.size w w' := by
 have hu39 := Try.underlying39
 have HR0_1 := am_ hr0_1
 have HC0_1 := am_ hc0_1
 clear hr0_1 hc0_1
 have HB := am_ (Below.refl w.heap.size w)
 rw [spec_ForestOk.f] at h; have H := h; clear h
 have g0 := am_ H
 clear H
 go_enter Try.func51, Try.ntmps51
 go_upto_region 1 with (first | ((with_reducible refine gd_ 1 ?_); (try (refine gate_guard (by rfl) ?_; dsimp only)); refine by_ 1 (cs := #[.int .i64 a0_0, .slice A0_1 l0_1.length c0_1]) (t := 39) ?_; intro a5 hg w3 a0 hb; have d6 := gw_ hg; replace HB := hs_ hb; clear hb hg))
 (try simp only [Act.put, sA_, sB_, sC_])
 go_cut [17] (fun v17 wc => ∃ (kq : Nat) (x17_1 : Bool), v17 = .bool x17_1 ∧ Aside0 (spec_ForestOk.j0 kq x17_1 a0_0 l0_1 = some r) ∧ Aside0 (kq ≤ k) ∧ Aside0 (wc.heap[a5]? = some (.cells #[.int .i64 a0_0, (.slice A0_1 l0_1.length c0_1)] 39 (0, 0))) ∧ Aside0 (Below w.heap.size w wc))
 case first =>
  have H := g0.out; clear g0
  obtain ⟨d2, A4, H⟩ := bs_ H
  refine ie_ H ?_ ?_ <;> clear H <;> rintro rfl H
  ·have H' := am_ H; clear H
   obtain ⟨b7, b8, b9, c0⟩ := bc2_ a0
   go_wp2_with (first | ((with_reducible refine gc_ 57 ?_); refine gl_ (some 10) Try.func57 #[.int .i64 a0_0, .int .i64 1, .int .i64 12] ?_; (with_reducible refine (spec_l01In.calls a0_0 1 12 true _ A4.out).mono ?_); rintro e w' ⟨rfl, ⟨nd, rfl⟩⟩; refine ⟨_, rfl, ?_⟩))
   go_meet
   case rel => exact ⟨_, (decide ((l0_1.length : Int) > 12)), qe_, H', ⟨qo_⟩, ⟨qk_ a0⟩, ⟨qB_⟩⟩
  have H' := am_ H; clear H
  obtain ⟨c1, c4, c6, c7⟩ := bc2_ a0
  go_wp2_with (first | ((with_reducible refine gc_ 57 ?_); refine gl_ (some 10) Try.func57 #[.int .i64 a0_0, .int .i64 1, .int .i64 12] ?_; (with_reducible refine (spec_l01In.calls a0_0 1 12 false _ A4.out).mono ?_); rintro e w' ⟨rfl, ⟨nd, rfl⟩⟩; refine ⟨_, rfl, ?_⟩))
  go_meet
  case rel => exact ⟨_, (true), qe_, H', ⟨qo_⟩, ⟨qk_ a0⟩, ⟨qB_⟩⟩
 case rest =>
  clear g0; (try clear p2); (try clear c5); (try clear b7 b8); (try clear c1 c4); (try clear b9 c0); (try clear c6 c7)
  obtain ⟨kq, x17_1, rfl, HA, d0, a0, HB⟩ := hcut
  cases kq with
  | zero => exact absurd HA.out (by simp [spec_ForestOk.j0])
  | succ kj1 =>
   have H := HA.out; clear HA
   simp only [spec_ForestOk.j0] at H
   refine ie_ H ?_ ?_ <;> clear H <;> rintro rfl H
   ·obtain rfl := oi_ H
    go_wp2
    go_ret
    exact ⟨qr_, qB_⟩
   have H' := am_ H; clear H
   go_wp2
   go_loopg [3, 4] kj1 (fun kq v3 v4 w' => ∃ (x3_2 : Int) (x4_2 : Int), v3 = .int .i64 x3_2 ∧ v4 = .int .i64 x4_2 ∧ Aside0 (spec_ForestOk.l0 kq x3_2 x4_2 a0_0 l0_1 = some r) ∧ Aside0 (kq ≤ kj1) ∧ Aside0 (w'.heap[a5]? = some (.cells #[.int .i64 a0_0, (.slice A0_1 l0_1.length c0_1)] 39 (0, 0))) ∧ Aside0 (Below w.heap.size w w'))
   case atStart => exact ⟨(0), (0), qe_, qe_, H', ⟨Nat.le_refl _⟩, ⟨qk_ a0⟩, ⟨qB_⟩⟩
   case round =>
    clear H'
    (try clear p2); (try clear c5); (try clear c8); (try clear b7 b8); (try clear c1 c4); (try clear b9 c0); (try clear c6 c7); (try clear p2)
    obtain ⟨x3_2, x4_2, rfl, rfl, HA, HK2, a0, HB⟩ := hrel
    cases gk with
    | zero => exact absurd HA.out (by simp [spec_ForestOk.l0])
    | succ k2 =>
     have H := HA.out; clear HA
     simp only [spec_ForestOk.l0] at H
     refine ib_ H ?_ ?_ <;> clear H <;> intro c9b0 H
     ·obtain rfl := oi_ H
      obtain ⟨e4, e5, e6, e7⟩ := bc2_ a0
      go_wp2
      go_ret
      exact ⟨qr_, qB_⟩
     refine ig_ H ?_; clear H; intro c10b0 H
     obtain ⟨g1, A11, H⟩ := bs_ H
     refine id_ H ?_ ?_ <;> clear H <;> rintro rfl H
     ·obtain rfl := oi_ H
      obtain ⟨e8, e9, f0, f1⟩ := bc2_ a0
      have p269 := dp_ x4_2
      have q269 := dl_ x4_2 l0_1.length
      obtain ⟨ad269, A269_0, c269_0, e269, a9, hl269_0, hi269_0⟩ := at_L5 HR0_1.out x4_2 p269 q269
      cases e269
      replace a9 := qx_ HB a9
      have HR269_0 := am_ hi269_0
      have HC269_0 := am_ hl269_0
      clear hi269_0 hl269_0; replace p269 := eq_true p269; replace q269 := eq_true q269
      go_wp2_with (first | ((with_reducible refine gc_ 104 ?_); refine gl_ (some 30) Try.func104 #[.slice A269_0 (rd_L5 l0_1 x4_2).length c269_0] ?_; (with_reducible refine (spec_TourOk.calls k2 _ _ (rd_L5 l0_1 x4_2) false _ ?_ ?_ A11.out).mono ?_); exact qC_ HR269_0 HB; exact HC269_0.out; rintro e w47 ⟨rfl, hb⟩; refine ⟨_, rfl, ?_⟩; replace a0 := qbl_ a0 hb; replace HB := hs_ hb; (try clear hb); (try clear hb2); (try clear hk); (try clear hi)))
      go_ret
      exact ⟨qr_, qB_⟩
     obtain ⟨a1, A13, H⟩ := bs_ H
     have d3 := am_ H
     clear H
     obtain ⟨f2, f3, f4, f5⟩ := bc2_ a0
     have p269 := dp_ x4_2
     have q269 := dl_ x4_2 l0_1.length
     obtain ⟨ad269, A269_0, c269_0, e269, a9, hl269_0, hi269_0⟩ := at_L5 HR0_1.out x4_2 p269 q269
     cases e269
     replace a9 := qx_ HB a9
     have HR269_0 := am_ hi269_0
     have HC269_0 := am_ hl269_0
     clear hi269_0 hl269_0; replace p269 := eq_true p269; replace q269 := eq_true q269
     go_upto_region 11 with (first | ((with_reducible refine gc_ 104 ?_); refine gl_ (some 30) Try.func104 #[.slice A269_0 (rd_L5 l0_1 x4_2).length c269_0] ?_; (with_reducible refine (spec_TourOk.calls k2 _ _ (rd_L5 l0_1 x4_2) true _ ?_ ?_ A11.out).mono ?_); exact qC_ HR269_0 HB; exact HC269_0.out; rintro e w16 ⟨rfl, hb⟩; refine ⟨_, rfl, ?_⟩; replace a0 := qbl_ a0 hb; replace HB := hs_ hb; (try clear hb); (try clear hb2); (try clear hk); (try clear hi); obtain ⟨f6, f7, f8, f9⟩ := bc2_ a0; have p271 := dp_ x4_2; have q271 := dl_ x4_2 l0_1.length; obtain ⟨ad271, A271_0, c271_0, e271, b3, hl271_0, hi271_0⟩ := at_L5 HR0_1.out x4_2 p271 q271; obtain rfl : ad269 = ad271 := (by injection e271); replace b3 := qx_ HB b3; have HR271_0 := am_ hi271_0; have HC271_0 := am_ hl271_0; clear hi271_0 hl271_0; replace p271 := eq_true p271; replace q271 := eq_true q271) | ((with_reducible refine gc_ 59 ?_); refine gl_ (some 37) Try.func59 #[.slice A271_0 (rd_L5 l0_1 x4_2).length c271_0] ?_; (with_reducible refine (spec_VertsOf.calls k2 _ _ (rd_L5 l0_1 x4_2) a1 _ ?_ ?_ A13.out).mono ?_); exact qC_ HR271_0 HB; exact HC271_0.out; rintro e w18 ⟨g6, rfl, ho0, hb⟩; refine ⟨_, rfl, ?_⟩; have a2 := am_ (Kd.R_lower ho0 (below_size qB_)); replace a0 := qbl_ a0 hb; replace HB := hs_ hb; (try clear hb); (try clear hb2); (try clear hk); (try clear hi); (try clear ho0); obtain ⟨d4, d5, g2⟩ := Kd.R_slice a2.out; subst g2))
     (try simp only [Act.put, sA_, sB_, sC_])
     go_cut [69] (fun v69 wc => ∃ (kq : Nat) (x69_13 : Bool), v69 = .bool x69_13 ∧ Aside0 (spec_ForestOk.j2 kq (wrap64 (x3_2 + (a1.length : Int))) x4_2 a1 x69_13 a0_0 l0_1 = some r) ∧ Aside0 (kq ≤ k2) ∧ Aside0 (Kd.R (Kd.int .i64) 3 wc w.heap.size (fun _ => True) (.slice d4 a1.length d5) a1) ∧ Aside0 (wc.heap[a5]? = some (.cells #[.int .i64 a0_0, (.slice (some ad269) l0_1.length c0_1)] 39 (0, 0))) ∧ Aside0 (Below w.heap.size w wc))
     case first =>
      have H := d3.out; clear d3
      obtain ⟨ji20, hji20⟩ : ∃ j_ : Int, (wrap64 ((a1.length : Int) - 1)) = j_ := ⟨_, rfl⟩
      first | rw [hji20] at H | simp only [hji20] at H
      have hji20w : (IntKind.i64.wrap ((a1.length : Int) - 1)) = ji20 := (i64_w _).trans hji20
      refine ig_ H ?_; clear H; intro c21b0 H
      (first | rw [c21b0] | (simp only [i64_w, i32_w]; rw [c21b0]) | skip)
      refine ig_ H ?_; clear H; intro c22b0 H
      refine jc_ H ?_ ?_ <;> clear H <;> intro c23 H
      ·have c23b0 : decide (a0_0 ≤ (rd a1 (ji20))) = true := decide_eq_true c23
       clear c23; have H' := am_ H; clear H
       try go_wp2
       replace a2 := am_ (Kd.R_drew a2.out); replace a0 := am_ (blk_drew a0.out); replace HB := am_ (below_drew1 HB.out)
       have p275 := dp_ ((ji20))
       have q275 := dl_ (ji20) a1.length
       obtain ⟨ad275, e275, a3⟩ := Kd.at_int (Kd.R_reads' a2.out).2.2 (ji20) p275 q275
       cases e275; replace p275 := eq_true p275; replace q275 := eq_true q275
       refine start_ (n := 28) (S := fun w' => w'.cell? ⟨a5, 0, none⟩ = some (.int .i64 a0_0) ∧ w'.cell? ⟨a5, 1, none⟩ = some (.slice (some ad269) l0_1.length c0_1) ∧ w'.cell? (ad275.add ((ji20)).toNat) = some (.int .i64 (rd a1 (ji20)))) (ds := []) (bm 28 0) (by kernel_rfl) rfl (by kernel_rfl) ⟨bl_ a0 0, bl_ a0 1, a3⟩ (fun hHeld => ?_); refine with_tabW spec_ForestOk.tab11 spec_ForestOk.bits11 (fun HT_ HW_ => ?_)
       generalize w18.drew = w24 at a2 a0 HB a3 hHeld ⊢
       refine pz_ 0 42 28 1 ?_; refine pz_ 1 43 28 3 ?_; refine pz_ 2 44 28 7 ?_; refine pz_ 3 45 28 15 ?_; refine pz_ 4 46 28 31 ?_; refine pz_ 6 48 28 95 ?_; refine tz3_ 5 47 28 127 ?_; refine tz3_ 7 49 28 255 ?_; refine pz_ 8 50 28 511 ?_; refine pz_ 9 51 28 1023 ?_
       refine pu_ 10 52 28 2047 ?_
       refine pu_ 11 53 28 4095 ?_
       refine pu_ 12 54 28 8191 ?_
       refine pu_ 13 55 28 16383 ?_
       refine pu_ 14 56 28 32767 ?_
       refine pu_ 15 57 28 65535 ?_
       refine pu_ 16 58 28 131071 ?_
       refine pu_ 17 59 28 262143 ?_
       refine pu_ 18 60 28 524287 ?_
       refine pu_ 19 61 28 1048575 ?_
       refine pu_ 20 62 28 2097151 ?_
       refine pu_ 21 63 28 4194303 ?_
       refine pu_ 22 64 28 8388607 ?_
       refine pu_ 23 65 28 16777215 ?_
       refine pu_ 24 66 28 33554431 ?_
       refine pu_ 25 67 28 67108863 ?_
       refine pu_ 26 68 28 134217727 ?_
       refine pz_ 27 69 28 268435455 ?_
       refine done_ (done_of HT_.out (by kernel_rfl)) ?_
       try go_wp2
       go_meet
       case rel => exact ⟨_, (true), qe_, H', ⟨by have := d0.out; have := HK2.out; first | omega | exact Nat.le_refl _⟩, ⟨ra_ a2⟩, ⟨qk_ a0⟩, ⟨qB_⟩⟩
      have c23b0 : decide (a0_0 ≤ (rd a1 (ji20))) = false := decide_eq_false c23
      clear c23
      refine jb_ H ?_ ?_ <;> clear H <;> intro c25 H
      ·have c25b0 : decide (0 < x4_2) = false := decide_eq_false c25
       clear c25; have H' := am_ H; clear H
       try go_wp2
       replace a2 := am_ (Kd.R_drew a2.out); replace a0 := am_ (blk_drew a0.out); replace HB := am_ (below_drew1 HB.out)
       have p275 := dp_ ((ji20))
       have q275 := dl_ (ji20) a1.length
       obtain ⟨ad275, e275, a3⟩ := Kd.at_int (Kd.R_reads' a2.out).2.2 (ji20) p275 q275
       cases e275; replace p275 := eq_true p275; replace q275 := eq_true q275
       refine start_ (n := 28) (S := fun w' => w'.cell? ⟨a5, 0, none⟩ = some (.int .i64 a0_0) ∧ w'.cell? ⟨a5, 1, none⟩ = some (.slice (some ad269) l0_1.length c0_1) ∧ w'.cell? (ad275.add ((ji20)).toNat) = some (.int .i64 (rd a1 (ji20)))) (ds := []) (bm 28 0) (by kernel_rfl) rfl (by kernel_rfl) ⟨bl_ a0 0, bl_ a0 1, a3⟩ (fun hHeld => ?_); refine with_tabW spec_ForestOk.tab11 spec_ForestOk.bits11 (fun HT_ HW_ => ?_)
       generalize w18.drew = w35 at a2 a0 HB a3 hHeld ⊢
       refine pz_ 0 42 28 1 ?_; refine pz_ 1 43 28 3 ?_; refine pz_ 2 44 28 7 ?_; refine pz_ 3 45 28 15 ?_; refine pz_ 4 46 28 31 ?_; refine pz_ 6 48 28 95 ?_; refine tz3_ 5 47 28 127 ?_; refine tz3_ 7 49 28 255 ?_; refine pz_ 8 50 28 511 ?_; refine pz_ 9 51 28 1023 ?_; refine pz_ 10 52 28 2047 ?_; refine pz_ 11 53 28 4095 ?_; refine pz_ 12 54 28 8191 ?_
       refine pu_ 13 55 28 16383 ?_
       refine pu_ 14 56 28 32767 ?_
       refine pu_ 15 57 28 65535 ?_
       refine pu_ 16 58 28 131071 ?_
       refine pu_ 17 59 28 262143 ?_
       refine pu_ 18 60 28 524287 ?_
       refine pu_ 19 61 28 1048575 ?_
       refine pu_ 20 62 28 2097151 ?_
       refine pu_ 21 63 28 4194303 ?_
       refine pu_ 22 64 28 8388607 ?_
       refine pu_ 23 65 28 16777215 ?_
       refine pu_ 24 66 28 33554431 ?_
       refine pu_ 25 67 28 67108863 ?_
       refine pz_ 26 68 28 134217727 ?_; refine pz_ 27 69 28 268435455 ?_
       refine done_ (done_of HT_.out (by kernel_rfl)) ?_
       try go_wp2
       go_meet
       case rel => exact ⟨_, (false), qe_, H', ⟨by have := d0.out; have := HK2.out; first | omega | exact Nat.le_refl _⟩, ⟨ra_ a2⟩, ⟨qk_ a0⟩, ⟨qB_⟩⟩
      have c25b0 : decide (0 < x4_2) = true := decide_eq_true c25
      clear c25
      obtain ⟨ji26, hji26⟩ : ∃ j_ : Int, (wrap64 (x4_2 - 1)) = j_ := ⟨_, rfl⟩
      first | rw [hji26] at H | simp only [hji26] at H
      have hji26w : (IntKind.i64.wrap (x4_2 - 1)) = ji26 := (i64_w _).trans hji26
      refine ig_ H ?_; clear H; intro c27b0 H
      refine ig_ H ?_; clear H; intro c28b0 H
      obtain ⟨b5, A29, H⟩ := bs_ H
      refine jg_ H ?_; clear H; intro c30 H
      have c30b0 := decide_eq_true c30
      have c30b1 : decide (0 < b5.length) = true := decide_eq_true (by omega)
      clear c30
      refine jg_ H ?_; clear H; intro c31 H
      have c31b0 := decide_eq_true c31
      have c31b1 : decide (0 < a1.length) = true := decide_eq_true (by omega)
      clear c31; have H' := am_ H; clear H
      try go_wp2
      replace a2 := am_ (Kd.R_drew a2.out); replace a0 := am_ (blk_drew a0.out); replace HB := am_ (below_drew1 HB.out)
      have p275 := dp_ ((ji20))
      have q275 := dl_ (ji20) a1.length
      obtain ⟨ad275, e275, a3⟩ := Kd.at_int (Kd.R_reads' a2.out).2.2 (ji20) p275 q275
      cases e275; replace p275 := eq_true p275; replace q275 := eq_true q275
      have p276 := dp_ ((ji26))
      have q276 := dl_ (ji26) l0_1.length
      obtain ⟨ad276, A276_0, c276_0, e276, a6, hl276_0, hi276_0⟩ := at_L5 HR0_1.out (ji26) p276 q276
      have b4 := a6
      obtain rfl : ad269 = ad276 := (by injection e276)
      replace a6 := qx_ HB a6
      have HR276_0 := am_ hi276_0
      have HC276_0 := am_ hl276_0
      clear hi276_0 hl276_0; replace p276 := eq_true p276; replace q276 := eq_true q276
      have p281 : 0 ≤ (0 : Int) := (by omega)
      have q281 := dl_ 0 a1.length
      obtain ⟨ad281, e281, a7⟩ := Kd.at_int (Kd.R_reads' a2.out).2.2 0 p281 q281
      obtain rfl : ad275 = ad281 := (by injection e281)
      have qi281 : (0 < a1.length) = True := eq_true (by omega)
      (try rw [show ((0 : Int)).toNat = 0 from rfl] at a7)
      (try rw [Addr.add_zero'] at a7)
      replace p281 := eq_true p281; replace q281 := eq_true q281
      refine start_ (n := 28) (S := fun w' => w'.cell? ⟨a5, 0, none⟩ = some (.int .i64 a0_0) ∧ w'.cell? ⟨a5, 1, none⟩ = some (.slice (some ad269) l0_1.length c0_1) ∧ w'.cell? (ad275.add ((ji20)).toNat) = some (.int .i64 (rd a1 (ji20))) ∧ w'.cell? (ad269.add ((ji26)).toNat) = some (.slice A276_0 (rd_L5 l0_1 (ji26)).length c276_0) ∧ w'.cell? ad275 = some (.int .i64 (rd a1 0))) (ds := []) (bm 28 0) (by kernel_rfl) rfl (by kernel_rfl) ⟨bl_ a0 0, bl_ a0 1, a3, ((qx_ HB b4).trans rfl), a7⟩ (fun hHeld => ?_); refine with_tabW spec_ForestOk.tab11 spec_ForestOk.bits11 (fun HT_ HW_ => ?_)
      generalize w18.drew = w32 at a2 a0 HB HR276_0 a3 a6 a7 hHeld ⊢
      refine pz_ 0 42 28 1 ?_; refine pz_ 1 43 28 3 ?_; refine pz_ 2 44 28 7 ?_; refine pz_ 3 45 28 15 ?_; refine pz_ 4 46 28 31 ?_; refine pz_ 6 48 28 95 ?_; refine tz5_ 5 47 28 127 ?_; refine tz5_ 7 49 28 255 ?_; refine pz_ 8 50 28 511 ?_; refine pz_ 9 51 28 1023 ?_; refine pz_ 10 52 28 2047 ?_; refine pz_ 11 53 28 4095 ?_; refine pz_ 12 54 28 8191 ?_; refine pz_ 13 55 28 16383 ?_; refine pz_ 15 57 28 49151 ?_; refine pz_ 16 58 28 114687 ?_; refine pz_ 22 64 28 4308991 ?_; refine pz_ 23 65 28 12697599 ?_; refine tz5_ 14 56 28 12713983 ?_; refine pz_ 17 59 28 12845055 ?_; refine tz5_ 18 60 28 13107199 ?_; refine tz5_ 24 66 28 29884415 ?_
      refine o1_ 19 (some 61) 28 30408703 (fun K hK => ?_)
      refine goes_ Try.func59 (by kernel_rfl) rfl #[.slice A276_0 (rd_L5 l0_1 (ji26)).length c276_0] (by rfl) rfl rfl (by (try simp only [List.map_toArray, List.map_cons, List.map_nil]); first | done | (simp only [hji26]; rfl) | rfl | (simp only [List.length_drop, List.length_take]; rfl)) ?_
      with_reducible refine (spec_VertsOf.calls k2 _ _ (rd_L5 l0_1 (ji26)) b5 _ ?side1 ?side2 A29.out).mono ?_
      (case side1 => exact qC_ HR276_0 HB)
      (case side2 => exact HC276_0.out)
      rintro e w33 ⟨g7, rfl, ho0, hb⟩
      have HS2_ := (hb.cell (World.block_lt_of_cell? _ _ (hHeld.2.2.1))).trans (hHeld.2.2.1)
      have HS4_ := (hb.cell (World.block_lt_of_cell? _ _ (hHeld.2.2.2.2))).trans (hHeld.2.2.2.2)
      refine ⟨_, rfl, ?_⟩
      have d1 := am_ (Kd.R_lower (Kd.R_new' ho0 (Kd.R_lt (qR_ a2))) (below_size qB_)); replace a2 := ke_ a2 ho0 hb; replace a0 := qbl_ a0 hb; replace HB := hs_ hb; (try clear hb); (try clear hb2); (try clear hk); (try clear hi); (try clear ho0)
      obtain ⟨g8, g9, e0⟩ := Kd.R_slice d1.out
      (first | subst e0 | (injection e0 with f1_ f2_ f3_; have f4_ := f1_.symm; have f5_ := f3_.symm; clear f1_ f2_ f3_; subst f4_; subst f5_))
      have p280 : 0 ≤ (0 : Int) := (by omega)
      have q280 := dl_ 0 b5.length
      obtain ⟨ad280, e280, b0⟩ := Kd.at_int (Kd.R_reads' d1.out).2.2 0 p280 q280
      cases e280
      have qi280 : (0 < b5.length) = True := eq_true (by omega)
      (try rw [show ((0 : Int)).toNat = 0 from rfl] at b0)
      (try rw [Addr.add_zero'] at b0)
      replace p280 := eq_true p280; replace q280 := eq_true q280
      refine hK.out _ _ ⟨bl_ a0 0, bl_ a0 1, HS2_, ((qx_ HB b4).trans rfl), HS4_⟩ (fun hHeld => ?_)
      clear hK K
      refine nm_ 61 ?_
      refine pz_ 20 62 28 31457279 ?_
      refine now_x9 (i := 21) (N := some 63) (v := ?_) (a' := ?_) (bm 28 33554431) rfl rfl (one_of HT_.out (by kernel_rfl)) (by decide) (Or.inl ⟨by rfl, ?_⟩) hHeld ?_ ?_
      rotate_left
      ·rintro w' rfl
       go_simp
       with_reducible rfl
      rotate_left
      ·simp only [Act.put, sA_, sB_, sC_, i64_w, i32_w]
       rfl
      refine pz_ 25 67 28 67108863 ?_; refine pz_ 26 68 28 134217727 ?_; refine pz_ 27 69 28 268435455 ?_
      refine done_ (done_of HT_.out (by kernel_rfl)) ?_
      try go_wp2
      go_meet
      case rel => exact ⟨_, (decide ((rd b5 0) ≥ (rd a1 0))), qe_, H', ⟨by have := d0.out; have := HK2.out; first | omega | exact Nat.le_refl _⟩, ⟨by (with_reducible repeat (first | apply Kd.R_alloc | apply Kd.R_drewN | apply Kd.R_drew)); exact Kd.R_mono a2.out (fun _ hk => trivial)⟩, ⟨qk_ a0⟩, ⟨qB_⟩⟩
     case rest =>
      clear d3; (try clear c2); (try clear p2); (try clear q2); (try clear g5); (try clear qi2); (try clear c3); (try clear c5); (try clear p6); (try clear c21); (try clear c22); (try clear c23); (try clear c23b0); (try clear c25); (try clear c25b0); (try clear c27); (try clear c27b0); (try clear p27); (try clear q27); (try clear e1); (try clear c28); (try clear c28b0); (try clear p28); (try clear q28); (try clear e2); (try clear qi28); (try clear c30); (try clear c30b0); (try clear c30b1); (try clear c31); (try clear c31b0); (try clear c31b1); (try clear a3); (try clear a6); (try clear b0); (try clear a7); (try clear p275); (try clear p276); (try clear p280); (try clear p281); (try clear q275); (try clear q276); (try clear q280); (try clear q281)
      obtain ⟨kq, x69_13, rfl, HA, b6, a8, a0, HB⟩ := hcut
      cases kq with
      | zero => exact absurd HA.out (by simp [spec_ForestOk.j2])
      | succ kj13 =>
       have H := HA.out; clear HA
       simp only [spec_ForestOk.j2] at H
       refine ie_ H ?_ ?_ <;> clear H <;> rintro rfl H
       ·obtain rfl := oi_ H
        go_wp2
        go_ret
        exact ⟨qr_, qB_⟩
       have H' := am_ H; clear H
       go_wp2
       go_loopg [6] kj13 (fun kq v6 w' => ∃ (x6_4 : Int), v6 = .int .i64 x6_4 ∧ Aside0 (spec_ForestOk.l1 kq (wrap64 (x3_2 + (a1.length : Int))) x4_2 a1 x6_4 a0_0 l0_1 = some r) ∧ Aside0 (kq ≤ kj13) ∧ Aside0 (Kd.R (Kd.int .i64) 3 w' w.heap.size (fun _ => True) (.slice d4 a1.length d5) a1) ∧ Aside0 (w'.heap[a5]? = some (.cells #[.int .i64 a0_0, (.slice (some ad269) l0_1.length c0_1)] 39 (0, 0))) ∧ Aside0 (Below w.heap.size w w'))
       case atStart => exact ⟨(0), qe_, H', ⟨Nat.le_refl _⟩, ⟨ra_ a8⟩, ⟨qk_ a0⟩, ⟨qB_⟩⟩
       case round =>
        clear H'
        (try clear c2); (try clear p2); (try clear q2); (try clear g5); (try clear qi2); (try clear c3); (try clear c5); (try clear p6); (try clear c21); (try clear c22); (try clear c23); (try clear c23b0); (try clear c25); (try clear c25b0); (try clear c27); (try clear c27b0); (try clear p27); (try clear q27); (try clear e1); (try clear c28); (try clear c28b0); (try clear p28); (try clear q28); (try clear e2); (try clear qi28); (try clear c30); (try clear c30b0); (try clear c30b1); (try clear c31); (try clear c31b0); (try clear c31b1); (try clear c36); (try clear a3); (try clear a6); (try clear b0); (try clear a7); (try clear p2); (try clear p27); (try clear p275); (try clear p276); (try clear p28); (try clear p280); (try clear p281); (try clear p6); (try clear q2); (try clear q27); (try clear q275); (try clear q276); (try clear q28); (try clear q280); (try clear q281)
        obtain ⟨x6_4, rfl, HA, HK4, a8, a0, HB⟩ := hrel
        cases gk with
        | zero => exact absurd HA.out (by simp [spec_ForestOk.l1])
        | succ k4 =>
         have H := HA.out; clear HA
         simp only [spec_ForestOk.l1] at H
         refine ib_ H ?_ ?_ <;> clear H <;> intro c37b0 H
         ·have H' := am_ H; clear H
          go_wp2
          go_roundg k4
          case measure => have := d0.out; have := HK2.out; have := b6.out; have := HK4.out; omega
          case rel => exact ⟨((wrap64 (x3_2 + (a1.length : Int)))), (wrap64 (x4_2 + 1)), qe_, qe_, H', ⟨by have := d0.out; have := HK2.out; have := b6.out; have := HK4.out; omega⟩, ⟨qk_ a0⟩, ⟨qB_⟩⟩
         have H' := am_ H; clear H
         go_wp2
         go_loopg [7] k4 (fun kq v7 w' => ∃ (x7_5 : Int), v7 = .int .i64 x7_5 ∧ Aside0 (spec_ForestOk.l2 kq (wrap64 (x3_2 + (a1.length : Int))) x4_2 a1 x6_4 x7_5 a0_0 l0_1 = some r) ∧ Aside0 (kq ≤ k4) ∧ Aside0 (Kd.R (Kd.int .i64) 3 w' w.heap.size (fun _ => True) (.slice d4 a1.length d5) a1) ∧ Aside0 (w'.heap[a5]? = some (.cells #[.int .i64 a0_0, (.slice (some ad269) l0_1.length c0_1)] 39 (0, 0))) ∧ Aside0 (Below w.heap.size w w'))
         case atStart => exact ⟨(0), qe_, H', ⟨Nat.le_refl _⟩, ⟨ra_ a8⟩, ⟨qk_ a0⟩, ⟨qB_⟩⟩
         case round =>
          clear H'
          (try clear c2); (try clear p2); (try clear q2); (try clear g5); (try clear qi2); (try clear c3); (try clear c5); (try clear p6); (try clear c21); (try clear c22); (try clear c23); (try clear c23b0); (try clear c25); (try clear c25b0); (try clear c27); (try clear c27b0); (try clear p27); (try clear q27); (try clear e1); (try clear c28); (try clear c28b0); (try clear p28); (try clear q28); (try clear e2); (try clear qi28); (try clear c30); (try clear c30b0); (try clear c30b1); (try clear c31); (try clear c31b0); (try clear c31b1); (try clear c36); (try clear c37); (try clear c37b0); (try clear a3); (try clear a6); (try clear b0); (try clear a7); (try clear p2); (try clear p27); (try clear p275); (try clear p276); (try clear p28); (try clear p280); (try clear p281); (try clear p6); (try clear q2); (try clear q27); (try clear q275); (try clear q276); (try clear q28); (try clear q280); (try clear q281)
          obtain ⟨x7_5, rfl, HA, HK5, a8, a0, HB⟩ := hrel
          cases gk with
          | zero => exact absurd HA.out (by simp [spec_ForestOk.l2])
          | succ k5 =>
           have H := HA.out; clear HA
           simp only [spec_ForestOk.l2] at H
           refine ib_ H ?_ ?_ <;> clear H <;> intro c38b0 H
           ·have H' := am_ H; clear H
            go_wp2
            go_roundg k5
            case measure => have := d0.out; have := HK2.out; have := b6.out; have := HK4.out; have := HK5.out; omega
            case rel => exact ⟨(wrap64 (x6_4 + 1)), qe_, H', ⟨by have := d0.out; have := HK2.out; have := b6.out; have := HK4.out; have := HK5.out; omega⟩, ⟨ra_ a8⟩, ⟨qk_ a0⟩, ⟨qB_⟩⟩
           refine ig_ H ?_; clear H; intro c39b0 H
           refine ig_ H ?_; clear H; intro c40b0 H
           refine ig_ H ?_; clear H; intro c41b0 H
           obtain ⟨g3, A42, H⟩ := bs_ H
           refine ie_ H ?_ ?_ <;> clear H <;> rintro rfl H
           ·obtain rfl := oi_ H
            try go_wp2
            replace a8 := am_ (Kd.R_drew a8.out); replace a0 := am_ (blk_drew a0.out); replace HB := am_ (below_drew1 HB.out)
            have p282 := dp_ x6_4
            have q282 := dl_ x6_4 l0_1.length
            obtain ⟨ad282, A282_0, c282_0, e282, a4, hl282_0, hi282_0⟩ := at_L5 HR0_1.out x6_4 p282 q282
            have b1 := a4
            obtain rfl : ad269 = ad282 := (by injection e282)
            replace a4 := qx_ HB a4
            have HR282_0 := am_ hi282_0
            have HC282_0 := am_ hl282_0
            clear hi282_0 hl282_0; replace p282 := eq_true p282; replace q282 := eq_true q282
            have p283 := dp_ x7_5
            have q283 := dl_ x7_5 a1.length
            obtain ⟨ad283, e283, b2⟩ := Kd.at_int (Kd.R_reads' a8.out).2.2 x7_5 p283 q283
            cases e283; replace p283 := eq_true p283; replace q283 := eq_true q283
            refine start_ (n := 10) (S := fun w' => w'.cell? ⟨a5, 0, none⟩ = some (.int .i64 a0_0) ∧ w'.cell? ⟨a5, 1, none⟩ = some (.slice (some ad269) l0_1.length c0_1) ∧ w'.cell? (ad269.add (x6_4).toNat) = some (.slice A282_0 (rd_L5 l0_1 x6_4).length c282_0) ∧ w'.cell? (ad283.add (x7_5).toNat) = some (.int .i64 (rd a1 x7_5))) (ds := []) (bm 10 0) (by kernel_rfl) rfl (by kernel_rfl) ⟨bl_ a0 0, bl_ a0 1, ((qx_ HB b1).trans rfl), b2⟩ (fun hHeld => ?_); refine with_tabW spec_ForestOk.tab19 spec_ForestOk.bits19 (fun HT_ HW_ => ?_)
            generalize wr.drew = w44 at a8 a0 HB HR282_0 a4 b2 hHeld ⊢
            refine pz_ 0 81 10 1 ?_; refine pz_ 2 83 10 5 ?_; refine pz_ 5 86 10 37 ?_; refine pz_ 6 87 10 101 ?_; refine pz_ 7 88 10 229 ?_; refine tz4_ 1 82 10 231 ?_; refine pz_ 3 84 10 239 ?_; refine tz4_ 4 85 10 255 ?_; refine tz4_ 8 89 10 511 ?_
            refine o1_ 9 (some 90) 10 1023 (fun K hK => ?_)
            refine gs_ Try.func105 #[.slice A282_0 (rd_L5 l0_1 x6_4).length c282_0, .int .i64 (rd a1 x7_5)] ?_
            with_reducible refine (spec_l05In.calls k5 _ _ (rd_L5 l0_1 x6_4) (rd a1 x7_5) true _ ?side1 ?side2 A42.out).mono ?_
            (case side1 => exact qC_ HR282_0 HB)
            (case side2 => exact HC282_0.out)
            rintro e w' ⟨rfl, ⟨nd, rfl⟩⟩
            refine ⟨_, rfl, ?_⟩
            refine hK.out _ _ ⟨bl_ a0 0, bl_ a0 1, ((qx_ HB b1).trans rfl), hHeld.2.2.2⟩ (fun hHeld => ?_)
            clear hK K
            refine nm_ 90 ?_
            refine done_ (done_of HT_.out (by kernel_rfl)) ?_
            try go_wp2
            go_ret
            exact ⟨qr_, qB_⟩
           have H' := am_ H; clear H
           try go_wp2
           replace a8 := am_ (Kd.R_drew a8.out); replace a0 := am_ (blk_drew a0.out); replace HB := am_ (below_drew1 HB.out)
           have p282 := dp_ x6_4
           have q282 := dl_ x6_4 l0_1.length
           obtain ⟨ad282, A282_0, c282_0, e282, a4, hl282_0, hi282_0⟩ := at_L5 HR0_1.out x6_4 p282 q282
           have b1 := a4
           obtain rfl : ad269 = ad282 := (by injection e282)
           replace a4 := qx_ HB a4
           have HR282_0 := am_ hi282_0
           have HC282_0 := am_ hl282_0
           clear hi282_0 hl282_0; replace p282 := eq_true p282; replace q282 := eq_true q282
           have p283 := dp_ x7_5
           have q283 := dl_ x7_5 a1.length
           obtain ⟨ad283, e283, b2⟩ := Kd.at_int (Kd.R_reads' a8.out).2.2 x7_5 p283 q283
           cases e283; replace p283 := eq_true p283; replace q283 := eq_true q283
           refine start_ (n := 10) (S := fun w' => w'.cell? ⟨a5, 0, none⟩ = some (.int .i64 a0_0) ∧ w'.cell? ⟨a5, 1, none⟩ = some (.slice (some ad269) l0_1.length c0_1) ∧ w'.cell? (ad269.add (x6_4).toNat) = some (.slice A282_0 (rd_L5 l0_1 x6_4).length c282_0) ∧ w'.cell? (ad283.add (x7_5).toNat) = some (.int .i64 (rd a1 x7_5))) (ds := []) (bm 10 0) (by kernel_rfl) rfl (by kernel_rfl) ⟨bl_ a0 0, bl_ a0 1, ((qx_ HB b1).trans rfl), b2⟩ (fun hHeld => ?_); refine with_tabW spec_ForestOk.tab19 spec_ForestOk.bits19 (fun HT_ HW_ => ?_)
           generalize wr.drew = w45 at a8 a0 HB HR282_0 a4 b2 hHeld ⊢
           refine pz_ 0 81 10 1 ?_; refine pz_ 2 83 10 5 ?_; refine pz_ 5 86 10 37 ?_; refine pz_ 6 87 10 101 ?_; refine pz_ 7 88 10 229 ?_; refine tz4_ 1 82 10 231 ?_; refine pz_ 3 84 10 239 ?_; refine tz4_ 4 85 10 255 ?_; refine tz4_ 8 89 10 511 ?_
           refine o1_ 9 (some 90) 10 1023 (fun K hK => ?_)
           refine gs_ Try.func105 #[.slice A282_0 (rd_L5 l0_1 x6_4).length c282_0, .int .i64 (rd a1 x7_5)] ?_
           with_reducible refine (spec_l05In.calls k5 _ _ (rd_L5 l0_1 x6_4) (rd a1 x7_5) false _ ?side1 ?side2 A42.out).mono ?_
           (case side1 => exact qC_ HR282_0 HB)
           (case side2 => exact HC282_0.out)
           rintro e w' ⟨rfl, ⟨nd, rfl⟩⟩
           refine ⟨_, rfl, ?_⟩
           refine hK.out _ _ ⟨bl_ a0 0, bl_ a0 1, ((qx_ HB b1).trans rfl), hHeld.2.2.2⟩ (fun hHeld => ?_)
           clear hK K
           refine nm_ 90 ?_
           refine done_ (done_of HT_.out (by kernel_rfl)) ?_
           try go_wp2
           go_roundg k5
           case measure => have := d0.out; have := HK2.out; have := b6.out; have := HK4.out; have := HK5.out; omega
           case rel => exact ⟨(wrap64 (x7_5 + 1)), qe_, H', ⟨by have := d0.out; have := HK2.out; have := b6.out; have := HK4.out; have := HK5.out; omega⟩, ⟨ra_ a8⟩, ⟨qk_ a0⟩, ⟨qB_⟩⟩
end Go.Proofs.Ytbkklafkoegdpaa.QFnExactWebAdd
