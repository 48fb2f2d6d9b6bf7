import Derived.Test.YtbkklafkoegdpaaQFnExactWebAddx1
import Derived.Test.YtbkklafkoegdpaaQFnExactWebAddx4
namespace Go.Proofs.Ytbkklafkoegdpaa.QFnExactWebAdd
open Go.RowKit Go.Proofs.YtbkklafkoegdpaaW.PrintWords Go.Proofs.YtbkklafkoegdpaaW.PrintLast Go.Proofs.YtbkklafkoegdpaaW.PrintMore
set_option maxHeartbeats 8000000
set_option maxRecDepth 100000
set_option linter.unusedVariables false
set_option linter.unusedSimpArgs false
attribute [local go_sem high] eqA43
def spec_GraphOk.f (k : Nat) (a0_0 : Int) (l0_1 : List (S43)) : Option (Bool) := (spec_l01In.f a0_0 1 12).bind fun t159 => (if t159 = true then ((spec_l05Edges.f k a0_0 l0_1).bind fun t160 => (some t160)) else (some false))
theorem spec_GraphOk.mono : ∀ a0 a1 k, LeO (spec_GraphOk.f k a0 a1) (spec_GraphOk.f (k + 1) a0 a1) := by
  intro a0 a1 k
  have m0 := @spec_l05Edges.mono
  unfold spec_GraphOk.f
  exact lo_
theorem spec_GraphOk.calls (k : Nat) (a0_0 : Int) (A0_1 : Option Addr) (c0_1 : Nat) (l0_1 : List (S43)) (r : Bool) (w : World) (hr0_1 : Kd.C k43 w A0_1 l0_1.length l0_1) (hc0_1 : l0_1.length ≤ c0_1) (h : spec_GraphOk.f k a0_0 l0_1 = some r) :
  Calls Try.prog 56 #[.agg #[.int .i64 a0_0, .slice A0_1 l0_1.length c0_1]] w fun e w' => e = .returned (.bool r) ∧ Below w.heap.size w w' := by
 have hu69 := Try.underlying69
 have HR0_1 := am_ hr0_1
 have HC0_1 := am_ hc0_1
 clear hr0_1 hc0_1
 have HB := am_ (Below.refl w.heap.size w)
 rw [spec_GraphOk.f] at h; have H := h; clear h
 obtain ⟨a2, A2, H⟩ := bs_ H
 refine ie_ H ?_ ?_ <;> clear H <;> rintro rfl H
 ·obtain ⟨a3, A4, H⟩ := bs_ H
  obtain rfl := oi_ H
  go_enter Try.func56, Try.ntmps56
  go_wp2_with (first | ((with_reducible refine gd_ 1 ?_); refine by_ 1 (cs := #[.int .i64 a0_0, .slice A0_1 l0_1.length c0_1]) (t := 69) ?_; intro a4 hg w5 a0 hb; have a1 := gw_ hg; replace HB := hs_ hb; clear hb hg; obtain ⟨a6, a7, a8, a9⟩ := bc2_ a0) | ((with_reducible refine gc_ 57 ?_); refine gl_ (some 5) Try.func57 #[.int .i64 a0_0, .int .i64 1, .int .i64 12] ?_; (with_reducible refine (spec_l01In.calls a0_0 1 12 true _ A2.out).mono ?_); rintro e w' ⟨rfl, ⟨nd, rfl⟩⟩; refine ⟨_, rfl, ?_⟩) | (go_at_call 107; (with_reducible refine (spec_l05Edges.calls k a0_0 _ _ l0_1 a3 _ ?side1 ?side2 A4.out).mono ?_); (case side1 => repeat (first | exact (Kd.C_below HR0_1.out qB_) | (with_reducible refine Kd.C_alloc ?_ _) | (with_reducible refine Kd.C_drewN ?_ _) | (with_reducible refine Kd.C_drew ?_))); (case side2 => exact HC0_1.out); rintro e w7 ⟨rfl, hb⟩; replace a0 := qbl_ a0 hb; replace HB := hs_ hb; (try clear hb); (try clear hb2); (try clear hk); (try clear hi)))
  go_ret
  exact ⟨qr_, qB_⟩
 obtain rfl := oi_ H
 go_enter Try.func56, Try.ntmps56
 go_wp2_with (first | ((with_reducible refine gd_ 1 ?_); refine by_ 1 (cs := #[.int .i64 a0_0, .slice A0_1 l0_1.length c0_1]) (t := 69) ?_; intro a4 hg w8 a0 hb; have a1 := gw_ hg; replace HB := hs_ hb; clear hb hg; obtain ⟨b0, b1, b2, b3⟩ := bc2_ a0) | ((with_reducible refine gc_ 57 ?_); refine gl_ (some 5) Try.func57 #[.int .i64 a0_0, .int .i64 1, .int .i64 12] ?_; (with_reducible refine (spec_l01In.calls a0_0 1 12 false _ A2.out).mono ?_); rintro e w' ⟨rfl, ⟨nd, rfl⟩⟩; refine ⟨_, rfl, ?_⟩))
 go_ret
 exact ⟨qr_, qB_⟩
def spec_l05In.l0 : Nat → List Int → Int → Int → Option (Bool)
  | 0, _, _, _ => none
  | k + 1, x0, x1, x5 => if x5 < (x0.length : Int) then (if 0 ≤ x5 then (if (rd x0 x5) = x1 then (some true) else (spec_l05In.l0 k x0 x1 (wrap64 (x5 + 1)))) else (none)) else (some false)
def spec_l05In.f (k : Nat) (l0 : List Int) (a1 : Int) : Option (Bool) := spec_l05In.l0 k l0 a1 0
theorem spec_l05In.mono_l : ∀ k, (∀ y0 y1 y2, LeO (spec_l05In.l0 k y0 y1 y2) (spec_l05In.l0 (k + 1) y0 y1 y2))
  | 0 => fun _ _ _ r h => by simp [spec_l05In.l0] at h
  | k + 1 => by
    have ih0 := spec_l05In.mono_l k
    · intro y0 y1 y2
      unfold spec_l05In.l0
      exact lo_
theorem spec_l05In.mono : ∀ a0 a1 k, LeO (spec_l05In.f k a0 a1) (spec_l05In.f (k + 1) a0 a1) := by
  intro a0 a1 k
  have ih0 := spec_l05In.mono_l k
  unfold spec_l05In.f
  exact lo_
theorem spec_l05In.calls (k : Nat) (A0 : Option Addr) (c0 : Nat) (l0 : List Int) (a1 : Int) (r : Bool) (w : World) (hr0 : Kd.C (Kd.int .i64) w A0 l0.length l0) (hc0 : l0.length ≤ c0) (h : spec_l05In.f k l0 a1 = some r) :
  Calls Try.prog 105 #[.slice A0 l0.length c0, .int .i64 a1] w fun e w' => e = .returned (.bool r) ∧ Drawn0 w w' := by
 have a2 := am_ hr0
 have a3 := am_ hc0
 clear hr0 hc0
 rw [spec_l05In.f] at h; have H := h; clear h; have H' := am_ H; clear H
 go_enter Try.func105, Try.ntmps105
 go_wp2
 go_loopg [5] k (fun kq v5 w' => ∃ (x5_1 : Int), v5 = .int .i64 x5_1 ∧ Aside0 (spec_l05In.l0 kq l0 a1 x5_1 = some r) ∧ Aside0 (kq ≤ k) ∧ Drawn0 w w')
 case atStart => exact ⟨(0), qe_, H', ⟨Nat.le_refl _⟩, by repeat (first | exact Drawn0.refl _ | apply Drawn0.step)⟩
 case round =>
  clear H'
  (try clear c1); (try clear p2)
  obtain ⟨x5_1, rfl, HA, HK1, ⟨m1, rfl⟩⟩ := hrel
  cases gk with
  | zero => exact absurd HA.out (by simp [spec_l05In.l0])
  | succ k1 =>
   have H := HA.out; clear HA
   simp only [spec_l05In.l0] at H
   refine ib_ H ?_ ?_ <;> clear H <;> intro c3b0 H
   ·obtain rfl := oi_ H
    go_wp2
    go_ret
    exact ⟨by first | rfl | (simp; done) | (simp [*]; done), by repeat (first | exact Drawn0.refl _ | apply Drawn0.step)⟩
   refine ig_ H ?_; clear H; intro c4b0 H
   refine jc_ H ?_ ?_ <;> clear H <;> intro c5 H
   ·have c5b0 : ((rd l0 x5_1) == a1) = true := beq_iff_eq.mpr c5
    have c5b1 : ((rd l0 x5_1) != a1) = false := bne_eq_false_iff_eq.mpr c5
    clear c5
    obtain rfl := oi_ H
    have p161 := dp_ x5_1
    have q161 := dl_ x5_1 l0.length
    obtain ⟨ad161, e161, a0⟩ := Kd.at_int a2.out x5_1 p161 q161
    cases e161; replace p161 := eq_true p161; replace q161 := eq_true q161
    go_wp2
    go_ret
    exact ⟨by first | rfl | (simp; done) | (simp [*]; done), by repeat (first | exact Drawn0.refl _ | apply Drawn0.step)⟩
   have c5b0 : ((rd l0 x5_1) == a1) = false := beq_eq_false_iff_ne.mpr c5
   have c5b1 : ((rd l0 x5_1) != a1) = true := bne_iff_ne.mpr c5
   have H' := am_ H; clear H
   have p161 := dp_ x5_1
   have q161 := dl_ x5_1 l0.length
   obtain ⟨ad161, e161, a0⟩ := Kd.at_int a2.out x5_1 p161 q161
   cases e161; replace p161 := eq_true p161; replace q161 := eq_true q161
   go_wp2
   go_roundg k1
   case measure => have := HK1.out; omega
   case rel => exact ⟨(wrap64 (x5_1 + 1)), qe_, H', ⟨by have := HK1.out; omega⟩, by repeat (first | exact Drawn0.refl _ | apply Drawn0.step)⟩
def spec_l08Tree.l0 : Nat → Int → List (S43) → Int → Int → List (S72) → Option ((List (S43)))
  | 0, _, _, _, _, _ => none
  | k + 1, x1, x5, x6, x163000, x163001 => if x6 < (x163001.length : Int) then (if 0 ≤ x6 then (if (rd_T72 x163001 x6).f3 = true then (if ((rd_T72 x163001 x6).f2) ≥ x1 then (if x5.length < 8796093022208 then (spec_l08Tree.l0 k x1 (x5 ++ [(⟨(rd_T72 x163001 x6).f0, (rd_T72 x163001 x6).f1⟩ : S43)]) (wrap64 (x6 + 1)) x163000 x163001) else (none)) else (spec_l08Tree.l0 k x1 x5 (wrap64 (x6 + 1)) x163000 x163001)) else (spec_l08Tree.l0 k x1 x5 (wrap64 (x6 + 1)) x163000 x163001)) else (none)) else (some x5)
def spec_l08Tree.f (k : Nat) (a0_0 : Int) (l0_1 : List (S72)) (a1 : Int) : Option ((List (S43))) := spec_l08Tree.l0 k a1 (([] : List (S43))) 0 a0_0 l0_1
theorem spec_l08Tree.mono_l : ∀ k, (∀ y0 y1 y2 y3 y4, LeO (spec_l08Tree.l0 k y0 y1 y2 y3 y4) (spec_l08Tree.l0 (k + 1) y0 y1 y2 y3 y4))
  | 0 => fun _ _ _ _ _ r h => by simp [spec_l08Tree.l0] at h
  | k + 1 => by
    have ih0 := spec_l08Tree.mono_l k
    · intro y0 y1 y2 y3 y4
      unfold spec_l08Tree.l0
      exact lo_
theorem spec_l08Tree.mono : ∀ a0 a1 a2 k, LeO (spec_l08Tree.f k a0 a1 a2) (spec_l08Tree.f (k + 1) a0 a1 a2) := by
  intro a0 a1 a2 k
  have ih0 := spec_l08Tree.mono_l k
  unfold spec_l08Tree.f
  exact lo_
theorem spec_l08Tree.calls (k : Nat) (a0_0 : Int) (A0_1 : Option Addr) (c0_1 : Nat) (l0_1 : List (S72)) (a1 : Int) (r : List (S43)) (w : World) (hr0_1 : Kd.C k72 w A0_1 l0_1.length l0_1) (hc0_1 : l0_1.length ≤ c0_1) (h : spec_l08Tree.f k a0_0 l0_1 a1 = some r) :
  Calls Try.prog 108 #[.agg #[.int .i64 a0_0, .slice A0_1 l0_1.length c0_1], .int .i64 a1] w fun e w' => ∃ v0_ : Value, e = .returned (v0_) ∧ Kd.R k43 43 w' w.heap.size (fun _ => True) v0_ r ∧ Below w.heap.size w w' := by
 have hu29 := Try.underlying29; have hu72 := Try.underlying72; have hu43 := Try.underlying43
 have HR0_1 := am_ hr0_1
 have HC0_1 := am_ hc0_1
 clear hr0_1 hc0_1
 have HB := am_ (Below.refl w.heap.size w)
 rw [spec_l08Tree.f] at h; have H := h; clear h
 obtain ⟨b6, hy163⟩ : ∃ y_ : List (S43), y_ = (([] : List (S43))) := ⟨_, rfl⟩
 replace H : (spec_l08Tree.l0 k a1 b6 0 a0_0 l0_1) = some r := hq_ hy163 H
 have Ny163 := am_ hy163
 clear hy163; have H' := am_ H; clear H
 go_enter Try.func108, Try.ntmps108
 go_wp2_with (first | ((with_reducible refine gd_ 2 ?_); refine by_ 2 (cs := #[.int .i64 a0_0, .slice A0_1 l0_1.length c0_1]) (t := 29) ?_; intro b2 hg w3 a0 hb; have b7 := gw_ hg; replace HB := hs_ hb; clear hb hg) | ((with_reducible refine gd_ 8 ?_); refine Kd.R_lit k43 _ 43 ?hg (N := 8) ?hd (xs := ([] : List (S43))) (inner := []) (ok := fun _ => True) (okp := fun _ => True) ?hr ?hp (fun _ hk => hk) trivial (Below.refl _ _) (Nat.le_refl _) (by simp) ?_; (case hd => rfl); (case hg => rfl); (case hr => first | (go_simp; done) | (go_simp; rfl)); (case hp => exact (Reps.none _ _)); intro h4 w4 ho5 hb hg_ hnew_; clear hg_ hnew_; (first | rw [← Ny163.out] at ho5 | (simp only [Int.reduceToNat] at ho5; rw [← Ny163.out] at ho5)); have b3 := am_ (Kd.R_lower ho5 (below_size qB_)); replace a0 := qbl_ a0 hb; replace HB := hs_ hb; clear hb ho5))
 go_loopg [5, 6] k (fun kq v5 v6 w' => ∃ (x5_1 : List (S43)) (x6_1 : Int), v6 = .int .i64 x6_1 ∧ Aside0 (spec_l08Tree.l0 kq a1 x5_1 x6_1 a0_0 l0_1 = some r) ∧ Aside0 (kq ≤ k) ∧ Aside0 (Kd.R k43 43 w' w.heap.size (fun _ => True) v5 x5_1) ∧ Aside0 (w'.heap[b2]? = some (.cells #[.int .i64 a0_0, (.slice A0_1 l0_1.length c0_1)] 29 (0, 0))) ∧ Aside0 (Below w.heap.size w w'))
 case atStart => exact ⟨(b6), (0), qe_, H', ⟨Nat.le_refl _⟩, ⟨ra_ b3⟩, ⟨qk_ a0⟩, ⟨qB_⟩⟩
 case round =>
  clear H'
  (try clear c1); (try clear p2)
  obtain ⟨x5_1, x6_1, rfl, HA, HK1, a9, a0, HB⟩ := hrel
  cases gk with
  | zero => exact absurd HA.out (by simp [spec_l08Tree.l0])
  | succ k1 =>
   have H := HA.out; clear HA
   simp only [spec_l08Tree.l0] at H
   refine ib_ H ?_ ?_ <;> clear H <;> intro c6b0 H
   ·obtain rfl := oi_ H
    obtain ⟨b9, c0, c2, c3⟩ := bc2_ a0
    go_wp2
    go_ret
    exact ⟨_, qr_, qR_ a9, qB_⟩
   refine ig_ H ?_; clear H; intro c7b0 H
   obtain ⟨bq8, hbq8⟩ : ∃ b_ : Bool, b_ = ((rd_T72 l0_1 x6_1).f3) := ⟨_, rfl⟩
   replace H : (if bq8 = true then (if ((rd_T72 l0_1 x6_1).f2) ≥ a1 then (if x5_1.length < 8796093022208 then (spec_l08Tree.l0 k1 a1 (x5_1 ++ [(⟨(rd_T72 l0_1 x6_1).f0, (rd_T72 l0_1 x6_1).f1⟩ : S43)]) (wrap64 (x6_1 + 1)) a0_0 l0_1) else (none)) else (spec_l08Tree.l0 k1 a1 x5_1 (wrap64 (x6_1 + 1)) a0_0 l0_1)) else (spec_l08Tree.l0 k1 a1 x5_1 (wrap64 (x6_1 + 1)) a0_0 l0_1)) = some r := by rw [← hbq8] at H; exact H
   have Nbq8 := am_ hbq8
   clear hbq8
   refine id_ H ?_ ?_ <;> clear H <;> rintro rfl H
   ·have H' := am_ H; clear H
    obtain ⟨c4, c5, c8, d0⟩ := bc2_ a0
    have p166 := dp_ x6_1
    have q166 := dl_ x6_1 l0_1.length
    obtain ⟨ad166, e166, a4, a5, a6, a2⟩ := at_T72 HR0_1.out x6_1 p166 q166
    (try rw [← Nbq8.out] at a2)
    cases e166
    replace a4 := qx_ HB a4
    replace a5 := qx_ HB a5
    replace a6 := qx_ HB a6
    replace a2 := qx_ HB a2
    replace p166 := eq_true p166; replace q166 := eq_true q166
    go_wp2_with (first | ((with_reducible refine gd_ 7 ?_); refine by_ 7 (cs := #[.int .i64 0, .int .i64 0, .int .i64 0, .bool false]) (t := 72) ?_; intro a3 hg w22 a8 hb; have b1 := gw_ hg; obtain ⟨b0, a7⟩ := qn_ a0 hg; replace a9 := kb_ a9 hb; replace a0 := qbl_ a0 hb; replace HB := hs_ hb; clear hb hg; obtain ⟨g8, g9⟩ := nn_ a7; obtain ⟨d1, d2, d3, d4, d5, d6, d7, d8⟩ := bc4_ a8))
    go_roundg k1
    case measure => have := HK1.out; omega
    case rel => exact ⟨(x5_1), (wrap64 (x6_1 + 1)), qe_, H', ⟨by have := HK1.out; omega⟩, ⟨by (with_reducible repeat (first | apply Kd.R_alloc | apply Kd.R_drewN | apply Kd.R_drew)); exact Kd.R_mono (Kd.R_far (p := ⟨a3, 3, none⟩) (Kd.R_far (p := ⟨a3, 2, none⟩) (Kd.R_far (p := ⟨a3, 1, none⟩) (Kd.R_far (p := ⟨a3, 0, none⟩) (Kd.R_types a9.out a8.out (by decide)) (fun _ hk => hk.2) (.int .i64 ((rd_T72 l0_1 x6_1).f0))) (fun _ hk => hk.2) (.int .i64 ((rd_T72 l0_1 x6_1).f1))) (fun _ hk => hk.2) (.int .i64 ((rd_T72 l0_1 x6_1).f2))) (fun _ hk => hk.2) (.bool false)) (fun _ hk => trivial)⟩, ⟨qf_ a0⟩, ⟨qB_⟩⟩
   refine jb_ H ?_ ?_ <;> clear H <;> intro c10 H
   ·have c10b0 : decide (a1 ≤ ((rd_T72 l0_1 x6_1).f2)) = false := decide_eq_false c10
    clear c10; have H' := am_ H; clear H
    obtain ⟨d9, e0, e1, e2⟩ := bc2_ a0
    have p166 := dp_ x6_1
    have q166 := dl_ x6_1 l0_1.length
    obtain ⟨ad166, e166, a4, a5, a6, a2⟩ := at_T72 HR0_1.out x6_1 p166 q166
    (try rw [← Nbq8.out] at a2)
    cases e166
    replace a4 := qx_ HB a4
    replace a5 := qx_ HB a5
    replace a6 := qx_ HB a6
    replace a2 := qx_ HB a2
    replace p166 := eq_true p166; replace q166 := eq_true q166
    go_wp2_with (first | ((with_reducible refine gd_ 7 ?_); refine by_ 7 (cs := #[.int .i64 0, .int .i64 0, .int .i64 0, .bool false]) (t := 72) ?_; intro a3 hg w18 a8 hb; have b1 := gw_ hg; obtain ⟨b0, a7⟩ := qn_ a0 hg; replace a9 := kb_ a9 hb; replace a0 := qbl_ a0 hb; replace HB := hs_ hb; clear hb hg; obtain ⟨h0, h1⟩ := nn_ a7; obtain ⟨e3, e4, e5, e6, e7, e8, e9, f4⟩ := bc4_ a8))
    go_roundg k1
    case measure => have := HK1.out; omega
    case rel => exact ⟨(x5_1), (wrap64 (x6_1 + 1)), qe_, H', ⟨by have := HK1.out; omega⟩, ⟨by (with_reducible repeat (first | apply Kd.R_alloc | apply Kd.R_drewN | apply Kd.R_drew)); exact Kd.R_mono (Kd.R_far (p := ⟨a3, 3, none⟩) (Kd.R_far (p := ⟨a3, 2, none⟩) (Kd.R_far (p := ⟨a3, 1, none⟩) (Kd.R_far (p := ⟨a3, 0, none⟩) (Kd.R_types a9.out a8.out (by decide)) (fun _ hk => hk.2) (.int .i64 ((rd_T72 l0_1 x6_1).f0))) (fun _ hk => hk.2) (.int .i64 ((rd_T72 l0_1 x6_1).f1))) (fun _ hk => hk.2) (.int .i64 ((rd_T72 l0_1 x6_1).f2))) (fun _ hk => hk.2) (.bool true)) (fun _ hk => trivial)⟩, ⟨qf_ a0⟩, ⟨qB_⟩⟩
   have c10b0 : decide (a1 ≤ ((rd_T72 l0_1 x6_1).f2)) = true := decide_eq_true c10
   clear c10
   refine jg_ H ?_; clear H; intro c11 H
   have LMc11 := am_ c11
   clear c11
   obtain ⟨b8, hy168⟩ : ∃ y_ : List (S43), y_ = (x5_1 ++ [(⟨(rd_T72 l0_1 x6_1).f0, (rd_T72 l0_1 x6_1).f1⟩ : S43)]) := ⟨_, rfl⟩
   replace H : (spec_l08Tree.l0 k1 a1 b8 (wrap64 (x6_1 + 1)) a0_0 l0_1) = some r := hq_ hy168 H
   have Ny168 := am_ hy168
   clear hy168; have H' := am_ H; clear H
   obtain ⟨f5, f6, f7, f8⟩ := bc2_ a0
   have p166 := dp_ x6_1
   have q166 := dl_ x6_1 l0_1.length
   obtain ⟨ad166, e166, a4, a5, a6, a2⟩ := at_T72 HR0_1.out x6_1 p166 q166
   (try rw [← Nbq8.out] at a2)
   cases e166
   replace a4 := qx_ HB a4
   replace a5 := qx_ HB a5
   replace a6 := qx_ HB a6
   replace a2 := qx_ HB a2
   replace p166 := eq_true p166; replace q166 := eq_true q166
   go_wp2_with (first | ((with_reducible refine gd_ 7 ?_); refine by_ 7 (cs := #[.int .i64 0, .int .i64 0, .int .i64 0, .bool false]) (t := 72) ?_; intro a3 hg w13 a8 hb; have b1 := gw_ hg; obtain ⟨b0, a7⟩ := qn_ a0 hg; replace a9 := kb_ a9 hb; replace a0 := qbl_ a0 hb; replace HB := hs_ hb; clear hb hg; obtain ⟨h2, h3⟩ := nn_ a7; obtain ⟨f9, g0, g1, g2, g3, g4, g5, g6⟩ := bc4_ a8) | ((with_reducible refine gate_builtin (b := .append) (xs := #[.tmp 29, .tmp 35]) rfl ?_); at_builtin; refine Kd.R_append k43 (w0 := w) w.heap.size rfl (.tmp 29) (.tmp 35) 67 43 (.agg #[(.int .i64 0), (.int .i64 0)]) 16 rfl Try.underlying67 info43 rfl (by decide) (by omega) u5 x5_1 (⟨(rd_T72 l0_1 x6_1).f0, (rd_T72 l0_1 x6_1).f1⟩ : S43) [.int .i64 ((rd_T72 l0_1 x6_1).f0), .int .i64 ((rd_T72 l0_1 x6_1).f1)] (fun _ => True) (fun _ => False) rfl (by first | (go_simp; done) | (go_simp; rfl)) ?aP (fun _ hk => hk.elim) ?aF ?aO ?aB ?aS ?aL ?_; (case aP => exact k43_mkM _ _ _ (⟨(rd_T72 l0_1 x6_1).f0, (rd_T72 l0_1 x6_1).f1⟩ : S43)); (case aB => exact qB_); (case aF => exact (fun _ _ => trivial)); (case aO => exact (by (with_reducible repeat (first | apply Kd.R_alloc | apply Kd.R_drewN | apply Kd.R_drew)); exact Kd.R_mono (Kd.R_far (p := ⟨a3, 3, none⟩) (Kd.R_far (p := ⟨a3, 2, none⟩) (Kd.R_far (p := ⟨a3, 1, none⟩) (Kd.R_far (p := ⟨a3, 0, none⟩) (Kd.R_types a9.out a8.out (by decide)) (fun _ hk => hk.2) (.int .i64 ((rd_T72 l0_1 x6_1).f0))) (fun _ hk => hk.2) (.int .i64 ((rd_T72 l0_1 x6_1).f1))) (fun _ hk => hk.2) (.int .i64 ((rd_T72 l0_1 x6_1).f2))) (fun _ hk => hk.2) (.bool true)) (fun _ hk => trivial))); (case aS => exact (below_size qB_)); (case aL => have := LMc11.out; omega); intro h5 w16 ho hb hg hat; rw [← Ny168.out] at ho; have b5 := am_ (ho); replace a0 := am_ (blk_grown (g := b2) (o := .cells #[.int .i64 a0_0, .slice (some ad166) l0_1.length c0_1] 29 (0, 0)) (qf_ a0) hg (Kd.R_ne a9.out a0.out (by decide))); replace a8 := am_ (blk_grown (g := a3) (o := .cells #[.int .i64 ((rd_T72 l0_1 x6_1).f0), .int .i64 ((rd_T72 l0_1 x6_1).f1), .int .i64 ((rd_T72 l0_1 x6_1).f2), .bool true] 72 (0, 0)) (by (with_reducible repeat (first | refine blk_drewN ?_ _ | refine blk_drew ?_ | refine blk_alloc ?_ _)); refine blk_put (cs := #[.int .i64 ((rd_T72 l0_1 x6_1).f0), .int .i64 ((rd_T72 l0_1 x6_1).f1), .int .i64 ((rd_T72 l0_1 x6_1).f2), .bool false]) ?_ 3 _ rfl; (with_reducible repeat (first | refine blk_drewN ?_ _ | refine blk_drew ?_ | refine blk_alloc ?_ _)); refine blk_put (cs := #[.int .i64 ((rd_T72 l0_1 x6_1).f0), .int .i64 ((rd_T72 l0_1 x6_1).f1), .int .i64 0, .bool false]) ?_ 2 _ rfl; (with_reducible repeat (first | refine blk_drewN ?_ _ | refine blk_drew ?_ | refine blk_alloc ?_ _)); refine blk_put (cs := #[.int .i64 ((rd_T72 l0_1 x6_1).f0), .int .i64 0, .int .i64 0, .bool false]) ?_ 1 _ rfl; (with_reducible repeat (first | refine blk_drewN ?_ _ | refine blk_drew ?_ | refine blk_alloc ?_ _)); refine blk_put (cs := #[.int .i64 0, .int .i64 0, .int .i64 0, .bool false]) ?_ 0 _ rfl; exact qf_ a8) hg (Kd.R_ne a9.out a8.out (by decide))); replace HB := am_ (hb); clear a9; clear ho hb hg hat))
   go_roundg k1
   case measure => have := HK1.out; omega
   case rel => exact ⟨(b8), (wrap64 (x6_1 + 1)), qe_, H', ⟨by have := HK1.out; omega⟩, ⟨ra_ b5⟩, ⟨qk_ a0⟩, ⟨qB_⟩⟩
def spec_l05Has.l0 : Nat → List (S43) → Int → Int → Int → Option (Bool)
  | 0, _, _, _, _ => none
  | k + 1, x0, x5, x172000, x172001 => if x5 < (x0.length : Int) then (if 0 ≤ x5 then (if (((rd_T43 x0 x5).f0) == x172000 && (((rd_T43 x0 x5).f1) == x172001)) = true then (some true) else (spec_l05Has.l0 k x0 (wrap64 (x5 + 1)) x172000 x172001)) else (none)) else (some false)
def spec_l05Has.f (k : Nat) (l0 : List (S43)) (a1_0 : Int) (a1_1 : Int) : Option (Bool) := spec_l05Has.l0 k l0 0 a1_0 a1_1
theorem spec_l05Has.mono_l : ∀ k, (∀ y0 y1 y2 y3, LeO (spec_l05Has.l0 k y0 y1 y2 y3) (spec_l05Has.l0 (k + 1) y0 y1 y2 y3))
  | 0 => fun _ _ _ _ r h => by simp [spec_l05Has.l0] at h
  | k + 1 => by
    have ih0 := spec_l05Has.mono_l k
    · intro y0 y1 y2 y3
      unfold spec_l05Has.l0
      exact lo_
theorem spec_l05Has.mono : ∀ a0 a1 a2 k, LeO (spec_l05Has.f k a0 a1 a2) (spec_l05Has.f (k + 1) a0 a1 a2) := by
  intro a0 a1 a2 k
  have ih0 := spec_l05Has.mono_l k
  unfold spec_l05Has.f
  exact lo_
theorem spec_l05Has.calls (k : Nat) (A0 : Option Addr) (c0 : Nat) (l0 : List (S43)) (a1_0 : Int) (a1_1 : Int) (r : Bool) (w : World) (hr0 : Kd.C k43 w A0 l0.length l0) (hc0 : l0.length ≤ c0) (h : spec_l05Has.f k l0 a1_0 a1_1 = some r) :
  Calls Try.prog 101 #[.slice A0 l0.length c0, .agg #[.int .i64 a1_0, .int .i64 a1_1]] w fun e w' => e = .returned (.bool r) ∧ Below w.heap.size w w' := by
 have hu43 := Try.underlying43
 have b4 := am_ hr0
 have b5 := am_ hc0
 clear hr0 hc0
 have HB := am_ (Below.refl w.heap.size w)
 rw [spec_l05Has.f] at h; have H := h; clear h; have H' := am_ H; clear H
 go_enter Try.func101, Try.ntmps101
 go_wp2_with (first | ((with_reducible refine gd_ 3 ?_); refine by_ 3 (cs := #[.int .i64 a1_0, .int .i64 a1_1]) (t := 43) ?_; intro a4 hg w3 a2 hb; have a3 := gw_ hg; replace HB := hs_ hb; clear hb hg))
 repeat (go_quiet (fail); try go_wp2_with (first | ((with_reducible refine gd_ 3 ?_); refine by_ 3 (cs := #[.int .i64 a1_0, .int .i64 a1_1]) (t := 43) ?_; intro a4 hg w3 a2 hb; have a3 := gw_ hg; replace HB := hs_ hb; clear hb hg)))
 go_loopg [5] k (fun kq v5 w' => ∃ (x5_1 : Int), v5 = .int .i64 x5_1 ∧ Aside0 (spec_l05Has.l0 kq l0 x5_1 a1_0 a1_1 = some r) ∧ Aside0 (kq ≤ k) ∧ Aside0 (w'.heap[a4]? = some (.cells #[.int .i64 a1_0, .int .i64 a1_1] 43 (0, 0))) ∧ Aside0 (Below w.heap.size w w'))
 case atStart => exact ⟨(0), qe_, H', ⟨Nat.le_refl _⟩, ⟨qk_ a2⟩, ⟨qB_⟩⟩
 case round =>
  clear H'
  (try clear c1); (try clear p2)
  obtain ⟨x5_1, rfl, HA, HK1, a2, HB⟩ := hrel
  cases gk with
  | zero => exact absurd HA.out (by simp [spec_l05Has.l0])
  | succ k1 =>
   have H := HA.out; clear HA
   simp only [spec_l05Has.l0] at H
   refine ib_ H ?_ ?_ <;> clear H <;> intro c4b0 H
   ·obtain rfl := oi_ H
    go_wp2
    repeat (go_quiet (fail); try go_wp2)
    go_ret
    exact ⟨qr_, qB_⟩
   refine ig_ H ?_; clear H; intro c5b0 H
   refine jc_ H ?_ ?_ <;> clear H <;> intro c6 H
   ·have c6b0 : (((rd_T43 l0 x5_1).f0) == a1_0 && (((rd_T43 l0 x5_1).f1) == a1_1)) = true := c6
    (try (have c6b1 : decide (((rd_T43 l0 x5_1).f0) = a1_0 && (((rd_T43 l0 x5_1).f1) == a1_1)) = true := by simpa using c6))
    (try (have c6b2 : (((rd_T43 l0 x5_1).f0) == a1_0 && (((rd_T43 l0 x5_1).f1) == a1_1)) = true := by simpa using c6))
    clear c6
    obtain rfl := oi_ H
    have p172 := dp_ x5_1
    have q172 := dl_ x5_1 l0.length
    obtain ⟨ad172, e172, a0, a1⟩ := at_T43 b4.out x5_1 p172 q172
    cases e172
    replace a0 := qx_ HB a0
    replace a1 := qx_ HB a1
    replace p172 := eq_true p172; replace q172 := eq_true q172
    obtain ⟨a6, a7, a8, a9⟩ := bc2_ a2
    go_wp2
    repeat (go_quiet (fail); try go_wp2)
    go_ret
    exact ⟨qr_, qB_⟩
   have c6b0 : (((rd_T43 l0 x5_1).f0) == a1_0 && (((rd_T43 l0 x5_1).f1) == a1_1)) = false := by simpa using c6
   (try (have c6b1 : decide (((rd_T43 l0 x5_1).f0) = a1_0 && (((rd_T43 l0 x5_1).f1) == a1_1)) = false := by simpa using c6))
   (try (have c6b2 : (((rd_T43 l0 x5_1).f0) == a1_0 && (((rd_T43 l0 x5_1).f1) == a1_1)) = false := by simpa using c6))
   (try (have c6b3 : ¬ (((rd_T43 l0 x5_1).f0) = a1_0 && (((rd_T43 l0 x5_1).f1) == a1_1)) := by simpa using c6))
   clear c6; have H' := am_ H; clear H
   have p172 := dp_ x5_1
   have q172 := dl_ x5_1 l0.length
   obtain ⟨ad172, e172, a0, a1⟩ := at_T43 b4.out x5_1 p172 q172
   cases e172
   replace a0 := qx_ HB a0
   replace a1 := qx_ HB a1
   replace p172 := eq_true p172; replace q172 := eq_true q172
   obtain ⟨b0, b1, b2, b3⟩ := bc2_ a2
   go_wp2
   repeat (go_quiet (fail); try go_wp2)
   go_roundg k1
   case measure => have := HK1.out; omega
   case rel => exact ⟨(wrap64 (x5_1 + 1)), qe_, H', ⟨by have := HK1.out; omega⟩, ⟨qk_ a2⟩, ⟨qB_⟩⟩
end Go.Proofs.Ytbkklafkoegdpaa.QFnExactWebAdd
