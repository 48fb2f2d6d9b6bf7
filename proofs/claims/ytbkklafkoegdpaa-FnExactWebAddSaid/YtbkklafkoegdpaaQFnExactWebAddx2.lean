import Derived.Test.YtbkklafkoegdpaaQFnExactWebAddx0
namespace Go.Proofs.Ytbkklafkoegdpaa.QFnExactWebAdd
open Go.RowKit Go.Proofs.YtbkklafkoegdpaaW.PrintWords Go.Proofs.YtbkklafkoegdpaaW.PrintLast Go.Proofs.YtbkklafkoegdpaaW.PrintMore
set_option maxHeartbeats 8000000
set_option maxRecDepth 100000
set_option linter.unusedVariables false
set_option linter.unusedSimpArgs false
def laws_szLedgeS.f (l0 : List (S120)) (a1 : Int) : Option (Int) := if (wrap64 (a1 - (l0.length : Int))) < 0 then (some (-1)) else (some (wrap64 (a1 - (l0.length : Int))))
theorem laws_szLedgeS.calls (A0 : Option Addr) (c0 : Nat) (l0 : List (S120)) (a1 : Int) (r : Int) (w : World) (hr0 : Kd.C k120 w A0 l0.length l0) (hc0 : l0.length ≤ c0) (h : laws_szLedgeS.f l0 a1 = some r) :
  Calls Try.prog 55 #[.slice A0 l0.length c0, .int .i64 a1] w fun e w' => e = .returned (.int .i64 r) ∧ Drawn0 w w' := by
 have a0 := am_ hr0
 have a2 := am_ hc0
 clear hr0 hc0
 rw [laws_szLedgeS.f] at h; have H := h; clear h
 refine ic_ H ?_ ?_ <;> clear H <;> intro c3b0 H
 ·obtain rfl := oi_ H
  go_enter Try.func55, Try.ntmps55
  go_wp2
  go_ret
  exact ⟨by first | rfl | (simp; done) | (simp [*]; done), by repeat (first | exact Drawn0.refl _ | apply Drawn0.step)⟩
 obtain rfl := oi_ H
 go_enter Try.func55, Try.ntmps55
 go_wp2
 go_ret
 exact ⟨by first | rfl | (simp; done) | (simp [*]; done), by repeat (first | exact Drawn0.refl _ | apply Drawn0.step)⟩
def laws_szWeb.f (a0_0 : Int) (l0_1 : List (S120)) (a1 : Int) : Option (Int) := (laws_szLedgeS.f l0_1 a1).bind fun t102 => (if t102 < 0 then (some (-1)) else (some t102))
theorem laws_szWeb.calls (a0_0 : Int) (A0_1 : Option Addr) (c0_1 : Nat) (l0_1 : List (S120)) (a1 : Int) (r : Int) (w : World) (hr0_1 : Kd.C k120 w A0_1 l0_1.length l0_1) (hc0_1 : l0_1.length ≤ c0_1) (h : laws_szWeb.f a0_0 l0_1 a1 = some r) :
  Calls Try.prog 13 #[.agg #[.int .i64 a0_0, .slice A0_1 l0_1.length c0_1], .int .i64 a1] w fun e w' => e = .returned (.int .i64 r) ∧ Below w.heap.size w w' := by
 have hu24 := Try.underlying24
 have HR0_1 := am_ hr0_1
 have HC0_1 := am_ hc0_1
 clear hr0_1 hc0_1
 have HB := am_ (Below.refl w.heap.size w)
 rw [laws_szWeb.f] at h; have H := h; clear h
 obtain ⟨a0, A3, H⟩ := bs_ H
 refine ic_ H ?_ ?_ <;> clear H <;> intro c4b0 H
 ·obtain rfl := oi_ H
  go_enter Try.func13, Try.ntmps13
  go_wp2_with (first | ((with_reducible refine gd_ 2 ?_); refine by_ 2 (cs := #[.int .i64 a0_0, .slice A0_1 l0_1.length c0_1]) (t := 24) ?_; intro a4 hg w5 a2 hb; have a3 := gw_ hg; replace HB := hs_ hb; clear hb hg; obtain ⟨a6, a7, a8, a9⟩ := bc2_ a2) | ((with_reducible refine gc_ 55 ?_); refine gl_ (some 8) Try.func55 #[.slice A0_1 l0_1.length c0_1, .int .i64 a1] ?_; (with_reducible refine (laws_szLedgeS.calls _ _ l0_1 a1 a0 _ ?_ ?_ A3.out).mono ?_); exact qC_ HR0_1 HB; exact HC0_1.out; rintro e w' ⟨rfl, ⟨nd, rfl⟩⟩; refine ⟨_, rfl, ?_⟩))
  go_ret
  exact ⟨qr_, qB_⟩
 obtain rfl := oi_ H
 go_enter Try.func13, Try.ntmps13
 go_wp2_with (first | ((with_reducible refine gd_ 2 ?_); refine by_ 2 (cs := #[.int .i64 a0_0, .slice A0_1 l0_1.length c0_1]) (t := 24) ?_; intro a4 hg w7 a2 hb; have a3 := gw_ hg; replace HB := hs_ hb; clear hb hg; obtain ⟨b0, b1, b2, b3⟩ := bc2_ a2) | ((with_reducible refine gc_ 55 ?_); refine gl_ (some 8) Try.func55 #[.slice A0_1 l0_1.length c0_1, .int .i64 a1] ?_; (with_reducible refine (laws_szLedgeS.calls _ _ l0_1 a1 a0 _ ?_ ?_ A3.out).mono ?_); exact qC_ HR0_1 HB; exact HC0_1.out; rintro e w' ⟨rfl, ⟨nd, rfl⟩⟩; refine ⟨_, rfl, ?_⟩))
 go_ret
 exact ⟨qr_, qB_⟩
def laws_toLedge.f (a0_0 : Int) (a0_1 : Int) (a0_2 : Int) (a0_3 : Bool) : Option (Int × Int × Int × Bool) := some (a0_0, a0_1, a0_2, a0_3)
theorem laws_toLedge.calls (a0_0 : Int) (a0_1 : Int) (a0_2 : Int) (a0_3 : Bool) (r1 : Int) (r2 : Int) (r3 : Int) (r4 : Bool) (w : World) (h : laws_toLedge.f a0_0 a0_1 a0_2 a0_3 = some (r1, r2, r3, r4)) :
  Calls Try.prog 110 #[.agg #[.int .i64 a0_0, .int .i64 a0_1, .int .i64 a0_2, .bool a0_3]] w fun e w' => e = .returned (.agg #[.int .i64 r1, .int .i64 r2, .int .i64 r3, .bool r4]) ∧ Below w.heap.size w w' := by
 have hu120 := Try.underlying120; have hu72 := Try.underlying72
 have HB := am_ (Below.refl w.heap.size w)
 have H : (some (a0_0, a0_1, a0_2, a0_3)) = some (r1, r2, r3, r4) := h
 clear h
 simp only [Option.some.injEq, Prod.mk.injEq] at H
 obtain ⟨rfl, rfl, rfl, rfl⟩ := H
 go_enter Try.func110, Try.ntmps110
 go_wp2_with (first | ((with_reducible refine gd_ 1 ?_); refine by_ 1 (cs := #[.int .i64 a0_0, .int .i64 a0_1, .int .i64 a0_2, .bool a0_3]) (t := 120) ?_; intro d7 hg w2 a0 hb; have a8 := gw_ hg; replace HB := hs_ hb; clear hb hg) | ((with_reducible refine gd_ 2 ?_); refine by_ 2 (cs := #[.int .i64 0, .int .i64 0, .int .i64 0, .bool false]) (t := 72) ?_; intro a9 hg w3 a1 hb; have b0 := gw_ hg; obtain ⟨a2, a5⟩ := qn_ a0 hg; replace a0 := qbl_ a0 hb; replace HB := hs_ hb; clear hb hg) | ((with_reducible refine gd_ 3 ?_); refine by_ 3 (cs := #[.int .i64 0, .int .i64 0, .int .i64 0, .bool false]) (t := 72) ?_; intro e0 hg w4 b1 hb; have b2 := gw_ hg; obtain ⟨a3, a6⟩ := qn_ a0 hg; obtain ⟨a7, a4⟩ := qn_ a1 hg; replace a0 := qbl_ a0 hb; replace a1 := qbl_ a1 hb; replace HB := hs_ hb; clear hb hg; obtain ⟨e2, e3⟩ := nn_ a2; obtain ⟨e4, e5⟩ := nn_ a3; obtain ⟨c1, c2, c3, c4, c5, c6, c7, c8⟩ := bc4_ a0; obtain ⟨e6, e7⟩ := nn_ a4; obtain ⟨c9, d0, d1, d2, d3, d4, d5, d6⟩ := bc4_ b1; obtain ⟨b3, b4, b5, b6, b7, b8, b9, c0⟩ := bc4_ a1))
 refine bodyPost_ret (results_cell_row rfl _ _ a9 72 #[.int .i64 a0_0, .int .i64 a0_1, .int .i64 a0_2, .bool a0_3] (0, 0) _ rfl (by (with_reducible repeat (first | refine blk_drewN ?_ _ | refine blk_drew ?_ | refine blk_alloc ?_ _)); refine blk_put (cs := #[.int .i64 a0_0, .int .i64 a0_1, .int .i64 a0_2, .bool false]) ?_ 3 _ rfl; (with_reducible repeat (first | refine blk_drewN ?_ _ | refine blk_drew ?_ | refine blk_alloc ?_ _)); refine blk_put (cs := #[.int .i64 a0_0, .int .i64 a0_1, .int .i64 0, .bool false]) ?_ 2 _ rfl; (with_reducible repeat (first | refine blk_drewN ?_ _ | refine blk_drew ?_ | refine blk_alloc ?_ _)); refine blk_put (cs := #[.int .i64 a0_0, .int .i64 0, .int .i64 0, .bool false]) ?_ 1 _ rfl; (with_reducible repeat (first | refine blk_drewN ?_ _ | refine blk_drew ?_ | refine blk_alloc ?_ _)); refine blk_put (cs := #[.int .i64 0, .int .i64 0, .int .i64 0, .bool false]) ?_ 0 _ rfl; exact qf_ a1) Try.underlying72 rfl (by kernel_rfl)) rfl ?_
 exact ⟨qr_, qB_⟩
def laws_toLedgeS.l0 : Nat → List (S120) → List (S72) → Int → Option ((List (S72)))
  | 0, _, _, _ => none
  | k + 1, x0, x3, x4 => if x4 < (x0.length : Int) then (if 0 ≤ x4 then ((laws_toLedge.f ((rd_T120 x0 x4).f0) ((rd_T120 x0 x4).f1) ((rd_T120 x0 x4).f2) ((rd_T120 x0 x4).f3)).bind fun bt110 => (if x4 < (x3.length : Int) then (laws_toLedgeS.l0 k x0 (x3.set (x4 : Int).toNat (⟨bt110.1, bt110.2.1, bt110.2.2.1, bt110.2.2.2⟩ : S72)) (wrap64 (x4 + 1))) else (none))) else (none)) else (some x3)
def laws_toLedgeS.f (k : Nat) (l0 : List (S120)) : Option ((List (S72))) := if 0 ≤ (l0.length : Int) then (if ((l0.length : Int) : Int).toNat ≤ 8796093022208 then (laws_toLedgeS.l0 k l0 (List.replicate ((l0.length : Int) : Int).toNat z72) 0) else (none)) else (none)
theorem laws_toLedgeS.mono_l : ∀ k, (∀ y0 y1 y2, LeO (laws_toLedgeS.l0 k y0 y1 y2) (laws_toLedgeS.l0 (k + 1) y0 y1 y2))
  | 0 => fun _ _ _ r h => by simp [laws_toLedgeS.l0] at h
  | k + 1 => by
    have ih0 := laws_toLedgeS.mono_l k
    · intro y0 y1 y2
      unfold laws_toLedgeS.l0
      exact lo_
theorem laws_toLedgeS.mono : ∀ a0 k, LeO (laws_toLedgeS.f k a0) (laws_toLedgeS.f (k + 1) a0) := by
  intro a0 k
  have ih0 := laws_toLedgeS.mono_l k
  unfold laws_toLedgeS.f
  exact lo_
theorem laws_toLedgeS.calls (k : Nat) (A0 : Option Addr) (c0 : Nat) (l0 : List (S120)) (r : List (S72)) (w : World) (hr0 : Kd.C k120 w A0 l0.length l0) (hc0 : l0.length ≤ c0) (h : laws_toLedgeS.f k l0 = some r) :
  Calls Try.prog 61 #[.slice A0 l0.length c0] w fun e w' => ∃ v0_ : Value, e = .returned (v0_) ∧ Kd.R k72 72 w' w.heap.size (fun _ => True) v0_ r ∧ Below w.heap.size w w' := by
 have hu120 := Try.underlying120; have hu72 := Try.underlying72
 have d0 := am_ hr0
 have d1 := am_ hc0
 clear hr0 hc0
 have HB := am_ (Below.refl w.heap.size w)
 rw [laws_toLedgeS.f] at h; have H := h; clear h
 refine jg_ H ?_; clear H; intro c2 H
 have c2b0 := eq_true c2
 have c2b1 := decide_eq_true c2
 clear c2
 refine jg_ H ?_; clear H; intro c3 H
 have c3b0 := eq_true c3
 have c3b1 := decide_eq_true c3
 clear c3
 obtain ⟨b5, hy106⟩ : ∃ y_ : List (S72), y_ = (List.replicate ((l0.length : Int) : Int).toNat z72) := ⟨_, rfl⟩
 replace H : (laws_toLedgeS.l0 k l0 b5 0) = some r := hq_ hy106 H
 have Ny106 := am_ hy106
 clear hy106; have H' := am_ H; clear H
 go_enter Try.func61, Try.ntmps61
 go_wp2_with (first | ((with_reducible refine gd_ 7 ?_); refine Kd.R_make k72 _ 72 rfl (N := 7) rfl 27 _ _ rfl (l0.length : Int) rfl rfl Try.underlying27 (.agg #[(.int .i64 0), (.int .i64 0), (.int .i64 0), (.bool false)]) 32 info72 rfl (by decide) (by omega) z72 (ok := fun _ => True) (okp := fun _ => True) (k72_mkM _ _ _ z72 ) (fun _ hk => hk) trivial (of_decide_eq_true qa_) (Nat.le_trans (Nat.mul_le_mul_right _ (of_decide_eq_true qa_ : (l0.length : Int).toNat ≤ 8796093022208)) (by omega)) (Below.refl _ _) (Nat.le_refl _) ?_; intro b9 w4 ho5 hb hg_ hnew_; clear hg_ hnew_; (first | rw [← Ny106.out] at ho5 | (simp only [Int.reduceToNat] at ho5; rw [← Ny106.out] at ho5)); have a9 := am_ (Kd.R_lower ho5 (below_size qB_)); replace HB := hs_ hb; clear hb ho5))
 go_loopg [4] k (fun kq v4 w' => ∃ (x3_1 : List (S72)) (x4_1 : Int), v4 = .int .i64 x4_1 ∧ Aside0 (laws_toLedgeS.l0 kq l0 x3_1 x4_1 = some r) ∧ Aside0 (kq ≤ k) ∧ Aside0 (Kd.R k72 72 w' w.heap.size (fun _ => True) b9 x3_1) ∧ Aside0 (Below w.heap.size w w'))
 case atStart => exact ⟨(b5), (0), qe_, H', ⟨Nat.le_refl _⟩, ⟨ra_ a9⟩, ⟨qB_⟩⟩
 case round =>
  clear H'
  (try clear c2); (try clear c2b0); (try clear c2b1); (try clear p2); (try clear c3); (try clear c3b0); (try clear c3b1)
  obtain ⟨x3_1, x4_1, rfl, HA, HK1, a0, HB⟩ := hrel
  cases gk with
  | zero => exact absurd HA.out (by simp [laws_toLedgeS.l0])
  | succ k1 =>
   have H := HA.out; clear HA
   simp only [laws_toLedgeS.l0] at H
   refine ib_ H ?_ ?_ <;> clear H <;> intro c6b0 H
   ·obtain rfl := oi_ H
    go_wp2
    go_ret
    exact ⟨_, qr_, qR_ a0, qB_⟩
   refine ig_ H ?_; clear H; intro c7b0 H
   replace H := Option.bind_eq_some_iff.mp H
   obtain ⟨⟨a1, a2, a3, a4⟩, A80, H⟩ := H
   replace H : (if x4_1 < (x3_1.length : Int) then (laws_toLedgeS.l0 k1 l0 (x3_1.set (x4_1 : Int).toNat (⟨a1, a2, a3, a4⟩ : S72)) (wrap64 (x4_1 + 1))) else (none)) = some r := H
   have A8 := am_ A80
   clear A80
   refine ig_ H ?_; clear H; intro c9b0 H
   obtain ⟨b0, hy114⟩ : ∃ y_ : List (S72), y_ = (x3_1.set (x4_1 : Int).toNat (⟨a1, a2, a3, a4⟩ : S72)) := ⟨_, rfl⟩
   replace H : (laws_toLedgeS.l0 k1 l0 b0 (wrap64 (x4_1 + 1))) = some r := hq_ hy114 H
   have Ny114 := am_ hy114
   clear hy114; have H' := am_ H; clear H
   have p109 := dp_ x4_1
   have q109 := dl_ x4_1 l0.length
   obtain ⟨ad109, e109, a5, a6, a7, a8⟩ := at_T120 d0.out x4_1 p109 q109
   cases e109
   replace a5 := qx_ HB a5
   replace a6 := qx_ HB a6
   replace a7 := qx_ HB a7
   replace a8 := qx_ HB a8
   replace p109 := eq_true p109; replace q109 := eq_true q109
   go_wp2_with (first | ((with_reducible refine gc_ 110 ?_); refine gl_ (some 20) Try.func110 #[.agg #[.int .i64 ((rd_T120 l0 x4_1).f0), .int .i64 ((rd_T120 l0 x4_1).f1), .int .i64 ((rd_T120 l0 x4_1).f2), .bool ((rd_T120 l0 x4_1).f3)]] ?_; (with_reducible refine (laws_toLedge.calls ((rd_T120 l0 x4_1).f0) ((rd_T120 l0 x4_1).f1) ((rd_T120 l0 x4_1).f2) ((rd_T120 l0 x4_1).f3) a1 a2 a3 a4 _ A8.out).mono ?_); rintro e w11 ⟨rfl, hb⟩; refine ⟨_, rfl, ?_⟩; replace a0 := kb_ a0 hb; replace HB := hs_ hb; (try clear hb); (try clear hb2); (try clear hk); (try clear hi); have p10 := dp_ x4_1; have q10 : (x4_1 : Int) < ((x3_1.length : Int) : Int) := of_decide_eq_true qa_; obtain ⟨go10, b6, b7, b8, gl10, cl10, HG10⟩ := Kd.R_form a0.out (by omega); (first | cases b7 | (injection b7 with ea_ en_ ec_; (first | subst ea_ | (injection ea_ with ea_; subst ea_)); subst ec_; clear en_)); have GB10 := am_ b8; have GG10 := am_ HG10; clear b8 gl10 HG10; obtain ⟨ce10, hcl10, hM10, hcc10, hfr10⟩ := Kd.R_elem a0.out z72 (x4_1 : Int) p10 q10; obtain rfl := k72_openM hM10; have c1 : w11.cell? ⟨go10, (x4_1 : Int).toNat * 4, none⟩ = some (.int .i64 ((rd_T72 x3_1 x4_1).f0)) := hcc10 0 _ rfl; have c4 : w11.cell? ⟨go10, (x4_1 : Int).toNat * 4 + 1, none⟩ = some (.int .i64 ((rd_T72 x3_1 x4_1).f1)) := hcc10 1 _ rfl; have c5 : w11.cell? ⟨go10, (x4_1 : Int).toNat * 4 + 2, none⟩ = some (.int .i64 ((rd_T72 x3_1 x4_1).f2)) := hcc10 2 _ rfl; have c8 : w11.cell? ⟨go10, (x4_1 : Int).toNat * 4 + 3, none⟩ = some (.bool ((rd_T72 x3_1 x4_1).f3)) := hcc10 3 _ rfl; have hf10_0 : w11.frozen? ⟨go10, (x4_1 : Int).toNat * 4, none⟩ = false := hfr10 0; have hf10_1 : w11.frozen? ⟨go10, (x4_1 : Int).toNat * 4 + 1, none⟩ = false := hfr10 1; have hf10_2 : w11.frozen? ⟨go10, (x4_1 : Int).toNat * 4 + 2, none⟩ = false := hfr10 2; have hf10_3 : w11.frozen? ⟨go10, (x4_1 : Int).toNat * 4 + 3, none⟩ = false := hfr10 3; (try clear hcl10); (try clear hcc10); (try clear hfr10); (try clear hM10); replace p10 := eq_true p10; replace q10 := eq_true q10; have HX12 := am_ (show Kd.R k72 72 w11 w.heap.size (fun _ => True) (.slice (some ⟨go10, 0, none⟩) x3_1.length b6) x3_1 from (qR_ a0)); obtain ⟨ce12, hcl12, hM12, hcc12, hfr12⟩ := Kd.R_elem HX12.out z72 (x4_1 : Int) (of_decide_eq_true qa_) (by have h_ : (x4_1 : Int) < ((x3_1.length : Int) : Int) := of_decide_eq_true qa_; first | exact h_ | (have e_ := (Kd.R_reads' a0.out).1; omega) | simpa using h_); obtain rfl := k72_openM hM12; have HP12 := Kd.R_seg HX12.out (x4_1 : Int) (of_decide_eq_true qa_) (by have h_ : (x4_1 : Int) < ((x3_1.length : Int) : Int) := of_decide_eq_true qa_; first | exact h_ | (have e_ := (Kd.R_reads' a0.out).1; omega) | simpa using h_) (seg := [.int .i64 a1, .int .i64 a2, .int .i64 a3, .bool a4]) (j := 0) hcl12 hcc12 (show 4 ≤ 4 from by decide) (x' := (⟨a1, a2, a3, a4⟩ : S72)) (k72_mkM _ _ _ (⟨a1, a2, a3, a4⟩ : S72) ) (fun _ hk => hk); have b1 := hcc12 0 _ rfl; (try simp only [show (k72).sz = 4 from rfl, Nat.mul_one, Nat.add_zero] at b1); have hf12_0 := hfr12 0; (try simp only [show (k72).sz = 4 from rfl, Nat.mul_one, Nat.add_zero] at hf12_0); have b2 := hcc12 1 _ rfl; (try simp only [show (k72).sz = 4 from rfl, Nat.mul_one, Nat.add_zero] at b2); have hf12_1 := hfr12 1; (try simp only [show (k72).sz = 4 from rfl, Nat.mul_one, Nat.add_zero] at hf12_1); have b3 := hcc12 2 _ rfl; (try simp only [show (k72).sz = 4 from rfl, Nat.mul_one, Nat.add_zero] at b3); have hf12_2 := hfr12 2; (try simp only [show (k72).sz = 4 from rfl, Nat.mul_one, Nat.add_zero] at hf12_2); have b4 := hcc12 3 _ rfl; (try simp only [show (k72).sz = 4 from rfl, Nat.mul_one, Nat.add_zero] at b4); have hf12_3 := hfr12 3; (try simp only [show (k72).sz = 4 from rfl, Nat.mul_one, Nat.add_zero] at hf12_3); (try clear hcl12); (try clear hcc12); (try clear hfr12); (try clear hM12)) | ((with_reducible refine gate_store (t := 72) (p := 21) rfl ?_); refine store_event (t := 72) (p := 21) (v := ?vo_w13) (w1 := ((((w11.setCell ⟨go10, (x4_1 : Int).toNat * 4, none⟩ (.int .i64 a1)).setCell ⟨go10, (x4_1 : Int).toNat * 4 + 1, none⟩ (.int .i64 a2)).setCell ⟨go10, (x4_1 : Int).toNat * 4 + 2, none⟩ (.int .i64 a3)).setCell ⟨go10, (x4_1 : Int).toNat * 4 + 3, none⟩ (.bool a4))) ?hg ?ho ?hn ?hr ?_; (case ho => rfl); (case hg => rfl); (case hn => rfl); (case hr => first | (go_simp; done) | (go_simp; rfl)); intro w13 hw; have hg : w11.grownBy w13 (some go10) := (by rw [hw]; exact HP12.2); have hp_ : Kd.R k72 72 w13 w.heap.size (fun _ => True) (.slice (some ⟨go10, 0, none⟩) x3_1.length b6) b0 := (by rw [hw, Ny114.out]; exact HP12.1); clear HP12; replace a0 := am_ (hp_); replace HB := am_ ((by rw [hw]; exact below_set (below_set (below_set (below_set (HB.out) GB10.out) GB10.out) GB10.out) GB10.out : Below w.heap.size w w13)); clear hg hw hp_))
   go_roundg k1
   case measure => have := HK1.out; omega
   case rel => exact ⟨(b0), (wrap64 (x4_1 + 1)), qe_, H', ⟨by have := HK1.out; omega⟩, ⟨ra_ a0⟩, ⟨qB_⟩⟩
def laws_toWeb.f (k : Nat) (a0_0 : Int) (l0_1 : List (S120)) : Option (Int × (List (S72))) := (laws_toLedgeS.f k l0_1).bind fun t118 => (some (a0_0, t118))
theorem laws_toWeb.mono : ∀ a0 a1 k, LeO (laws_toWeb.f k a0 a1) (laws_toWeb.f (k + 1) a0 a1) := by
  intro a0 a1 k
  have m0 := @laws_toLedgeS.mono
  unfold laws_toWeb.f
  exact lo_
theorem laws_toWeb.calls (k : Nat) (a0_0 : Int) (A0_1 : Option Addr) (c0_1 : Nat) (l0_1 : List (S120)) (r1 : Int) (r2 : List (S72)) (w : World) (hr0_1 : Kd.C k120 w A0_1 l0_1.length l0_1) (hc0_1 : l0_1.length ≤ c0_1) (h : laws_toWeb.f k a0_0 l0_1 = some (r1, r2)) :
  Calls Try.prog 15 #[.agg #[.int .i64 a0_0, .slice A0_1 l0_1.length c0_1]] w fun e w' => ∃ v1_ : Value, e = .returned (.agg #[.int .i64 r1, v1_]) ∧ Kd.R k72 72 w' w.heap.size (fun _ => True) v1_ r2 ∧ Below w.heap.size w w' := by
 have hu24 := Try.underlying24; have hu29 := Try.underlying29
 have HR0_1 := am_ hr0_1
 have HC0_1 := am_ hc0_1
 clear hr0_1 hc0_1
 have HB := am_ (Below.refl w.heap.size w)
 have H : ((laws_toLedgeS.f k l0_1).bind fun a3 => (some (a0_0, a3))) = some (r1, r2) := h
 clear h
 obtain ⟨a3, A2, H⟩ := bs_ H
 simp only [Option.some.injEq, Prod.mk.injEq] at H
 obtain ⟨rfl, rfl⟩ := H
 go_enter Try.func15, Try.ntmps15
 go_wp2_with (first | ((with_reducible refine gd_ 1 ?_); refine by_ 1 (cs := #[.int .i64 a0_0, .slice A0_1 l0_1.length c0_1]) (t := 24) ?_; intro d5 hg w3 a0 hb; have b5 := gw_ hg; replace HB := hs_ hb; clear hb hg) | ((with_reducible refine gd_ 2 ?_); refine by_ 2 (cs := #[.int .i64 0, .slice none 0 0]) (t := 29) ?_; intro a7 hg w4 a1 hb; have b6 := gw_ hg; obtain ⟨a4, b2⟩ := qn_ a0 hg; replace a0 := qbl_ a0 hb; replace HB := hs_ hb; clear hb hg) | ((with_reducible refine gd_ 3 ?_); refine by_ 3 (cs := #[.int .i64 0, .slice none 0 0]) (t := 29) ?_; intro a8 hg w5 a2 hb; have b7 := gw_ hg; obtain ⟨a5, b3⟩ := qn_ a0 hg; obtain ⟨b4, a6⟩ := qn_ a1 hg; replace a0 := qbl_ a0 hb; replace a1 := qbl_ a1 hb; replace HB := hs_ hb; clear hb hg; obtain ⟨d9, e0⟩ := nn_ a4; obtain ⟨e1, e2⟩ := nn_ a5; obtain ⟨d0, d1, d2, d3⟩ := bc2_ a0; obtain ⟨e3, e4⟩ := nn_ a6; obtain ⟨b8, b9, c0, c1⟩ := bc2_ a2) | ((with_reducible refine gc_ 61 ?_); refine gl_ (some 9) Try.func61 #[.slice A0_1 l0_1.length c0_1] ?_; (with_reducible refine (laws_toLedgeS.calls k _ _ l0_1 a3 _ ?_ ?_ A2.out).mono ?_); exact Kd.C_below HR0_1.out qB_; exact HC0_1.out; rintro e w11 ⟨e5, rfl, ho0, hb⟩; refine ⟨_, rfl, ?_⟩; have a9 := am_ (Kd.R_lower ho0 (below_size qB_)); replace a0 := qbl_ a0 hb; replace a1 := qbl_ a1 hb; replace a2 := am_ (blk_below (g := a8) (o := .cells #[.int .i64 a0_0, .slice none 0 0] 29 (0, 0)) (by (with_reducible repeat (first | refine blk_drewN ?_ _ | refine blk_drew ?_ | refine blk_alloc ?_ _)); refine blk_put (cs := #[.int .i64 0, .slice none 0 0]) ?_ 0 _ rfl; exact qf_ a2) hb); replace HB := hs_ hb; (try clear hb); (try clear hb2); (try clear hk); (try clear hi); (try clear ho0); obtain ⟨b0, b1, d4⟩ := Kd.R_slice a9.out; subst d4; obtain ⟨c2, c3, c4, c5⟩ := bc2_ a2; obtain ⟨c6, c7, c8, c9⟩ := bc2_ a1))
 refine bodyPost_ret (results_cell_row rfl _ _ a7 29 #[.int .i64 a0_0, .slice b0 a3.length b1] (0, 0) _ rfl (by (with_reducible repeat (first | refine blk_drewN ?_ _ | refine blk_drew ?_ | refine blk_alloc ?_ _)); refine blk_put (cs := #[.int .i64 a0_0, .slice none 0 0]) ?_ 1 _ rfl; (with_reducible repeat (first | refine blk_drewN ?_ _ | refine blk_drew ?_ | refine blk_alloc ?_ _)); refine blk_put (cs := #[.int .i64 0, .slice none 0 0]) ?_ 0 _ rfl; exact qf_ a1) Try.underlying29 rfl (by kernel_rfl)) rfl ?_
 exact ⟨_, qr_, by (with_reducible repeat (first | apply Kd.R_alloc | apply Kd.R_drewN | apply Kd.R_drew)); exact Kd.R_mono (Kd.R_far (p := ⟨a7, 1, none⟩) (Kd.R_far (p := ⟨a7, 0, none⟩) (Kd.R_far (p := ⟨a8, 1, none⟩) (Kd.R_types (Kd.R_types a9.out a2.out (by decide)) a1.out (by decide)) (fun _ hk => hk.1.2) (.slice b0 a3.length b1)) (fun _ hk => hk.2) (.int .i64 a0_0)) (fun _ hk => hk.2) (.slice b0 a3.length b1)) (fun _ hk => trivial), qB_⟩
def laws_eqLedge.f (a0_0 : Int) (a0_1 : Int) (a0_2 : Int) (a0_3 : Bool) (a1_0 : Int) (a1_1 : Int) (a1_2 : Int) (a1_3 : Bool) : Option (Bool) := if a0_0 = a1_0 then (if a0_1 = a1_1 then (if a0_2 = a1_2 then (if (a0_3 != a1_3) = true then (some false) else (some true)) else (some false)) else (some false)) else (some false)
theorem laws_eqLedge.calls (a0_0 : Int) (a0_1 : Int) (a0_2 : Int) (a0_3 : Bool) (a1_0 : Int) (a1_1 : Int) (a1_2 : Int) (a1_3 : Bool) (r : Bool) (w : World) (h : laws_eqLedge.f a0_0 a0_1 a0_2 a0_3 a1_0 a1_1 a1_2 a1_3 = some r) :
  Calls Try.prog 115 #[.agg #[.int .i64 a0_0, .int .i64 a0_1, .int .i64 a0_2, .bool a0_3], .agg #[.int .i64 a1_0, .int .i64 a1_1, .int .i64 a1_2, .bool a1_3]] w fun e w' => e = .returned (.bool r) ∧ Below w.heap.size w w' := by
 have hu72 := Try.underlying72
 have HB := am_ (Below.refl w.heap.size w)
 rw [laws_eqLedge.f] at h; have H := h; clear h
 refine jb_ H ?_ ?_ <;> clear H <;> intro c3 H
 ·have c3b0 : (a0_0 == a1_0) = false := beq_eq_false_iff_ne.mpr c3
  have c3b1 : (a0_0 != a1_0) = true := bne_iff_ne.mpr c3
  obtain rfl := oi_ H
  go_enter Try.func115, Try.ntmps115
  go_wp2_with (first | ((with_reducible refine gd_ 2 ?_); refine by_ 2 (cs := #[.int .i64 a0_0, .int .i64 a0_1, .int .i64 a0_2, .bool a0_3]) (t := 72) ?_; intro a6 hg w27 a0 hb; have a3 := gw_ hg; replace HB := hs_ hb; clear hb hg) | ((with_reducible refine gd_ 3 ?_); refine by_ 3 (cs := #[.int .i64 a1_0, .int .i64 a1_1, .int .i64 a1_2, .bool a1_3]) (t := 72) ?_; intro a8 hg w28 a4 hb; have a5 := gw_ hg; obtain ⟨a1, a2⟩ := qn_ a0 hg; replace a0 := qbl_ a0 hb; replace HB := hs_ hb; clear hb hg; obtain ⟨j4, j5⟩ := nn_ a1; obtain ⟨b0, b1, b2, b3, b4, b5, b6, b7⟩ := bc4_ a0; obtain ⟨b8, b9, c0, c1, c2, c7, c8, c9⟩ := bc4_ a4))
  go_ret
  exact ⟨qr_, qB_⟩
 have c3b0 : (a0_0 == a1_0) = true := beq_iff_eq.mpr c3
 have c3b1 : (a0_0 != a1_0) = false := bne_eq_false_iff_eq.mpr c3
 clear c3
 refine jb_ H ?_ ?_ <;> clear H <;> intro c4 H
 ·have c4b0 : (a0_1 == a1_1) = false := beq_eq_false_iff_ne.mpr c4
  have c4b1 : (a0_1 != a1_1) = true := bne_iff_ne.mpr c4
  obtain rfl := oi_ H
  go_enter Try.func115, Try.ntmps115
  go_wp2_with (first | ((with_reducible refine gd_ 2 ?_); refine by_ 2 (cs := #[.int .i64 a0_0, .int .i64 a0_1, .int .i64 a0_2, .bool a0_3]) (t := 72) ?_; intro a6 hg w22 a0 hb; have a3 := gw_ hg; replace HB := hs_ hb; clear hb hg) | ((with_reducible refine gd_ 3 ?_); refine by_ 3 (cs := #[.int .i64 a1_0, .int .i64 a1_1, .int .i64 a1_2, .bool a1_3]) (t := 72) ?_; intro a8 hg w23 a4 hb; have a5 := gw_ hg; obtain ⟨a1, a2⟩ := qn_ a0 hg; replace a0 := qbl_ a0 hb; replace HB := hs_ hb; clear hb hg; obtain ⟨j6, j7⟩ := nn_ a1; obtain ⟨d0, d1, d2, d3, d4, d5, d6, d7⟩ := bc4_ a0; obtain ⟨d8, d9, e0, e1, e2, e3, e4, e5⟩ := bc4_ a4))
  go_ret
  exact ⟨qr_, qB_⟩
 have c4b0 : (a0_1 == a1_1) = true := beq_iff_eq.mpr c4
 have c4b1 : (a0_1 != a1_1) = false := bne_eq_false_iff_eq.mpr c4
 clear c4
 refine jb_ H ?_ ?_ <;> clear H <;> intro c5 H
 ·have c5b0 : (a0_2 == a1_2) = false := beq_eq_false_iff_ne.mpr c5
  have c5b1 : (a0_2 != a1_2) = true := bne_iff_ne.mpr c5
  obtain rfl := oi_ H
  go_enter Try.func115, Try.ntmps115
  go_wp2_with (first | ((with_reducible refine gd_ 2 ?_); refine by_ 2 (cs := #[.int .i64 a0_0, .int .i64 a0_1, .int .i64 a0_2, .bool a0_3]) (t := 72) ?_; intro a6 hg w17 a0 hb; have a3 := gw_ hg; replace HB := hs_ hb; clear hb hg) | ((with_reducible refine gd_ 3 ?_); refine by_ 3 (cs := #[.int .i64 a1_0, .int .i64 a1_1, .int .i64 a1_2, .bool a1_3]) (t := 72) ?_; intro a8 hg w18 a4 hb; have a5 := gw_ hg; obtain ⟨a1, a2⟩ := qn_ a0 hg; replace a0 := qbl_ a0 hb; replace HB := hs_ hb; clear hb hg; obtain ⟨j8, j9⟩ := nn_ a1; obtain ⟨e6, e7, e8, e9, f0, f1, f2, f3⟩ := bc4_ a0; obtain ⟨f4, f5, f6, f7, f8, f9, g0, g1⟩ := bc4_ a4))
  go_ret
  exact ⟨qr_, qB_⟩
 have c5b0 : (a0_2 == a1_2) = true := beq_iff_eq.mpr c5
 have c5b1 : (a0_2 != a1_2) = false := bne_eq_false_iff_eq.mpr c5
 clear c5
 refine jc_ H ?_ ?_ <;> clear H <;> intro c6 H
 ·have c6b0 : (a0_3 != a1_3) = true := c6
  (try (have c6b1 : decide (a0_3 = a1_3) = false := by simpa using c6))
  (try (have c6b2 : (a0_3 == a1_3) = false := by simpa using c6))
  (try (have c6b3 : ¬ (a0_3 = a1_3) := by simpa using c6))
  clear c6
  obtain rfl := oi_ H
  go_enter Try.func115, Try.ntmps115
  go_wp2_with (first | ((with_reducible refine gd_ 2 ?_); refine by_ 2 (cs := #[.int .i64 a0_0, .int .i64 a0_1, .int .i64 a0_2, .bool a0_3]) (t := 72) ?_; intro a6 hg w7 a0 hb; have a3 := gw_ hg; replace HB := hs_ hb; clear hb hg) | ((with_reducible refine gd_ 3 ?_); refine by_ 3 (cs := #[.int .i64 a1_0, .int .i64 a1_1, .int .i64 a1_2, .bool a1_3]) (t := 72) ?_; intro a8 hg w8 a4 hb; have a5 := gw_ hg; obtain ⟨a1, a2⟩ := qn_ a0 hg; replace a0 := qbl_ a0 hb; replace HB := hs_ hb; clear hb hg; obtain ⟨k2, k3⟩ := nn_ a1; obtain ⟨g2, g3, g4, g5, g6, g7, g8, g9⟩ := bc4_ a0; obtain ⟨h0, h1, h2, h3, h4, h5, h6, h7⟩ := bc4_ a4))
  go_ret
  exact ⟨qr_, qB_⟩
 have c6b0 : (a0_3 != a1_3) = false := by simpa using c6
 (try (have c6b1 : decide (a0_3 = a1_3) = true := by simpa using c6))
 (try (have c6b2 : (a0_3 == a1_3) = true := by simpa using c6))
 clear c6
 obtain rfl := oi_ H
 go_enter Try.func115, Try.ntmps115
 go_wp2_with (first | ((with_reducible refine gd_ 2 ?_); refine by_ 2 (cs := #[.int .i64 a0_0, .int .i64 a0_1, .int .i64 a0_2, .bool a0_3]) (t := 72) ?_; intro a6 hg w12 a0 hb; have a3 := gw_ hg; replace HB := hs_ hb; clear hb hg) | ((with_reducible refine gd_ 3 ?_); refine by_ 3 (cs := #[.int .i64 a1_0, .int .i64 a1_1, .int .i64 a1_2, .bool a1_3]) (t := 72) ?_; intro a8 hg w13 a4 hb; have a5 := gw_ hg; obtain ⟨a1, a2⟩ := qn_ a0 hg; replace a0 := qbl_ a0 hb; replace HB := hs_ hb; clear hb hg; obtain ⟨k0, k1⟩ := nn_ a1; obtain ⟨h8, h9, i0, i1, i2, i3, i4, i5⟩ := bc4_ a0; obtain ⟨i6, i7, i8, i9, j0, j1, j2, j3⟩ := bc4_ a4))
 go_ret
 exact ⟨qr_, qB_⟩
def laws_eqLedgeS.l0 : Nat → List (S72) → List (S72) → Int → Option (Bool)
  | 0, _, _, _ => none
  | k + 1, x0, x1, x5 => if x5 < (x0.length : Int) then (if 0 ≤ x5 then (if x5 < (x1.length : Int) then ((laws_eqLedge.f ((rd_T72 x0 x5).f0) ((rd_T72 x0 x5).f1) ((rd_T72 x0 x5).f2) ((rd_T72 x0 x5).f3) ((rd_T72 x1 x5).f0) ((rd_T72 x1 x5).f1) ((rd_T72 x1 x5).f2) ((rd_T72 x1 x5).f3)).bind fun t125 => (if t125 = true then (laws_eqLedgeS.l0 k x0 x1 (wrap64 (x5 + 1))) else (some false))) else (none)) else (none)) else (some true)
def laws_eqLedgeS.f (k : Nat) (l0 : List (S72)) (l1 : List (S72)) : Option (Bool) := if (l0.length : Int) = (l1.length : Int) then (laws_eqLedgeS.l0 k l0 l1 0) else (some false)
theorem laws_eqLedgeS.mono_l : ∀ k, (∀ y0 y1 y2, LeO (laws_eqLedgeS.l0 k y0 y1 y2) (laws_eqLedgeS.l0 (k + 1) y0 y1 y2))
  | 0 => fun _ _ _ r h => by simp [laws_eqLedgeS.l0] at h
  | k + 1 => by
    have ih0 := laws_eqLedgeS.mono_l k
    · intro y0 y1 y2
      unfold laws_eqLedgeS.l0
      exact lo_
theorem laws_eqLedgeS.mono : ∀ a0 a1 k, LeO (laws_eqLedgeS.f k a0 a1) (laws_eqLedgeS.f (k + 1) a0 a1) := by
  intro a0 a1 k
  have ih0 := laws_eqLedgeS.mono_l k
  unfold laws_eqLedgeS.f
  exact lo_
def laws_eqLedgeS.T6 : Bool × List (List Nat × List Nat) := (true, [([], []), ([], []), ([0, 1], [0, 1]), ([2], [2]), ([], []), ([], []), ([4, 5], [4, 5]), ([6], [6]), ([3, 7], [3, 7]), ([8], [8])])
def laws_eqLedgeS.B6 : List Nat := [0, 0, 3, 7, 0, 0, 48, 112, 255, 511]
theorem laws_eqLedgeS.tab6 : rtab .any (opsOf Try.f69 6) = laws_eqLedgeS.T6 := by kernel_rfl
theorem laws_eqLedgeS.bits6 : waitsOk laws_eqLedgeS.T6.2 laws_eqLedgeS.B6 = true := by kernel_rfl
theorem laws_eqLedgeS.calls (k : Nat) (A0 : Option Addr) (c0 : Nat) (l0 : List (S72)) (A1 : Option Addr) (c1 : Nat) (l1 : List (S72)) (r : Bool) (w : World) (hr0 : Kd.C k72 w A0 l0.length l0) (hc0 : l0.length ≤ c0) (hr1 : Kd.C k72 w A1 l1.length l1) (hc1 : l1.length ≤ c1) (h : laws_eqLedgeS.f k l0 l1 = some r) :
  Calls Try.prog 69 #[.slice A0 l0.length c0, .slice A1 l1.length c1] w fun e w' => e = .returned (.bool r) ∧ Below w.heap.size w w' := by
 have hu72 := Try.underlying72
 have b7 := am_ hr0
 have b9 := am_ hc0
 clear hr0 hc0
 have b8 := am_ hr1
 have c2 := am_ hc1
 clear hr1 hc1
 have HB := am_ (Below.refl w.heap.size w)
 rw [laws_eqLedgeS.f] at h; have H := h; clear h
 refine jb_ H ?_ ?_ <;> clear H <;> intro c3 H
 ·have c3b0 : ((l0.length : Int) == (l1.length : Int)) = false := beq_eq_false_iff_ne.mpr c3
  have c3b1 : ((l0.length : Int) != (l1.length : Int)) = true := bne_iff_ne.mpr c3
  have c3b2 : (l0.length == l1.length) = false := by first | simpa using c3 | (simp at c3 ⊢; omega)
  obtain rfl := oi_ H
  go_enter Try.func69, Try.ntmps69
  go_wp2
  go_ret
  exact ⟨qr_, qB_⟩
 have c3b0 : ((l0.length : Int) == (l1.length : Int)) = true := beq_iff_eq.mpr c3
 have c3b1 : ((l0.length : Int) != (l1.length : Int)) = false := bne_eq_false_iff_eq.mpr c3
 have c3b2 : (l0.length == l1.length) = true := by first | simpa using c3 | (simp at c3 ⊢; omega)
 clear c3; have H' := am_ H; clear H
 go_enter Try.func69, Try.ntmps69
 go_wp2
 go_loopg [5] k (fun kq v5 w' => ∃ (x5_1 : Int), v5 = .int .i64 x5_1 ∧ Aside0 (laws_eqLedgeS.l0 kq l0 l1 x5_1 = some r) ∧ Aside0 (kq ≤ k) ∧ Aside0 (Below w.heap.size w w'))
 case atStart => exact ⟨(0), qe_, H', ⟨Nat.le_refl _⟩, ⟨qB_⟩⟩
 case round =>
  clear H'
  (try clear c1); (try clear p2); (try clear c3); (try clear c3b0); (try clear c3b1); (try clear c3b2)
  obtain ⟨x5_1, rfl, HA, HK1, HB⟩ := hrel
  cases gk with
  | zero => exact absurd HA.out (by simp [laws_eqLedgeS.l0])
  | succ k1 =>
   have H := HA.out; clear HA
   simp only [laws_eqLedgeS.l0] at H
   refine ib_ H ?_ ?_ <;> clear H <;> intro c4b0 H
   ·obtain rfl := oi_ H
    go_wp2
    go_ret
    exact ⟨qr_, qB_⟩
   refine ig_ H ?_; clear H; intro c5b0 H
   refine ig_ H ?_; clear H; intro c6b0 H
   obtain ⟨b6, A7, H⟩ := bs_ H
   refine ie_ H ?_ ?_ <;> clear H <;> rintro rfl H
   ·have H' := am_ H; clear H
    try go_wp2
    replace HB := am_ (below_drew1 HB.out)
    have p123 := dp_ x5_1
    have q123 := dl_ x5_1 l0.length
    obtain ⟨ad123, e123, a0, a1, a2, a3⟩ := at_T72 b7.out x5_1 p123 q123
    have a8 := a3; have a9 := a2; have b0 := a1; have b1 := a0; cases e123
    replace a0 := qx_ HB a0
    replace a1 := qx_ HB a1
    replace a2 := qx_ HB a2
    replace a3 := qx_ HB a3
    replace p123 := eq_true p123; replace q123 := eq_true q123
    have p124 := dp_ x5_1
    have q124 := dl_ x5_1 l1.length
    obtain ⟨ad124, e124, a4, a5, a6, a7⟩ := at_T72 b8.out x5_1 p124 q124
    have b2 := a7; have b3 := a6; have b4 := a5; have b5 := a4; cases e124
    replace a4 := qx_ HB a4
    replace a5 := qx_ HB a5
    replace a6 := qx_ HB a6
    replace a7 := qx_ HB a7
    replace p124 := eq_true p124; replace q124 := eq_true q124
    refine start_ (n := 10) (S := fun w' => w'.cell? (ad123.add ((x5_1).toNat * 4)) = some (.int .i64 ((rd_T72 l0 x5_1).f0)) ∧ w'.cell? ⟨(ad123.add ((x5_1).toNat * 4)).block, (ad123.add ((x5_1).toNat * 4)).off + 1, none⟩ = some (.int .i64 ((rd_T72 l0 x5_1).f1)) ∧ w'.cell? ⟨(ad123.add ((x5_1).toNat * 4)).block, (ad123.add ((x5_1).toNat * 4)).off + 2, none⟩ = some (.int .i64 ((rd_T72 l0 x5_1).f2)) ∧ w'.cell? ⟨(ad123.add ((x5_1).toNat * 4)).block, (ad123.add ((x5_1).toNat * 4)).off + 3, none⟩ = some (.bool ((rd_T72 l0 x5_1).f3)) ∧ w'.cell? (ad124.add ((x5_1).toNat * 4)) = some (.int .i64 ((rd_T72 l1 x5_1).f0)) ∧ w'.cell? ⟨(ad124.add ((x5_1).toNat * 4)).block, (ad124.add ((x5_1).toNat * 4)).off + 1, none⟩ = some (.int .i64 ((rd_T72 l1 x5_1).f1)) ∧ w'.cell? ⟨(ad124.add ((x5_1).toNat * 4)).block, (ad124.add ((x5_1).toNat * 4)).off + 2, none⟩ = some (.int .i64 ((rd_T72 l1 x5_1).f2)) ∧ w'.cell? ⟨(ad124.add ((x5_1).toNat * 4)).block, (ad124.add ((x5_1).toNat * 4)).off + 3, none⟩ = some (.bool ((rd_T72 l1 x5_1).f3))) (ds := []) (bm 10 0) (by kernel_rfl) rfl (by kernel_rfl) ⟨((qx_ HB b1).trans rfl), ((qx_ HB b0).trans rfl), ((qx_ HB a9).trans rfl), ((qx_ HB a8).trans rfl), ((qx_ HB b5).trans rfl), ((qx_ HB b4).trans rfl), ((qx_ HB b3).trans rfl), ((qx_ HB b2).trans rfl)⟩ (fun hHeld => ?_); refine with_tabW laws_eqLedgeS.tab6 laws_eqLedgeS.bits6 (fun HT_ HW_ => ?_)
    generalize wr.drew = w9 at HB a0 a1 a2 a3 a4 a5 a6 a7 hHeld ⊢
    refine pz_ 0 17 10 1 ?_; refine pz_ 1 18 10 3 ?_; refine pz_ 2 19 10 7 ?_; refine pz_ 4 21 10 23 ?_; refine pz_ 5 22 10 55 ?_; refine pz_ 6 23 10 119 ?_; refine tz8_ 3 20 10 127 ?_; refine tz8_ 7 24 10 255 ?_
    refine o1_ 8 (some 25) 10 511 (fun K hK => ?_)
    refine gs_ Try.func115 #[.agg #[.int .i64 ((rd_T72 l0 x5_1).f0), .int .i64 ((rd_T72 l0 x5_1).f1), .int .i64 ((rd_T72 l0 x5_1).f2), .bool ((rd_T72 l0 x5_1).f3)], .agg #[.int .i64 ((rd_T72 l1 x5_1).f0), .int .i64 ((rd_T72 l1 x5_1).f1), .int .i64 ((rd_T72 l1 x5_1).f2), .bool ((rd_T72 l1 x5_1).f3)]] ?_
    with_reducible refine (laws_eqLedge.calls ((rd_T72 l0 x5_1).f0) ((rd_T72 l0 x5_1).f1) ((rd_T72 l0 x5_1).f2) ((rd_T72 l0 x5_1).f3) ((rd_T72 l1 x5_1).f0) ((rd_T72 l1 x5_1).f1) ((rd_T72 l1 x5_1).f2) ((rd_T72 l1 x5_1).f3) true _ A7.out).mono ?_
    rintro e w10 ⟨rfl, hb⟩
    refine ⟨_, rfl, ?_⟩
    replace HB := hs_ hb; (try clear hb); (try clear hb2); (try clear hk); (try clear hi)
    refine hK.out _ _ ⟨((qx_ HB b1).trans rfl), ((qx_ HB b0).trans rfl), ((qx_ HB a9).trans rfl), ((qx_ HB a8).trans rfl), ((qx_ HB b5).trans rfl), ((qx_ HB b4).trans rfl), ((qx_ HB b3).trans rfl), ((qx_ HB b2).trans rfl)⟩ (fun hHeld => ?_)
    clear hK K
    refine nm_ 25 ?_
    refine pz_ 9 26 10 1023 ?_
    refine done_ (done_of HT_.out (by kernel_rfl)) ?_
    try go_wp2
    go_roundg k1
    case measure => have := HK1.out; omega
    case rel => exact ⟨(wrap64 (x5_1 + 1)), qe_, H', ⟨by have := HK1.out; omega⟩, ⟨qB_⟩⟩
   obtain rfl := oi_ H
   try go_wp2
   replace HB := am_ (below_drew1 HB.out)
   have p123 := dp_ x5_1
   have q123 := dl_ x5_1 l0.length
   obtain ⟨ad123, e123, a0, a1, a2, a3⟩ := at_T72 b7.out x5_1 p123 q123
   have a8 := a3; have a9 := a2; have b0 := a1; have b1 := a0; cases e123
   replace a0 := qx_ HB a0
   replace a1 := qx_ HB a1
   replace a2 := qx_ HB a2
   replace a3 := qx_ HB a3
   replace p123 := eq_true p123; replace q123 := eq_true q123
   have p124 := dp_ x5_1
   have q124 := dl_ x5_1 l1.length
   obtain ⟨ad124, e124, a4, a5, a6, a7⟩ := at_T72 b8.out x5_1 p124 q124
   have b2 := a7; have b3 := a6; have b4 := a5; have b5 := a4; cases e124
   replace a4 := qx_ HB a4
   replace a5 := qx_ HB a5
   replace a6 := qx_ HB a6
   replace a7 := qx_ HB a7
   replace p124 := eq_true p124; replace q124 := eq_true q124
   refine start_ (n := 10) (S := fun w' => w'.cell? (ad123.add ((x5_1).toNat * 4)) = some (.int .i64 ((rd_T72 l0 x5_1).f0)) ∧ w'.cell? ⟨(ad123.add ((x5_1).toNat * 4)).block, (ad123.add ((x5_1).toNat * 4)).off + 1, none⟩ = some (.int .i64 ((rd_T72 l0 x5_1).f1)) ∧ w'.cell? ⟨(ad123.add ((x5_1).toNat * 4)).block, (ad123.add ((x5_1).toNat * 4)).off + 2, none⟩ = some (.int .i64 ((rd_T72 l0 x5_1).f2)) ∧ w'.cell? ⟨(ad123.add ((x5_1).toNat * 4)).block, (ad123.add ((x5_1).toNat * 4)).off + 3, none⟩ = some (.bool ((rd_T72 l0 x5_1).f3)) ∧ w'.cell? (ad124.add ((x5_1).toNat * 4)) = some (.int .i64 ((rd_T72 l1 x5_1).f0)) ∧ w'.cell? ⟨(ad124.add ((x5_1).toNat * 4)).block, (ad124.add ((x5_1).toNat * 4)).off + 1, none⟩ = some (.int .i64 ((rd_T72 l1 x5_1).f1)) ∧ w'.cell? ⟨(ad124.add ((x5_1).toNat * 4)).block, (ad124.add ((x5_1).toNat * 4)).off + 2, none⟩ = some (.int .i64 ((rd_T72 l1 x5_1).f2)) ∧ w'.cell? ⟨(ad124.add ((x5_1).toNat * 4)).block, (ad124.add ((x5_1).toNat * 4)).off + 3, none⟩ = some (.bool ((rd_T72 l1 x5_1).f3))) (ds := []) (bm 10 0) (by kernel_rfl) rfl (by kernel_rfl) ⟨((qx_ HB b1).trans rfl), ((qx_ HB b0).trans rfl), ((qx_ HB a9).trans rfl), ((qx_ HB a8).trans rfl), ((qx_ HB b5).trans rfl), ((qx_ HB b4).trans rfl), ((qx_ HB b3).trans rfl), ((qx_ HB b2).trans rfl)⟩ (fun hHeld => ?_); refine with_tabW laws_eqLedgeS.tab6 laws_eqLedgeS.bits6 (fun HT_ HW_ => ?_)
   generalize wr.drew = w11 at HB a0 a1 a2 a3 a4 a5 a6 a7 hHeld ⊢
   refine pz_ 0 17 10 1 ?_; refine pz_ 1 18 10 3 ?_; refine pz_ 2 19 10 7 ?_; refine pz_ 4 21 10 23 ?_; refine pz_ 5 22 10 55 ?_; refine pz_ 6 23 10 119 ?_; refine tz8_ 3 20 10 127 ?_; refine tz8_ 7 24 10 255 ?_
   refine o1_ 8 (some 25) 10 511 (fun K hK => ?_)
   refine gs_ Try.func115 #[.agg #[.int .i64 ((rd_T72 l0 x5_1).f0), .int .i64 ((rd_T72 l0 x5_1).f1), .int .i64 ((rd_T72 l0 x5_1).f2), .bool ((rd_T72 l0 x5_1).f3)], .agg #[.int .i64 ((rd_T72 l1 x5_1).f0), .int .i64 ((rd_T72 l1 x5_1).f1), .int .i64 ((rd_T72 l1 x5_1).f2), .bool ((rd_T72 l1 x5_1).f3)]] ?_
   with_reducible refine (laws_eqLedge.calls ((rd_T72 l0 x5_1).f0) ((rd_T72 l0 x5_1).f1) ((rd_T72 l0 x5_1).f2) ((rd_T72 l0 x5_1).f3) ((rd_T72 l1 x5_1).f0) ((rd_T72 l1 x5_1).f1) ((rd_T72 l1 x5_1).f2) ((rd_T72 l1 x5_1).f3) false _ A7.out).mono ?_
   rintro e w12 ⟨rfl, hb⟩
   refine ⟨_, rfl, ?_⟩
   replace HB := hs_ hb; (try clear hb); (try clear hb2); (try clear hk); (try clear hi)
   refine hK.out _ _ ⟨((qx_ HB b1).trans rfl), ((qx_ HB b0).trans rfl), ((qx_ HB a9).trans rfl), ((qx_ HB a8).trans rfl), ((qx_ HB b5).trans rfl), ((qx_ HB b4).trans rfl), ((qx_ HB b3).trans rfl), ((qx_ HB b2).trans rfl)⟩ (fun hHeld => ?_)
   clear hK K
   refine nm_ 25 ?_
   refine pz_ 9 26 10 1023 ?_
   refine done_ (done_of HT_.out (by kernel_rfl)) ?_
   try go_wp2
   go_ret
   exact ⟨qr_, qB_⟩
def laws_eqWeb.f (k : Nat) (a0_0 : Int) (l0_1 : List (S72)) (a1_0 : Int) (l1_1 : List (S72)) : Option (Bool) := if a0_0 = a1_0 then ((laws_eqLedgeS.f k l0_1 l1_1).bind fun t128 => (if t128 = true then (some true) else (some false))) else (some false)
theorem laws_eqWeb.mono : ∀ a0 a1 a2 a3 k, LeO (laws_eqWeb.f k a0 a1 a2 a3) (laws_eqWeb.f (k + 1) a0 a1 a2 a3) := by
  intro a0 a1 a2 a3 k
  have m0 := @laws_eqLedgeS.mono
  unfold laws_eqWeb.f
  exact lo_
theorem laws_eqWeb.calls (k : Nat) (a0_0 : Int) (A0_1 : Option Addr) (c0_1 : Nat) (l0_1 : List (S72)) (a1_0 : Int) (A1_1 : Option Addr) (c1_1 : Nat) (l1_1 : List (S72)) (r : Bool) (w : World) (hr0_1 : Kd.C k72 w A0_1 l0_1.length l0_1) (hc0_1 : l0_1.length ≤ c0_1) (hr1_1 : Kd.C k72 w A1_1 l1_1.length l1_1) (hc1_1 : l1_1.length ≤ c1_1) (h : laws_eqWeb.f k a0_0 l0_1 a1_0 l1_1 = some r) :
  Calls Try.prog 17 #[.agg #[.int .i64 a0_0, .slice A0_1 l0_1.length c0_1], .agg #[.int .i64 a1_0, .slice A1_1 l1_1.length c1_1]] w fun e w' => e = .returned (.bool r) ∧ Below w.heap.size w w' := by
 have hu29 := Try.underlying29
 have HR0_1 := am_ hr0_1
 have HC0_1 := am_ hc0_1
 clear hr0_1 hc0_1
 have HR1_1 := am_ hr1_1
 have HC1_1 := am_ hc1_1
 clear hr1_1 hc1_1
 have HB := am_ (Below.refl w.heap.size w)
 rw [laws_eqWeb.f] at h; have H := h; clear h
 refine jb_ H ?_ ?_ <;> clear H <;> intro c3 H
 ·have c3b0 : (a0_0 == a1_0) = false := beq_eq_false_iff_ne.mpr c3
  have c3b1 : (a0_0 != a1_0) = true := bne_iff_ne.mpr c3
  obtain rfl := oi_ H
  go_enter Try.func17, Try.ntmps17
  go_wp2_with (first | ((with_reducible refine gd_ 2 ?_); refine by_ 2 (cs := #[.int .i64 a0_0, .slice A0_1 l0_1.length c0_1]) (t := 29) ?_; intro a6 hg w18 a0 hb; have a4 := gw_ hg; replace HB := hs_ hb; clear hb hg) | ((with_reducible refine gd_ 3 ?_); refine by_ 3 (cs := #[.int .i64 a1_0, .slice A1_1 l1_1.length c1_1]) (t := 29) ?_; intro a8 hg w19 a2 hb; have a5 := gw_ hg; obtain ⟨a1, a3⟩ := qn_ a0 hg; replace a0 := qbl_ a0 hb; replace HB := hs_ hb; clear hb hg; obtain ⟨d7, d8⟩ := nn_ a1; obtain ⟨b1, b2, b3, b4⟩ := bc2_ a0; obtain ⟨b5, b6, b7, b8⟩ := bc2_ a2))
  go_ret
  exact ⟨qr_, qB_⟩
 have c3b0 : (a0_0 == a1_0) = true := beq_iff_eq.mpr c3
 have c3b1 : (a0_0 != a1_0) = false := bne_eq_false_iff_eq.mpr c3
 clear c3
 obtain ⟨b0, A4, H⟩ := bs_ H
 refine ie_ H ?_ ?_ <;> clear H <;> rintro rfl H
 ·obtain rfl := oi_ H
  go_enter Try.func17, Try.ntmps17
  go_wp2_with (first | ((with_reducible refine gd_ 2 ?_); refine by_ 2 (cs := #[.int .i64 a0_0, .slice A0_1 l0_1.length c0_1]) (t := 29) ?_; intro a6 hg w6 a0 hb; have a4 := gw_ hg; replace HB := hs_ hb; clear hb hg) | ((with_reducible refine gd_ 3 ?_); refine by_ 3 (cs := #[.int .i64 a1_0, .slice A1_1 l1_1.length c1_1]) (t := 29) ?_; intro a8 hg w7 a2 hb; have a5 := gw_ hg; obtain ⟨a1, a3⟩ := qn_ a0 hg; replace a0 := qbl_ a0 hb; replace HB := hs_ hb; clear hb hg; obtain ⟨e1, e2⟩ := nn_ a1; obtain ⟨d3, d4, d5, d6⟩ := bc2_ a0; obtain ⟨b9, c0, c1, c2⟩ := bc2_ a2) | ((with_reducible refine gc_ 69 ?_); refine gl_ (some 14) Try.func69 #[.slice A0_1 l0_1.length c0_1, .slice A1_1 l1_1.length c1_1] ?_; (with_reducible refine (laws_eqLedgeS.calls k _ _ l0_1 _ _ l1_1 true _ ?_ ?_ ?_ ?_ A4.out).mono ?_); exact qC_ HR0_1 HB; exact HC0_1.out; exact qC_ HR1_1 HB; exact HC1_1.out; rintro e w11 ⟨rfl, hb⟩; refine ⟨_, rfl, ?_⟩; replace a0 := qbl_ a0 hb; replace a2 := qbl_ a2 hb; replace HB := hs_ hb; (try clear hb); (try clear hb2); (try clear hk); (try clear hi)))
  go_ret
  exact ⟨qr_, qB_⟩
 obtain rfl := oi_ H
 go_enter Try.func17, Try.ntmps17
 go_wp2_with (first | ((with_reducible refine gd_ 2 ?_); refine by_ 2 (cs := #[.int .i64 a0_0, .slice A0_1 l0_1.length c0_1]) (t := 29) ?_; intro a6 hg w12 a0 hb; have a4 := gw_ hg; replace HB := hs_ hb; clear hb hg) | ((with_reducible refine gd_ 3 ?_); refine by_ 3 (cs := #[.int .i64 a1_0, .slice A1_1 l1_1.length c1_1]) (t := 29) ?_; intro a8 hg w13 a2 hb; have a5 := gw_ hg; obtain ⟨a1, a3⟩ := qn_ a0 hg; replace a0 := qbl_ a0 hb; replace HB := hs_ hb; clear hb hg; obtain ⟨d9, e0⟩ := nn_ a1; obtain ⟨c4, c6, c7, c8⟩ := bc2_ a0; obtain ⟨c9, d0, d1, d2⟩ := bc2_ a2) | ((with_reducible refine gc_ 69 ?_); refine gl_ (some 14) Try.func69 #[.slice A0_1 l0_1.length c0_1, .slice A1_1 l1_1.length c1_1] ?_; (with_reducible refine (laws_eqLedgeS.calls k _ _ l0_1 _ _ l1_1 false _ ?_ ?_ ?_ ?_ A4.out).mono ?_); exact qC_ HR0_1 HB; exact HC0_1.out; exact qC_ HR1_1 HB; exact HC1_1.out; rintro e w17 ⟨rfl, hb⟩; refine ⟨_, rfl, ?_⟩; replace a0 := qbl_ a0 hb; replace a2 := qbl_ a2 hb; replace HB := hs_ hb; (try clear hb); (try clear hb2); (try clear hk); (try clear hi)))
 go_ret
 exact ⟨qr_, qB_⟩
def laws_toEdge.f (a0_0 : Int) (a0_1 : Int) : Option (Int × Int) := some (a0_0, a0_1)
theorem laws_toEdge.calls (a0_0 : Int) (a0_1 : Int) (r1 : Int) (r2 : Int) (w : World) (h : laws_toEdge.f a0_0 a0_1 = some (r1, r2)) :
  Calls Try.prog 21 #[.agg #[.int .i64 a0_0, .int .i64 a0_1]] w fun e w' => e = .returned (.agg #[.int .i64 r1, .int .i64 r2]) ∧ Below w.heap.size w w' := by
 have hu37 := Try.underlying37; have hu43 := Try.underlying43
 have HB := am_ (Below.refl w.heap.size w)
 have H : (some (a0_0, a0_1)) = some (r1, r2) := h
 clear h
 simp only [Option.some.injEq, Prod.mk.injEq] at H
 obtain ⟨rfl, rfl⟩ := H
 go_enter Try.func21, Try.ntmps21
 go_wp2_with (first | ((with_reducible refine gd_ 1 ?_); refine by_ 1 (cs := #[.int .i64 a0_0, .int .i64 a0_1]) (t := 37) ?_; intro c5 hg w2 a0 hb; have a8 := gw_ hg; replace HB := hs_ hb; clear hb hg) | ((with_reducible refine gd_ 2 ?_); refine by_ 2 (cs := #[.int .i64 0, .int .i64 0]) (t := 43) ?_; intro a9 hg w3 a1 hb; have b0 := gw_ hg; obtain ⟨a2, a5⟩ := qn_ a0 hg; replace a0 := qbl_ a0 hb; replace HB := hs_ hb; clear hb hg) | ((with_reducible refine gd_ 3 ?_); refine by_ 3 (cs := #[.int .i64 0, .int .i64 0]) (t := 43) ?_; intro c8 hg w4 b1 hb; have b2 := gw_ hg; obtain ⟨a3, a6⟩ := qn_ a0 hg; obtain ⟨a7, a4⟩ := qn_ a1 hg; replace a0 := qbl_ a0 hb; replace a1 := qbl_ a1 hb; replace HB := hs_ hb; clear hb hg; obtain ⟨d0, d1⟩ := nn_ a2; obtain ⟨d2, d3⟩ := nn_ a3; obtain ⟨b7, b8, b9, c0⟩ := bc2_ a0; obtain ⟨d4, d5⟩ := nn_ a4; obtain ⟨c1, c2, c3, c4⟩ := bc2_ b1; obtain ⟨b3, b4, b5, b6⟩ := bc2_ a1))
 refine bodyPost_ret (results_cell_row rfl _ _ a9 43 #[.int .i64 a0_0, .int .i64 a0_1] (0, 0) _ rfl (by (with_reducible repeat (first | refine blk_drewN ?_ _ | refine blk_drew ?_ | refine blk_alloc ?_ _)); refine blk_put (cs := #[.int .i64 a0_0, .int .i64 0]) ?_ 1 _ rfl; (with_reducible repeat (first | refine blk_drewN ?_ _ | refine blk_drew ?_ | refine blk_alloc ?_ _)); refine blk_put (cs := #[.int .i64 0, .int .i64 0]) ?_ 0 _ rfl; exact qf_ a1) Try.underlying43 rfl (by kernel_rfl)) rfl ?_
 exact ⟨qr_, qB_⟩
end Go.Proofs.Ytbkklafkoegdpaa.QFnExactWebAdd
