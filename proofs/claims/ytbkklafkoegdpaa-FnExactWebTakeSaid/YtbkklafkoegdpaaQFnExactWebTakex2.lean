import Derived.Test.YtbkklafkoegdpaaQFnExactWebTakex0
namespace Go.Proofs.Ytbkklafkoegdpaa.QFnExactWebTake
open Go.RowKit Go.Proofs.YtbkklafkoegdpaaW.PrintWords Go.Proofs.YtbkklafkoegdpaaW.PrintLast Go.Proofs.YtbkklafkoegdpaaW.PrintMore
set_option linter.unusedVariables false
set_option linter.unusedSimpArgs false
set_option maxHeartbeats 8000000
set_option maxRecDepth 100000
theorem eqA43 (d : Nat) (w : World) (x0 y0 : Int) (x1 y1 : Int) :
    (Op.equalIn (d + 2) 43 (.agg #[.int .i64 x0, .int .i64 x1]) (.agg #[.int .i64 y0, .int .i64 y1])).run Try.prog w = .ok (x0 == y0 && (x1 == y1)) w := by
  refine eqA_of Try.underlying43 (by kernel_rfl) ?_
  refine eqf_cons (by rfl) (by go_simp; rfl) (by go_simp; rfl) (by go_simp) ?_
  exact eqf_last (by rfl) (by go_simp; rfl) (by go_simp; rfl) (by go_simp)
def laws_szLedgeS.f (l0 : List (S120)) (a1 : Int) : Option (Int) := if (wrap64 (a1 - (l0.length : Int))) < 0 then (some (-1)) else (some (wrap64 (a1 - (l0.length : Int))))
theorem laws_szLedgeS.calls (a : Option Addr) (c : Nat) (l0 : List (S120)) (d : Int) (r : Int) (w : World) (hr0 : Kd.C k120 w a l0.length l0) (hc0 : l0.length ≤ c) (h : laws_szLedgeS.f l0 d = some r) :
  Calls Try.prog 55 #[.slice a l0.length c, .int .i64 d] w fun e w' => e = .returned (.int .i64 r) ∧ Drawn0 w w' := by
 have i := am_ hr0
 have j := am_ hc0
 clear hr0 hc0
 rw [laws_szLedgeS.f] at h; have H := h; clear h
 refine ic_ H ?_ ?_ <;> clear H <;> intro g H
 ·obtain rfl := oi_ H
  go_enter Try.func55, Try.ntmps55
  go_wp2
  go_ret
  exact ⟨by first | rfl | (simp; done) | (simp [*]; done), by repeat (first | exact Drawn0.refl _ | apply Drawn0.step)⟩
 obtain rfl := oi_ H
 go_enter Try.func55, Try.ntmps55
 go_wp2
 go_ret
 exact ⟨by first | rfl | (simp; done) | (simp [*]; done), by repeat (first | exact Drawn0.refl _ | apply Drawn0.step)⟩
def laws_szWeb.f (a0_0 : Int) (l0_1 : List (S120)) (a1 : Int) : Option (Int) := (laws_szLedgeS.f l0_1 a1).bind fun t102 => (if t102 < 0 then (some (-1)) else (some t102))
theorem laws_szWeb.calls (g : Int) (c : Option Addr) (d : Nat) (a : List (S120)) (l : Int) (r : Int) (w : World) (hr0_1 : Kd.C k120 w c a.length a) (hc0_1 : a.length ≤ d) (h : laws_szWeb.f g a l = some r) :
  Calls Try.prog 13 #[.agg #[.int .i64 g, .slice c a.length d], .int .i64 l] w fun e w' => e = .returned (.int .i64 r) ∧ Below w.heap.size w w' := by
 have hu24 := Try.underlying24
 have i := am_ hr0_1
 have j := am_ hc0_1
 clear hr0_1 hc0_1
 have HB := am_ (Below.refl w.heap.size w)
 rw [laws_szWeb.f] at h; have H := h; clear h
 obtain ⟨n, o, H⟩ := bs_ H
 refine ic_ H ?_ ?_ <;> clear H <;> intro p H
 ·obtain rfl := oi_ H
  go_enter Try.func13, Try.ntmps13
  go_wp2_with (first | ((with_reducible refine gd_ 2 ?_); refine by_ 2 (cs := #[.int .i64 g, .slice c a.length d]) (t := 24) ?_; intro q hg u m hb; have s := gw_ hg; replace HB := hs_ hb; clear hb hg; obtain ⟨v, x, y, z⟩ := bc2_ m) | ((with_reducible refine gc_ 55 ?_); refine gl_ (some 8) Try.func55 #[.slice c a.length d, .int .i64 l] ?_; (with_reducible refine (laws_szLedgeS.calls _ _ a l n _ ?_ ?_ o.out).mono ?_); exact qC_ i HB; exact j.out; rintro e w' ⟨rfl, ⟨nd, rfl⟩⟩; refine ⟨_, rfl, ?_⟩))
  go_ret
  exact ⟨qr_, qB_⟩
 obtain rfl := oi_ H
 go_enter Try.func13, Try.ntmps13
 go_wp2_with (first | ((with_reducible refine gd_ 2 ?_); refine by_ 2 (cs := #[.int .i64 g, .slice c a.length d]) (t := 24) ?_; intro q hg A m hb; have s := gw_ hg; replace HB := hs_ hb; clear hb hg; obtain ⟨B, D, E, F⟩ := bc2_ m) | ((with_reducible refine gc_ 55 ?_); refine gl_ (some 8) Try.func55 #[.slice c a.length d, .int .i64 l] ?_; (with_reducible refine (laws_szLedgeS.calls _ _ a l n _ ?_ ?_ o.out).mono ?_); exact qC_ i HB; exact j.out; rintro e w' ⟨rfl, ⟨nd, rfl⟩⟩; refine ⟨_, rfl, ?_⟩))
 go_ret
 exact ⟨qr_, qB_⟩
def laws_toLedge.f (a0_0 : Int) (a0_1 : Int) (a0_2 : Int) (a0_3 : Bool) : Option (Int × Int × Int × Bool) := some (a0_0, a0_1, a0_2, a0_3)
theorem laws_toLedge.calls (a : Int) (c : Int) (d : Int) (g : Bool) (l : Int) (m : Int) (n : Int) (o : Bool) (w : World) (h : laws_toLedge.f a c d g = some (l, m, n, o)) :
  Calls Try.prog 110 #[.agg #[.int .i64 a, .int .i64 c, .int .i64 d, .bool g]] w fun e w' => e = .returned (.agg #[.int .i64 l, .int .i64 m, .int .i64 n, .bool o]) ∧ Below w.heap.size w w' := by
 have hu120 := Try.underlying120; have hu72 := Try.underlying72
 have HB := am_ (Below.refl w.heap.size w)
 have H : (some (a, c, d, g)) = some (l, m, n, o) := h
 clear h
 simp only [Option.some.injEq, Prod.mk.injEq] at H
 obtain ⟨rfl, rfl, rfl, rfl⟩ := H
 go_enter Try.func110, Try.ntmps110
 go_wp2_with (first | ((with_reducible refine gd_ 1 ?_); refine by_ 1 (cs := #[.int .i64 a, .int .i64 c, .int .i64 d, .bool g]) (t := 120) ?_; intro x hg y i hb; have z := gw_ hg; replace HB := hs_ hb; clear hb hg) | ((with_reducible refine gd_ 2 ?_); refine by_ 2 (cs := #[.int .i64 0, .int .i64 0, .int .i64 0, .bool false]) (t := 72) ?_; intro p hg A j hb; have B := gw_ hg; obtain ⟨q, C⟩ := qn_ i hg; replace i := qbl_ i hb; replace HB := hs_ hb; clear hb hg) | ((with_reducible refine gd_ 3 ?_); refine by_ 3 (cs := #[.int .i64 0, .int .i64 0, .int .i64 0, .bool false]) (t := 72) ?_; intro D hg E s hb; have F := gw_ hg; obtain ⟨u, G⟩ := qn_ i hg; obtain ⟨I, v⟩ := qn_ j hg; replace i := qbl_ i hb; replace j := qbl_ j hb; replace HB := hs_ hb; clear hb hg; obtain ⟨J, L⟩ := nn_ q; obtain ⟨M, N⟩ := nn_ u; obtain ⟨O, R, T, U, V, X, Y, Z⟩ := bc4_ i; obtain ⟨a0, a1⟩ := nn_ v; obtain ⟨a2, a3, a4, a5, a6, a7, a8, a9⟩ := bc4_ s; obtain ⟨b0, b1, b2, b3, b4, b5, b6, b7⟩ := bc4_ j))
 refine bodyPost_ret (results_cell_row rfl _ _ p 72 #[.int .i64 a, .int .i64 c, .int .i64 d, .bool g] (0, 0) _ rfl (qp_ j) Try.underlying72 rfl (by kernel_rfl)) rfl ?_
 exact ⟨qr_, qB_⟩
def laws_toLedgeS.l0 : Nat → List (S120) → List (S72) → Int → Option ((List (S72)))
  | 0, _, _, _ => none
  | k + 1, x0, x3, x4 => if x4 < (x0.length : Int) then (if 0 ≤ x4 then ((laws_toLedge.f ((rd_T120 x0 x4).f0) ((rd_T120 x0 x4).f1) ((rd_T120 x0 x4).f2) ((rd_T120 x0 x4).f3)).bind fun bt110 => (if x4 < (x3.length : Int) then (laws_toLedgeS.l0 k x0 (x3.set (x4 : Int).toNat (⟨bt110.1, bt110.2.1, bt110.2.2.1, bt110.2.2.2⟩ : S72)) (wrap64 (x4 + 1))) else (none))) else (none)) else (some x3)
def laws_toLedgeS.f (k : Nat) (l0 : List (S120)) : Option ((List (S72))) := if 0 ≤ (l0.length : Int) then (if ((l0.length : Int) : Int).toNat ≤ 8796093022208 then (laws_toLedgeS.l0 k l0 (List.replicate ((l0.length : Int) : Int).toNat z72) 0) else (none)) else (none)
theorem laws_toLedgeS.mono_l : ∀ k, (∀ y0 y1 y2, LeO (laws_toLedgeS.l0 k y0 y1 y2) (laws_toLedgeS.l0 (k + 1) y0 y1 y2))
  | 0 => fun _ _ _ r h => by simp [laws_toLedgeS.l0] at h
  | k + 1 => by
    have ih0 := laws_toLedgeS.mono_l k
    · intro y0 y1 y2
      unfold laws_toLedgeS.l0
      exact lo_
theorem laws_toLedgeS.mono : ∀ a0 k, LeO (laws_toLedgeS.f k a0) (laws_toLedgeS.f (k + 1) a0) := by
  intro a0 k
  have ih0 := laws_toLedgeS.mono_l k
  unfold laws_toLedgeS.f
  exact lo_
theorem laws_toLedgeS.calls (k : Nat) (b6 : Option Addr) (b7 : Nat) (l0 : List (S120)) (r : List (S72)) (w : World) (hr0 : Kd.C k120 w b6 l0.length l0) (hc0 : l0.length ≤ b7) (h : laws_toLedgeS.f k l0 = some r) :
  Calls Try.prog 61 #[.slice b6 l0.length b7] w fun e w' => ∃ a0 : Value, e = .returned (a0) ∧ Kd.R k72 72 w' w.heap.size (fun _ => True) a0 r ∧ Below w.heap.size w w' := by
 have hu120 := Try.underlying120; have hu72 := Try.underlying72
 have d3 := am_ hr0
 have e3 := am_ hc0
 clear hr0 hc0
 have HB := am_ (Below.refl w.heap.size w)
 rw [laws_toLedgeS.f] at h; have H := h; clear h
 refine jg_ H ?_; clear H; intro a9 H
 have a1 := eq_true a9
 have a2 := decide_eq_true a9
 clear a9
 refine jg_ H ?_; clear H; intro b0 H
 have a3 := eq_true b0
 have a4 := decide_eq_true b0
 clear b0
 generalize q : (List.replicate ((l0.length : Int) : Int).toNat z72) = d4 at H; replace H := bh_ H; have s := am_ q.symm; clear q; have H' := am_ H; clear H
 go_enter Try.func61, Try.ntmps61
 go_wp2_with (first | ((with_reducible refine gd_ 7 ?_); refine Kd.R_make k72 _ 72 rfl (N := 7) rfl 27 _ _ rfl (l0.length : Int) rfl rfl Try.underlying27 (.agg #[(.int .i64 0), (.int .i64 0), (.int .i64 0), (.bool false)]) 32 info72 rfl (by decide) (by omega) z72 (ok := fun _ => True) (okp := fun _ => True) (k72_mkM _ _ _ z72 ) (fun _ hk => hk) trivial (of_decide_eq_true qa_) (Nat.le_trans (Nat.mul_le_mul_right _ (of_decide_eq_true qa_ : (l0.length : Int).toNat ≤ 8796093022208)) (by omega)) (Below.refl _ _) (Nat.le_refl _) ?_; intro d5 e4 ho5 hb hg_ hnew_; clear hg_ hnew_; (first | rw [← s.out] at ho5 | (simp only [Int.reduceToNat] at ho5; rw [← s.out] at ho5)); have d6 := am_ (Kd.R_lower ho5 (below_size qB_)); replace HB := hs_ hb; clear hb ho5))
 go_loopg [4] k (fun kq v4 w' => ∃ (d : List (S72)) (a : Int), v4 = .int .i64 a ∧ Aside0 (laws_toLedgeS.l0 kq l0 d a = some r) ∧ Aside0 (kq ≤ k) ∧ Aside0 (Kd.R k72 72 w' w.heap.size (fun _ => True) d5 d) ∧ Aside0 (Below w.heap.size w w'))
 case atStart => exact ⟨(d4), (0), qe_, H', ⟨Nat.le_refl _⟩, ⟨ra_ d6⟩, ⟨qB_⟩⟩
 case round =>
  clear H'
  (try clear a9); clear a1 a2 a3 a4
  obtain ⟨d, a, rfl, HA, HK1, z, HB⟩ := hrel
  cases gk with
  | zero => exact absurd HA.out (by simp [laws_toLedgeS.l0])
  | succ d7 =>
   have H := HA.out; clear HA
   simp only [laws_toLedgeS.l0] at H
   refine ib_ H ?_ ?_ <;> clear H <;> intro b8 H
   ·obtain rfl := oi_ H
    go_wp2
    go_ret
    exact ⟨_, qr_, qR_ z, qB_⟩
   refine ig_ H ?_; clear H; intro b9 H
   obtain ⟨⟨V, X, Y, Z⟩, d8, H⟩ := bs_ H; dsimp only at H
   refine ig_ H ?_; clear H; intro c0 H
   generalize u : (d.set (a : Int).toNat (⟨V, X, Y, Z⟩ : S72)) = c1 at H; replace H := bh_ H; have L := am_ u.symm; clear u; have H' := am_ H; clear H
   have a5 := dt_ a
   have a6 := du_ a l0.length
   obtain ⟨b5, a7, c2, c3, c4, c5⟩ := at_T120 d3.out a (ot_ a5) (ot_ a6)
   cases a7
   replace c2 := qx_ HB c2
   replace c3 := qx_ HB c3
   replace c4 := qx_ HB c4
   replace c5 := qx_ HB c5
   go_wp2_with (first | ((with_reducible refine gc_ 110 ?_); refine gl_ (some 20) Try.func110 #[.agg #[.int .i64 ((rd_T120 l0 a).f0), .int .i64 ((rd_T120 l0 a).f1), .int .i64 ((rd_T120 l0 a).f2), .bool ((rd_T120 l0 a).f3)]] ?_; (with_reducible refine (laws_toLedge.calls ((rd_T120 l0 a).f0) ((rd_T120 l0 a).f1) ((rd_T120 l0 a).f2) ((rd_T120 l0 a).f3) V X Y Z _ d8.out).mono ?_); rintro e i ⟨rfl, hb⟩; refine ⟨_, rfl, ?_⟩; replace z := kb_ z hb; replace HB := hs_ hb; clear hb; have M := dp_ a; have O : (a : Int) < ((d.length : Int) : Int) := of_decide_eq_true qa_; obtain ⟨c, c6, c7, c8, a8, c9, F⟩ := Kd.R_form z.out (by omega); (first | cases c7 | (injection c7 with ea_ en_ ec_; (first | subst ea_ | (injection ea_ with ea_; subst ea_)); subst ec_; clear en_)); have o := am_ c8; have d0 := am_ F; clear c8 a8 F; obtain ⟨d1, T, G, l, m⟩ := Kd.R_elem z.out z72 (a : Int) M O; obtain rfl := k72_openM G; have e6 : i.cell? ⟨c, (a : Int).toNat * 4, none⟩ = some (.int .i64 ((rd_T72 d a).f0)) := l 0 _ rfl; have e7 : i.cell? ⟨c, (a : Int).toNat * 4 + 1, none⟩ = some (.int .i64 ((rd_T72 d a).f1)) := l 1 _ rfl; have e8 : i.cell? ⟨c, (a : Int).toNat * 4 + 2, none⟩ = some (.int .i64 ((rd_T72 d a).f2)) := l 2 _ rfl; have e9 : i.cell? ⟨c, (a : Int).toNat * 4 + 3, none⟩ = some (.bool ((rd_T72 d a).f3)) := l 3 _ rfl; have b1 : i.frozen? ⟨c, (a : Int).toNat * 4, none⟩ = false := m 0; have b2 : i.frozen? ⟨c, (a : Int).toNat * 4 + 1, none⟩ = false := m 1; have b3 : i.frozen? ⟨c, (a : Int).toNat * 4 + 2, none⟩ = false := m 2; have b4 : i.frozen? ⟨c, (a : Int).toNat * 4 + 3, none⟩ = false := m 3; clear T l m G; replace M := eq_true M; replace O := eq_true O; have I := am_ (show Kd.R k72 72 i w.heap.size (fun _ => True) (.slice (some ⟨c, 0, none⟩) d.length c6) d from (qR_ z)); obtain ⟨d2, x, J, g, n⟩ := Kd.R_elem I.out z72 (a : Int) (of_decide_eq_true qa_) (by have h_ : (a : Int) < ((d.length : Int) : Int) := of_decide_eq_true qa_; first | exact h_ | (have e_ := (Kd.R_reads' z.out).1; omega) | simpa using h_); obtain rfl := k72_openM J; have y := Kd.R_seg I.out (a : Int) (of_decide_eq_true qa_) (by have h_ : (a : Int) < ((d.length : Int) : Int) := of_decide_eq_true qa_; first | exact h_ | (have e_ := (Kd.R_reads' z.out).1; omega) | simpa using h_) (seg := [.int .i64 V, .int .i64 X, .int .i64 Y, .bool Z]) (j := 0) x g (show 4 ≤ 4 from by decide) (x' := (⟨V, X, Y, Z⟩ : S72)) (k72_mkM _ _ _ (⟨V, X, Y, Z⟩ : S72) ) (fun _ hk => hk); have d9 := g 0 _ rfl; simp only [show (k72).sz = 4 from rfl, Nat.mul_one, Nat.add_zero] at d9; have A := n 0; simp only [show (k72).sz = 4 from rfl, Nat.mul_one, Nat.add_zero] at A; have e0 := g 1 _ rfl; simp only [show (k72).sz = 4 from rfl, Nat.mul_one, Nat.add_zero] at e0; have B := n 1; simp only [show (k72).sz = 4 from rfl, Nat.mul_one, Nat.add_zero] at B; have e1 := g 2 _ rfl; simp only [show (k72).sz = 4 from rfl, Nat.mul_one, Nat.add_zero] at e1; have D := n 2; simp only [show (k72).sz = 4 from rfl, Nat.mul_one, Nat.add_zero] at D; have e2 := g 3 _ rfl; simp only [show (k72).sz = 4 from rfl, Nat.mul_one, Nat.add_zero] at e2; have E := n 3; simp only [show (k72).sz = 4 from rfl, Nat.mul_one, Nat.add_zero] at E; clear x g n J) | ((with_reducible refine gate_store (t := 72) (p := 21) rfl ?_); refine store_event (t := 72) (p := 21) (v := ?vo_w13) (w1 := ((((i.setCell ⟨c, (a : Int).toNat * 4, none⟩ (.int .i64 V)).setCell ⟨c, (a : Int).toNat * 4 + 1, none⟩ (.int .i64 X)).setCell ⟨c, (a : Int).toNat * 4 + 2, none⟩ (.int .i64 Y)).setCell ⟨c, (a : Int).toNat * 4 + 3, none⟩ (.bool Z))) ?hg ?ho ?hn ?hr ?_; (case ho => rfl); (case hg => rfl); (case hn => rfl); (case hr => first | (go_simp; done) | (go_simp; rfl)); intro U hw; have hg : i.grownBy U (some c) := (by rw [hw]; exact y.2); have hp_ : Kd.R k72 72 U w.heap.size (fun _ => True) (.slice (some ⟨c, 0, none⟩) d.length c6) c1 := (by rw [hw, L.out]; exact y.1); clear y; replace z := am_ (hp_); replace HB := am_ ((by rw [hw]; exact below_set (below_set (below_set (below_set (HB.out) o.out) o.out) o.out) o.out : Below w.heap.size w U)); clear hg hw hp_))
   go_roundg d7
   case measure => have := HK1.out; omega
   case rel => exact ⟨(c1), (wrap64 (a + 1)), qe_, H', ⟨by have := HK1.out; omega⟩, ⟨ra_ z⟩, ⟨qB_⟩⟩
def laws_toWeb.f (k : Nat) (a0_0 : Int) (l0_1 : List (S120)) : Option (Int × (List (S72))) := (laws_toLedgeS.f k l0_1).bind fun t118 => (some (a0_0, t118))
theorem laws_toWeb.mono : ∀ a0 a1 k, LeO (laws_toWeb.f k a0 a1) (laws_toWeb.f (k + 1) a0 a1) := by
  intro a0 a1 k
  have m0 := @laws_toLedgeS.mono
  unfold laws_toWeb.f
  exact lo_
theorem laws_toWeb.calls (k : Nat) (c : Int) (d : Option Addr) (i : Nat) (a : List (S120)) (v : Int) (x : List (S72)) (w : World) (hr0_1 : Kd.C k120 w d a.length a) (hc0_1 : a.length ≤ i) (h : laws_toWeb.f k c a = some (v, x)) :
  Calls Try.prog 15 #[.agg #[.int .i64 c, .slice d a.length i]] w fun e w' => ∃ s : Value, e = .returned (.agg #[.int .i64 v, s]) ∧ Kd.R k72 72 w' w.heap.size (fun _ => True) s x ∧ Below w.heap.size w w' := by
 have hu24 := Try.underlying24; have hu29 := Try.underlying29
 have m := am_ hr0_1
 have n := am_ hc0_1
 clear hr0_1 hc0_1
 have HB := am_ (Below.refl w.heap.size w)
 have H : ((laws_toLedgeS.f k a).bind fun q => (some (c, q))) = some (v, x) := h
 clear h
 obtain ⟨q, E, H⟩ := bs_ H
 simp only [Option.some.injEq, Prod.mk.injEq] at H
 obtain ⟨rfl, rfl⟩ := H
 go_enter Try.func15, Try.ntmps15
 go_wp2_with (first | ((with_reducible refine gd_ 1 ?_); refine by_ 1 (cs := #[.int .i64 c, .slice d a.length i]) (t := 24) ?_; intro M hg N j hb; have O := gw_ hg; replace HB := hs_ hb; clear hb hg) | ((with_reducible refine gd_ 2 ?_); refine by_ 2 (cs := #[.int .i64 0, .slice none 0 0]) (t := 29) ?_; intro y hg T l hb; have U := gw_ hg; obtain ⟨F, V⟩ := qn_ j hg; replace j := qbl_ j hb; replace HB := hs_ hb; clear hb hg) | ((with_reducible refine gd_ 3 ?_); refine by_ 3 (cs := #[.int .i64 0, .slice none 0 0]) (t := 29) ?_; intro B hg X u hb; have Y := gw_ hg; obtain ⟨G, Z⟩ := qn_ j hg; obtain ⟨a0, I⟩ := qn_ l hg; replace j := qbl_ j hb; replace l := qbl_ l hb; replace HB := hs_ hb; clear hb hg; obtain ⟨a1, a2⟩ := nn_ F; obtain ⟨a3, a4⟩ := nn_ G; obtain ⟨a5, a6, a7, a8⟩ := bc2_ j; obtain ⟨a9, b0⟩ := nn_ I; obtain ⟨b1, b2, b3, b4⟩ := bc2_ u) | ((with_reducible refine gc_ 61 ?_); refine gl_ (some 9) Try.func61 #[.slice d a.length i] ?_; (with_reducible refine (laws_toLedgeS.calls k _ _ a q _ ?_ ?_ E.out).mono ?_); exact Kd.C_below m.out qB_; exact n.out; rintro e J ⟨b5, rfl, ho0, hb⟩; refine ⟨_, rfl, ?_⟩; have D := am_ (Kd.R_lower ho0 (below_size qB_)); replace j := qbl_ j hb; replace l := qbl_ l hb; replace u := am_ (blk_below (g := B) (o := .cells #[.int .i64 c, .slice none 0 0] 29 (0, 0)) (qp_ u) hb); replace HB := hs_ hb; clear hb ho0; obtain ⟨z, A, L⟩ := Kd.R_slice D.out; subst L; obtain ⟨b6, b7, b8, b9⟩ := bc2_ u; obtain ⟨c0, c1, c2, c3⟩ := bc2_ l))
 refine bodyPost_ret (results_cell_row rfl _ _ y 29 #[.int .i64 c, .slice z q.length A] (0, 0) _ rfl (qp_ l) Try.underlying29 rfl (by kernel_rfl)) rfl ?_
 exact ⟨_, qr_, by (with_reducible repeat (first | apply Kd.R_alloc | apply Kd.R_drewN | apply Kd.R_drew)); exact Kd.R_mono (Kd.R_far (p := ⟨y, 1, none⟩) (Kd.R_far (p := ⟨y, 0, none⟩) (Kd.R_far (p := ⟨B, 1, none⟩) (Kd.R_types (Kd.R_types D.out u.out (by decide)) l.out (by decide)) (fun _ hk => hk.1.2) (.slice z q.length A)) (fun _ hk => hk.2) (.int .i64 c)) (fun _ hk => hk.2) (.slice z q.length A)) (fun _ hk => trivial), qB_⟩
def laws_eqLedge.f (a0_0 : Int) (a0_1 : Int) (a0_2 : Int) (a0_3 : Bool) (a1_0 : Int) (a1_1 : Int) (a1_2 : Int) (a1_3 : Bool) : Option (Bool) := if a0_0 = a1_0 then (if a0_1 = a1_1 then (if a0_2 = a1_2 then (if (a0_3 != a1_3) = true then (some false) else (some true)) else (some false)) else (some false)) else (some false)
theorem laws_eqLedge.calls (d : Int) (g : Int) (i : Int) (a : Bool) (j : Int) (l : Int) (m : Int) (c : Bool) (r : Bool) (w : World) (h : laws_eqLedge.f d g i a j l m c = some r) :
  Calls Try.prog 115 #[.agg #[.int .i64 d, .int .i64 g, .int .i64 i, .bool a], .agg #[.int .i64 j, .int .i64 l, .int .i64 m, .bool c]] w fun e w' => e = .returned (.bool r) ∧ Below w.heap.size w w' := by
 have hu72 := Try.underlying72
 have HB := am_ (Below.refl w.heap.size w)
 rw [laws_eqLedge.f] at h; have H := h; clear h
 refine jb_ H ?_ ?_ <;> clear H <;> intro s H
 ·have u : (d == j) = false := beq_eq_false_iff_ne.mpr s
  have v : (d != j) = true := bne_iff_ne.mpr s
  obtain rfl := oi_ H
  go_enter Try.func115, Try.ntmps115
  go_wp2_with (first | ((with_reducible refine gd_ 2 ?_); refine by_ 2 (cs := #[.int .i64 d, .int .i64 g, .int .i64 i, .bool a]) (t := 72) ?_; intro G hg O n hb; have I := gw_ hg; replace HB := hs_ hb; clear hb hg) | ((with_reducible refine gd_ 3 ?_); refine by_ 3 (cs := #[.int .i64 j, .int .i64 l, .int .i64 m, .bool c]) (t := 72) ?_; intro J hg R o hb; have L := gw_ hg; obtain ⟨p, M⟩ := qn_ n hg; replace n := qbl_ n hb; replace HB := hs_ hb; clear hb hg; obtain ⟨j4, a0⟩ := nn_ p; obtain ⟨a1, a2, a3, a4, a5, a6, a7, a8⟩ := bc4_ n; obtain ⟨a9, b0, b1, b2, b3, b4, b5, b6⟩ := bc4_ o))
  go_ret
  exact ⟨qr_, qB_⟩
 have u : (d == j) = true := beq_iff_eq.mpr s
 have v : (d != j) = false := bne_eq_false_iff_eq.mpr s
 clear s
 refine jb_ H ?_ ?_ <;> clear H <;> intro x H
 ·have y : (g == l) = false := beq_eq_false_iff_ne.mpr x
  have z : (g != l) = true := bne_iff_ne.mpr x
  obtain rfl := oi_ H
  go_enter Try.func115, Try.ntmps115
  go_wp2_with (first | ((with_reducible refine gd_ 2 ?_); refine by_ 2 (cs := #[.int .i64 d, .int .i64 g, .int .i64 i, .bool a]) (t := 72) ?_; intro G hg T n hb; have I := gw_ hg; replace HB := hs_ hb; clear hb hg) | ((with_reducible refine gd_ 3 ?_); refine by_ 3 (cs := #[.int .i64 j, .int .i64 l, .int .i64 m, .bool c]) (t := 72) ?_; intro J hg U o hb; have L := gw_ hg; obtain ⟨p, M⟩ := qn_ n hg; replace n := qbl_ n hb; replace HB := hs_ hb; clear hb hg; obtain ⟨b7, b8⟩ := nn_ p; obtain ⟨b9, c0, c1, c2, c3, c4, c5, c6⟩ := bc4_ n; obtain ⟨c7, c8, c9, d0, d1, d2, d3, d4⟩ := bc4_ o))
  go_ret
  exact ⟨qr_, qB_⟩
 have y : (g == l) = true := beq_iff_eq.mpr x
 have z : (g != l) = false := bne_eq_false_iff_eq.mpr x
 clear x
 refine jb_ H ?_ ?_ <;> clear H <;> intro A H
 ·have B : (i == m) = false := beq_eq_false_iff_ne.mpr A
  have C : (i != m) = true := bne_iff_ne.mpr A
  obtain rfl := oi_ H
  go_enter Try.func115, Try.ntmps115
  go_wp2_with (first | ((with_reducible refine gd_ 2 ?_); refine by_ 2 (cs := #[.int .i64 d, .int .i64 g, .int .i64 i, .bool a]) (t := 72) ?_; intro G hg V n hb; have I := gw_ hg; replace HB := hs_ hb; clear hb hg) | ((with_reducible refine gd_ 3 ?_); refine by_ 3 (cs := #[.int .i64 j, .int .i64 l, .int .i64 m, .bool c]) (t := 72) ?_; intro J hg X o hb; have L := gw_ hg; obtain ⟨p, M⟩ := qn_ n hg; replace n := qbl_ n hb; replace HB := hs_ hb; clear hb hg; obtain ⟨d5, d6⟩ := nn_ p; obtain ⟨d7, d8, d9, e0, e1, e2, e3, e4⟩ := bc4_ n; obtain ⟨e5, e6, e7, e8, e9, f0, f1, f2⟩ := bc4_ o))
  go_ret
  exact ⟨qr_, qB_⟩
 have B : (i == m) = true := beq_iff_eq.mpr A
 have C : (i != m) = false := bne_eq_false_iff_eq.mpr A
 clear A
 refine jc_ H ?_ ?_ <;> clear H <;> intro q H
 ·have D : (a != c) = true := q
  (have E : decide (a = c) = false := by simpa using q)
  (have F : (a == c) = false := by simpa using q)
  (have N : ¬ (a = c) := by simpa using q)
  clear q
  obtain rfl := oi_ H
  go_enter Try.func115, Try.ntmps115
  go_wp2_with (first | ((with_reducible refine gd_ 2 ?_); refine by_ 2 (cs := #[.int .i64 d, .int .i64 g, .int .i64 i, .bool a]) (t := 72) ?_; intro G hg f3 n hb; have I := gw_ hg; replace HB := hs_ hb; clear hb hg) | ((with_reducible refine gd_ 3 ?_); refine by_ 3 (cs := #[.int .i64 j, .int .i64 l, .int .i64 m, .bool c]) (t := 72) ?_; intro J hg f4 o hb; have L := gw_ hg; obtain ⟨p, M⟩ := qn_ n hg; replace n := qbl_ n hb; replace HB := hs_ hb; clear hb hg; obtain ⟨f5, f6⟩ := nn_ p; obtain ⟨f7, f8, f9, g0, g1, g2, g3, g4⟩ := bc4_ n; obtain ⟨g5, g6, g7, g8, g9, h0, h1, h2⟩ := bc4_ o))
  go_ret
  exact ⟨qr_, qB_⟩
 have D : (a != c) = false := by simpa using q
 (have E : decide (a = c) = true := by simpa using q)
 (have F : (a == c) = true := by simpa using q)
 clear q
 obtain rfl := oi_ H
 go_enter Try.func115, Try.ntmps115
 go_wp2_with (first | ((with_reducible refine gd_ 2 ?_); refine by_ 2 (cs := #[.int .i64 d, .int .i64 g, .int .i64 i, .bool a]) (t := 72) ?_; intro G hg Y n hb; have I := gw_ hg; replace HB := hs_ hb; clear hb hg) | ((with_reducible refine gd_ 3 ?_); refine by_ 3 (cs := #[.int .i64 j, .int .i64 l, .int .i64 m, .bool c]) (t := 72) ?_; intro J hg Z o hb; have L := gw_ hg; obtain ⟨p, M⟩ := qn_ n hg; replace n := qbl_ n hb; replace HB := hs_ hb; clear hb hg; obtain ⟨h3, h4⟩ := nn_ p; obtain ⟨h5, h6, h7, h8, h9, i0, i1, i2⟩ := bc4_ n; obtain ⟨i3, i4, i5, i6, j0, j1, j2, j3⟩ := bc4_ o))
 go_ret
 exact ⟨qr_, qB_⟩
def laws_eqLedgeS.l0 : Nat → List (S72) → List (S72) → Int → Option (Bool)
  | 0, _, _, _ => none
  | k + 1, x0, x1, x5 => if x5 < (x0.length : Int) then (if 0 ≤ x5 then (if x5 < (x1.length : Int) then ((laws_eqLedge.f ((rd_T72 x0 x5).f0) ((rd_T72 x0 x5).f1) ((rd_T72 x0 x5).f2) ((rd_T72 x0 x5).f3) ((rd_T72 x1 x5).f0) ((rd_T72 x1 x5).f1) ((rd_T72 x1 x5).f2) ((rd_T72 x1 x5).f3)).bind fun t125 => (if t125 = true then (laws_eqLedgeS.l0 k x0 x1 (wrap64 (x5 + 1))) else (some false))) else (none)) else (none)) else (some true)
def laws_eqLedgeS.f (k : Nat) (l0 : List (S72)) (l1 : List (S72)) : Option (Bool) := if (l0.length : Int) = (l1.length : Int) then (laws_eqLedgeS.l0 k l0 l1 0) else (some false)
theorem laws_eqLedgeS.mono_l : ∀ k, (∀ y0 y1 y2, LeO (laws_eqLedgeS.l0 k y0 y1 y2) (laws_eqLedgeS.l0 (k + 1) y0 y1 y2))
  | 0 => fun _ _ _ r h => by simp [laws_eqLedgeS.l0] at h
  | k + 1 => by
    have ih0 := laws_eqLedgeS.mono_l k
    · intro y0 y1 y2
      unfold laws_eqLedgeS.l0
      exact lo_
theorem laws_eqLedgeS.mono : ∀ a0 a1 k, LeO (laws_eqLedgeS.f k a0 a1) (laws_eqLedgeS.f (k + 1) a0 a1) := by
  intro a0 a1 k
  have ih0 := laws_eqLedgeS.mono_l k
  unfold laws_eqLedgeS.f
  exact lo_
def laws_eqLedgeS.T6 : Bool × List (List Nat × List Nat) := (true, [([], []), ([], []), ([0, 1], [0, 1]), ([2], [2]), ([], []), ([], []), ([4, 5], [4, 5]), ([6], [6]), ([3, 7], [3, 7]), ([8], [8])])
def laws_eqLedgeS.B6 : List Nat := [0, 0, 3, 7, 0, 0, 48, 112, 255, 511]
theorem laws_eqLedgeS.tab6 : rtab .any (opsOf Try.f69 6) = laws_eqLedgeS.T6 := by kernel_rfl
theorem laws_eqLedgeS.bits6 : waitsOk laws_eqLedgeS.T6.2 laws_eqLedgeS.B6 = true := by kernel_rfl
theorem laws_eqLedgeS.calls (k : Nat) (R : Option Addr) (T : Nat) (l0 : List (S72)) (U : Option Addr) (O : Nat) (l1 : List (S72)) (r : Bool) (w : World) (hr0 : Kd.C k72 w R l0.length l0) (hc0 : l0.length ≤ T) (hr1 : Kd.C k72 w U l1.length l1) (hc1 : l1.length ≤ O) (h : laws_eqLedgeS.f k l0 l1 = some r) :
  Calls Try.prog 69 #[.slice R l0.length T, .slice U l1.length O] w fun e w' => e = .returned (.bool r) ∧ Below w.heap.size w w' := by
 have hu72 := Try.underlying72
 have V := am_ hr0
 have a6 := am_ hc0
 clear hr0 hc0
 have X := am_ hr1
 have a7 := am_ hc1
 clear hr1 hc1
 have HB := am_ (Below.refl w.heap.size w)
 rw [laws_eqLedgeS.f] at h; have H := h; clear h
 refine jb_ H ?_ ?_ <;> clear H <;> intro p H
 ·have A : ((l0.length : Int) == (l1.length : Int)) = false := beq_eq_false_iff_ne.mpr p
  have B : ((l0.length : Int) != (l1.length : Int)) = true := bne_iff_ne.mpr p
  have D : (l0.length == l1.length) = false := by first | simpa using p | (simp at p ⊢; omega)
  obtain rfl := oi_ H
  go_enter Try.func69, Try.ntmps69
  go_wp2
  go_ret
  exact ⟨qr_, qB_⟩
 have A : ((l0.length : Int) == (l1.length : Int)) = true := beq_iff_eq.mpr p
 have B : ((l0.length : Int) != (l1.length : Int)) = false := bne_eq_false_iff_eq.mpr p
 have D : (l0.length == l1.length) = true := by first | simpa using p | (simp at p ⊢; omega)
 clear p; have H' := am_ H; clear H
 go_enter Try.func69, Try.ntmps69
 go_wp2
 go_loopg [5] k (fun kq v5 w' => ∃ (a : Int), v5 = .int .i64 a ∧ Aside0 (laws_eqLedgeS.l0 kq l0 l1 a = some r) ∧ Aside0 (kq ≤ k) ∧ Aside0 (Below w.heap.size w w'))
 case atStart => exact ⟨(0), qe_, H', ⟨Nat.le_refl _⟩, ⟨qB_⟩⟩
 case round =>
  clear H' A B D
  obtain ⟨a, rfl, HA, HK1, HB⟩ := hrel
  cases gk with
  | zero => exact absurd HA.out (by simp [laws_eqLedgeS.l0])
  | succ a2 =>
   have H := HA.out; clear HA
   simp only [laws_eqLedgeS.l0] at H
   refine ib_ H ?_ ?_ <;> clear H <;> intro Y H
   ·obtain rfl := oi_ H
    go_wp2
    go_ret
    exact ⟨qr_, qB_⟩
   refine ig_ H ?_; clear H; intro Z H
   refine ig_ H ?_; clear H; intro a0 H
   obtain ⟨a9, a1, H⟩ := bs_ H
   refine ie_ H ?_ ?_ <;> clear H <;> rintro rfl H
   ·have H' := am_ H; clear H
    try go_wp2
    replace HB := hd_ HB
    have g := dt_ a
    have i := du_ a l0.length
    obtain ⟨c, j, q, s, t, u⟩ := at_T72 V.out a (ot_ g) (ot_ i)
    have E := u; have F := t; have G := s; have I := q; cases j
    replace q := qx_ HB q
    replace s := qx_ HB s
    replace t := qx_ HB t
    replace u := qx_ HB u
    have l := dt_ a
    have m := du_ a l1.length
    obtain ⟨d, o, v, x, y, z⟩ := at_T72 X.out a (ot_ l) (ot_ m)
    have J := z; have L := y; have M := x; have N := v; cases o
    replace v := qx_ HB v
    replace x := qx_ HB x
    replace y := qx_ HB y
    replace z := qx_ HB z
    refine start_ (n := 10) (S := fun w' => w'.cell? (c.add ((a).toNat * 4)) = some (.int .i64 ((rd_T72 l0 a).f0)) ∧ w'.cell? ⟨(c.add ((a).toNat * 4)).block, (c.add ((a).toNat * 4)).off + 1, none⟩ = some (.int .i64 ((rd_T72 l0 a).f1)) ∧ w'.cell? ⟨(c.add ((a).toNat * 4)).block, (c.add ((a).toNat * 4)).off + 2, none⟩ = some (.int .i64 ((rd_T72 l0 a).f2)) ∧ w'.cell? ⟨(c.add ((a).toNat * 4)).block, (c.add ((a).toNat * 4)).off + 3, none⟩ = some (.bool ((rd_T72 l0 a).f3)) ∧ w'.cell? (d.add ((a).toNat * 4)) = some (.int .i64 ((rd_T72 l1 a).f0)) ∧ w'.cell? ⟨(d.add ((a).toNat * 4)).block, (d.add ((a).toNat * 4)).off + 1, none⟩ = some (.int .i64 ((rd_T72 l1 a).f1)) ∧ w'.cell? ⟨(d.add ((a).toNat * 4)).block, (d.add ((a).toNat * 4)).off + 2, none⟩ = some (.int .i64 ((rd_T72 l1 a).f2)) ∧ w'.cell? ⟨(d.add ((a).toNat * 4)).block, (d.add ((a).toNat * 4)).off + 3, none⟩ = some (.bool ((rd_T72 l1 a).f3))) (ds := []) (bm 10 0) (by kernel_rfl) rfl (by kernel_rfl) ⟨((qx_ HB I).trans rfl), ((qx_ HB G).trans rfl), ((qx_ HB F).trans rfl), ((qx_ HB E).trans rfl), ((qx_ HB N).trans rfl), ((qx_ HB M).trans rfl), ((qx_ HB L).trans rfl), ((qx_ HB J).trans rfl)⟩ (fun hHeld => ?_); refine with_tabW laws_eqLedgeS.tab6 laws_eqLedgeS.bits6 (fun HT_ HW_ => ?_)
    generalize wr.drew = b0 at HB q s t u v x y z hHeld ⊢
    refine pz_ 0 17 10 1 ?_; refine pz_ 1 18 10 3 ?_; refine pz_ 2 19 10 7 ?_; refine pz_ 4 21 10 23 ?_; refine pz_ 5 22 10 55 ?_; refine pz_ 6 23 10 119 ?_; refine tz8_ 3 20 10 127 ?_; refine tz8_ 7 24 10 255 ?_
    refine o1_ 8 (some 25) 10 511 (fun K hK => ?_)
    refine gs_ Try.func115 #[.agg #[.int .i64 ((rd_T72 l0 a).f0), .int .i64 ((rd_T72 l0 a).f1), .int .i64 ((rd_T72 l0 a).f2), .bool ((rd_T72 l0 a).f3)], .agg #[.int .i64 ((rd_T72 l1 a).f0), .int .i64 ((rd_T72 l1 a).f1), .int .i64 ((rd_T72 l1 a).f2), .bool ((rd_T72 l1 a).f3)]] ?_
    with_reducible refine (laws_eqLedge.calls ((rd_T72 l0 a).f0) ((rd_T72 l0 a).f1) ((rd_T72 l0 a).f2) ((rd_T72 l0 a).f3) ((rd_T72 l1 a).f0) ((rd_T72 l1 a).f1) ((rd_T72 l1 a).f2) ((rd_T72 l1 a).f3) true _ a1.out).mono ?_
    rintro e a3 ⟨rfl, hb⟩
    refine ⟨_, rfl, ?_⟩
    replace HB := hs_ hb; clear hb
    refine hK.out _ _ ⟨((qx_ HB I).trans rfl), ((qx_ HB G).trans rfl), ((qx_ HB F).trans rfl), ((qx_ HB E).trans rfl), ((qx_ HB N).trans rfl), ((qx_ HB M).trans rfl), ((qx_ HB L).trans rfl), ((qx_ HB J).trans rfl)⟩ (fun hHeld => ?_)
    clear hK K
    refine nm_ 25 ?_
    refine pz_ 9 26 10 1023 ?_
    refine done_ (done_of HT_.out (by kernel_rfl)) ?_
    try go_wp2
    go_roundg a2
    case measure => have := HK1.out; omega
    case rel => exact ⟨(wrap64 (a + 1)), qe_, H', ⟨by have := HK1.out; omega⟩, ⟨qB_⟩⟩
   obtain rfl := oi_ H
   try go_wp2
   replace HB := hd_ HB
   have g := dt_ a
   have i := du_ a l0.length
   obtain ⟨c, j, q, s, t, u⟩ := at_T72 V.out a (ot_ g) (ot_ i)
   have E := u; have F := t; have G := s; have I := q; cases j
   replace q := qx_ HB q
   replace s := qx_ HB s
   replace t := qx_ HB t
   replace u := qx_ HB u
   have l := dt_ a
   have m := du_ a l1.length
   obtain ⟨d, o, v, x, y, z⟩ := at_T72 X.out a (ot_ l) (ot_ m)
   have J := z; have L := y; have M := x; have N := v; cases o
   replace v := qx_ HB v
   replace x := qx_ HB x
   replace y := qx_ HB y
   replace z := qx_ HB z
   refine start_ (n := 10) (S := fun w' => w'.cell? (c.add ((a).toNat * 4)) = some (.int .i64 ((rd_T72 l0 a).f0)) ∧ w'.cell? ⟨(c.add ((a).toNat * 4)).block, (c.add ((a).toNat * 4)).off + 1, none⟩ = some (.int .i64 ((rd_T72 l0 a).f1)) ∧ w'.cell? ⟨(c.add ((a).toNat * 4)).block, (c.add ((a).toNat * 4)).off + 2, none⟩ = some (.int .i64 ((rd_T72 l0 a).f2)) ∧ w'.cell? ⟨(c.add ((a).toNat * 4)).block, (c.add ((a).toNat * 4)).off + 3, none⟩ = some (.bool ((rd_T72 l0 a).f3)) ∧ w'.cell? (d.add ((a).toNat * 4)) = some (.int .i64 ((rd_T72 l1 a).f0)) ∧ w'.cell? ⟨(d.add ((a).toNat * 4)).block, (d.add ((a).toNat * 4)).off + 1, none⟩ = some (.int .i64 ((rd_T72 l1 a).f1)) ∧ w'.cell? ⟨(d.add ((a).toNat * 4)).block, (d.add ((a).toNat * 4)).off + 2, none⟩ = some (.int .i64 ((rd_T72 l1 a).f2)) ∧ w'.cell? ⟨(d.add ((a).toNat * 4)).block, (d.add ((a).toNat * 4)).off + 3, none⟩ = some (.bool ((rd_T72 l1 a).f3))) (ds := []) (bm 10 0) (by kernel_rfl) rfl (by kernel_rfl) ⟨((qx_ HB I).trans rfl), ((qx_ HB G).trans rfl), ((qx_ HB F).trans rfl), ((qx_ HB E).trans rfl), ((qx_ HB N).trans rfl), ((qx_ HB M).trans rfl), ((qx_ HB L).trans rfl), ((qx_ HB J).trans rfl)⟩ (fun hHeld => ?_); refine with_tabW laws_eqLedgeS.tab6 laws_eqLedgeS.bits6 (fun HT_ HW_ => ?_)
   generalize wr.drew = a4 at HB q s t u v x y z hHeld ⊢
   refine pz_ 0 17 10 1 ?_; refine pz_ 1 18 10 3 ?_; refine pz_ 2 19 10 7 ?_; refine pz_ 4 21 10 23 ?_; refine pz_ 5 22 10 55 ?_; refine pz_ 6 23 10 119 ?_; refine tz8_ 3 20 10 127 ?_; refine tz8_ 7 24 10 255 ?_
   refine o1_ 8 (some 25) 10 511 (fun K hK => ?_)
   refine gs_ Try.func115 #[.agg #[.int .i64 ((rd_T72 l0 a).f0), .int .i64 ((rd_T72 l0 a).f1), .int .i64 ((rd_T72 l0 a).f2), .bool ((rd_T72 l0 a).f3)], .agg #[.int .i64 ((rd_T72 l1 a).f0), .int .i64 ((rd_T72 l1 a).f1), .int .i64 ((rd_T72 l1 a).f2), .bool ((rd_T72 l1 a).f3)]] ?_
   with_reducible refine (laws_eqLedge.calls ((rd_T72 l0 a).f0) ((rd_T72 l0 a).f1) ((rd_T72 l0 a).f2) ((rd_T72 l0 a).f3) ((rd_T72 l1 a).f0) ((rd_T72 l1 a).f1) ((rd_T72 l1 a).f2) ((rd_T72 l1 a).f3) false _ a1.out).mono ?_
   rintro e a5 ⟨rfl, hb⟩
   refine ⟨_, rfl, ?_⟩
   replace HB := hs_ hb; clear hb
   refine hK.out _ _ ⟨((qx_ HB I).trans rfl), ((qx_ HB G).trans rfl), ((qx_ HB F).trans rfl), ((qx_ HB E).trans rfl), ((qx_ HB N).trans rfl), ((qx_ HB M).trans rfl), ((qx_ HB L).trans rfl), ((qx_ HB J).trans rfl)⟩ (fun hHeld => ?_)
   clear hK K
   refine nm_ 25 ?_
   refine pz_ 9 26 10 1023 ?_
   refine done_ (done_of HT_.out (by kernel_rfl)) ?_
   try go_wp2
   go_ret
   exact ⟨qr_, qB_⟩
def laws_eqWeb.f (k : Nat) (a0_0 : Int) (l0_1 : List (S72)) (a1_0 : Int) (l1_1 : List (S72)) : Option (Bool) := if a0_0 = a1_0 then ((laws_eqLedgeS.f k l0_1 l1_1).bind fun t128 => (if t128 = true then (some true) else (some false))) else (some false)
theorem laws_eqWeb.mono : ∀ a0 a1 a2 a3 k, LeO (laws_eqWeb.f k a0 a1 a2 a3) (laws_eqWeb.f (k + 1) a0 a1 a2 a3) := by
  intro a0 a1 a2 a3 k
  have m0 := @laws_eqLedgeS.mono
  unfold laws_eqWeb.f
  exact lo_
theorem laws_eqWeb.calls (k : Nat) (d : Int) (i : Option Addr) (j : Nat) (a : List (S72)) (g : Int) (l : Option Addr) (m : Nat) (c : List (S72)) (r : Bool) (w : World) (hr0_1 : Kd.C k72 w i a.length a) (hc0_1 : a.length ≤ j) (hr1_1 : Kd.C k72 w l c.length c) (hc1_1 : c.length ≤ m) (h : laws_eqWeb.f k d a g c = some r) :
  Calls Try.prog 17 #[.agg #[.int .i64 d, .slice i a.length j], .agg #[.int .i64 g, .slice l c.length m]] w fun e w' => e = .returned (.bool r) ∧ Below w.heap.size w w' := by
 have hu29 := Try.underlying29
 have o := am_ hr0_1
 have p := am_ hc0_1
 clear hr0_1 hc0_1
 have q := am_ hr1_1
 have s := am_ hc1_1
 clear hr1_1 hc1_1
 have HB := am_ (Below.refl w.heap.size w)
 rw [laws_eqWeb.f] at h; have H := h; clear h
 refine jb_ H ?_ ?_ <;> clear H <;> intro v H
 ·have x : (d == g) = false := beq_eq_false_iff_ne.mpr v
  have y : (d != g) = true := bne_iff_ne.mpr v
  obtain rfl := oi_ H
  go_enter Try.func17, Try.ntmps17
  go_wp2_with (first | ((with_reducible refine gd_ 2 ?_); refine by_ 2 (cs := #[.int .i64 d, .slice i a.length j]) (t := 29) ?_; intro A hg I n hb; have B := gw_ hg; replace HB := hs_ hb; clear hb hg) | ((with_reducible refine gd_ 3 ?_); refine by_ 3 (cs := #[.int .i64 g, .slice l c.length m]) (t := 29) ?_; intro D hg J u hb; have E := gw_ hg; obtain ⟨z, F⟩ := qn_ n hg; replace n := qbl_ n hb; replace HB := hs_ hb; clear hb hg; obtain ⟨R, T⟩ := nn_ z; obtain ⟨U, V, X, Y⟩ := bc2_ n; obtain ⟨Z, a0, a1, a2⟩ := bc2_ u))
  go_ret
  exact ⟨qr_, qB_⟩
 have x : (d == g) = true := beq_iff_eq.mpr v
 have y : (d != g) = false := bne_eq_false_iff_eq.mpr v
 clear v
 obtain ⟨a3, G, H⟩ := bs_ H
 refine ie_ H ?_ ?_ <;> clear H <;> rintro rfl H
 ·obtain rfl := oi_ H
  go_enter Try.func17, Try.ntmps17
  go_wp2_with (first | ((with_reducible refine gd_ 2 ?_); refine by_ 2 (cs := #[.int .i64 d, .slice i a.length j]) (t := 29) ?_; intro A hg a4 n hb; have B := gw_ hg; replace HB := hs_ hb; clear hb hg) | ((with_reducible refine gd_ 3 ?_); refine by_ 3 (cs := #[.int .i64 g, .slice l c.length m]) (t := 29) ?_; intro D hg a5 u hb; have E := gw_ hg; obtain ⟨z, F⟩ := qn_ n hg; replace n := qbl_ n hb; replace HB := hs_ hb; clear hb hg; obtain ⟨a6, a7⟩ := nn_ z; obtain ⟨a8, a9, b0, b1⟩ := bc2_ n; obtain ⟨b2, b3, b4, b5⟩ := bc2_ u) | ((with_reducible refine gc_ 69 ?_); refine gl_ (some 14) Try.func69 #[.slice i a.length j, .slice l c.length m] ?_; (with_reducible refine (laws_eqLedgeS.calls k _ _ a _ _ c true _ ?_ ?_ ?_ ?_ G.out).mono ?_); exact qC_ o HB; exact p.out; exact qC_ q HB; exact s.out; rintro e L ⟨rfl, hb⟩; refine ⟨_, rfl, ?_⟩; replace n := qbl_ n hb; replace u := qbl_ u hb; replace HB := hs_ hb; clear hb))
  go_ret
  exact ⟨qr_, qB_⟩
 obtain rfl := oi_ H
 go_enter Try.func17, Try.ntmps17
 go_wp2_with (first | ((with_reducible refine gd_ 2 ?_); refine by_ 2 (cs := #[.int .i64 d, .slice i a.length j]) (t := 29) ?_; intro A hg M n hb; have B := gw_ hg; replace HB := hs_ hb; clear hb hg) | ((with_reducible refine gd_ 3 ?_); refine by_ 3 (cs := #[.int .i64 g, .slice l c.length m]) (t := 29) ?_; intro D hg N u hb; have E := gw_ hg; obtain ⟨z, F⟩ := qn_ n hg; replace n := qbl_ n hb; replace HB := hs_ hb; clear hb hg; obtain ⟨b6, b7⟩ := nn_ z; obtain ⟨b8, b9, c0, c1⟩ := bc2_ n; obtain ⟨c2, c3, c4, c5⟩ := bc2_ u) | ((with_reducible refine gc_ 69 ?_); refine gl_ (some 14) Try.func69 #[.slice i a.length j, .slice l c.length m] ?_; (with_reducible refine (laws_eqLedgeS.calls k _ _ a _ _ c false _ ?_ ?_ ?_ ?_ G.out).mono ?_); exact qC_ o HB; exact p.out; exact qC_ q HB; exact s.out; rintro e O ⟨rfl, hb⟩; refine ⟨_, rfl, ?_⟩; replace n := qbl_ n hb; replace u := qbl_ u hb; replace HB := hs_ hb; clear hb))
 go_ret
 exact ⟨qr_, qB_⟩
def laws_toEdge.f (a0_0 : Int) (a0_1 : Int) : Option (Int × Int) := some (a0_0, a0_1)
theorem laws_toEdge.calls (a : Int) (c : Int) (i : Int) (j : Int) (w : World) (h : laws_toEdge.f a c = some (i, j)) :
  Calls Try.prog 21 #[.agg #[.int .i64 a, .int .i64 c]] w fun e w' => e = .returned (.agg #[.int .i64 i, .int .i64 j]) ∧ Below w.heap.size w w' := by
 have hu37 := Try.underlying37; have hu43 := Try.underlying43
 have HB := am_ (Below.refl w.heap.size w)
 have H : (some (a, c)) = some (i, j) := h
 clear h
 simp only [Option.some.injEq, Prod.mk.injEq] at H
 obtain ⟨rfl, rfl⟩ := H
 go_enter Try.func21, Try.ntmps21
 go_wp2_with (first | ((with_reducible refine gd_ 1 ?_); refine by_ 1 (cs := #[.int .i64 a, .int .i64 c]) (t := 37) ?_; intro q hg s d hb; have u := gw_ hg; replace HB := hs_ hb; clear hb hg) | ((with_reducible refine gd_ 2 ?_); refine by_ 2 (cs := #[.int .i64 0, .int .i64 0]) (t := 43) ?_; intro l hg v g hb; have x := gw_ hg; obtain ⟨m, y⟩ := qn_ d hg; replace d := qbl_ d hb; replace HB := hs_ hb; clear hb hg) | ((with_reducible refine gd_ 3 ?_); refine by_ 3 (cs := #[.int .i64 0, .int .i64 0]) (t := 43) ?_; intro z hg A n hb; have B := gw_ hg; obtain ⟨o, C⟩ := qn_ d hg; obtain ⟨D, p⟩ := qn_ g hg; replace d := qbl_ d hb; replace g := qbl_ g hb; replace HB := hs_ hb; clear hb hg; obtain ⟨E, F⟩ := nn_ m; obtain ⟨G, I⟩ := nn_ o; obtain ⟨J, L, M, N⟩ := bc2_ d; obtain ⟨O, R⟩ := nn_ p; obtain ⟨T, U, V, X⟩ := bc2_ n; obtain ⟨Y, Z, a0, a1⟩ := bc2_ g))
 refine bodyPost_ret (results_cell_row rfl _ _ l 43 #[.int .i64 a, .int .i64 c] (0, 0) _ rfl (qp_ g) Try.underlying43 rfl (by kernel_rfl)) rfl ?_
 exact ⟨qr_, qB_⟩
end Go.Proofs.Ytbkklafkoegdpaa.QFnExactWebTake
