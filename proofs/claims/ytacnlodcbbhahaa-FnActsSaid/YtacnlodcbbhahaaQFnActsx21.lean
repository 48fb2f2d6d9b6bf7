import Derived.Test.YtacnlodcbbhahaaQFnActsx15
import Derived.Test.YtacnlodcbbhahaaQFnActsx20
namespace Go.Proofs.Ytacnlodcbbhahaa.QFnActs
open Go.RowKit Go.Proofs.YtacnlodcbbhahaaW.PrintWords Go.Proofs.YtacnlodcbbhahaaW.PrintLast Go.Proofs.YtacnlodcbbhahaaW.PrintMore
set_option maxHeartbeats 8000000
set_option maxRecDepth 100000
set_option linter.unusedVariables false
set_option linter.unusedSimpArgs false
def impl_CutActs.f (k : Nat) (l0_0 : List (S99)) (l1 : List (S60)) (a2 : Int) (l3 : List Int) : Option ((List (S99)) × Bool) := (impl_in.f a2 0 (l1.length : Int)).bind fun t492 => (if t492 = true then (if 0 ≤ a2 then (if a2 ≤ (l1.length : Int) then ((impl_DoActs.f k l0_0 (l1.take (a2 : Int).toNat)).bind fun bt497 => (if bt497.2 < a2 then (some (([] : List (S99)), false)) else ((impl_LoseDisk.f k bt497.1 l3).bind fun bt502 => (some (bt502.1, bt502.2))))) else (none)) else (none)) else (some (([] : List (S99)), false)))
def impl_CutActs.T3 : Bool × List (List Nat × List Nat) := (true, [([], []), ([], []), ([], []), ([1, 2], [1, 2]), ([0, 3], [0, 3]), ([4], [4]), ([5], [5]), ([5], [5]), ([], []), ([8, 6, 4, 0, 1, 2, 3, 4, 5, 6, 8], [6, 8]), ([7, 9, 0, 1, 2, 3, 4, 5, 6, 7, 8, 9], [7])])
def impl_CutActs.B3 : List Nat := [0, 0, 0, 6, 15, 31, 63, 63, 0, 383, 1023]
theorem impl_CutActs.tab3 : rtab .any (opsOf Try.f57 3) = impl_CutActs.T3 := by kernel_rfl
theorem impl_CutActs.bits3 : waitsOk impl_CutActs.T3.2 impl_CutActs.B3 = true := by kernel_rfl
theorem impl_CutActs.calls (k : Nat) (l : Option Addr) (q : Nat) (a : List (S99)) (c6 : Option Addr) (Y : Nat) (l1 : List (S60)) (E : Int) (e5 : Option Addr) (e6 : Nat) (d0 : List Int) (e7 : List (S99)) (e8 : Bool) (w : World) (hr0_0 : Kd.C k99 w l a.length a) (hc0_0 : a.length ≤ q) (hr1 : Kd.C k60 w c6 l1.length l1) (hc1 : l1.length ≤ Y) (hr3 : Kd.C (Kd.int .i64) w e5 d0.length d0) (hc3 : d0.length ≤ e6) (h : impl_CutActs.f k a l1 E d0 = some (e7, e8)) :
  Calls Try.prog 57 #[.agg #[.slice l a.length q], .slice c6 l1.length Y, .int .i64 E, .slice e5 d0.length e6] w fun e w' => ∃ d8 : Value, e = .returned (.tuple #[.agg #[d8], .bool e8]) ∧ Kd.R k99 99 w' w.heap.size (fun _ => True) d8 e7 ∧ Below w.heap.size w w' := by
 have hu44 := Try.underlying44
 have G := am_ hr0_0
 have I := am_ hc0_0
 clear hr0_0 hc0_0
 have g2 := am_ hr1
 have g3 := am_ hc1
 clear hr1 hc1
 have h9 := am_ hr3
 have i0 := am_ hc3
 clear hr3 hc3
 have HB := am_ (Below.refl w.heap.size w)
 have H : ((impl_in.f E 0 (l1.length : Int)).bind fun g4 => (if g4 = true then (if 0 ≤ E then (if E ≤ (l1.length : Int) then ((impl_DoActs.f k a (l1.take (E : Int).toNat)).bind fun g5 => (if g5.2 < E then (some (([] : List (S99)), false)) else ((impl_LoseDisk.f k g5.1 d0).bind fun g6 => (some (g6.1, g6.2))))) else (none)) else (none)) else (some (([] : List (S99)), false)))) = some (e7, e8) := h
 clear h
 obtain ⟨g4, e9, H⟩ := bs_ H
 refine id_ H ?_ ?_ <;> clear H <;> rintro rfl H
 ·simp only [Option.some.injEq, Prod.mk.injEq] at H
  obtain ⟨rfl, rfl⟩ := H
  go_enter Try.func57, Try.ntmps57
  go_wp2_with (first | ((with_reducible refine gd_ 4 ?_); refine by_ 4 (cs := #[.slice l a.length q]) (t := 44) ?_; intro A hg i1 d hb; have g7 := gw_ hg; replace HB := hs_ hb; clear hb hg) | ((with_reducible refine gd_ 8 ?_); refine by_ 8 (cs := #[.slice none 0 0]) (t := 44) ?_; intro D hg O s hb; have g8 := gw_ hg; obtain ⟨g9, d9⟩ := qn_ d hg; replace d := qbl_ d hb; replace HB := hs_ hb; clear hb hg) | ((with_reducible refine gc_ 69 ?_); refine gl_ (some 17) Try.func69 #[.int .i64 E, .int .i64 0, .int .i64 (l1.length : Int)] ?_; (with_reducible refine (impl_in.calls E 0 (l1.length : Int) false _ e9.out).mono ?_); rintro e w' ⟨rfl, ⟨nd, rfl⟩⟩; refine ⟨_, rfl, ?_⟩; ((rw [drewN_self O]; generalize hq_ : World.drewN O _ = O; have x : Aside0 (O.heap[A]? = some (.cells #[.slice l a.length q] 44 (0, 0))) := ⟨by rw [← hq_]; exact (qk_ d)⟩; have y : Aside0 (O.heap[D]? = some (.cells #[.slice none 0 0] 44 (0, 0))) := ⟨by rw [← hq_]; exact (qk_ s)⟩; have z : Aside0 (Below w.heap.size w O) := ⟨by rw [← hq_]; exact qB_⟩; clear d s HB hq_; have d := x; have s := y; have HB := z; clear x y z; have hcr_gb490_0 : O.cell? ⟨A, 0, none⟩ = some (.slice l a.length q) := bl_ d 0; have hfr_gb490_0 := blk_frozen d.out 0; have hcr_gb491_0 : O.cell? ⟨D, 0, none⟩ = some (.slice none 0 0) := bl_ s 0; have hfr_gb491_0 := blk_frozen s.out 0)); obtain ⟨j8, j9⟩ := nn_ d9; obtain ⟨k0, k1⟩ := bc1_ s))
  refine bodyPost_ret (results_ct rfl _ _ D 44 #[.slice none 0 0] (0, 0) _ rfl (qp_ s) Try.underlying44 rfl (by kernel_rfl)) rfl ?_
  exact ⟨_, qr_, by first | exact Kd.R_nil _ _ _ _ _ | exact Kd.N_nil _ _ _ _ _ | exact Kd.V_nil _ _ _ _ _ | exact Kd.Q_nil _ _ _ _ _ | exact Kd.S_nil _ _ _ _ _, qB_⟩
 refine jg_ H ?_; clear H; intro f0 H
 have h0 := eq_true f0
 have h1 := decide_eq_true f0
 clear f0
 refine jg_ H ?_; clear H; intro f1 H
 have h2 := eq_true f1
 have h3 := decide_eq_true f1
 clear f1
 generalize a3 : (l1.take (E : Int).toNat) = Z at H; replace H := bh_ H; have J := am_ a3.symm; clear a3
 obtain ⟨⟨T, c7⟩, e2, H⟩ := bs_ H; dsimp only at H
 refine ic_ H ?_ ?_ <;> clear H <;> intro f2 H
 ·simp only [Option.some.injEq, Prod.mk.injEq] at H
  obtain ⟨rfl, rfl⟩ := H
  go_enter Try.func57, Try.ntmps57
  try go_wp2_with (first | ((with_reducible refine gd_ 4 ?_); refine by_ 4 (cs := #[.slice l a.length q]) (t := 44) ?_; intro A hg i2 d hb; have g7 := gw_ hg; replace HB := hs_ hb; clear hb hg) | ((with_reducible refine gd_ 8 ?_); refine by_ 8 (cs := #[.slice none 0 0]) (t := 44) ?_; intro D hg L s hb; have g8 := gw_ hg; obtain ⟨g9, d9⟩ := qn_ d hg; replace d := qbl_ d hb; replace HB := hs_ hb; clear hb hg) | ((with_reducible refine gc_ 69 ?_); refine gl_ (some 17) Try.func69 #[.int .i64 E, .int .i64 0, .int .i64 (l1.length : Int)] ?_; (with_reducible refine (impl_in.calls E 0 (l1.length : Int) true _ e9.out).mono ?_); rintro e w' ⟨rfl, ⟨nd, rfl⟩⟩; refine ⟨_, rfl, ?_⟩; ((rw [drewN_self L]; generalize hq_ : World.drewN L _ = L; have x : Aside0 (L.heap[A]? = some (.cells #[.slice l a.length q] 44 (0, 0))) := ⟨by rw [← hq_]; exact (qk_ d)⟩; have y : Aside0 (L.heap[D]? = some (.cells #[.slice none 0 0] 44 (0, 0))) := ⟨by rw [← hq_]; exact (qk_ s)⟩; have z : Aside0 (Below w.heap.size w L) := ⟨by rw [← hq_]; exact qB_⟩; clear d s HB hq_; have d := x; have s := y; have HB := z; clear x y z; have hcr_gb490_0 : L.cell? ⟨A, 0, none⟩ = some (.slice l a.length q) := bl_ d 0; have hfr_gb490_0 := blk_frozen d.out 0; have hcr_gb491_0 : L.cell? ⟨D, 0, none⟩ = some (.slice none 0 0) := bl_ s 0; have hfr_gb491_0 := blk_frozen s.out 0))))
  replace d := bd_ d; replace s := bd_ s; replace HB := hd_ HB
  have d1 : (E : Int) ≤ ((l1.length : Int) : Int) := of_decide_eq_true qa_
  obtain ⟨i014, hi014, _, hsz14, _⟩ := info_parts info60
  have hroom14 : l1.length ≤ Y := g3.out
  have hC14 : Kd.C k60 _ c6 l1.length l1 := g2.out
  have hcut14 := cut_to (P := Try.prog) 71 60 .i64 Try.underlying71 hi014 c6 l1.length Y E (of_decide_eq_true qa_) d1 hroom14
  have hr14 := Kd.C_take (m := (E : Int).toNat) hC14 (by omega)
  have a4 : Z.length = (E : Int).toNat := (by rw [J.out, List.length_take]; omega)
  rw [← J.out] at hr14
  rw [← a4] at hcut14
  have d2 := am_ hr14
  have e0 := am_ (show Z.length ≤ Y from by omega)
  clear hr14 hC14 hroom14 hi014 hsz14
  have KY14 := am_ a4
  clear a4; replace d1 := eq_true d1
  refine start_ (n := 11) (S := fun w' => w'.cell? ⟨A, 0, none⟩ = some (.slice l a.length q)) (ds := []) (bm 11 0) (by kernel_rfl) rfl (by kernel_rfl) (bl_ d 0) (fun hHeld => ?_); refine with_tabW impl_CutActs.tab3 impl_CutActs.bits3 (fun HT_ HW_ => ?_)
  generalize L.drew = i3 at d s HB d2 hHeld ⊢
  refine pz_ 1 22 11 2 ?_; refine pz_ 2 23 11 6 ?_; refine pz_ 3 24 11 14 ?_
  refine take_ (i := 0) (N := some 21) (v := ?_) (a' := ?_) (bm 11 15) rfl rfl (take_ofW HT_.out HW_.out (by kernel_rfl)) (fun _ _ _ h => h) (Or.inl ⟨by rfl, ?_⟩) hHeld ?_ ?_
  rotate_left
  ·intro w' i4
   go_simp
   with_reducible rfl
  rotate_left
  ·simp only [Act.put, sA_, sB_, sC_, i64_w, i32_w]
   rfl
  refine join_ (σ := Value × Nat) 2 #[true, true, true, true, true, true, true, true, true, false, false] (fun s_ => [(25, .tuple #[.agg #[s_.1], .int .i64 c7]), (10, .pointer (some ⟨s_.2, 0, none⟩)), (20, .tuple #[.agg #[s_.1], .int .i64 c7]), (26, .agg #[s_.1]), (27, .int .i64 c7)]) (fun s_ w' => (w'.cell? ⟨A, 0, none⟩ = some (.slice l a.length q)) ∧ (Kd.R k99 99 w' w.heap.size (fun _ => True) s_.1 T) ∧ (w'.heap[A]? = some (.cells #[.slice l a.length q] 44 (0, 0))) ∧ (w'.heap[D]? = some (.cells #[.slice none 0 0] 44 (0, 0))) ∧ (w'.heap[s_.2]? = some (.cells #[.slice none 0 0] 44 (0, 0))) ∧ (w.heap.size ≤ s_.2) ∧ (w.heap.size ≤ s_.2) ∧ (A ≠ s_.2) ∧ (s_.2 ≠ A) ∧ (D ≠ s_.2) ∧ (s_.2 ≠ D) ∧ (Below w.heap.size w w')) ?_ ?_
  rotate_left
  ·intro hCont
   refine two_ (i := 4) (j := 8) (Ni := some 25) (Nj := some 10) (bm 11 31) #[true, true, true, true, false, false, false, false, true, false, false] rfl rfl rfl rfl (two_of HT_.out (by kernel_rfl)) (by decide) (by decide) (fun K hK => ?_) (fun K hK => ?_)
   ·skip
    refine gs_ Try.func50 #[.agg #[.slice l a.length q], .slice c6 Z.length Y] ?_
    with_reducible refine (impl_DoActs.calls k _ _ a _ _ Z T c7 _ ?side1 ?side2 ?side3 ?side4 e2.out).mono ?_
    (case side1 => exact qC_ G HB)
    (case side2 => exact I.out)
    (case side3 => exact qC_ d2 HB)
    (case side4 => exact e0.out)
    rintro e f3 ⟨a5, rfl, ho0, hb⟩
    refine ⟨_, rfl, ?_⟩
    have F := am_ (Kd.R_lower ho0 (below_size qB_)); replace d := qbl_ d hb; replace s := qbl_ s hb; replace HB := hs_ hb; clear hb ho0
    refine hK.out _ _ (bl_ d 0) (fun hHeld => ?_)
    clear hK K
    refine nm_ 25 ?_
    refine pz_ 5 20 11 63 ?_; refine pz_ 6 26 11 127 ?_; refine pz_ 7 27 11 255 ?_
    refine o1_ 8 (some 10) 11 511 (fun K hK => ?_)
    refine box_step ?hg (N := 10) ?hd (cs := #[.slice none 0 0]) (t := 44) ?hr ?_; (case hd => rfl); (case hg => rfl); (case hr => first | (go_simp; done) | (go_simp; rfl))
    intro u hg f4 hbox hb
    have B := am_ (hbox); have c8 := gw_ hg; have c9 := gw_ hg; have X := (qn_ d hg).1; have a0 := (qn_ d hg).2; have a1 := (qn_ s hg).1; have a2 := (qn_ s hg).2; replace F := kb_ F hb; replace d := qbl_ d hb; replace s := qbl_ s hb; replace HB := hs_ hb; clear hb hbox hg
    refine hK.out _ _ (bl_ d 0) (fun hHeld => ?_)
    clear hK K
    refine nm_ 10 ?_
    exact norm_ (by simp only [putAll, Act.put, sA_, sB_, sC_]) (hCont (a5, u) _ ⟨hHeld, (qR_ F), (qk_ d), (qk_ s), (qk_ B), c8.out, c9.out, X.out, a0.out, a1.out, a2.out, qB_⟩)
   skip
   refine box_step ?hg (N := 10) ?hd (cs := #[.slice none 0 0]) (t := 44) ?hr ?_; (case hd => rfl); (case hg => rfl); (case hr => first | (go_simp; done) | (go_simp; rfl))
   intro u hg f3 hbox hb
   have B := am_ (hbox); have c8 := gw_ hg; have c9 := gw_ hg; have X := (qn_ d hg).1; have a0 := (qn_ d hg).2; have a1 := (qn_ s hg).1; have a2 := (qn_ s hg).2; replace d := qbl_ d hb; replace s := qbl_ s hb; replace HB := hs_ hb; clear hb hbox hg
   refine hK.out _ _ (bl_ d 0) (fun hHeld => ?_)
   clear hK K
   refine nm_ 10 ?_
   refine o1_ 4 (some 25) 11 287 (fun K hK => ?_)
   refine gs_ Try.func50 #[.agg #[.slice l a.length q], .slice c6 Z.length Y] ?_
   with_reducible refine (impl_DoActs.calls k _ _ a _ _ Z T c7 _ ?side1 ?side2 ?side3 ?side4 e2.out).mono ?_
   (case side1 => exact qC_ G HB)
   (case side2 => exact I.out)
   (case side3 => exact qC_ d2 HB)
   (case side4 => exact e0.out)
   rintro e f4 ⟨a5, rfl, ho0, hb⟩
   refine ⟨_, rfl, ?_⟩
   have F := am_ (Kd.R_lower ho0 (below_size qB_)); replace d := qbl_ d hb; replace s := qbl_ s hb; replace B := qbl_ B hb; replace HB := hs_ hb; clear hb ho0
   refine hK.out _ _ (bl_ d 0) (fun hHeld => ?_)
   clear hK K
   refine nm_ 25 ?_
   refine pz_ 5 20 11 319 ?_; refine pz_ 6 26 11 383 ?_; refine pz_ 7 27 11 511 ?_
   exact norm_ (by simp only [putAll, Act.put, sA_, sB_, sC_]) (hCont (a5, u) _ ⟨hHeld, (qR_ F), (qk_ d), (qk_ s), (qk_ B), c8.out, c9.out, X.out, a0.out, a1.out, a2.out, qB_⟩)
  rintro ⟨a5, u⟩ U ⟨hS_, a6, a7, a8, a9, b0, b1, b2, b3, b4, b5, h10_⟩
  have x : Aside0 (Kd.R k99 99 U w.heap.size (fun _ => True) a5 T) := ⟨a6⟩
  have y : Aside0 (U.heap[A]? = some (.cells #[.slice l a.length q] 44 (0, 0))) := ⟨a7⟩
  have z : Aside0 (U.heap[D]? = some (.cells #[.slice none 0 0] 44 (0, 0))) := ⟨a8⟩
  have b6 : Aside0 (U.heap[u]? = some (.cells #[.slice none 0 0] 44 (0, 0))) := ⟨a9⟩
  have b7 : Aside0 (w.heap.size ≤ u) := ⟨b0⟩
  have b8 : Aside0 (w.heap.size ≤ u) := ⟨b1⟩
  have b9 : Aside0 (A ≠ u) := ⟨b2⟩
  have c0 : Aside0 (u ≠ A) := ⟨b3⟩
  have c1 : Aside0 (D ≠ u) := ⟨b4⟩
  have c2 : Aside0 (u ≠ D) := ⟨b5⟩
  have n10_ : Aside0 (Below w.heap.size w U) := ⟨h10_⟩
  clear d s HB a6 a7 a8 a9 b0 b1 b2 b3 b4 b5 h10_; have F := x; have d := y; have s := z; have B := b6; have c8 := b7; have c9 := b8; have X := b9; have a0 := c0; have a1 := c1; have a2 := c2; have HB := n10_; clear x y z b6 b7 b8 b9 c0 c1 c2 n10_
  have hHeld : U.cell? ⟨A, 0, none⟩ = some (.slice l a.length q) := hS_
  obtain ⟨k2, k3, h4⟩ := Kd.R_slice F.out
  (first | subst h4 | (injection h4 with c3 d3 c4; have d4 := c3.symm; have d5 := c4.symm; clear c3 d3 c4; subst d4; subst d5))
  refine norm_ (a' := ?_) ?_ ?_
  rotate_left
  ·simp only [putAll, Act.put, sA_, sB_, sC_]
   rfl
  refine o1_ 9 none 11 1023 (fun K hK => ?_)
  have h5 : U.cell? ⟨u, 0, none⟩ = some (.slice none 0 0) := bl_ B 0
  have f5 := blk_frozen B.out 0
  have k4 := X.out; have k5 := a1.out; have k6 := a0.out; have k7 := a2.out
  refine skip_ (w1 := ?_) (by rfl) rfl ?_ ?_
  rotate_left
  ·go_simp
   rfl
  refine hK.out _ _ (((cell_far (p := ⟨u, _, none⟩) X.out _).trans (hHeld))) (fun hHeld => ?_)
  clear hK K; refine pz_ 10 11 11 2047 ?_
  refine done_ (done_of HT_.out (by kernel_rfl)) ?_
  obtain ⟨k8, k9⟩ := nn_ d9; obtain ⟨l2, l3⟩ := nn_ a1
  obtain ⟨l4, l5⟩ := bc1_ s
  try go_wp2
  refine bodyPost_ret (results_ct rfl _ _ D 44 #[.slice none 0 0] (0, 0) _ rfl (qp_ s) Try.underlying44 rfl (by kernel_rfl)) rfl ?_
  exact ⟨_, qr_, by first | exact Kd.R_nil _ _ _ _ _ | exact Kd.N_nil _ _ _ _ _ | exact Kd.V_nil _ _ _ _ _ | exact Kd.Q_nil _ _ _ _ _ | exact Kd.S_nil _ _ _ _ _, qB_⟩
 obtain ⟨⟨e3, i5⟩, f6, H⟩ := bs_ H; dsimp only at H
 simp only [Option.some.injEq, Prod.mk.injEq] at H
 obtain ⟨rfl, rfl⟩ := H
 go_enter Try.func57, Try.ntmps57
 try go_wp2_with (first | ((with_reducible refine gd_ 4 ?_); refine by_ 4 (cs := #[.slice l a.length q]) (t := 44) ?_; intro A hg i6 d hb; have g7 := gw_ hg; replace HB := hs_ hb; clear hb hg) | ((with_reducible refine gd_ 8 ?_); refine by_ 8 (cs := #[.slice none 0 0]) (t := 44) ?_; intro D hg M s hb; have g8 := gw_ hg; obtain ⟨g9, d9⟩ := qn_ d hg; replace d := qbl_ d hb; replace HB := hs_ hb; clear hb hg) | ((with_reducible refine gc_ 69 ?_); refine gl_ (some 17) Try.func69 #[.int .i64 E, .int .i64 0, .int .i64 (l1.length : Int)] ?_; (with_reducible refine (impl_in.calls E 0 (l1.length : Int) true _ e9.out).mono ?_); rintro e w' ⟨rfl, ⟨nd, rfl⟩⟩; refine ⟨_, rfl, ?_⟩; ((rw [drewN_self M]; generalize hq_ : World.drewN M _ = M; have x : Aside0 (M.heap[A]? = some (.cells #[.slice l a.length q] 44 (0, 0))) := ⟨by rw [← hq_]; exact (qk_ d)⟩; have y : Aside0 (M.heap[D]? = some (.cells #[.slice none 0 0] 44 (0, 0))) := ⟨by rw [← hq_]; exact (qk_ s)⟩; have z : Aside0 (Below w.heap.size w M) := ⟨by rw [← hq_]; exact qB_⟩; clear d s HB hq_; have d := x; have s := y; have HB := z; clear x y z; have hcr_gb490_0 : M.cell? ⟨A, 0, none⟩ = some (.slice l a.length q) := bl_ d 0; have hfr_gb490_0 := blk_frozen d.out 0; have hcr_gb491_0 : M.cell? ⟨D, 0, none⟩ = some (.slice none 0 0) := bl_ s 0; have hfr_gb491_0 := blk_frozen s.out 0))))
 replace d := bd_ d; replace s := bd_ s; replace HB := hd_ HB
 have d6 : (E : Int) ≤ ((l1.length : Int) : Int) := of_decide_eq_true qa_
 obtain ⟨i027, hi027, _, hsz27, _⟩ := info_parts info60
 have hroom27 : l1.length ≤ Y := g3.out
 have hC27 : Kd.C k60 _ c6 l1.length l1 := g2.out
 have hcut27 := cut_to (P := Try.prog) 71 60 .i64 Try.underlying71 hi027 c6 l1.length Y E (of_decide_eq_true qa_) d6 hroom27
 have hr27 := Kd.C_take (m := (E : Int).toNat) hC27 (by omega)
 have c5 : Z.length = (E : Int).toNat := (by rw [J.out, List.length_take]; omega)
 rw [← J.out] at hr27
 rw [← c5] at hcut27
 have d2 := am_ hr27
 have e0 := am_ (show Z.length ≤ Y from by omega)
 clear hr27 hC27 hroom27 hi027 hsz27
 have KY27 := am_ c5
 clear c5; replace d6 := eq_true d6
 refine start_ (n := 11) (S := fun w' => w'.cell? ⟨A, 0, none⟩ = some (.slice l a.length q)) (ds := []) (bm 11 0) (by kernel_rfl) rfl (by kernel_rfl) (bl_ d 0) (fun hHeld => ?_); refine with_tabW impl_CutActs.tab3 impl_CutActs.bits3 (fun HT_ HW_ => ?_)
 generalize M.drew = i7 at d s HB d2 hHeld ⊢
 refine pz_ 1 22 11 2 ?_; refine pz_ 2 23 11 6 ?_; refine pz_ 3 24 11 14 ?_
 refine take_ (i := 0) (N := some 21) (v := ?_) (a' := ?_) (bm 11 15) rfl rfl (take_ofW HT_.out HW_.out (by kernel_rfl)) (fun _ _ _ h => h) (Or.inl ⟨by rfl, ?_⟩) hHeld ?_ ?_
 rotate_left
 ·intro w' i4
  go_simp
  with_reducible rfl
 rotate_left
 ·simp only [Act.put, sA_, sB_, sC_, i64_w, i32_w]
  rfl
 refine join_ (σ := Value × Nat) 2 #[true, true, true, true, true, true, true, true, true, false, false] (fun s_ => [(25, .tuple #[.agg #[s_.1], .int .i64 c7]), (10, .pointer (some ⟨s_.2, 0, none⟩)), (20, .tuple #[.agg #[s_.1], .int .i64 c7]), (26, .agg #[s_.1]), (27, .int .i64 c7)]) (fun s_ w' => (w'.cell? ⟨A, 0, none⟩ = some (.slice l a.length q)) ∧ (Kd.R k99 99 w' w.heap.size (fun _ => True) s_.1 T) ∧ (w'.heap[A]? = some (.cells #[.slice l a.length q] 44 (0, 0))) ∧ (w'.heap[D]? = some (.cells #[.slice none 0 0] 44 (0, 0))) ∧ (w'.heap[s_.2]? = some (.cells #[.slice none 0 0] 44 (0, 0))) ∧ (w.heap.size ≤ s_.2) ∧ (w.heap.size ≤ s_.2) ∧ (A ≠ s_.2) ∧ (s_.2 ≠ A) ∧ (D ≠ s_.2) ∧ (s_.2 ≠ D) ∧ (Below w.heap.size w w')) ?_ ?_
 rotate_left
 ·intro hCont
  refine two_ (i := 4) (j := 8) (Ni := some 25) (Nj := some 10) (bm 11 31) #[true, true, true, true, false, false, false, false, true, false, false] rfl rfl rfl rfl (two_of HT_.out (by kernel_rfl)) (by decide) (by decide) (fun K hK => ?_) (fun K hK => ?_)
  ·skip
   refine gs_ Try.func50 #[.agg #[.slice l a.length q], .slice c6 Z.length Y] ?_
   with_reducible refine (impl_DoActs.calls k _ _ a _ _ Z T c7 _ ?side1 ?side2 ?side3 ?side4 e2.out).mono ?_
   (case side1 => exact qC_ G HB)
   (case side2 => exact I.out)
   (case side3 => exact qC_ d2 HB)
   (case side4 => exact e0.out)
   rintro e f7 ⟨a5, rfl, ho0, hb⟩
   refine ⟨_, rfl, ?_⟩
   have F := am_ (Kd.R_lower ho0 (below_size qB_)); replace d := qbl_ d hb; replace s := qbl_ s hb; replace HB := hs_ hb; clear hb ho0
   refine hK.out _ _ (bl_ d 0) (fun hHeld => ?_)
   clear hK K
   refine nm_ 25 ?_
   refine pz_ 5 20 11 63 ?_; refine pz_ 6 26 11 127 ?_; refine pz_ 7 27 11 255 ?_
   refine o1_ 8 (some 10) 11 511 (fun K hK => ?_)
   refine box_step ?hg (N := 10) ?hd (cs := #[.slice none 0 0]) (t := 44) ?hr ?_; (case hd => rfl); (case hg => rfl); (case hr => first | (go_simp; done) | (go_simp; rfl))
   intro u hg f8 hbox hb
   have B := am_ (hbox); have c8 := gw_ hg; have c9 := gw_ hg; have X := (qn_ d hg).1; have a0 := (qn_ d hg).2; have a1 := (qn_ s hg).1; have a2 := (qn_ s hg).2; replace F := kb_ F hb; replace d := qbl_ d hb; replace s := qbl_ s hb; replace HB := hs_ hb; clear hb hbox hg
   refine hK.out _ _ (bl_ d 0) (fun hHeld => ?_)
   clear hK K
   refine nm_ 10 ?_
   exact norm_ (by simp only [putAll, Act.put, sA_, sB_, sC_]) (hCont (a5, u) _ ⟨hHeld, (qR_ F), (qk_ d), (qk_ s), (qk_ B), c8.out, c9.out, X.out, a0.out, a1.out, a2.out, qB_⟩)
  skip
  refine box_step ?hg (N := 10) ?hd (cs := #[.slice none 0 0]) (t := 44) ?hr ?_; (case hd => rfl); (case hg => rfl); (case hr => first | (go_simp; done) | (go_simp; rfl))
  intro u hg f7 hbox hb
  have B := am_ (hbox); have c8 := gw_ hg; have c9 := gw_ hg; have X := (qn_ d hg).1; have a0 := (qn_ d hg).2; have a1 := (qn_ s hg).1; have a2 := (qn_ s hg).2; replace d := qbl_ d hb; replace s := qbl_ s hb; replace HB := hs_ hb; clear hb hbox hg
  refine hK.out _ _ (bl_ d 0) (fun hHeld => ?_)
  clear hK K
  refine nm_ 10 ?_
  refine o1_ 4 (some 25) 11 287 (fun K hK => ?_)
  refine gs_ Try.func50 #[.agg #[.slice l a.length q], .slice c6 Z.length Y] ?_
  with_reducible refine (impl_DoActs.calls k _ _ a _ _ Z T c7 _ ?side1 ?side2 ?side3 ?side4 e2.out).mono ?_
  (case side1 => exact qC_ G HB)
  (case side2 => exact I.out)
  (case side3 => exact qC_ d2 HB)
  (case side4 => exact e0.out)
  rintro e f8 ⟨a5, rfl, ho0, hb⟩
  refine ⟨_, rfl, ?_⟩
  have F := am_ (Kd.R_lower ho0 (below_size qB_)); replace d := qbl_ d hb; replace s := qbl_ s hb; replace B := qbl_ B hb; replace HB := hs_ hb; clear hb ho0
  refine hK.out _ _ (bl_ d 0) (fun hHeld => ?_)
  clear hK K
  refine nm_ 25 ?_
  refine pz_ 5 20 11 319 ?_; refine pz_ 6 26 11 383 ?_; refine pz_ 7 27 11 511 ?_
  exact norm_ (by simp only [putAll, Act.put, sA_, sB_, sC_]) (hCont (a5, u) _ ⟨hHeld, (qR_ F), (qk_ d), (qk_ s), (qk_ B), c8.out, c9.out, X.out, a0.out, a1.out, a2.out, qB_⟩)
 rintro ⟨a5, u⟩ V ⟨hS_, a6, a7, a8, a9, b0, b1, b2, b3, b4, b5, h10_⟩
 have x : Aside0 (Kd.R k99 99 V w.heap.size (fun _ => True) a5 T) := ⟨a6⟩
 have y : Aside0 (V.heap[A]? = some (.cells #[.slice l a.length q] 44 (0, 0))) := ⟨a7⟩
 have z : Aside0 (V.heap[D]? = some (.cells #[.slice none 0 0] 44 (0, 0))) := ⟨a8⟩
 have b6 : Aside0 (V.heap[u]? = some (.cells #[.slice none 0 0] 44 (0, 0))) := ⟨a9⟩
 have b7 : Aside0 (w.heap.size ≤ u) := ⟨b0⟩
 have b8 : Aside0 (w.heap.size ≤ u) := ⟨b1⟩
 have b9 : Aside0 (A ≠ u) := ⟨b2⟩
 have c0 : Aside0 (u ≠ A) := ⟨b3⟩
 have c1 : Aside0 (D ≠ u) := ⟨b4⟩
 have c2 : Aside0 (u ≠ D) := ⟨b5⟩
 have n10_ : Aside0 (Below w.heap.size w V) := ⟨h10_⟩
 clear d s HB a6 a7 a8 a9 b0 b1 b2 b3 b4 b5 h10_; have F := x; have d := y; have s := z; have B := b6; have c8 := b7; have c9 := b8; have X := b9; have a0 := c0; have a1 := c1; have a2 := c2; have HB := n10_; clear x y z b6 b7 b8 b9 c0 c1 c2 n10_
 have hHeld : V.cell? ⟨A, 0, none⟩ = some (.slice l a.length q) := hS_
 obtain ⟨e1, d7, h6⟩ := Kd.R_slice F.out
 (first | subst h6 | (injection h6 with c3 d3 c4; have d4 := c3.symm; have d5 := c4.symm; clear c3 d3 c4; subst d4; subst d5))
 refine norm_ (a' := ?_) ?_ ?_
 rotate_left
 ·simp only [putAll, Act.put, sA_, sB_, sC_]
  rfl
 refine o1_ 9 none 11 1023 (fun K hK => ?_)
 have h7 : V.cell? ⟨u, 0, none⟩ = some (.slice none 0 0) := bl_ B 0
 have f9 := blk_frozen B.out 0
 have l6 := X.out; have l7 := a1.out; have l8 := a0.out; have l9 := a2.out
 refine skip_ (w1 := ?_) (by rfl) rfl ?_ ?_
 rotate_left
 ·go_simp
  rfl
 refine hK.out _ _ (((cell_far (p := ⟨u, _, none⟩) X.out _).trans (hHeld))) (fun hHeld => ?_)
 clear hK K; refine pz_ 10 11 11 2047 ?_
 refine done_ (done_of HT_.out (by kernel_rfl)) ?_
 obtain ⟨m0, m1⟩ := nn_ a0; obtain ⟨m2, m3⟩ := nn_ a2
 obtain ⟨m4, m5⟩ := bc1_ B
 try go_wp2_with (first | ((with_reducible refine gc_ 27 ?_); refine gl_ (some 35) Try.func27 #[.agg #[.slice e1 T.length d7], .slice e5 d0.length e6] ?_; (with_reducible refine (impl_LoseDisk.calls k _ _ T _ _ d0 e3 i5 _ ?side1 ?side2 ?side3 ?side4 f6.out).mono ?_); (case side1 => refine (Kd.R_reads' (e := 99) (base := w.heap.size) (ok := fun k_ => True) (n := T.length) (c := d7) ?_).2.2; exact (by (with_reducible repeat (first | apply Kd.R_alloc | apply Kd.R_drewN | apply Kd.R_drew)); exact (Kd.R_mono (Kd.R_far (p := ⟨u, 0, none⟩) (Kd.R_types F.out B.out (by decide)) (fun _ hk => hk.2) (.slice e1 T.length d7)) (fun _ h_ => h_.1)))); (case side2 => exact (Kd.R_reads' F.out).2.1); (case side3 => exact Kd.C_below h9.out qB_); (case side4 => exact i0.out); rintro e i8 ⟨m6, rfl, ho0, hb⟩; refine ⟨_, rfl, ?_⟩; have e4 := am_ (Kd.R_lower (Kd.R_new' ho0 (Kd.R_lt (by (with_reducible repeat (first | apply Kd.R_alloc | apply Kd.R_drewN | apply Kd.R_drew)); exact (Kd.R_mono (Kd.R_far (p := ⟨u, 0, none⟩) (Kd.R_types F.out B.out (by decide)) (fun _ hk => hk.2) (.slice e1 T.length d7)) (fun _ h_ => h_.1))))) (below_size qB_)); replace F := am_ (Kd.R_elder' (by (with_reducible repeat (first | apply Kd.R_alloc | apply Kd.R_drewN | apply Kd.R_drew)); exact (Kd.R_mono (Kd.R_far (p := ⟨u, 0, none⟩) (Kd.R_types F.out B.out (by decide)) (fun _ hk => hk.2) (.slice e1 T.length d7)) (fun _ h_ => h_.1))) (Kd.R_base ho0) hb); replace d := qbl_ d hb; replace s := qbl_ s hb; replace B := am_ (blk_below (g := u) (o := .cells #[.slice e1 T.length d7] 44 (0, 0)) (qp_ B) hb); replace HB := hs_ hb; clear hb ho0) | ((with_reducible refine gd_ 12 ?_); refine by_ 12 (cs := #[.slice none 0 0]) (t := 44) ?_; intro i9 hg j3 h8 hb; have m7 := gw_ hg; obtain ⟨m8, j4⟩ := qn_ d hg; obtain ⟨m9, j5⟩ := qn_ s hg; obtain ⟨n0, j6⟩ := qn_ B hg; replace F := kb_ F hb; replace e4 := kb_ e4 hb; replace d := qbl_ d hb; replace s := qbl_ s hb; replace B := qbl_ B hb; replace HB := hs_ hb; clear hb hg; obtain ⟨g0, g1, j7⟩ := Kd.R_slice e4.out; subst j7; obtain ⟨n1, n2⟩ := nn_ j4; obtain ⟨n3, n4⟩ := nn_ j5; obtain ⟨n5, j0⟩ := nn_ j6; obtain ⟨n6, n7⟩ := bc1_ h8; obtain ⟨j1, j2⟩ := nn_ d9; obtain ⟨n8, n9⟩ := bc1_ s))
 refine bodyPost_ret (results_ct rfl _ _ D 44 #[.slice g0 e3.length g1] (0, 0) _ rfl (qp_ s) Try.underlying44 rfl (by kernel_rfl)) rfl ?_
 exact ⟨_, qr_, by (with_reducible repeat (first | apply Kd.R_alloc | apply Kd.R_drewN | apply Kd.R_drew)); exact Kd.R_mono (Kd.R_far (p := ⟨D, 0, none⟩) (Kd.R_far (p := ⟨i9, 0, none⟩) (Kd.R_types (Kd.R_types e4.out h8.out (by decide)) s.out (by decide)) (fun _ hk => hk.1.2) (.slice g0 e3.length g1)) (fun _ hk => hk.2) (.slice g0 e3.length g1)) (fun _ hk => trivial), qB_⟩
end Go.Proofs.Ytacnlodcbbhahaa.QFnActs
