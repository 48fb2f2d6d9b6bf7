import Derived.Test.YtbkklafkoegdpaaQFnExactWebTakex12
namespace Go.Proofs.Ytbkklafkoegdpaa.QFnExactWebTake
open Go.RowKit Go.Proofs.YtbkklafkoegdpaaW.PrintWords Go.Proofs.YtbkklafkoegdpaaW.PrintLast Go.Proofs.YtbkklafkoegdpaaW.PrintMore
set_option linter.unusedVariables false
set_option linter.unusedSimpArgs false
set_option maxHeartbeats 8000000
set_option maxRecDepth 100000
mutual
def spec_l08Search.j0 : Nat → Int → List (S72) → List Int → Int → List (S72) → Option ((List (S72)) × Int)
  | 0, _, _, _, _, _ => none
  | k + 1, x2, x8, x11, x321000, x321001 => if (wrap64 (x2 + 1)) > 4 then (spec_l08Search.j1 k x2 x8 x11 4 x321000 x321001) else (spec_l08Search.j1 k x2 x8 x11 (wrap64 (x2 + 1)) x321000 x321001)
def spec_l08Search.j1 : Nat → Int → List (S72) → List Int → Int → Int → List (S72) → Option ((List (S72)) × Int)
  | 0, _, _, _, _, _, _ => none
  | k + 1, x2, x8, x11, x13, x321000, x321001 => spec_l08Search.l0 k x2 x8 x11 x13 0 x321000 x321001
def spec_l08Search.l0 : Nat → Int → List (S72) → List Int → Int → Int → Int → List (S72) → Option ((List (S72)) × Int)
  | 0, _, _, _, _, _, _, _ => none
  | k + 1, x2, x8, x11, x13, x14, x321000, x321001 => if x14 < (x8.length : Int) then (if 0 ≤ x14 then (if (rd_T72 x8 x14).f3 = true then (if ((rd_T72 x8 x14).f2) = x2 then ((spec_l05In.f k x11 ((rd_T72 x8 x14).f0)).bind fun t347 => (if t347 = true then (spec_l08Search.l0 k x2 (x8.set (x14 : Int).toNat (⟨(rd_T72 x8 x14).f0, (rd_T72 x8 x14).f1, x13, (rd_T72 x8 x14).f3⟩ : S72)) x11 x13 (wrap64 (x14 + 1)) x321000 x321001) else (spec_l08Search.l0 k x2 x8 x11 x13 (wrap64 (x14 + 1)) x321000 x321001))) else (spec_l08Search.l0 k x2 x8 x11 x13 (wrap64 (x14 + 1)) x321000 x321001)) else (spec_l08Search.l0 k x2 x8 x11 x13 (wrap64 (x14 + 1)) x321000 x321001)) else (none)) else (spec_l08Search.l1 k x2 x8 x11 x13 0 x321000 x321001)
def spec_l08Search.l1 : Nat → Int → List (S72) → List Int → Int → Int → Int → List (S72) → Option ((List (S72)) × Int)
  | 0, _, _, _, _, _, _, _ => none
  | k + 1, x2, x8, x11, x13, x15, x321000, x321001 => if x15 < (x8.length : Int) then (if 0 ≤ x15 then ((spec_l05In.f k x11 ((rd_T72 x8 x15).f0)).bind fun t350 => ((spec_l05In.f k x11 ((rd_T72 x8 x15).f1)).bind fun t352 => (if x15 < (x321001.length : Int) then (if (rd_T72 x321001 x15).f3 = true then (spec_l08Search.j4 k x2 x8 x11 x13 x15 t350 t352 true x321000 x321001) else (if ((rd_T72 x321001 x15).f2) = x2 then (if t350 = true then (spec_l08Search.j4 k x2 x8 x11 x13 x15 t350 t352 false x321000 x321001) else (spec_l08Search.j4 k x2 x8 x11 x13 x15 t350 t352 (!t352) x321000 x321001)) else (spec_l08Search.j4 k x2 x8 x11 x13 x15 t350 t352 true x321000 x321001))) else (none)))) else (none)) else (some (x8, (-1)))
def spec_l08Search.j4 : Nat → Int → List (S72) → List Int → Int → Int → Bool → Bool → Bool → Int → List (S72) → Option ((List (S72)) × Int)
  | 0, _, _, _, _, _, _, _, _, _, _ => none
  | k + 1, x2, x8, x11, x13, x15, x16, x17, x133, x321000, x321001 => if x133 = true then (spec_l08Search.l1 k x2 x8 x11 x13 (wrap64 (x15 + 1)) x321000 x321001) else (if x16 = true then (if x17 = true then (if 0 ≤ x15 then (if x15 < (x8.length : Int) then (spec_l08Search.l1 k x2 (x8.set (x15 : Int).toNat (⟨(rd_T72 x8 x15).f0, (rd_T72 x8 x15).f1, x13, (rd_T72 x8 x15).f3⟩ : S72)) x11 x13 (wrap64 (x15 + 1)) x321000 x321001) else (none)) else (none)) else (if 0 ≤ x15 then (if x15 < (x8.length : Int) then (some ((x8.set (x15 : Int).toNat (⟨(rd_T72 x8 x15).f0, (rd_T72 x8 x15).f1, (rd_T72 x8 x15).f2, true⟩ : S72)), x15)) else (none)) else (none))) else (if 0 ≤ x15 then (if x15 < (x8.length : Int) then (some ((x8.set (x15 : Int).toNat (⟨(rd_T72 x8 x15).f0, (rd_T72 x8 x15).f1, (rd_T72 x8 x15).f2, true⟩ : S72)), x15)) else (none)) else (none)))
end
def spec_l08Search.f (k : Nat) (a0_0 : Int) (l0_1 : List (S72)) (a1_0 : Int) (a1_1 : Int) (a2 : Int) : Option ((List (S72)) × Int) := (some (([] : List (S72)) : List (S72))).bind fun y322 => (if y322.length + l0_1.length < 4398046511104 then ((some (y322 ++ l0_1 : List (S72))).bind fun y325 => ((spec_ForestAt.f k a0_0 l0_1 a2).bind fun bt328 => ((spec_TreeOf.f k bt328.1 bt328.2.1 a1_0).bind fun t334 => (if 0 ≤ t334 then (if t334 < (bt328.2.1.length : Int) then ((spec_VertsOf.f k (rd_L5 bt328.2.1 t334)).bind fun t336 => ((spec_TreeOf.f k bt328.1 bt328.2.1 a1_1).bind fun t339 => (if 0 ≤ t339 then (if t339 < (bt328.2.1.length : Int) then ((spec_VertsOf.f k (rd_L5 bt328.2.1 t339)).bind fun t341 => (if (t341.length : Int) < (t336.length : Int) then (spec_l08Search.j0 k a2 y325 t341 a0_0 l0_1) else (spec_l08Search.j0 k a2 y325 t336 a0_0 l0_1))) else (none)) else (none)))) else (none)) else (none))))) else (none))
theorem spec_l08Search.mono_l : ∀ k, (∀ y0 y1 y2 y3 y4, LeO (spec_l08Search.j0 k y0 y1 y2 y3 y4) (spec_l08Search.j0 (k + 1) y0 y1 y2 y3 y4)) ∧ (∀ y0 y1 y2 y3 y4 y5, LeO (spec_l08Search.j1 k y0 y1 y2 y3 y4 y5) (spec_l08Search.j1 (k + 1) y0 y1 y2 y3 y4 y5)) ∧ (∀ y0 y1 y2 y3 y4 y5 y6, LeO (spec_l08Search.l0 k y0 y1 y2 y3 y4 y5 y6) (spec_l08Search.l0 (k + 1) y0 y1 y2 y3 y4 y5 y6)) ∧ (∀ y0 y1 y2 y3 y4 y5 y6, LeO (spec_l08Search.l1 k y0 y1 y2 y3 y4 y5 y6) (spec_l08Search.l1 (k + 1) y0 y1 y2 y3 y4 y5 y6)) ∧ (∀ y0 y1 y2 y3 y4 y5 y6 y7 y8 y9, LeO (spec_l08Search.j4 k y0 y1 y2 y3 y4 y5 y6 y7 y8 y9) (spec_l08Search.j4 (k + 1) y0 y1 y2 y3 y4 y5 y6 y7 y8 y9))
  | 0 => ⟨fun _ _ _ _ _ r h => by simp [spec_l08Search.j0] at h, fun _ _ _ _ _ _ r h => by simp [spec_l08Search.j1] at h, fun _ _ _ _ _ _ _ r h => by simp [spec_l08Search.l0] at h, fun _ _ _ _ _ _ _ r h => by simp [spec_l08Search.l1] at h, fun _ _ _ _ _ _ _ _ _ _ r h => by simp [spec_l08Search.j4] at h⟩
  | k + 1 => by
    obtain ⟨ih0, ih1, ih2, ih3, ih4⟩ := spec_l08Search.mono_l k
    have m0 := @spec_ForestAt.mono; have m1 := @spec_TreeOf.mono; have m2 := @spec_VertsOf.mono; have m3 := @spec_l05In.mono
    refine ⟨?_, ?_, ?_, ?_, ?_⟩ <;> (intros; first | unfold spec_l08Search.j0 | unfold spec_l08Search.j1 | unfold spec_l08Search.l0 | unfold spec_l08Search.l1 | unfold spec_l08Search.j4) <;> exact lo_
theorem spec_l08Search.mono : ∀ a0 a1 a2 a3 a4 k, LeO (spec_l08Search.f k a0 a1 a2 a3 a4) (spec_l08Search.f (k + 1) a0 a1 a2 a3 a4) := by
  intro a0 a1 a2 a3 a4 k
  obtain ⟨ih0, ih1, ih2, ih3, ih4⟩ := spec_l08Search.mono_l k
  have m0 := @spec_ForestAt.mono; have m1 := @spec_TreeOf.mono; have m2 := @spec_VertsOf.mono; have m3 := @spec_l05In.mono
  unfold spec_l08Search.f
  exact lo_
def spec_l08Search.T3 : Bool × List (List Nat × List Nat) := (true, [([], []), ([0], [0]), ([], []), ([], []), ([3], [3]), ([2, 4], [2, 4]), ([1, 5], [1, 5]), ([6], [6]), ([7, 5], [7]), ([8, 8, 0, 1, 2, 3, 4, 5, 6, 7, 8], [8])])
def spec_l08Search.B3 : List Nat := [0, 1, 0, 0, 8, 28, 63, 127, 255, 511]
theorem spec_l08Search.tab3 : rtab .any (opsOf Try.f93 3) = spec_l08Search.T3 := by kernel_rfl
theorem spec_l08Search.bits3 : waitsOk spec_l08Search.T3.2 spec_l08Search.B3 = true := by kernel_rfl
def spec_l08Search.T4 : Bool × List (List Nat × List Nat) := (true, [([], []), ([0], [0]), ([], []), ([], []), ([3], [3]), ([2, 4], [2, 4]), ([1, 5], [1, 5]), ([6], [6]), ([7, 5], [7]), ([8, 8, 0, 1, 2, 3, 4, 5, 6, 7, 8], [8])])
def spec_l08Search.B4 : List Nat := [0, 1, 0, 0, 8, 28, 63, 127, 255, 511]
theorem spec_l08Search.tab4 : rtab .any (opsOf Try.f93 4) = spec_l08Search.T4 := by kernel_rfl
theorem spec_l08Search.bits4 : waitsOk spec_l08Search.T4.2 spec_l08Search.B4 = true := by kernel_rfl
theorem spec_l08Search.calls (k : Nat) (D : Int) (a1 : Option Addr) (a2 : Nat) (m : List (S72)) (G : Int) (I : Int) (b8 : Int) (o7 : List (S72)) (o8 : Int) (w : World) (hr0_1 : Kd.C k72 w a1 m.length m) (hc0_1 : m.length ≤ a2) (h : spec_l08Search.f k D m G I b8 = some (o7, o8)) :
  Calls Try.prog 93 #[.agg #[.int .i64 D, .slice a1 m.length a2], .agg #[.int .i64 G, .int .i64 I], .int .i64 b8] w fun e w' => ∃ x0 : Value, e = .returned (.tuple #[x0, .int .i64 o8]) ∧ Kd.R k72 72 w' w.heap.size (fun _ => True) x0 o7 ∧ Below w.heap.size w w' := by
 have hu29 := Try.underlying29; have hu43 := Try.underlying43; have hu39 := Try.underlying39
 have Y := am_ hr0_1
 have r7 := am_ hc0_1
 clear hr0_1 hc0_1
 have HB := am_ (Below.refl w.heap.size w)
 have H : ((some (([] : List (S72)) : List (S72))).bind fun x1 => (if x1.length + m.length < 4398046511104 then ((some (x1 ++ m : List (S72))).bind fun n1 => ((spec_ForestAt.f k D m b8).bind fun o9 => ((spec_TreeOf.f k o9.1 o9.2.1 G).bind fun e0 => (if 0 ≤ e0 then (if e0 < (o9.2.1.length : Int) then ((spec_VertsOf.f k (rd_L5 o9.2.1 e0)).bind fun r8 => ((spec_TreeOf.f k o9.1 o9.2.1 I).bind fun e1 => (if 0 ≤ e1 then (if e1 < (o9.2.1.length : Int) then ((spec_VertsOf.f k (rd_L5 o9.2.1 e1)).bind fun r9 => (if (r9.length : Int) < (r8.length : Int) then (spec_l08Search.j0 k b8 n1 r9 D m) else (spec_l08Search.j0 k b8 n1 r8 D m))) else (none)) else (none)))) else (none)) else (none))))) else (none))) = some (o7, o8) := h
 clear h
 generalize i9 : (([] : List (S72))) = x1 at H; replace H := bh_ H; have j5 := am_ i9.symm; clear i9
 refine jg_ H ?_; clear H; intro s0 H
 have x2 := am_ s0
 clear s0
 generalize j6 : (x1 ++ m) = n1 at H; replace H := bh_ H; have s1 := am_ j6.symm; clear j6
 obtain ⟨⟨b7, E, M3⟩, M4, H⟩ := bs_ H; dsimp only at H
 obtain ⟨e0, M5, H⟩ := bs_ H
 refine ig_ H ?_; clear H; intro e3 H
 refine ig_ H ?_; clear H; intro e4 H
 obtain ⟨r8, M6, H⟩ := bs_ H
 obtain ⟨e1, F0, H⟩ := bs_ H
 refine ig_ H ?_; clear H; intro b9 H
 refine ig_ H ?_; clear H; intro c0 H
 obtain ⟨r9, F1, H⟩ := bs_ H
 have F2 := am_ H
 clear H
 go_enter Try.func93, Try.ntmps93
 try go_wp2_with (first | ((with_reducible refine gd_ 3 ?_); refine by_ 3 (cs := #[.int .i64 D, .slice a1 m.length a2]) (t := 29) ?_; intro n2 hg M7 A hb; have U2 := gw_ hg; replace HB := hs_ hb; clear hb hg) | ((with_reducible refine gd_ 4 ?_); refine by_ 4 (cs := #[.int .i64 G, .int .i64 I]) (t := 43) ?_; intro h7 hg M8 x hb; have U3 := gw_ hg; obtain ⟨x3, U4⟩ := qn_ A hg; replace A := qbl_ A hb; replace HB := hs_ hb; clear hb hg) | ((with_reducible refine gd_ 18 ?_); refine Kd.R_lit k72 _ 72 ?hg (N := 18) ?hd (xs := ([] : List (S72))) (inner := []) (ok := fun _ => True) (okp := fun _ => True) ?hr ?hp (fun _ hk => hk) trivial (Below.refl _ _) (Nat.le_refl _) (by simp) ?_; (case hd => rfl); (case hg => rfl); (case hr => first | (go_simp; done) | (go_simp; rfl)); (case hp => exact (Reps.none _ _)); intro M9 N0 ho18 hb hg_ hnew_; clear hg_ hnew_; (first | rw [← j5.out] at ho18 | (simp only [Int.reduceToNat] at ho18; rw [← j5.out] at ho18)); have A6 := am_ (Kd.R_lower ho18 (below_size qB_)); replace A := qbl_ A hb; replace x := qbl_ x hb; replace HB := hs_ hb; clear hb ho18; obtain ⟨U5, U6⟩ := nn_ x3; obtain ⟨x4, x5, x6, x7⟩ := bc2_ A) | ((with_reducible refine gate_builtin (b := .append) (xs := #[.tmp 18, .tmp 20]) rfl ?_); at_builtin; refine Kd.R_append_rows k72 (w0 := w) w.heap.size rfl (.tmp 18) (.tmp 20) 27 72 (.agg #[(.int .i64 0), (.int .i64 0), (.int .i64 0), (.bool false)]) 32 rfl Try.underlying27 info72 rfl (by decide) (by omega) M9 x1 m _ _ _ (fun _ => True) (fun _ => False) rfl rfl ?aO ?aR (fun _ _ h => h) (fun _ h => h.elim) ?aF ?aB ?aS ?aL ?_; (case aR => repeat (first | exact (Kd.C_below Y.out HB.out) | (with_reducible refine Kd.C_alloc ?_ _) | (with_reducible refine Kd.C_drewN ?_ _) | (with_reducible refine Kd.C_drew ?_))); (case aB => exact qB_); (case aF => exact (fun _ _ => trivial)); (case aO => exact (qR_ A6)); (case aS => exact (below_size qB_)); (case aL => have := x2.out; omega); intro A7 N1 ho hb hg hat; rw [← s1.out] at ho; have c1 := am_ (ho); replace A := am_ (blk_grown (qk_ A) hg (Kd.R_ne A6.out A.out (by decide))); replace x := am_ (blk_grown (qk_ x) hg (Kd.R_ne A6.out x.out (by decide))); replace HB := am_ (hb); clear A6 ho hb hg hat; obtain ⟨x8, x9, y0, y1⟩ := bc2_ A) | ((with_reducible refine gc_ 58 ?_); refine gl_ (some 25) Try.func58 #[.agg #[.int .i64 D, .slice a1 m.length a2], .int .i64 b8] ?_; (with_reducible refine (spec_ForestAt.calls k D _ _ m b8 b7 E M3 _ ?_ ?_ M4.out).mono ?_); exact qC_ Y HB; exact r7.out; rintro e N2 ⟨U7, rfl, ho0, hb⟩; refine ⟨_, rfl, ?_⟩; have a4 := am_ (Kd.S_lower ho0 (below_size qB_)); replace c1 := kb_ c1 hb; replace A := qbl_ A hb; replace x := qbl_ x hb; replace HB := hs_ hb; clear hb ho0) | ((with_reducible refine gd_ 9 ?_); refine by_ 9 (cs := #[.int .i64 0, .slice none 0 0]) (t := 39) ?_; intro a5 hg g2 B hb; have U8 := gw_ hg; obtain ⟨A8, N3⟩ := qn_ A hg; obtain ⟨U9, N4⟩ := qn_ x hg; replace c1 := kb_ c1 hb; replace a4 := am_ (Kd.S_below (qS_ a4) hb); replace A := qbl_ A hb; replace x := qbl_ x hb; replace HB := hs_ hb; clear hb hg; obtain ⟨u0, u1⟩ := nn_ N3; obtain ⟨u2, u3⟩ := nn_ N4; obtain ⟨y2, y3, y4, y5⟩ := bc2_ B; obtain ⟨j7, b3, N5⟩ := Kd.S_slice a4.out; subst N5))
 have h8 : Aside0 (Kd.R k72 72 ((g2.setCell ⟨a5, 0, none⟩ (.int .i64 b7)).setCell ⟨a5, 1, none⟩ (.slice j7 E.length b3)) w.heap.size (fun _ => True) A7 n1) := ⟨by (with_reducible repeat (first | apply Kd.R_alloc | apply Kd.R_drewN | apply Kd.R_drew)); exact Kd.R_mono (Kd.R_far (p := ⟨a5, 1, none⟩) (Kd.R_far (p := ⟨a5, 0, none⟩) (Kd.R_types c1.out B.out (by decide)) (fun _ hk => hk.2) (.int .i64 b7)) (fun _ hk => hk.2) (.slice j7 E.length b3)) (fun _ hk => trivial)⟩
 have h9 : Aside0 (Kd.S (Kd.slice 3 (Kd.int .i64)) 51 ((g2.setCell ⟨a5, 0, none⟩ (.int .i64 b7)).setCell ⟨a5, 1, none⟩ (.slice j7 E.length b3)) w.heap.size (fun _ => True) (.slice j7 E.length b3) E) := ⟨by (with_reducible repeat (first | apply Kd.S_alloc | apply Kd.S_drewN | apply Kd.S_drew)); exact Kd.S_mono (Kd.S_far (p := ⟨a5, 1, none⟩) (Kd.S_far (p := ⟨a5, 0, none⟩) (Kd.S_types a4.out B.out (by decide)) (fun _ hk => hk.2) (.int .i64 b7)) (fun _ hk => hk.2) (.slice j7 E.length b3)) (fun _ hk => trivial)⟩
 have i0 : Aside0 (((g2.setCell ⟨a5, 0, none⟩ (.int .i64 b7)).setCell ⟨a5, 1, none⟩ (.slice j7 E.length b3)).heap[n2]? = some (.cells #[.int .i64 D, .slice a1 m.length a2] 29 (0, 0))) := ⟨qf_ A⟩
 have i1 : Aside0 (((g2.setCell ⟨a5, 0, none⟩ (.int .i64 b7)).setCell ⟨a5, 1, none⟩ (.slice j7 E.length b3)).heap[h7]? = some (.cells #[.int .i64 G, .int .i64 I] 43 (0, 0))) := ⟨qf_ x⟩
 have i2 : Aside0 (((g2.setCell ⟨a5, 0, none⟩ (.int .i64 b7)).setCell ⟨a5, 1, none⟩ (.slice j7 E.length b3)).heap[a5]? = some (.cells #[.int .i64 b7, .slice j7 E.length b3] 39 (0, 0))) := ⟨qp_ B⟩
 have i3 : Aside0 (Below w.heap.size w ((g2.setCell ⟨a5, 0, none⟩ (.int .i64 b7)).setCell ⟨a5, 1, none⟩ (.slice j7 E.length b3))) := ⟨qB_⟩
 clear c1 a4 A x B HB
 generalize ((g2.setCell ⟨a5, 0, none⟩ (.int .i64 b7)).setCell ⟨a5, 1, none⟩ (.slice j7 E.length b3)) = F3 at h8 h9 i0 i1 i2 i3 ⊢
 have c1 := h8; have a4 := h9; have A := i0; have x := i1; have B := i2; have HB := i3; clear h8 h9 i0 i1 i2 i3
 replace c1 := rd_ c1; replace a4 := am_ (Kd.S_drew a4.out); replace A := bd_ A; replace x := bd_ x; replace B := bd_ B; replace HB := hd_ HB
 have a7 := dp_ e0
 have a8 := dl_ e0 E.length
 obtain ⟨z, A335_0, c335_0, y6, p0, e5, hi335_0⟩ := at_L5 (Kd.S_reads' a4.out).2.2 e0 a7 a8
 cases y6
 obtain ⟨F4, hce335, hMe335, h4⟩ := Kd.S_get a4.out [] e0 a7 (by first | exact a8 | exact of_decide_eq_true qa_ | (have e_ := (Kd.S_reads' a4.out).1; omega))
 obtain ⟨ve335_0, rfl, ge335_0⟩ := hMe335
 have hv335_0 := h4 0 _ rfl
 rw [Nat.add_zero, show ((Kd.slice 3 (Kd.int .i64))).sz = 1 from rfl, Nat.mul_one] at hv335_0
 replace hv335_0 := Option.some.inj (hv335_0.symm.trans p0)
 rw [hv335_0] at ge335_0
 have u := am_ (show Kd.R (Kd.int .i64) 3 _ _ _ _ (rd_L5 E e0) from ge335_0)
 clear hv335_0 ge335_0 h4 hce335
 have i := am_ hi335_0
 have j8 := am_ e5
 clear hi335_0 e5; replace a7 := eq_true a7; replace a8 := eq_true a8
 refine start_ (n := 10) (S := fun w' => w'.cell? ⟨a5, 0, none⟩ = some (.int .i64 b7) ∧ w'.cell? ⟨a5, 1, none⟩ = some (.slice (some z) E.length b3) ∧ w'.cell? ⟨h7, 0, none⟩ = some (.int .i64 G) ∧ w'.cell? ⟨h7, 1, none⟩ = some (.int .i64 I) ∧ w'.cell? (z.add (e0).toNat) = some (.slice A335_0 (rd_L5 E e0).length c335_0)) (ds := []) (bm 10 0) (by kernel_rfl) rfl (by kernel_rfl) ⟨bl_ B 0, bl_ B 1, bl_ x 0, bl_ x 1, p0⟩ (fun hHeld => ?_); refine with_tabW spec_l08Search.tab3 spec_l08Search.bits3 (fun HT_ HW_ => ?_)
 generalize F3.drew = N6 at c1 a4 A x B HB u i p0 hHeld ⊢
 refine pz_ 0 28 10 1 ?_; refine pz_ 3 31 10 9 ?_; refine tz5_ 1 29 10 11 ?_; refine tz5_ 2 30 10 15 ?_; refine tz5_ 4 32 10 31 ?_
 refine o1_ 5 (some 33) 10 63 (fun K hK => ?_)
 refine gs_ Try.func60 #[.agg #[.int .i64 b7, .slice (some z) E.length b3], .int .i64 G] ?_
 with_reducible refine (spec_TreeOf.calls k b7 _ _ E G e0 _ ?side1 ?side2 M5.out).mono ?_
 (case side1 => exact qD_ (Kd.S_reads' a4.out).2.2)
 (case side2 => exact (Kd.S_reads' a4.out).2.1)
 rintro e N7 ⟨rfl, hb⟩
 replace u := am_ (Kd.R_below u.out hb)
 replace i := am_ (Kd.C_below i.out hb)
 have HS4_ := (hb.cell (World.block_lt_of_cell? _ _ (hHeld.2.2.2.2))).trans (hHeld.2.2.2.2)
 refine ⟨_, rfl, ?_⟩
 replace c1 := kb_ c1 hb; replace a4 := am_ (Kd.S_below (qS_ a4) hb); replace A := qbl_ A hb; replace x := qbl_ x hb; replace B := qbl_ B hb; replace HB := hs_ hb; clear hb
 refine hK.out _ _ ⟨bl_ B 0, bl_ B 1, bl_ x 0, bl_ x 1, HS4_⟩ (fun hHeld => ?_)
 clear hK K
 refine nm_ 33 ?_
 refine pz_ 6 34 10 127 ?_; refine tz5_ 7 35 10 255 ?_
 refine o1_ 8 (some 36) 10 511 (fun K hK => ?_)
 refine gs_ Try.func59 #[.slice A335_0 (rd_L5 E e0).length c335_0] ?_
 with_reducible refine (spec_VertsOf.calls k _ _ (rd_L5 E e0) r8 _ ?side1 ?side2 M6.out).mono ?_
 (case side1 => repeat (first | exact (by repeat (first | (with_reducible exact i.out) | (with_reducible refine Kd.C_alloc ?_ _) | (with_reducible refine Kd.C_drewN ?_ _) | (with_reducible refine Kd.C_drew ?_) | exact i.out)) | (with_reducible refine Kd.C_alloc ?_ _) | (with_reducible refine Kd.C_drewN ?_ _) | (with_reducible refine Kd.C_drew ?_)))
 (case side2 => exact j8.out)
 rintro e F5 ⟨V0, rfl, ho0, hb⟩
 have HS4_ := (hb.cell (World.block_lt_of_cell? _ _ (hHeld.2.2.2.2))).trans (hHeld.2.2.2.2)
 refine ⟨_, rfl, ?_⟩
 have m9 := am_ (Kd.R_lower (Kd.R_new' ho0 (Kd.R_lt (qR_ u))) (below_size qB_)); replace c1 := kb_ c1 hb; replace a4 := am_ (Kd.S_elder' (qS_ a4) (Kd.R_base ho0) hb); replace u := ke_ u ho0 hb; replace A := qbl_ A hb; replace x := qbl_ x hb; replace B := qbl_ B hb; replace i := am_ (Kd.C_below (by repeat (first | (with_reducible exact i.out) | (with_reducible refine Kd.C_alloc ?_ _) | (with_reducible refine Kd.C_drewN ?_ _) | (with_reducible refine Kd.C_drew ?_) | exact i.out)) hb); replace HB := hs_ hb; clear hb ho0
 refine hK.out _ _ ⟨bl_ B 0, bl_ B 1, bl_ x 0, bl_ x 1, HS4_⟩ (fun hHeld => ?_)
 clear hK K
 refine nm_ 36 ?_
 refine pz_ 9 11 10 1023 ?_
 refine done_ (done_of HT_.out (by kernel_rfl)) ?_
 try go_wp2
 replace c1 := rd_ c1; replace a4 := am_ (Kd.S_drew a4.out); replace u := rd_ u; replace m9 := rd_ m9; replace A := bd_ A; replace x := bd_ x; replace B := bd_ B; replace i := am_ (Kd.C_drew i.out); replace HB := hd_ HB
 have a9 := dp_ e1
 have b0 := dl_ e1 E.length
 obtain ⟨s2, A340_0, c340_0, y7, p1, e6, hi340_0⟩ := at_L5 (Kd.S_reads' a4.out).2.2 e1 a9 b0
 obtain rfl : z = s2 := (by injection y7)
 obtain ⟨F6, hce340, hMe340, h5⟩ := Kd.S_get a4.out [] e1 a9 (by first | exact b0 | exact of_decide_eq_true qa_ | (have e_ := (Kd.S_reads' a4.out).1; omega))
 obtain ⟨ve340_0, rfl, ge340_0⟩ := hMe340
 have hv340_0 := h5 0 _ rfl
 rw [Nat.add_zero, show ((Kd.slice 3 (Kd.int .i64))).sz = 1 from rfl, Nat.mul_one] at hv340_0
 replace hv340_0 := Option.some.inj (hv340_0.symm.trans p1)
 rw [hv340_0] at ge340_0
 have X := am_ (show Kd.R (Kd.int .i64) 3 _ _ _ _ (rd_L5 E e1) from ge340_0)
 clear hv340_0 ge340_0 h5 hce340
 have q := am_ hi340_0
 have j9 := am_ e6
 clear hi340_0 e6; replace a9 := eq_true a9; replace b0 := eq_true b0
 refine start_ (n := 10) (S := fun w' => w'.cell? ⟨a5, 0, none⟩ = some (.int .i64 b7) ∧ w'.cell? ⟨a5, 1, none⟩ = some (.slice (some z) E.length b3) ∧ w'.cell? ⟨h7, 0, none⟩ = some (.int .i64 G) ∧ w'.cell? ⟨h7, 1, none⟩ = some (.int .i64 I) ∧ w'.cell? (z.add (e1).toNat) = some (.slice A340_0 (rd_L5 E e1).length c340_0)) (ds := []) (bm 10 0) (by kernel_rfl) rfl (by kernel_rfl) ⟨bl_ B 0, bl_ B 1, bl_ x 0, bl_ x 1, p1⟩ (fun hHeld => ?_); refine with_tabW spec_l08Search.tab4 spec_l08Search.bits4 (fun HT_ HW_ => ?_)
 generalize F5.drew = N8 at c1 a4 u m9 A x B i HB X q p1 hHeld ⊢
 refine pz_ 0 37 10 1 ?_; refine pz_ 3 40 10 9 ?_; refine tz5_ 1 38 10 11 ?_; refine tz5_ 2 39 10 15 ?_; refine tz5_ 4 41 10 31 ?_
 refine o1_ 5 (some 42) 10 63 (fun K hK => ?_)
 refine gs_ Try.func60 #[.agg #[.int .i64 b7, .slice (some z) E.length b3], .int .i64 I] ?_
 with_reducible refine (spec_TreeOf.calls k b7 _ _ E I e1 _ ?side1 ?side2 F0.out).mono ?_
 (case side1 => exact qD_ (Kd.S_reads' a4.out).2.2)
 (case side2 => exact (Kd.S_reads' a4.out).2.1)
 rintro e N9 ⟨rfl, hb⟩
 replace X := am_ (Kd.R_below X.out hb)
 replace q := am_ (Kd.C_below q.out hb)
 have HS4_ := (hb.cell (World.block_lt_of_cell? _ _ (hHeld.2.2.2.2))).trans (hHeld.2.2.2.2)
 refine ⟨_, rfl, ?_⟩
 replace c1 := kb_ c1 hb; replace a4 := am_ (Kd.S_below (qS_ a4) hb); replace u := kb_ u hb; replace m9 := kb_ m9 hb; replace A := qbl_ A hb; replace x := qbl_ x hb; replace B := qbl_ B hb; replace i := am_ (Kd.C_below (by repeat (first | (with_reducible exact i.out) | (with_reducible refine Kd.C_alloc ?_ _) | (with_reducible refine Kd.C_drewN ?_ _) | (with_reducible refine Kd.C_drew ?_) | exact i.out)) hb); replace HB := hs_ hb; clear hb
 refine hK.out _ _ ⟨bl_ B 0, bl_ B 1, bl_ x 0, bl_ x 1, HS4_⟩ (fun hHeld => ?_)
 clear hK K
 refine nm_ 42 ?_
 refine pz_ 6 43 10 127 ?_; refine tz5_ 7 44 10 255 ?_
 refine o1_ 8 (some 45) 10 511 (fun K hK => ?_)
 refine gs_ Try.func59 #[.slice A340_0 (rd_L5 E e1).length c340_0] ?_
 with_reducible refine (spec_VertsOf.calls k _ _ (rd_L5 E e1) r9 _ ?side1 ?side2 F1.out).mono ?_
 (case side1 => repeat (first | exact (by repeat (first | (with_reducible exact q.out) | (with_reducible refine Kd.C_alloc ?_ _) | (with_reducible refine Kd.C_drewN ?_ _) | (with_reducible refine Kd.C_drew ?_) | exact q.out)) | (with_reducible refine Kd.C_alloc ?_ _) | (with_reducible refine Kd.C_drewN ?_ _) | (with_reducible refine Kd.C_drew ?_)))
 (case side2 => exact j9.out)
 rintro e O0 ⟨V1, rfl, ho0, hb⟩
 have HS4_ := (hb.cell (World.block_lt_of_cell? _ _ (hHeld.2.2.2.2))).trans (hHeld.2.2.2.2)
 refine ⟨_, rfl, ?_⟩
 have H8 := am_ (Kd.R_lower (Kd.R_new' (Kd.R_new' (Kd.R_new' ho0 (Kd.R_lt (qR_ u))) (Kd.R_lt (qR_ m9))) (Kd.R_lt (qR_ X))) (below_size qB_)); replace c1 := kb_ c1 hb; replace a4 := am_ (Kd.S_elder' (qS_ a4) (Kd.R_base ho0) hb); replace u := ke_ u ho0 hb; replace m9 := ke_ m9 ho0 hb; replace X := ke_ X ho0 hb; replace A := qbl_ A hb; replace x := qbl_ x hb; replace B := qbl_ B hb; replace i := am_ (Kd.C_below (by repeat (first | (with_reducible exact i.out) | (with_reducible refine Kd.C_alloc ?_ _) | (with_reducible refine Kd.C_drewN ?_ _) | (with_reducible refine Kd.C_drew ?_) | exact i.out)) hb); replace q := am_ (Kd.C_below (by repeat (first | (with_reducible exact q.out) | (with_reducible refine Kd.C_alloc ?_ _) | (with_reducible refine Kd.C_drewN ?_ _) | (with_reducible refine Kd.C_drew ?_) | exact q.out)) hb); replace HB := hs_ hb; clear hb ho0
 refine hK.out _ _ ⟨bl_ B 0, bl_ B 1, bl_ x 0, bl_ x 1, HS4_⟩ (fun hHeld => ?_)
 clear hK K
 refine nm_ 45 ?_
 refine pz_ 9 12 10 1023 ?_
 refine done_ (done_of HT_.out (by kernel_rfl)) ?_
 obtain ⟨V2, V3, O1⟩ := Kd.R_slice H8.out
 subst O1
 obtain ⟨V4, V5, O2⟩ := Kd.R_slice m9.out
 subst O2
 go_upto_if 50 with (fail)
 go_cut [11] (fun v11 wc => ∃ (kq : Nat) (o : List Int), Aside0 (spec_l08Search.j0 kq b8 n1 o D m = some (o7, o8)) ∧ Aside0 (kq ≤ k) ∧ Aside0 (Kd.R k72 72 wc w.heap.size (fun _ => True) A7 n1) ∧ Aside0 (Kd.R (Kd.int .i64) 3 wc w.heap.size (fun _ => True) v11 o) ∧ Aside0 (Kd.S (Kd.slice 3 (Kd.int .i64)) 51 wc w.heap.size (fun k_ => some k_ ≠ (v11 : Value).ownBlock) (.slice (some z) E.length b3) E) ∧ Aside0 (wc.heap[n2]? = some (.cells #[.int .i64 D, (.slice a1 m.length a2)] 29 (0, 0))) ∧ Aside0 (wc.heap[h7]? = some (.cells #[.int .i64 G, .int .i64 I] 43 (0, 0))) ∧ Aside0 (wc.heap[a5]? = some (.cells #[.int .i64 b7, (.slice (some z) E.length b3)] 39 (0, 0))) ∧ Aside0 (Kd.C (Kd.int .i64) wc A335_0 (rd_L5 E e0).length (rd_L5 E e0)) ∧ Aside0 (Kd.C (Kd.int .i64) wc A340_0 (rd_L5 E e1).length (rd_L5 E e1)) ∧ Aside0 (Below w.heap.size w wc))
 case first =>
  have H := F2.out; clear F2
  refine jc_ H ?_ ?_ <;> clear H <;> intro c2 H
  ·have U := decide_eq_true c2
   have a3 : decide (r9.length < r8.length) = true := decide_eq_true (Int.ofNat_lt.mp c2)
   clear c2
   (first | rw [U] | rw [a3] | (simp only [i64_w, i32_w]; rw [U]) | skip)
   have H' := am_ H; clear H
   go_wp2
   go_meet
   case rel => exact ⟨_, (r9), H', ⟨qo_⟩, ⟨ra_ c1⟩, ⟨by (with_reducible repeat (first | apply Kd.R_alloc | apply Kd.R_drewN | apply Kd.R_drew)); exact Kd.R_mono H8.out (fun _ hk => trivial)⟩, ⟨by (with_reducible repeat (first | apply Kd.S_alloc | apply Kd.S_drewN | apply Kd.S_drew)); exact Kd.S_mono a4.out (fun _ hk => hk.2)⟩, ⟨qk_ A⟩, ⟨qk_ x⟩, ⟨qk_ B⟩, ⟨by repeat (first | (with_reducible exact i.out) | (with_reducible refine Kd.C_alloc ?_ _) | (with_reducible refine Kd.C_drewN ?_ _) | (with_reducible refine Kd.C_drew ?_) | exact i.out)⟩, ⟨by repeat (first | (with_reducible exact q.out) | (with_reducible refine Kd.C_alloc ?_ _) | (with_reducible refine Kd.C_drewN ?_ _) | (with_reducible refine Kd.C_drew ?_) | exact q.out)⟩, ⟨qB_⟩⟩
  have U := decide_eq_false c2
  have a3 : decide (r9.length < r8.length) = false := decide_eq_false (fun h => c2 (Int.ofNat_lt.mpr h))
  clear c2
  (first | rw [U] | rw [a3] | (simp only [i64_w, i32_w]; rw [U]) | skip)
  have H' := am_ H; clear H
  go_wp2
  go_meet
  case rel => exact ⟨_, (r8), H', ⟨qo_⟩, ⟨ra_ c1⟩, ⟨by (with_reducible repeat (first | apply Kd.R_alloc | apply Kd.R_drewN | apply Kd.R_drew)); exact Kd.R_mono m9.out (fun _ hk => trivial)⟩, ⟨by (with_reducible repeat (first | apply Kd.S_alloc | apply Kd.S_drewN | apply Kd.S_drew)); exact Kd.S_mono a4.out (fun _ hk => hk.1.2)⟩, ⟨qk_ A⟩, ⟨qk_ x⟩, ⟨qk_ B⟩, ⟨by repeat (first | (with_reducible exact i.out) | (with_reducible refine Kd.C_alloc ?_ _) | (with_reducible refine Kd.C_drewN ?_ _) | (with_reducible refine Kd.C_drew ?_) | exact i.out)⟩, ⟨by repeat (first | (with_reducible exact q.out) | (with_reducible refine Kd.C_alloc ?_ _) | (with_reducible refine Kd.C_drewN ?_ _) | (with_reducible refine Kd.C_drew ?_) | exact q.out)⟩, ⟨qB_⟩⟩
 case rest =>
  clear F2 e3 e4 b9 c0 x4 x5 x8 x9 y2 y3 x6 x7 y0 y1 y4 y5 p0 p1 a7 a9 a8 b0
  obtain ⟨kq, o, HA, e2, s, F, J, A, x, B, i, q, HB⟩ := hcut
  cases kq with
  | zero => exact absurd HA.out (by simp [spec_l08Search.j0])
  | succ kj13 =>
   have H := HA.out; clear HA
   simp only [spec_l08Search.j0] at H
   have F7 := am_ H
   clear H
   go_upto_if 55 with (fail)
   go_cut [13] (fun v13 wc => ∃ (kq : Nat) (y : Int), v13 = .int .i64 y ∧ Aside0 (spec_l08Search.j1 kq b8 n1 o y D m = some (o7, o8)) ∧ Aside0 (kq ≤ kj13) ∧ Aside0 (Kd.R k72 72 wc w.heap.size (fun _ => True) A7 n1) ∧ Aside0 (Kd.R (Kd.int .i64) 3 wc w.heap.size (fun _ => True) u11 o) ∧ Aside0 (Kd.S (Kd.slice 3 (Kd.int .i64)) 51 wc w.heap.size (fun k_ => some k_ ≠ (u11 : Value).ownBlock) (.slice (some z) E.length b3) E) ∧ Aside0 (wc.heap[n2]? = some (.cells #[.int .i64 D, (.slice a1 m.length a2)] 29 (0, 0))) ∧ Aside0 (wc.heap[h7]? = some (.cells #[.int .i64 G, .int .i64 I] 43 (0, 0))) ∧ Aside0 (wc.heap[a5]? = some (.cells #[.int .i64 b7, (.slice (some z) E.length b3)] 39 (0, 0))) ∧ Aside0 (Kd.C (Kd.int .i64) wc A335_0 (rd_L5 E e0).length (rd_L5 E e0)) ∧ Aside0 (Kd.C (Kd.int .i64) wc A340_0 (rd_L5 E e1).length (rd_L5 E e1)) ∧ Aside0 (Below w.heap.size w wc))
   case first =>
    have H := F7.out; clear F7
    refine jc_ H ?_ ?_ <;> clear H <;> intro f5 H
    ·have Z : decide (4 < (wrap64 (b8 + 1))) = true := decide_eq_true f5
     clear f5
     (first | rw [Z] | (simp only [i64_w, i32_w]; rw [Z]) | skip)
     have H' := am_ H; clear H
     go_wp2
     go_meet
     case rel => exact ⟨_, (4), qe_, H', ⟨by have := e2.out; first | omega | exact Nat.le_refl _⟩, ⟨ra_ s⟩, ⟨ra_ F⟩, ⟨by (with_reducible repeat (first | apply Kd.S_alloc | apply Kd.S_drewN | apply Kd.S_drew)); first | exact J.out | (have h_ := J.out; simp only [own_slice] at h_ ⊢; exact h_)⟩, ⟨qk_ A⟩, ⟨qk_ x⟩, ⟨qk_ B⟩, ⟨by repeat (first | (with_reducible exact i.out) | (with_reducible refine Kd.C_alloc ?_ _) | (with_reducible refine Kd.C_drewN ?_ _) | (with_reducible refine Kd.C_drew ?_) | exact i.out)⟩, ⟨by repeat (first | (with_reducible exact q.out) | (with_reducible refine Kd.C_alloc ?_ _) | (with_reducible refine Kd.C_drewN ?_ _) | (with_reducible refine Kd.C_drew ?_) | exact q.out)⟩, ⟨qB_⟩⟩
    have Z : decide (4 < (wrap64 (b8 + 1))) = false := decide_eq_false f5
    clear f5
    (first | rw [Z] | (simp only [i64_w, i32_w]; rw [Z]) | skip)
    have H' := am_ H; clear H
    go_wp2
    go_meet
    case rel => exact ⟨_, (wrap64 (b8 + 1)), qe_, H', ⟨by have := e2.out; first | omega | exact Nat.le_refl _⟩, ⟨ra_ s⟩, ⟨ra_ F⟩, ⟨by (with_reducible repeat (first | apply Kd.S_alloc | apply Kd.S_drewN | apply Kd.S_drew)); first | exact J.out | (have h_ := J.out; simp only [own_slice] at h_ ⊢; exact h_)⟩, ⟨qk_ A⟩, ⟨qk_ x⟩, ⟨qk_ B⟩, ⟨by repeat (first | (with_reducible exact i.out) | (with_reducible refine Kd.C_alloc ?_ _) | (with_reducible refine Kd.C_drewN ?_ _) | (with_reducible refine Kd.C_drew ?_) | exact i.out)⟩, ⟨by repeat (first | (with_reducible exact q.out) | (with_reducible refine Kd.C_alloc ?_ _) | (with_reducible refine Kd.C_drewN ?_ _) | (with_reducible refine Kd.C_drew ?_) | exact q.out)⟩, ⟨qB_⟩⟩
   case rest =>
    clear F7
    obtain ⟨kq, y, rfl, HA, g0, s, F, J, A, x, B, i, q, HB⟩ := hcut
    cases kq with
    | zero => exact absurd HA.out (by simp [spec_l08Search.j1])
    | succ kj38 =>
     have H := HA.out; clear HA
     simp only [spec_l08Search.j1] at H
     have H' := am_ H; clear H
     go_wp2
     go_loopg [14] kj38 (fun kq v14 w' => ∃ (l : List (S72)) (c : Int), v14 = .int .i64 c ∧ Aside0 (spec_l08Search.l0 kq b8 l o y c D m = some (o7, o8)) ∧ Aside0 (kq ≤ kj38) ∧ Aside0 (Kd.R k72 72 w' w.heap.size (fun _ => True) A7 l) ∧ Aside0 (Kd.R (Kd.int .i64) 3 w' w.heap.size (fun _ => True) u11 o) ∧ Aside0 (Kd.S (Kd.slice 3 (Kd.int .i64)) 51 w' w.heap.size (fun k_ => some k_ ≠ (u11 : Value).ownBlock) (.slice (some z) E.length b3) E) ∧ Aside0 (w'.heap[n2]? = some (.cells #[.int .i64 D, (.slice a1 m.length a2)] 29 (0, 0))) ∧ Aside0 (w'.heap[h7]? = some (.cells #[.int .i64 G, .int .i64 I] 43 (0, 0))) ∧ Aside0 (w'.heap[a5]? = some (.cells #[.int .i64 b7, (.slice (some z) E.length b3)] 39 (0, 0))) ∧ Aside0 (Below w.heap.size w w'))
     case atStart => exact ⟨(n1), (0), qe_, H', ⟨Nat.le_refl _⟩, ⟨ra_ s⟩, ⟨ra_ F⟩, ⟨by (with_reducible repeat (first | apply Kd.S_alloc | apply Kd.S_drewN | apply Kd.S_drew)); first | exact J.out | (have h_ := J.out; simp only [own_slice] at h_ ⊢; exact h_)⟩, ⟨qk_ A⟩, ⟨qk_ x⟩, ⟨qk_ B⟩, ⟨qB_⟩⟩
     case round =>
      clear H'
      obtain ⟨l, c, rfl, HA, HK3, s, F, J, A, x, B, HB⟩ := hrel
      cases gk with
      | zero => exact absurd HA.out (by simp [spec_l08Search.l0])
      | succ p5 =>
       have H := HA.out; clear HA
       simp only [spec_l08Search.l0] at H
       refine ic_ H ?_ ?_ <;> clear H <;> intro k0 H
       ·refine ig_ H ?_; clear H; intro k1 H
        generalize k2 : ((rd_T72 l c).f3) = H9 at H; have V := am_ k2.symm; clear k2
        refine id_ H ?_ ?_ <;> clear H <;> rintro rfl H
        ·have H' := am_ H; clear H
         obtain ⟨V6, V7, O3⟩ := Kd.R_slice s.out
         subst O3
         have b1 := dt_ c
         have b2 := du_ c l.length
         obtain ⟨a0, c3, w6, w7, w8, n0⟩ := at_T72 (Kd.R_reads' s.out).2.2 c (ot_ b1) (ot_ b2)
         rw [← V.out] at n0
         cases c3
         go_wp2
         go_roundg p5
         case measure => have := e2.out; have := g0.out; have := HK3.out; omega
         case rel => exact ⟨(l), (wrap64 (c + 1)), qe_, H', ⟨by have := e2.out; have := g0.out; have := HK3.out; omega⟩, ⟨ra_ s⟩, ⟨ra_ F⟩, ⟨by (with_reducible repeat (first | apply Kd.S_alloc | apply Kd.S_drewN | apply Kd.S_drew)); first | exact J.out | (have h_ := J.out; simp only [own_slice] at h_ ⊢; exact h_)⟩, ⟨qk_ A⟩, ⟨qk_ x⟩, ⟨qk_ B⟩, ⟨qB_⟩⟩
        refine jb_ H ?_ ?_ <;> clear H <;> intro g3 H
        ·have g4 : (((rd_T72 l c).f2) == b8) = false := beq_eq_false_iff_ne.mpr g3
         have g5 : (((rd_T72 l c).f2) != b8) = true := bne_iff_ne.mpr g3
         have H' := am_ H; clear H
         obtain ⟨V8, V9, O4⟩ := Kd.R_slice s.out
         subst O4
         have b1 := dt_ c
         have b2 := du_ c l.length
         obtain ⟨a0, c3, w6, w7, w8, n0⟩ := at_T72 (Kd.R_reads' s.out).2.2 c (ot_ b1) (ot_ b2)
         rw [← V.out] at n0
         cases c3
         have c4 := dt_ c
         have c5 := du_ c l.length
         obtain ⟨c6, f6, y8, y9, z0, p6⟩ := at_T72 (Kd.R_reads' s.out).2.2 c (ot_ c4) (ot_ c5)
         rw [← V.out] at p6
         obtain rfl : a0 = c6 := (by injection f6)
         go_wp2
         go_roundg p5
         case measure => have := e2.out; have := g0.out; have := HK3.out; omega
         case rel => exact ⟨(l), (wrap64 (c + 1)), qe_, H', ⟨by have := e2.out; have := g0.out; have := HK3.out; omega⟩, ⟨ra_ s⟩, ⟨ra_ F⟩, ⟨by (with_reducible repeat (first | apply Kd.S_alloc | apply Kd.S_drewN | apply Kd.S_drew)); first | exact J.out | (have h_ := J.out; simp only [own_slice] at h_ ⊢; exact h_)⟩, ⟨qk_ A⟩, ⟨qk_ x⟩, ⟨qk_ B⟩, ⟨qB_⟩⟩
        have g4 : (((rd_T72 l c).f2) == b8) = true := beq_iff_eq.mpr g3
        have g5 : (((rd_T72 l c).f2) != b8) = false := bne_eq_false_iff_eq.mpr g3
        clear g3
        obtain ⟨W0, z1, H⟩ := bs_ H
        refine id_ H ?_ ?_ <;> clear H <;> rintro rfl H
        ·have H' := am_ H; clear H
         obtain ⟨W1, W2, O5⟩ := Kd.R_slice s.out
         subst O5
         have b1 := dt_ c
         have b2 := du_ c l.length
         obtain ⟨a0, c3, w6, w7, w8, n0⟩ := at_T72 (Kd.R_reads' s.out).2.2 c (ot_ b1) (ot_ b2)
         rw [← V.out] at n0
         cases c3
         have c4 := dt_ c
         have c5 := du_ c l.length
         obtain ⟨c6, f6, y8, y9, z0, p6⟩ := at_T72 (Kd.R_reads' s.out).2.2 c (ot_ c4) (ot_ c5)
         rw [← V.out] at p6
         obtain rfl : a0 = c6 := (by injection f6)
         have f7 := dt_ c
         have f8 := du_ c l.length
         obtain ⟨g6, k3, C8, C9, D0, w9⟩ := at_T72 (Kd.R_reads' s.out).2.2 c (ot_ f7) (ot_ f8)
         rw [← V.out] at w9
         obtain rfl : a0 = g6 := (by injection k3)
         obtain ⟨W3, W4, O6⟩ := Kd.R_slice F.out
         subst O6
         go_wp2_with (first | (go_at_call 105; (with_reducible refine (spec_l05In.calls p5 _ _ o ((rd_T72 l c).f0) false _ ?_ ?_ z1.out).mono ?_); exact qD_ (Kd.R_reads' F.out).2.2; exact (Kd.R_reads' F.out).2.1; rintro e w' ⟨rfl, ⟨nd, rfl⟩⟩))
         go_roundg p5
         case measure => have := e2.out; have := g0.out; have := HK3.out; omega
         case rel => exact ⟨(l), (wrap64 (c + 1)), qe_, H', ⟨by have := e2.out; have := g0.out; have := HK3.out; omega⟩, ⟨ra_ s⟩, ⟨ra_ F⟩, ⟨by (with_reducible repeat (first | apply Kd.S_alloc | apply Kd.S_drewN | apply Kd.S_drew)); first | exact J.out | (have h_ := J.out; simp only [own_slice] at h_ ⊢; exact h_)⟩, ⟨qk_ A⟩, ⟨qk_ x⟩, ⟨qk_ B⟩, ⟨qB_⟩⟩
        generalize k4 : (l.set (c : Int).toNat (⟨(rd_T72 l c).f0, (rd_T72 l c).f1, y, true⟩ : S72)) = I0 at H; replace H := bh_ H; have s3 := am_ k4.symm; clear k4; have H' := am_ H; clear H
        obtain ⟨W5, j2, O7⟩ := Kd.R_slice s.out
        subst O7
        have b1 := dt_ c
        have b2 := du_ c l.length
        obtain ⟨a0, c3, w6, w7, w8, n0⟩ := at_T72 (Kd.R_reads' s.out).2.2 c (ot_ b1) (ot_ b2)
        rw [← V.out] at n0
        cases c3
        have c4 := dt_ c
        have c5 := du_ c l.length
        obtain ⟨c6, f6, y8, y9, z0, p6⟩ := at_T72 (Kd.R_reads' s.out).2.2 c (ot_ c4) (ot_ c5)
        rw [← V.out] at p6
        obtain rfl : a0 = c6 := (by injection f6)
        have f7 := dt_ c
        have f8 := du_ c l.length
        obtain ⟨g6, k3, C8, C9, D0, w9⟩ := at_T72 (Kd.R_reads' s.out).2.2 c (ot_ f7) (ot_ f8)
        rw [← V.out] at w9
        obtain rfl : a0 = g6 := (by injection k3)
        obtain ⟨I1, I2, O8⟩ := Kd.R_slice F.out
        subst O8
        go_wp2_with (first | (go_at_call 105; (with_reducible refine (spec_l05In.calls p5 _ _ o ((rd_T72 l c).f0) true _ ?_ ?_ z1.out).mono ?_); exact qD_ (Kd.R_reads' F.out).2.2; exact (Kd.R_reads' F.out).2.1; rintro e w' ⟨rfl, ⟨nd, rfl⟩⟩; ((rw [drewN_self wr]; generalize hq_ : World.drewN wr _ = wr; have h8 : Aside0 (Kd.R (Kd.int .i64) 3 wr w.heap.size (fun _ => True) (.slice I1 o.length I2) o) := ⟨by rw [← hq_]; exact (qR_ F)⟩; have h9 : Aside0 (Kd.S (Kd.slice 3 (Kd.int .i64)) 51 wr w.heap.size (fun k_ => some k_ ≠ (.slice I1 o.length I2 : Value).ownBlock) (.slice (some z) E.length b3) E) := ⟨by rw [← hq_]; exact (qS_ J)⟩; have i0 : Aside0 (Kd.R k72 72 wr w.heap.size (fun _ => True) (.slice (some a0) l.length j2) l) := ⟨by rw [← hq_]; exact (qR_ s)⟩; have i1 : Aside0 (wr.heap[n2]? = some (.cells #[.int .i64 D, .slice a1 m.length a2] 29 (0, 0))) := ⟨by rw [← hq_]; exact (qk_ A)⟩; have i2 : Aside0 (wr.heap[h7]? = some (.cells #[.int .i64 G, .int .i64 I] 43 (0, 0))) := ⟨by rw [← hq_]; exact (qk_ x)⟩; have i3 : Aside0 (wr.heap[a5]? = some (.cells #[.int .i64 b7, .slice (some z) E.length b3] 39 (0, 0))) := ⟨by rw [← hq_]; exact (qk_ B)⟩; have z2 : Aside0 (Below w.heap.size w wr) := ⟨by rw [← hq_]; exact qB_⟩; clear F J s A x B HB hq_; have F := h8; have J := h9; have s := i0; have A := i1; have x := i2; have B := i3; have HB := z2; clear h8 h9 i0 i1 i2 i3 z2; have hcr_gb320_0 : wr.cell? ⟨n2, 0, none⟩ = some (.int .i64 D) := bl_ A 0; have hfr_gb320_0 := blk_frozen A.out 0; have hcr_gb320_1 : wr.cell? ⟨n2, 1, none⟩ = some (.slice a1 m.length a2) := bl_ A 1; have hfr_gb320_1 := blk_frozen A.out 1; have hcr_gb321_0 : wr.cell? ⟨h7, 0, none⟩ = some (.int .i64 G) := bl_ x 0; have hfr_gb321_0 := blk_frozen x.out 0; have hcr_gb321_1 : wr.cell? ⟨h7, 1, none⟩ = some (.int .i64 I) := bl_ x 1; have hfr_gb321_1 := blk_frozen x.out 1; have hcr_gb333_0 : wr.cell? ⟨a5, 0, none⟩ = some (.int .i64 b7) := bl_ B 0; have hfr_gb333_0 := blk_frozen B.out 0; have hcr_gb333_1 : wr.cell? ⟨a5, 1, none⟩ = some (.slice (some z) E.length b3) := bl_ B 1; have hfr_gb333_1 := blk_frozen B.out 1)); have g7 := dp_ c; have g8 : (c : Int) < ((l.length : Int) : Int) := of_decide_eq_true qa_; obtain ⟨L, W6, I3, I4, z3, I5, p7⟩ := Kd.R_form s.out (by omega); (first | cases I3 | (injection I3 with ea_ en_ ec_; (first | subst ea_ | (injection ea_ with ea_; subst ea_)); subst ec_; clear en_)); have z4 := am_ I4; have I6 := am_ p7; clear I4 z3 p7; (first | simp only [add_plain] at w6 | skip); (first | simp only [add_plain] at w7 | skip); (first | simp only [add_plain] at w8 | skip); (first | simp only [add_plain] at n0 | skip); (first | simp only [add_plain] at y8 | skip); (first | simp only [add_plain] at y9 | skip); (first | simp only [add_plain] at z0 | skip); (first | simp only [add_plain] at p6 | skip); (first | simp only [add_plain] at C8 | skip); (first | simp only [add_plain] at C9 | skip); (first | simp only [add_plain] at D0 | skip); (first | simp only [add_plain] at w9 | skip); obtain ⟨I7, s4, p8, c7, c8⟩ := Kd.R_elem s.out z72 (c : Int) g7 g8; obtain rfl := k72_openM p8; have j3 : wr.cell? ⟨L, (c : Int).toNat * 4, none⟩ = some (.int .i64 ((rd_T72 l c).f0)) := c7 0 _ rfl; have I8 : wr.cell? ⟨L, (c : Int).toNat * 4 + 1, none⟩ = some (.int .i64 ((rd_T72 l c).f1)) := c7 1 _ rfl; have I9 : wr.cell? ⟨L, (c : Int).toNat * 4 + 2, none⟩ = some (.int .i64 ((rd_T72 l c).f2)) := c7 2 _ rfl; have J0 : wr.cell? ⟨L, (c : Int).toNat * 4 + 3, none⟩ = some (.bool ((rd_T72 l c).f3)) := c7 3 _ rfl; have D1 : wr.frozen? ⟨L, (c : Int).toNat * 4, none⟩ = false := c8 0; have D2 : wr.frozen? ⟨L, (c : Int).toNat * 4 + 1, none⟩ = false := c8 1; have D3 : wr.frozen? ⟨L, (c : Int).toNat * 4 + 2, none⟩ = false := c8 2; have D4 : wr.frozen? ⟨L, (c : Int).toNat * 4 + 3, none⟩ = false := c8 3; clear s4 c7 c8 p8; replace g7 := eq_true g7; replace g8 := eq_true g8; have p9 := am_ (show Kd.R k72 72 wr w.heap.size (fun _ => True) (.slice (some ⟨L, 0, none⟩) l.length j2) l from (qR_ s)); obtain ⟨J1, k5, q0, g9, k6⟩ := Kd.R_elem p9.out z72 (c : Int) (of_decide_eq_true qa_) (by have h_ : (c : Int) < ((l.length : Int) : Int) := of_decide_eq_true qa_; first | exact h_ | (have e_ := (Kd.R_reads' s.out).1; omega) | simpa using h_); obtain rfl := k72_openM q0; have k7 := Kd.R_seg p9.out (c : Int) (of_decide_eq_true qa_) (by have h_ : (c : Int) < ((l.length : Int) : Int) := of_decide_eq_true qa_; first | exact h_ | (have e_ := (Kd.R_reads' s.out).1; omega) | simpa using h_) (seg := [.int .i64 y]) (j := 2) k5 g9 (show 3 ≤ 4 from by decide) (x' := (⟨(rd_T72 l c).f0, (rd_T72 l c).f1, y, true⟩ : S72)) (by have e_ : true = (List.getD l (c).toNat z72).f3 := V.out; rw [← e_]; exact k72_mkM _ _ _ (⟨(rd_T72 l c).f0, (rd_T72 l c).f1, y, true⟩ : S72)) (fun _ hk => hk); have F8 := g9 2 _ rfl; simp only [show (k72).sz = 4 from rfl, Nat.mul_one, Nat.add_zero] at F8; have o0 := k6 2; simp only [show (k72).sz = 4 from rfl, Nat.mul_one, Nat.add_zero] at o0; clear k5 g9 k6 q0) | ((with_reducible refine gate_store (t := 3) (p := 89) rfl ?_); refine store_event (t := 3) (p := 89) (v := ?vo_w52) (w1 := (wr.setCell ⟨L, (c : Int).toNat * 4 + 2, none⟩ (.int .i64 y))) ?hg ?ho ?hn ?hr ?_; (case ho => rfl); (case hg => rfl); (case hn => rfl); (case hr => first | (go_simp; done) | (go_simp; rfl)); intro s5 hw; have hg : wr.grownBy s5 (some L) := (by rw [hw]; exact k7.2); have hp_ : Kd.R k72 72 s5 w.heap.size (fun _ => True) (.slice (some ⟨L, 0, none⟩) l.length j2) I0 := (by rw [hw, s3.out]; exact k7.1); clear k7; refine dn7_ (am_ (hp_)) (am_ (Kd.R_over' (v := (.slice (some ⟨L, 0, none⟩) l.length j2)) (qR_ F) (Kd.R_typed s.out) (by decide) hg)) (am_ (Kd.S_over' (v := (.slice (some ⟨L, 0, none⟩) l.length j2)) (qS_ J) (Kd.R_typed s.out) (by decide) hg)) (am_ (blk_grown (qk_ A) hg (Kd.R_ne s.out A.out (by decide)))) (am_ (blk_grown (qk_ x) hg (Kd.R_ne s.out x.out (by decide)))) (am_ (blk_grown (qk_ B) hg (Kd.R_ne s.out B.out (by decide)))) (am_ ((by rw [hw]; exact below_set (HB.out) z4.out : Below w.heap.size w s5))) ?_; clear s F J A x B HB; intro s F J A x B HB; clear hg hw hp_))
        go_roundg p5
        case measure => have := e2.out; have := g0.out; have := HK3.out; omega
        case rel => exact ⟨(I0), (wrap64 (c + 1)), qe_, H', ⟨by have := e2.out; have := g0.out; have := HK3.out; omega⟩, ⟨ra_ s⟩, ⟨ra_ F⟩, ⟨by (with_reducible repeat (first | apply Kd.S_alloc | apply Kd.S_drewN | apply Kd.S_drew)); first | exact J.out | (have h_ := J.out; simp only [own_slice] at h_ ⊢; exact h_)⟩, ⟨qk_ A⟩, ⟨qk_ x⟩, ⟨qk_ B⟩, ⟨qB_⟩⟩
       have H' := am_ H; clear H
       obtain ⟨O9, h6, P0⟩ := Kd.R_slice s.out
       subst P0
       go_wp2
       go_loopg [15] p5 (fun kq v15 w' => ∃ (d : List (S72)) (a : Int), v15 = .int .i64 a ∧ Aside0 (spec_l08Search.l1 kq b8 d o y a D m = some (o7, o8)) ∧ Aside0 (kq ≤ p5) ∧ Aside0 (Kd.R k72 72 w' w.heap.size (fun _ => True) (.slice O9 l.length h6) d) ∧ Aside0 (Kd.R (Kd.int .i64) 3 w' w.heap.size (fun _ => True) u11 o) ∧ Aside0 (Kd.S (Kd.slice 3 (Kd.int .i64)) 51 w' w.heap.size (fun k_ => some k_ ≠ (u11 : Value).ownBlock) (.slice (some z) E.length b3) E) ∧ Aside0 (w'.heap[n2]? = some (.cells #[.int .i64 D, (.slice a1 m.length a2)] 29 (0, 0))) ∧ Aside0 (w'.heap[h7]? = some (.cells #[.int .i64 G, .int .i64 I] 43 (0, 0))) ∧ Aside0 (w'.heap[a5]? = some (.cells #[.int .i64 b7, (.slice (some z) E.length b3)] 39 (0, 0))) ∧ Aside0 (Below w.heap.size w w'))
       case atStart => exact ⟨(l), (0), qe_, H', ⟨Nat.le_refl _⟩, ⟨ra_ s⟩, ⟨ra_ F⟩, ⟨by (with_reducible repeat (first | apply Kd.S_alloc | apply Kd.S_drewN | apply Kd.S_drew)); first | exact J.out | (have h_ := J.out; simp only [own_slice] at h_ ⊢; exact h_)⟩, ⟨qk_ A⟩, ⟨qk_ x⟩, ⟨qk_ B⟩, ⟨qB_⟩⟩
       case round =>
        clear H' k0
        obtain ⟨d, a, rfl, HA, HK4, s, F, J, A, x, B, HB⟩ := hrel
        have g := (Kd.R_reads' s.out).1
        rw [g] at s
        simp only [g]
        cases gk with
        | zero => exact absurd HA.out (by simp [spec_l08Search.l1])
        | succ G7 =>
         have H := HA.out; clear HA
         simp only [spec_l08Search.l1] at H
         refine ib_ H ?_ ?_ <;> clear H <;> intro k8 H <;> skip
         ·simp only [Option.some.injEq, Prod.mk.injEq] at H
          obtain ⟨rfl, rfl⟩ := H
          go_wp2
          go_ret2
          exact ⟨_, qr_, qR_ s, qB_⟩
         refine ig_ H ?_; clear H; intro s6 H
         obtain ⟨J4, G8, H⟩ := bs_ H
         obtain ⟨G9, H0, H⟩ := bs_ H
         have H1 := am_ H
         clear H
         have q1 := dt_ a
         have q2 := du_ a d.length
         obtain ⟨k9, z8, J5, J6, J7, J8⟩ := at_T72 (Kd.R_reads' s.out).2.2 a (ot_ q1) (ot_ q2)
         cases z8
         obtain ⟨D5, D6, P5⟩ := Kd.R_slice F.out
         subst P5
         go_upto_region 20 with (first | ((with_reducible refine gc_ 105 ?_); refine gl_ (some 102) Try.func105 #[.slice D5 o.length D6, .int .i64 ((rd_T72 d a).f0)] ?_; (with_reducible refine (spec_l05In.calls G7 _ _ o ((rd_T72 d a).f0) J4 _ ?_ ?_ G8.out).mono ?_); exact qD_ (Kd.R_reads' F.out).2.2; exact (Kd.R_reads' F.out).2.1; rintro e w' ⟨rfl, ⟨nd, rfl⟩⟩; refine ⟨_, rfl, ?_⟩; have q3 := dt_ a; have q4 := du_ a d.length; obtain ⟨s7, z9, J9, K0, K1, K2⟩ := at_T72 (Kd.R_reads' s.out).2.2 a (ot_ q3) (ot_ q4); obtain rfl : k9 = s7 := (by injection z9); ) | ((with_reducible refine gc_ 105 ?_); refine gl_ (some 109) Try.func105 #[.slice D5 o.length D6, .int .i64 ((rd_T72 d a).f1)] ?_; (with_reducible refine (spec_l05In.calls G7 _ _ o ((rd_T72 d a).f1) G9 _ ?_ ?_ H0.out).mono ?_); exact qD_ (Kd.R_reads' F.out).2.2; exact (Kd.R_reads' F.out).2.1; rintro e w' ⟨rfl, ⟨nd, rfl⟩⟩; refine ⟨_, rfl, ?_⟩))
         go_cut [133] (fun P6 wc => ∃ (kq : Nat) (c9 : Bool), P6 = .bool c9 ∧ Aside0 (spec_l08Search.j4 kq b8 d o y a J4 G9 c9 D m = some (o7, o8)) ∧ Aside0 (kq ≤ G7) ∧ Aside0 (Kd.R k72 72 wc w.heap.size (fun _ => True) (.slice (some k9) d.length h6) d) ∧ Aside0 (Kd.R (Kd.int .i64) 3 wc w.heap.size (fun _ => True) (.slice D5 o.length D6) o) ∧ Aside0 (Kd.S (Kd.slice 3 (Kd.int .i64)) 51 wc w.heap.size (fun k_ => some k_ ≠ ((.slice D5 o.length D6) : Value).ownBlock) (.slice (some z) E.length b3) E) ∧ Aside0 (wc.heap[n2]? = some (.cells #[.int .i64 D, (.slice a1 m.length a2)] 29 (0, 0))) ∧ Aside0 (wc.heap[h7]? = some (.cells #[.int .i64 G, .int .i64 I] 43 (0, 0))) ∧ Aside0 (wc.heap[a5]? = some (.cells #[.int .i64 b7, (.slice (some z) E.length b3)] 39 (0, 0))) ∧ Aside0 (Below w.heap.size w wc))
         case first =>
          have H := H1.out; clear H1
          refine ig_ H ?_; clear H; intro h0 H
          (first | rw [h0] | (simp only [i64_w, i32_w]; rw [h0]) | skip)
          generalize l4 : ((rd_T72 m a).f3) = K3 at H; have a6 := am_ l4.symm; clear l4
          refine ie_ H ?_ ?_ <;> clear H <;> rintro rfl H
          ·have H' := am_ H; clear H; obtain ⟨u4, u5⟩ := nn_ x3; obtain ⟨u6, u7⟩ := nn_ A8
           obtain ⟨P7, P8, P9, Q0⟩ := bc2_ A
           have b5 := dt_ a
           have b6 := du_ a m.length
           obtain ⟨b4, d0, i5, i6, i7, g1⟩ := at_T72 Y.out a (ot_ b5) (ot_ b6)
           rw [← a6.out] at g1
           cases d0
           replace i5 := qx_ HB i5
           replace i6 := qx_ HB i6
           replace i7 := qx_ HB i7
           replace g1 := qx_ HB g1
           go_wp2
           go_meet
           case rel => exact ⟨_, (true), qe_, H', ⟨by have := e2.out; have := g0.out; have := HK3.out; have := HK4.out; first | omega | exact Nat.le_refl _⟩, ⟨by (with_reducible repeat (first | apply Kd.R_alloc | apply Kd.R_drewN | apply Kd.R_drew)); first | exact s.out | (have h_ := s.out; simp only [own_slice] at h_ ⊢; exact h_)⟩, ⟨by (with_reducible repeat (first | apply Kd.R_alloc | apply Kd.R_drewN | apply Kd.R_drew)); first | exact F.out | (have h_ := F.out; simp only [own_slice] at h_ ⊢; exact h_)⟩, ⟨by (with_reducible repeat (first | apply Kd.S_alloc | apply Kd.S_drewN | apply Kd.S_drew)); first | exact J.out | (have h_ := J.out; simp only [own_slice] at h_ ⊢; exact h_)⟩, ⟨by exact qf_ A⟩, ⟨by exact qf_ x⟩, ⟨by exact qf_ B⟩, ⟨qB_⟩⟩
          refine jb_ H ?_ ?_ <;> clear H <;> intro i4 H
          ·have l5 : (((rd_T72 m a).f2) == b8) = false := beq_eq_false_iff_ne.mpr i4
           have l6 : (((rd_T72 m a).f2) != b8) = true := bne_iff_ne.mpr i4
           have H' := am_ H; clear H; obtain ⟨u8, u9⟩ := nn_ x3; obtain ⟨v0, v1⟩ := nn_ A8
           obtain ⟨Q1, l2, l3, Q2⟩ := bc2_ A
           have b5 := dt_ a
           have b6 := du_ a m.length
           obtain ⟨b4, d0, i5, i6, i7, g1⟩ := at_T72 Y.out a (ot_ b5) (ot_ b6)
           rw [← a6.out] at g1
           cases d0
           replace i5 := qx_ HB i5
           replace i6 := qx_ HB i6
           replace i7 := qx_ HB i7
           replace g1 := qx_ HB g1
           have d8 := dt_ a
           have d9 := du_ a m.length
           obtain ⟨d1, f9, o1, o2, o3, i8⟩ := at_T72 Y.out a (ot_ d8) (ot_ d9)
           rw [← a6.out] at i8
           obtain rfl : b4 = d1 := (by injection f9)
           replace o1 := qx_ HB o1
           replace o2 := qx_ HB o2
           replace o3 := qx_ HB o3
           replace i8 := qx_ HB i8
           go_wp2
           go_meet
           case rel => exact ⟨_, (true), qe_, H', ⟨by have := e2.out; have := g0.out; have := HK3.out; have := HK4.out; first | omega | exact Nat.le_refl _⟩, ⟨by (with_reducible repeat (first | apply Kd.R_alloc | apply Kd.R_drewN | apply Kd.R_drew)); first | exact s.out | (have h_ := s.out; simp only [own_slice] at h_ ⊢; exact h_)⟩, ⟨by (with_reducible repeat (first | apply Kd.R_alloc | apply Kd.R_drewN | apply Kd.R_drew)); first | exact F.out | (have h_ := F.out; simp only [own_slice] at h_ ⊢; exact h_)⟩, ⟨by (with_reducible repeat (first | apply Kd.S_alloc | apply Kd.S_drewN | apply Kd.S_drew)); first | exact J.out | (have h_ := J.out; simp only [own_slice] at h_ ⊢; exact h_)⟩, ⟨by exact qf_ A⟩, ⟨by exact qf_ x⟩, ⟨by exact qf_ B⟩, ⟨qB_⟩⟩
          have l5 : (((rd_T72 m a).f2) == b8) = true := beq_iff_eq.mpr i4
          have l6 : (((rd_T72 m a).f2) != b8) = false := bne_eq_false_iff_eq.mpr i4
          clear i4
          refine ie_ H ?_ ?_ <;> clear H <;> rintro rfl H
          ·have H' := am_ H; clear H; obtain ⟨v2, v3⟩ := nn_ x3; obtain ⟨v4, v5⟩ := nn_ A8
           obtain ⟨Q3, Q4, Q5, Q6⟩ := bc2_ A
           have b5 := dt_ a
           have b6 := du_ a m.length
           obtain ⟨b4, d0, i5, i6, i7, g1⟩ := at_T72 Y.out a (ot_ b5) (ot_ b6)
           rw [← a6.out] at g1
           cases d0
           replace i5 := qx_ HB i5
           replace i6 := qx_ HB i6
           replace i7 := qx_ HB i7
           replace g1 := qx_ HB g1
           have d8 := dt_ a
           have d9 := du_ a m.length
           obtain ⟨d1, f9, o1, o2, o3, i8⟩ := at_T72 Y.out a (ot_ d8) (ot_ d9)
           rw [← a6.out] at i8
           obtain rfl : b4 = d1 := (by injection f9)
           replace o1 := qx_ HB o1
           replace o2 := qx_ HB o2
           replace o3 := qx_ HB o3
           replace i8 := qx_ HB i8
           go_wp2
           go_meet
           case rel => exact ⟨_, (false), qe_, H', ⟨by have := e2.out; have := g0.out; have := HK3.out; have := HK4.out; first | omega | exact Nat.le_refl _⟩, ⟨by (with_reducible repeat (first | apply Kd.R_alloc | apply Kd.R_drewN | apply Kd.R_drew)); first | exact s.out | (have h_ := s.out; simp only [own_slice] at h_ ⊢; exact h_)⟩, ⟨by (with_reducible repeat (first | apply Kd.R_alloc | apply Kd.R_drewN | apply Kd.R_drew)); first | exact F.out | (have h_ := F.out; simp only [own_slice] at h_ ⊢; exact h_)⟩, ⟨by (with_reducible repeat (first | apply Kd.S_alloc | apply Kd.S_drewN | apply Kd.S_drew)); first | exact J.out | (have h_ := J.out; simp only [own_slice] at h_ ⊢; exact h_)⟩, ⟨by exact qf_ A⟩, ⟨by exact qf_ x⟩, ⟨by exact qf_ B⟩, ⟨qB_⟩⟩
          have H' := am_ H; clear H; obtain ⟨v6, v7⟩ := nn_ x3; obtain ⟨v8, v9⟩ := nn_ A8
          obtain ⟨Q7, Q8, Q9, R0⟩ := bc2_ A
          have b5 := dt_ a
          have b6 := du_ a m.length
          obtain ⟨b4, d0, i5, i6, i7, g1⟩ := at_T72 Y.out a (ot_ b5) (ot_ b6)
          rw [← a6.out] at g1
          cases d0
          replace i5 := qx_ HB i5
          replace i6 := qx_ HB i6
          replace i7 := qx_ HB i7
          replace g1 := qx_ HB g1
          have d8 := dt_ a
          have d9 := du_ a m.length
          obtain ⟨d1, f9, o1, o2, o3, i8⟩ := at_T72 Y.out a (ot_ d8) (ot_ d9)
          rw [← a6.out] at i8
          obtain rfl : b4 = d1 := (by injection f9)
          replace o1 := qx_ HB o1
          replace o2 := qx_ HB o2
          replace o3 := qx_ HB o3
          replace i8 := qx_ HB i8
          go_wp2
          go_meet
          case rel => exact ⟨_, (!G9), qe_, H', ⟨by have := e2.out; have := g0.out; have := HK3.out; have := HK4.out; first | omega | exact Nat.le_refl _⟩, ⟨by (with_reducible repeat (first | apply Kd.R_alloc | apply Kd.R_drewN | apply Kd.R_drew)); first | exact s.out | (have h_ := s.out; simp only [own_slice] at h_ ⊢; exact h_)⟩, ⟨by (with_reducible repeat (first | apply Kd.R_alloc | apply Kd.R_drewN | apply Kd.R_drew)); first | exact F.out | (have h_ := F.out; simp only [own_slice] at h_ ⊢; exact h_)⟩, ⟨by (with_reducible repeat (first | apply Kd.S_alloc | apply Kd.S_drewN | apply Kd.S_drew)); first | exact J.out | (have h_ := J.out; simp only [own_slice] at h_ ⊢; exact h_)⟩, ⟨by exact qf_ A⟩, ⟨by exact qf_ x⟩, ⟨by exact qf_ B⟩, ⟨qB_⟩⟩
         case rest =>
          clear H1 k8 s6 J5 J6 J7 J8 J9 K0 K1 K2 q1 q3 q2 q4
          obtain ⟨kq, c9, rfl, HA, D7, s, F, J, A, x, B, HB⟩ := hcut
          cases kq with
          | zero => exact absurd HA.out (by simp [spec_l08Search.j4])
          | succ kj61 =>
           have H := HA.out; clear HA
           simp only [spec_l08Search.j4] at H
           refine ie_ H ?_ ?_ <;> clear H <;> rintro rfl H
           ·have H' := am_ H; clear H
            go_wp2
            simp only [← g]
            go_roundg kj61
            case measure => have := e2.out; have := g0.out; have := HK3.out; have := HK4.out; have := D7.out; omega
            case rel => exact ⟨(d), (wrap64 (a + 1)), qe_, H', ⟨by have := e2.out; have := g0.out; have := HK3.out; have := HK4.out; have := D7.out; omega⟩, ⟨by simp only [g]; (with_reducible repeat (first | apply Kd.R_alloc | apply Kd.R_drewN | apply Kd.R_drew)); first | exact s.out | (have h_ := s.out; simp only [own_slice] at h_ ⊢; exact h_)⟩, ⟨by (with_reducible repeat (first | apply Kd.R_alloc | apply Kd.R_drewN | apply Kd.R_drew)); first | exact F.out | (have h_ := F.out; simp only [own_slice] at h_ ⊢; exact h_)⟩, ⟨by (with_reducible repeat (first | apply Kd.S_alloc | apply Kd.S_drewN | apply Kd.S_drew)); first | exact J.out | (have h_ := J.out; simp only [own_slice] at h_ ⊢; exact h_)⟩, ⟨by exact qf_ A⟩, ⟨by exact qf_ x⟩, ⟨by exact qf_ B⟩, ⟨qB_⟩⟩
           refine id_ H ?_ ?_ <;> clear H <;> rintro rfl H
           ·refine ig_ H ?_; clear H; intro H2 H
            refine ig_ H ?_; clear H; intro H3 H
            generalize l7 : (d.set (a : Int).toNat (⟨(rd_T72 d a).f0, (rd_T72 d a).f1, (rd_T72 d a).f2, true⟩ : S72)) = S9 at H; replace H := bh_ H; have s8 := am_ l7.symm; clear l7
            simp only [Option.some.injEq, Prod.mk.injEq] at H
            obtain ⟨rfl, rfl⟩ := H
            have s9 := dp_ a
            have t0 : (a : Int) < ((d.length : Int) : Int) := of_decide_eq_true qa_
            obtain ⟨M, W9, K4, K5, A0, K6, q5⟩ := Kd.R_form s.out (by omega)
            (first | cases K4 | (injection K4 with ea_ en_ ec_; (first | subst ea_ | (injection ea_ with ea_; subst ea_)); subst ec_; clear en_))
            have A1 := am_ K5
            have K7 := am_ q5
            clear K5 A0 q5
            obtain ⟨K8, t1, q6, d2, d3⟩ := Kd.R_elem s.out z72 (a : Int) s9 t0
            obtain rfl := k72_openM q6
            have X0 : wc.cell? ⟨M, (a : Int).toNat * 4, none⟩ = some (.int .i64 ((rd_T72 d a).f0)) := d2 0 _ rfl
            have X1 : wc.cell? ⟨M, (a : Int).toNat * 4 + 1, none⟩ = some (.int .i64 ((rd_T72 d a).f1)) := d2 1 _ rfl
            have X2 : wc.cell? ⟨M, (a : Int).toNat * 4 + 2, none⟩ = some (.int .i64 ((rd_T72 d a).f2)) := d2 2 _ rfl
            have X3 : wc.cell? ⟨M, (a : Int).toNat * 4 + 3, none⟩ = some (.bool ((rd_T72 d a).f3)) := d2 3 _ rfl
            have D8 : wc.frozen? ⟨M, (a : Int).toNat * 4, none⟩ = false := d3 0
            have D9 : wc.frozen? ⟨M, (a : Int).toNat * 4 + 1, none⟩ = false := d3 1
            have E0 : wc.frozen? ⟨M, (a : Int).toNat * 4 + 2, none⟩ = false := d3 2
            have E1 : wc.frozen? ⟨M, (a : Int).toNat * 4 + 3, none⟩ = false := d3 3
            clear t1 d2 d3 q6; replace s9 := eq_true s9; replace t0 := eq_true t0
            have q7 := am_ (show Kd.R k72 72 wc w.heap.size (fun _ => True) (.slice (some ⟨M, 0, none⟩) d.length h6) d from (qR_ s))
            obtain ⟨K9, l8, q8, h1, l9⟩ := Kd.R_elem q7.out z72 (a : Int) (of_decide_eq_true qa_) (by have h_ : (a : Int) < ((d.length : Int) : Int) := of_decide_eq_true qa_; first | exact h_ | (have e_ := (Kd.R_reads' s.out).1; omega) | simpa using h_)
            obtain rfl := k72_openM q8
            have m0 := Kd.R_seg q7.out (a : Int) (of_decide_eq_true qa_) (by have h_ : (a : Int) < ((d.length : Int) : Int) := of_decide_eq_true qa_; first | exact h_ | (have e_ := (Kd.R_reads' s.out).1; omega) | simpa using h_) (seg := [.bool true]) (j := 3) l8 h1 (show 4 ≤ 4 from by decide) (x' := (⟨(rd_T72 d a).f0, (rd_T72 d a).f1, (rd_T72 d a).f2, true⟩ : S72)) (k72_mkM _ _ _ (⟨(rd_T72 d a).f0, (rd_T72 d a).f1, (rd_T72 d a).f2, true⟩ : S72) ) (fun _ hk => hk)
            have T0 := h1 3 _ rfl
            simp only [show (k72).sz = 4 from rfl, Nat.mul_one, Nat.add_zero] at T0
            have o4 := l9 3
            simp only [show (k72).sz = 4 from rfl, Nat.mul_one, Nat.add_zero] at o4
            clear l8 h1 l9 q8
            go_wp2_with (first | ((with_reducible refine gate_store (t := 4) (p := 146) rfl ?_); refine store_event (t := 4) (p := 146) (v := ?vo_w98) (w1 := (wc.setCell ⟨M, (a : Int).toNat * 4 + 3, none⟩ (.bool true))) ?hg ?ho ?hn ?hr ?_; (case ho => rfl); (case hg => rfl); (case hn => rfl); (case hr => first | (go_simp; done) | (go_simp; rfl)); intro t2 hw; have hg : wc.grownBy t2 (some M) := (by rw [hw]; exact m0.2); have hp_ : Kd.R k72 72 t2 w.heap.size (fun _ => True) (.slice (some ⟨M, 0, none⟩) d.length h6) S9 := (by rw [hw, s8.out]; exact m0.1); clear m0; refine dn7_ (am_ (hp_)) (am_ (Kd.R_over' (v := (.slice (some ⟨M, 0, none⟩) d.length h6)) (qR_ F) (Kd.R_typed s.out) (by decide) hg)) (am_ (Kd.S_over' (v := (.slice (some ⟨M, 0, none⟩) d.length h6)) (qS_ J) (Kd.R_typed s.out) (by decide) hg)) (am_ (blk_grown (qk_ A) hg (Kd.R_ne s.out A.out (by decide)))) (am_ (blk_grown (qk_ x) hg (Kd.R_ne s.out x.out (by decide)))) (am_ (blk_grown (qk_ B) hg (Kd.R_ne s.out B.out (by decide)))) (am_ ((by rw [hw]; exact below_set (HB.out) A1.out : Below w.heap.size w t2))) ?_; clear s F J A x B HB; intro s F J A x B HB; clear hg hw hp_))
            go_ret2
            exact ⟨_, qr_, qR_ s, qB_⟩
           refine id_ H ?_ ?_ <;> clear H <;> rintro rfl H
           ·refine ig_ H ?_; clear H; intro H4 H
            refine ig_ H ?_; clear H; intro H5 H
            generalize m1 : (d.set (a : Int).toNat (⟨(rd_T72 d a).f0, (rd_T72 d a).f1, (rd_T72 d a).f2, true⟩ : S72)) = T2 at H; replace H := bh_ H; have t3 := am_ m1.symm; clear m1
            simp only [Option.some.injEq, Prod.mk.injEq] at H
            obtain ⟨rfl, rfl⟩ := H
            have t4 := dp_ a
            have t5 : (a : Int) < ((d.length : Int) : Int) := of_decide_eq_true qa_
            obtain ⟨O, X4, L0, L1, A2, L2, q9⟩ := Kd.R_form s.out (by omega)
            (first | cases L0 | (injection L0 with ea_ en_ ec_; (first | subst ea_ | (injection ea_ with ea_; subst ea_)); subst ec_; clear en_))
            have A3 := am_ L1
            have L3 := am_ q9
            clear L1 A2 q9
            obtain ⟨L4, t6, r0, d4, d5⟩ := Kd.R_elem s.out z72 (a : Int) t4 t5
            obtain rfl := k72_openM r0
            have X5 : wc.cell? ⟨O, (a : Int).toNat * 4, none⟩ = some (.int .i64 ((rd_T72 d a).f0)) := d4 0 _ rfl
            have X6 : wc.cell? ⟨O, (a : Int).toNat * 4 + 1, none⟩ = some (.int .i64 ((rd_T72 d a).f1)) := d4 1 _ rfl
            have X7 : wc.cell? ⟨O, (a : Int).toNat * 4 + 2, none⟩ = some (.int .i64 ((rd_T72 d a).f2)) := d4 2 _ rfl
            have X8 : wc.cell? ⟨O, (a : Int).toNat * 4 + 3, none⟩ = some (.bool ((rd_T72 d a).f3)) := d4 3 _ rfl
            have E2 : wc.frozen? ⟨O, (a : Int).toNat * 4, none⟩ = false := d5 0
            have E3 : wc.frozen? ⟨O, (a : Int).toNat * 4 + 1, none⟩ = false := d5 1
            have E4 : wc.frozen? ⟨O, (a : Int).toNat * 4 + 2, none⟩ = false := d5 2
            have E5 : wc.frozen? ⟨O, (a : Int).toNat * 4 + 3, none⟩ = false := d5 3
            clear t6 d4 d5 r0; replace t4 := eq_true t4; replace t5 := eq_true t5
            have r1 := am_ (show Kd.R k72 72 wc w.heap.size (fun _ => True) (.slice (some ⟨O, 0, none⟩) d.length h6) d from (qR_ s))
            obtain ⟨L5, m2, r2, h2, m3⟩ := Kd.R_elem r1.out z72 (a : Int) (of_decide_eq_true qa_) (by have h_ : (a : Int) < ((d.length : Int) : Int) := of_decide_eq_true qa_; first | exact h_ | (have e_ := (Kd.R_reads' s.out).1; omega) | simpa using h_)
            obtain rfl := k72_openM r2
            have m4 := Kd.R_seg r1.out (a : Int) (of_decide_eq_true qa_) (by have h_ : (a : Int) < ((d.length : Int) : Int) := of_decide_eq_true qa_; first | exact h_ | (have e_ := (Kd.R_reads' s.out).1; omega) | simpa using h_) (seg := [.bool true]) (j := 3) m2 h2 (show 4 ≤ 4 from by decide) (x' := (⟨(rd_T72 d a).f0, (rd_T72 d a).f1, (rd_T72 d a).f2, true⟩ : S72)) (k72_mkM _ _ _ (⟨(rd_T72 d a).f0, (rd_T72 d a).f1, (rd_T72 d a).f2, true⟩ : S72) ) (fun _ hk => hk)
            have U0 := h2 3 _ rfl
            simp only [show (k72).sz = 4 from rfl, Nat.mul_one, Nat.add_zero] at U0
            have o5 := m3 3
            simp only [show (k72).sz = 4 from rfl, Nat.mul_one, Nat.add_zero] at o5
            clear m2 h2 m3 r2
            go_wp2_with (first | ((with_reducible refine gate_store (t := 4) (p := 146) rfl ?_); refine store_event (t := 4) (p := 146) (v := ?vo_w93) (w1 := (wc.setCell ⟨O, (a : Int).toNat * 4 + 3, none⟩ (.bool true))) ?hg ?ho ?hn ?hr ?_; (case ho => rfl); (case hg => rfl); (case hn => rfl); (case hr => first | (go_simp; done) | (go_simp; rfl)); intro t7 hw; have hg : wc.grownBy t7 (some O) := (by rw [hw]; exact m4.2); have hp_ : Kd.R k72 72 t7 w.heap.size (fun _ => True) (.slice (some ⟨O, 0, none⟩) d.length h6) T2 := (by rw [hw, t3.out]; exact m4.1); clear m4; refine dn7_ (am_ (hp_)) (am_ (Kd.R_over' (v := (.slice (some ⟨O, 0, none⟩) d.length h6)) (qR_ F) (Kd.R_typed s.out) (by decide) hg)) (am_ (Kd.S_over' (v := (.slice (some ⟨O, 0, none⟩) d.length h6)) (qS_ J) (Kd.R_typed s.out) (by decide) hg)) (am_ (blk_grown (qk_ A) hg (Kd.R_ne s.out A.out (by decide)))) (am_ (blk_grown (qk_ x) hg (Kd.R_ne s.out x.out (by decide)))) (am_ (blk_grown (qk_ B) hg (Kd.R_ne s.out B.out (by decide)))) (am_ ((by rw [hw]; exact below_set (HB.out) A3.out : Below w.heap.size w t7))) ?_; clear s F J A x B HB; intro s F J A x B HB; clear hg hw hp_))
            go_ret2
            exact ⟨_, qr_, qR_ s, qB_⟩
           refine ig_ H ?_; clear H; intro H6 H
           refine ig_ H ?_; clear H; intro H7 H
           generalize m5 : (d.set (a : Int).toNat (⟨(rd_T72 d a).f0, (rd_T72 d a).f1, y, (rd_T72 d a).f3⟩ : S72)) = L6 at H; replace H := bh_ H; have t8 := am_ m5.symm; clear m5; have H' := am_ H; clear H
           have t9 := dp_ a
           have w2 : (a : Int) < ((d.length : Int) : Int) := of_decide_eq_true qa_
           obtain ⟨T, X9, L7, L8, A4, L9, r3⟩ := Kd.R_form s.out (by omega)
           (first | cases L7 | (injection L7 with ea_ en_ ec_; (first | subst ea_ | (injection ea_ with ea_; subst ea_)); subst ec_; clear en_))
           have A5 := am_ L8
           have M0 := am_ r3
           clear L8 A4 r3
           (first | simp only [add_plain] at J5 | skip)
           (first | simp only [add_plain] at J6 | skip)
           (first | simp only [add_plain] at J7 | skip)
           (first | simp only [add_plain] at J8 | skip)
           (first | simp only [add_plain] at J9 | skip)
           (first | simp only [add_plain] at K0 | skip)
           (first | simp only [add_plain] at K1 | skip)
           (first | simp only [add_plain] at K2 | skip)
           simp only [add_plain] at *
           obtain ⟨M1, w3, r4, d6, d7⟩ := Kd.R_elem s.out z72 (a : Int) t9 w2
           obtain rfl := k72_openM r4
           have Y0 : wc.cell? ⟨T, (a : Int).toNat * 4, none⟩ = some (.int .i64 ((rd_T72 d a).f0)) := d6 0 _ rfl
           have Y1 : wc.cell? ⟨T, (a : Int).toNat * 4 + 1, none⟩ = some (.int .i64 ((rd_T72 d a).f1)) := d6 1 _ rfl
           have Y2 : wc.cell? ⟨T, (a : Int).toNat * 4 + 2, none⟩ = some (.int .i64 ((rd_T72 d a).f2)) := d6 2 _ rfl
           have Y3 : wc.cell? ⟨T, (a : Int).toNat * 4 + 3, none⟩ = some (.bool ((rd_T72 d a).f3)) := d6 3 _ rfl
           have E6 : wc.frozen? ⟨T, (a : Int).toNat * 4, none⟩ = false := d7 0
           have E7 : wc.frozen? ⟨T, (a : Int).toNat * 4 + 1, none⟩ = false := d7 1
           have E8 : wc.frozen? ⟨T, (a : Int).toNat * 4 + 2, none⟩ = false := d7 2
           have E9 : wc.frozen? ⟨T, (a : Int).toNat * 4 + 3, none⟩ = false := d7 3
           clear w3 d6 d7 r4; replace t9 := eq_true t9; replace w2 := eq_true w2
           have r5 := am_ (show Kd.R k72 72 wc w.heap.size (fun _ => True) (.slice (some ⟨T, 0, none⟩) d.length h6) d from (qR_ s))
           obtain ⟨M2, m6, r6, h3, m7⟩ := Kd.R_elem r5.out z72 (a : Int) (of_decide_eq_true qa_) (by have h_ : (a : Int) < ((d.length : Int) : Int) := of_decide_eq_true qa_; first | exact h_ | (have e_ := (Kd.R_reads' s.out).1; omega) | simpa using h_)
           obtain rfl := k72_openM r6
           have m8 := Kd.R_seg r5.out (a : Int) (of_decide_eq_true qa_) (by have h_ : (a : Int) < ((d.length : Int) : Int) := of_decide_eq_true qa_; first | exact h_ | (have e_ := (Kd.R_reads' s.out).1; omega) | simpa using h_) (seg := [.int .i64 y]) (j := 2) m6 h3 (show 3 ≤ 4 from by decide) (x' := (⟨(rd_T72 d a).f0, (rd_T72 d a).f1, y, (rd_T72 d a).f3⟩ : S72)) (k72_mkM _ _ _ (⟨(rd_T72 d a).f0, (rd_T72 d a).f1, y, (rd_T72 d a).f3⟩ : S72) ) (fun _ hk => hk)
           have U1 := h3 2 _ rfl
           simp only [show (k72).sz = 4 from rfl, Nat.mul_one, Nat.add_zero] at U1
           have o6 := m7 2
           simp only [show (k72).sz = 4 from rfl, Nat.mul_one, Nat.add_zero] at o6
           clear m6 h3 m7 r6
           go_wp2_with (first | ((with_reducible refine gate_store (t := 3) (p := 142) rfl ?_); refine store_event (t := 3) (p := 142) (v := ?vo_w88) (w1 := (wc.setCell ⟨T, (a : Int).toNat * 4 + 2, none⟩ (.int .i64 y))) ?hg ?ho ?hn ?hr ?_; (case ho => rfl); (case hg => rfl); (case hn => rfl); (case hr => first | (go_simp; done) | (go_simp; rfl)); intro w4 hw; have hg : wc.grownBy w4 (some T) := (by rw [hw]; exact m8.2); have hp_ : Kd.R k72 72 w4 w.heap.size (fun _ => True) (.slice (some ⟨T, 0, none⟩) d.length h6) L6 := (by rw [hw, t8.out]; exact m8.1); clear m8; refine dn7_ (am_ (hp_)) (am_ (Kd.R_over' (v := (.slice (some ⟨T, 0, none⟩) d.length h6)) (qR_ F) (Kd.R_typed s.out) (by decide) hg)) (am_ (Kd.S_over' (v := (.slice (some ⟨T, 0, none⟩) d.length h6)) (qS_ J) (Kd.R_typed s.out) (by decide) hg)) (am_ (blk_grown (qk_ A) hg (Kd.R_ne s.out A.out (by decide)))) (am_ (blk_grown (qk_ x) hg (Kd.R_ne s.out x.out (by decide)))) (am_ (blk_grown (qk_ B) hg (Kd.R_ne s.out B.out (by decide)))) (am_ ((by rw [hw]; exact below_set (HB.out) A5.out : Below w.heap.size w w4))) ?_; clear s F J A x B HB; intro s F J A x B HB; clear hg hw hp_))
           simp only [← g]
           go_roundg kj61
           case measure => have := e2.out; have := g0.out; have := HK3.out; have := HK4.out; have := D7.out; omega
           case rel => exact ⟨(L6), (wrap64 (a + 1)), qe_, H', ⟨by have := e2.out; have := g0.out; have := HK3.out; have := HK4.out; have := D7.out; omega⟩, ⟨by simp only [g]; (with_reducible repeat (first | apply Kd.R_alloc | apply Kd.R_drewN | apply Kd.R_drew)); first | exact s.out | (have h_ := s.out; simp only [own_slice] at h_ ⊢; exact h_)⟩, ⟨by (with_reducible repeat (first | apply Kd.R_alloc | apply Kd.R_drewN | apply Kd.R_drew)); first | exact F.out | (have h_ := F.out; simp only [own_slice] at h_ ⊢; exact h_)⟩, ⟨by (with_reducible repeat (first | apply Kd.S_alloc | apply Kd.S_drewN | apply Kd.S_drew)); first | exact J.out | (have h_ := J.out; simp only [own_slice] at h_ ⊢; exact h_)⟩, ⟨by exact qf_ A⟩, ⟨by exact qf_ x⟩, ⟨by exact qf_ B⟩, ⟨qB_⟩⟩
end Go.Proofs.Ytbkklafkoegdpaa.QFnExactWebTake
