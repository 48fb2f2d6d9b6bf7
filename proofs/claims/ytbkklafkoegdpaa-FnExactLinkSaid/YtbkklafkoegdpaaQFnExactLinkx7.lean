import Derived.Test.YtbkklafkoegdpaaQFnExactLinkx3
import Derived.Test.YtbkklafkoegdpaaQFnExactLinkx6
namespace Go.Proofs.Ytbkklafkoegdpaa.QFnExactLink
open Go.RowKit Go.Proofs.YtbkklafkoegdpaaW.PrintWords Go.Proofs.YtbkklafkoegdpaaW.PrintLast Go.Proofs.YtbkklafkoegdpaaW.PrintMore
set_option linter.unusedVariables false
set_option linter.unusedSimpArgs false
def spec_Reroot.j0 : Nat → List Int → Int → Bool → Option (List Int × Bool)
  | 0, _, _, _ => none
  | k + 1, x0, x1, x16 => if x16 = true then (some ((([] : List Int)), false)) else ((spec_l06First.f k x0 x1).bind fun t239 => (if t239 = 0 then ((some (([] : List Int) : List Int)).bind fun y240 => (if y240.length + x0.length < 17592186044416 then (some ((y240 ++ x0), true)) else (none))) else ((some (([] : List Int) : List Int)).bind fun y246 => (if 0 ≤ t239 then (if t239 ≤ (wrap64 ((x0.length : Int) - 1)) then (if (wrap64 ((x0.length : Int) - 1)) ≤ (x0.length : Int) then (if y246.length + ((x0.take ((wrap64 ((x0.length : Int) - 1)) : Int).toNat).drop (t239 : Int).toNat).length < 17592186044416 then ((some (y246 ++ ((x0.take ((wrap64 ((x0.length : Int) - 1)) : Int).toNat).drop (t239 : Int).toNat) : List Int)).bind fun y250 => (if t239 ≤ (x0.length : Int) then (if y250.length + (x0.take (t239 : Int).toNat).length < 17592186044416 then ((some (y250 ++ (x0.take (t239 : Int).toNat) : List Int)).bind fun y254 => (if y254.length < 17592186044416 then (some ((y254 ++ [x1]), true)) else (none))) else (none)) else (none))) else (none)) else (none)) else (none)) else (none)))))
def spec_Reroot.f (k : Nat) (l0 : List Int) (a1 : Int) : Option (List Int × Bool) := (spec_TourOk.f k l0).bind fun t234 => (if t234 = true then ((spec_l06First.f k l0 a1).bind fun t235 => (spec_Reroot.j0 k l0 a1 (decide (t235 < 0)))) else (spec_Reroot.j0 k l0 a1 true))
theorem spec_Reroot.mono_l : ∀ k, (∀ y0 y1 y2, LeO (spec_Reroot.j0 k y0 y1 y2) (spec_Reroot.j0 (k + 1) y0 y1 y2))
  | 0 => fun _ _ _ r h => by simp [spec_Reroot.j0] at h
  | k + 1 => by
    have ih0 := spec_Reroot.mono_l k
    · intro y0 y1 y2
      unfold spec_Reroot.j0
      repeat' first | (with_reducible first | exact ih0 _ _ _ | exact spec_TourOk.mono _ _ | exact spec_l06First.mono _ _ _ | exact LeO.refl _ | exact LeO.none _ | refine LeO.ite ?_ ?_ | refine LeO.bind ?_ (fun _ => ?_)) | exact LeO.none _ | refine LeO.ite ?_ ?_ | refine LeO.bind ?_ (fun _ => ?_)
theorem spec_Reroot.mono : ∀ a0 a1 k, LeO (spec_Reroot.f k a0 a1) (spec_Reroot.f (k + 1) a0 a1) := by
  intro a0 a1 k
  have ih0 := spec_Reroot.mono_l k
  unfold spec_Reroot.f
  repeat' first | (with_reducible first | exact ih0 _ _ _ | exact spec_TourOk.mono _ _ | exact spec_l06First.mono _ _ _ | exact LeO.refl _ | exact LeO.none _ | refine LeO.ite ?_ ?_ | refine LeO.bind ?_ (fun _ => ?_)) | exact LeO.none _ | refine LeO.ite ?_ ?_ | refine LeO.bind ?_ (fun _ => ?_)
set_option maxHeartbeats 8000000 in
set_option maxRecDepth 100000 in
theorem spec_Reroot.calls (k : Nat) (A0 : Option Addr) (c0 : Nat) (l0 : List Int) (a1 : Int) (r1 : List Int) (r2 : Bool) (w : World) (hr0 : Kd.C (Kd.int .i64) w A0 l0.length l0) (hc0 : l0.length ≤ c0) (h : spec_Reroot.f k l0 a1 = some (r1, r2)) :
  Calls Try.prog 123 #[.slice A0 l0.length c0, .int .i64 a1] w fun e w' => ∃ v0_ : Value, e = .returned (.tuple #[v0_, .bool r2]) ∧ Kd.R (Kd.int .i64) 3 w' w.heap.size (fun _ => True) v0_ r1 ∧ Below w.heap.size w w' := by
 have a7 := am_ hr0
 have b4 := am_ hc0
 clear hr0 hc0
 have HB := am_ (Below.refl w.heap.size w)
 have H : ((spec_TourOk.f k l0).bind fun b5 => (if b5 = true then ((spec_l06First.f k l0 a1).bind fun a6 => (spec_Reroot.j0 k l0 a1 (decide (a6 < 0)))) else (spec_Reroot.j0 k l0 a1 true))) = some (r1, r2) := h
 clear h
 have c2 := am_ H
 clear H
 go_enter Try.func123, Try.ntmps123
 go_upto_region 1 with (fail)
 go_cut [16] (fun v16 wc => ∃ (kq : Nat) (x16_2 : Bool), v16 = .bool x16_2 ∧ Aside0 (spec_Reroot.j0 kq l0 a1 x16_2 = some (r1, r2)) ∧ Aside0 (kq ≤ k) ∧ Aside0 (Below w.heap.size w wc))
 case first =>
  have H := c2.out; clear c2
  obtain ⟨b5, A40, H⟩ := Option.bind_eq_some_iff.mp H; have A4 := am_ A40; clear A40
  by_cases c5 : b5 = true
  ·subst c5
   rw [if_pos rfl] at H
   obtain ⟨a6, A60, H⟩ := Option.bind_eq_some_iff.mp H; have A6 := am_ A60; clear A60
   have H' := am_ H; clear H
   go_wp2_with (first | ((with_reducible refine gate_callee (f := 104) rfl ?_); refine gl_ (some 9) Try.func104 #[.slice A0 l0.length c0] ?_; (with_reducible refine (spec_TourOk.calls k _ _ l0 true _ ?side1 ?side2 A4.out).mono ?_); (case side1 => exact qC_ a7 HB); (case side2 => exact b4.out); rintro e w7 ⟨rfl, hb⟩; refine ⟨_, rfl, ?_⟩; replace HB := hs_ hb; (try clear hb); (try clear hb2); (try clear hk); (try clear hi)) | (go_at_call 122; (with_reducible refine (spec_l06First.calls k _ _ l0 a1 a6 _ ?side1 ?side2 A6.out).mono ?_); (case side1 => exact qC_ a7 HB); (case side2 => exact b4.out); rintro e w' ⟨rfl, ⟨nd, rfl⟩⟩))
   go_meet
   case rel => exact ⟨_, (decide (a6 < 0)), qe_, H', ⟨qo_⟩, ⟨qB_⟩⟩
  replace c5 := Bool.eq_false_iff.mpr c5
  subst c5
  rw [if_neg ff_] at H; have H' := am_ H; clear H
  go_wp2_with (first | ((with_reducible refine gate_callee (f := 104) rfl ?_); refine gl_ (some 9) Try.func104 #[.slice A0 l0.length c0] ?_; (with_reducible refine (spec_TourOk.calls k _ _ l0 false _ ?side1 ?side2 A4.out).mono ?_); (case side1 => exact qC_ a7 HB); (case side2 => exact b4.out); rintro e w8 ⟨rfl, hb⟩; refine ⟨_, rfl, ?_⟩; replace HB := hs_ hb; (try clear hb); (try clear hb2); (try clear hk); (try clear hi)))
  go_meet
  case rel => exact ⟨_, (true), qe_, H', ⟨qo_⟩, ⟨qB_⟩⟩
 case rest =>
  clear c2; (try clear c1); (try clear p2); (try clear c5)
  obtain ⟨kq, x16_2, rfl, HA, d7, HB⟩ := hcut
  cases kq with
  | zero => exact absurd HA.out (by simp [spec_Reroot.j0])
  | succ kj2 =>
   have H := HA.out; clear HA
   simp only [spec_Reroot.j0] at H
   by_cases c9 : x16_2 = true
   ·subst c9
    rw [if_pos rfl] at H
    obtain ⟨c3, hy236⟩ : ∃ y_ : List Int, y_ = (([] : List Int)) := ⟨_, rfl⟩
    replace H : (some (c3, false)) = some (r1, r2) := by first | (rw [hy236]; with_reducible exact H) | (have H2_ := (Option.bind_some _ _).symm.trans H; rw [hy236]; with_reducible exact H2_) | (have H2_ := (Option.bind_some _ _).symm.trans H; with_reducible exact H2_) | with_reducible exact H | (rw [hy236]; exact H) | exact H
    have Ny236 := am_ hy236
    clear hy236
    simp only [Option.some.injEq, Prod.mk.injEq] at H
    obtain ⟨rfl, rfl⟩ := H
    go_wp2_with (first | ((with_reducible refine gate_dst (N := 17) rfl ?_); refine Kd.R_lit (Kd.int .i64) _ 3 ?hg (N := 17) ?hd (xs := ([] : List Int)) (inner := []) (ok := fun _ => True) (okp := fun _ => True) ?hr ?hp (fun _ hk => hk) trivial (Below.refl _ _) (Nat.le_refl _) (by simp) ?_; (case hd => rfl); (case hg => rfl); (case hr => first | (go_simp; done) | (go_simp; rfl)); (case hp => exact (Reps.none _ _)); intro d4 w10 ho11 hb hg_ hnew_; clear hg_ hnew_; (first | rw [← Ny236.out] at ho11 | (simp only [Int.reduceToNat] at ho11; rw [← Ny236.out] at ho11)); have b6 := am_ (Kd.R_lower ho11 (below_size qB_)); replace HB := hs_ hb; clear hb ho11))
    go_ret2
    exact ⟨_, qr_, by (with_reducible repeat (first | apply Kd.R_alloc | apply Kd.R_drewN | apply Kd.R_drew)); exact b6.out, qB_⟩
   replace c9 := Bool.eq_false_iff.mpr c9
   subst c9
   rw [if_neg ff_] at H
   obtain ⟨a0, b7, H⟩ := Option.bind_eq_some_iff.mp H; have A12 := am_ b7; clear b7
   by_cases c13 : a0 = 0
   ·rw [if_pos c13] at H
    have c13b0 : (a0 == 0) = true := beq_iff_eq.mpr c13
    have c13b1 : (a0 != 0) = false := bne_eq_false_iff_eq.mpr c13
    clear c13
    obtain ⟨a4, hy240⟩ : ∃ y_ : List Int, y_ = (([] : List Int)) := ⟨_, rfl⟩
    replace H : (if a4.length + l0.length < 17592186044416 then (some ((a4 ++ l0), true)) else (none)) = some (r1, r2) := by first | (rw [hy240]; with_reducible exact H) | (have H2_ := (Option.bind_some _ _).symm.trans H; rw [hy240]; with_reducible exact H2_) | (have H2_ := (Option.bind_some _ _).symm.trans H; with_reducible exact H2_) | with_reducible exact H | (rw [hy240]; exact H) | exact H
    have Ny240 := am_ hy240
    clear hy240
    by_cases c14 : a4.length + l0.length < 17592186044416
    rotate_left
    ·rw [if_neg c14] at H
     exact absurd H (by simp)
    rw [if_pos c14] at H
    have LMc14 := am_ c14
    clear c14
    obtain ⟨c4, hy243⟩ : ∃ y_ : List Int, y_ = (a4 ++ l0) := ⟨_, rfl⟩
    replace H : (some (c4, true)) = some (r1, r2) := by first | (rw [hy243]; with_reducible exact H) | (have H2_ := (Option.bind_some _ _).symm.trans H; rw [hy243]; with_reducible exact H2_) | (have H2_ := (Option.bind_some _ _).symm.trans H; with_reducible exact H2_) | with_reducible exact H | (rw [hy243]; exact H) | exact H
    have Ny243 := am_ hy243
    clear hy243
    simp only [Option.some.injEq, Prod.mk.injEq] at H
    obtain ⟨rfl, rfl⟩ := H
    go_wp2_with (first | ((with_reducible refine gate_callee (f := 122) rfl ?_); refine gl_ (some 20) Try.func122 #[.slice A0 l0.length c0, .int .i64 a1] ?_; (with_reducible refine (spec_l06First.calls kj2 _ _ l0 a1 a0 _ ?side1 ?side2 A12.out).mono ?_); (case side1 => exact qC_ a7 HB); (case side2 => exact b4.out); rintro e w' ⟨rfl, ⟨nd, rfl⟩⟩; refine ⟨_, rfl, ?_⟩) | ((with_reducible refine gate_dst (N := 23) rfl ?_); refine Kd.R_lit (Kd.int .i64) _ 3 ?hg (N := 23) ?hd (xs := ([] : List Int)) (inner := []) (ok := fun _ => True) (okp := fun _ => True) ?hr ?hp (fun _ hk => hk) trivial (Below.refl _ _) (Nat.le_refl _) (by simp) ?_; (case hd => rfl); (case hg => rfl); (case hr => first | (go_simp; done) | (go_simp; rfl)); (case hp => exact (Reps.none _ _)); intro c6 w15 ho16 hb hg_ hnew_; clear hg_ hnew_; (first | rw [← Ny240.out] at ho16 | (simp only [Int.reduceToNat] at ho16; rw [← Ny240.out] at ho16)); have a8 := am_ (Kd.R_lower ho16 (below_size qB_)); replace HB := hs_ hb; clear hb ho16) | ((with_reducible refine gate_builtin (b := .append) (xs := #[.tmp 23, .tmp 24]) rfl ?_); at_builtin; refine Kd.R_append_rows (Kd.int .i64) (w0 := w) w.heap.size rfl (.tmp 23) (.tmp 24) 51 3 (.int .i64 0) 8 rfl Try.underlying51 info3 rfl (by decide) (by omega) c6 a4 l0 _ _ _ (fun _ => True) (fun _ => False) rfl rfl ?aO ?aR (fun _ _ h => h) (fun _ h => h.elim) ?aF ?aB ?aS ?aL ?_; (case aR => repeat (first | exact (Kd.C_below a7.out HB.out) | (with_reducible refine Kd.C_alloc ?_ _) | (with_reducible refine Kd.C_drewN ?_ _) | (with_reducible refine Kd.C_drew ?_))); (case aB => exact qB_); (case aF => exact (fun _ _ => trivial)); (case aO => exact (qR_ a8)); (case aS => exact (below_size qB_)); (case aL => have := LMc14.out; omega); intro d5 w17 ho hb hg hat; rw [← Ny243.out] at ho; have b8 := am_ (ho); replace HB := am_ (hb); clear a8; clear ho hb hg hat))
    go_ret2
    exact ⟨_, qr_, by (with_reducible repeat (first | apply Kd.R_alloc | apply Kd.R_drewN | apply Kd.R_drew)); exact b8.out, qB_⟩
   rw [if_neg c13] at H
   have c13b0 : (a0 == 0) = false := beq_eq_false_iff_ne.mpr c13
   have c13b1 : (a0 != 0) = true := bne_iff_ne.mpr c13
   obtain ⟨a5, hy246⟩ : ∃ y_ : List Int, y_ = (([] : List Int)) := ⟨_, rfl⟩
   replace H : (if 0 ≤ a0 then (if a0 ≤ (wrap64 ((l0.length : Int) - 1)) then (if (wrap64 ((l0.length : Int) - 1)) ≤ (l0.length : Int) then (if a5.length + ((l0.take ((wrap64 ((l0.length : Int) - 1)) : Int).toNat).drop (a0 : Int).toNat).length < 17592186044416 then ((some (a5 ++ ((l0.take ((wrap64 ((l0.length : Int) - 1)) : Int).toNat).drop (a0 : Int).toNat) : List Int)).bind fun a3 => (if a0 ≤ (l0.length : Int) then (if a3.length + (l0.take (a0 : Int).toNat).length < 17592186044416 then ((some (a3 ++ (l0.take (a0 : Int).toNat) : List Int)).bind fun a2 => (if a2.length < 17592186044416 then (some ((a2 ++ [a1]), true)) else (none))) else (none)) else (none))) else (none)) else (none)) else (none)) else (none)) = some (r1, r2) := by first | (rw [hy246]; with_reducible exact H) | (have H2_ := (Option.bind_some _ _).symm.trans H; rw [hy246]; with_reducible exact H2_) | (have H2_ := (Option.bind_some _ _).symm.trans H; with_reducible exact H2_) | with_reducible exact H | (rw [hy246]; exact H) | exact H
   have Ny246 := am_ hy246
   clear hy246
   by_cases c18 : 0 ≤ a0
   rotate_left
   ·rw [if_neg c18] at H
    exact absurd H (by simp)
   rw [if_pos c18] at H
   have c18b0 := eq_true c18
   have c18b1 := decide_eq_true c18
   clear c18
   by_cases c19 : a0 ≤ (wrap64 ((l0.length : Int) - 1))
   rotate_left
   ·rw [if_neg c19] at H
    exact absurd H (by simp)
   rw [if_pos c19] at H
   have c19b0 := eq_true c19
   have c19b1 := decide_eq_true c19
   clear c19
   by_cases c20 : (wrap64 ((l0.length : Int) - 1)) ≤ (l0.length : Int)
   rotate_left
   ·rw [if_neg c20] at H
    exact absurd H (by simp)
   rw [if_pos c20] at H
   have c20b0 := eq_true c20
   have c20b1 := decide_eq_true c20
   clear c20
   by_cases c21 : a5.length + ((l0.take ((wrap64 ((l0.length : Int) - 1)) : Int).toNat).drop (a0 : Int).toNat).length < 17592186044416
   rotate_left
   ·rw [if_neg c21] at H
    exact absurd H (by simp)
   rw [if_pos c21] at H
   have LMc21 := am_ c21
   clear c21
   obtain ⟨a3, hy250⟩ : ∃ y_ : List Int, y_ = (a5 ++ ((l0.take ((wrap64 ((l0.length : Int) - 1)) : Int).toNat).drop (a0 : Int).toNat)) := ⟨_, rfl⟩
   replace H : (if a0 ≤ (l0.length : Int) then (if a3.length + (l0.take (a0 : Int).toNat).length < 17592186044416 then ((some (a3 ++ (l0.take (a0 : Int).toNat) : List Int)).bind fun a2 => (if a2.length < 17592186044416 then (some ((a2 ++ [a1]), true)) else (none))) else (none)) else (none)) = some (r1, r2) := by first | (rw [hy250]; with_reducible exact H) | (have H2_ := (Option.bind_some _ _).symm.trans H; rw [hy250]; with_reducible exact H2_) | (have H2_ := (Option.bind_some _ _).symm.trans H; with_reducible exact H2_) | with_reducible exact H | (rw [hy250]; exact H) | exact H
   have Ny250 := am_ hy250
   clear hy250
   have c22b0 := eq_true (of_decide_eq_true qa_ : 0 ≤ a0)
   by_cases c23 : a0 ≤ (l0.length : Int)
   rotate_left
   ·rw [if_neg c23] at H
    exact absurd H (by simp)
   rw [if_pos c23] at H
   have c23b0 := eq_true c23
   have c23b1 := decide_eq_true c23
   clear c23
   by_cases c24 : a3.length + (l0.take (a0 : Int).toNat).length < 17592186044416
   rotate_left
   ·rw [if_neg c24] at H
    exact absurd H (by simp)
   rw [if_pos c24] at H
   have LMc24 := am_ c24
   clear c24
   obtain ⟨a2, hy254⟩ : ∃ y_ : List Int, y_ = (a3 ++ (l0.take (a0 : Int).toNat)) := ⟨_, rfl⟩
   replace H : (if a2.length < 17592186044416 then (some ((a2 ++ [a1]), true)) else (none)) = some (r1, r2) := by first | (rw [hy254]; with_reducible exact H) | (have H2_ := (Option.bind_some _ _).symm.trans H; rw [hy254]; with_reducible exact H2_) | (have H2_ := (Option.bind_some _ _).symm.trans H; with_reducible exact H2_) | with_reducible exact H | (rw [hy254]; exact H) | exact H
   have Ny254 := am_ hy254
   clear hy254
   by_cases c25 : a2.length < 17592186044416
   rotate_left
   ·rw [if_neg c25] at H
    exact absurd H (by simp)
   rw [if_pos c25] at H
   have LMc25 := am_ c25
   clear c25
   obtain ⟨c7, hy257⟩ : ∃ y_ : List Int, y_ = (a2 ++ [a1]) := ⟨_, rfl⟩
   replace H : (some (c7, true)) = some (r1, r2) := by first | (rw [hy257]; with_reducible exact H) | (have H2_ := (Option.bind_some _ _).symm.trans H; rw [hy257]; with_reducible exact H2_) | (have H2_ := (Option.bind_some _ _).symm.trans H; with_reducible exact H2_) | with_reducible exact H | (rw [hy257]; exact H) | exact H
   have Ny257 := am_ hy257
   clear hy257
   simp only [Option.some.injEq, Prod.mk.injEq] at H
   obtain ⟨rfl, rfl⟩ := H
   go_wp2_with (first | ((with_reducible refine gate_callee (f := 122) rfl ?_); refine gl_ (some 20) Try.func122 #[.slice A0 l0.length c0, .int .i64 a1] ?_; (with_reducible refine (spec_l06First.calls kj2 _ _ l0 a1 a0 _ ?side1 ?side2 A12.out).mono ?_); (case side1 => exact qC_ a7 HB); (case side2 => exact b4.out); rintro e w' ⟨rfl, ⟨nd, rfl⟩⟩; refine ⟨_, rfl, ?_⟩) | ((with_reducible refine gate_dst (N := 26) rfl ?_); refine Kd.R_lit (Kd.int .i64) _ 3 ?hg (N := 26) ?hd (xs := ([] : List Int)) (inner := []) (ok := fun _ => True) (okp := fun _ => True) ?hr ?hp (fun _ hk => hk) trivial (Below.refl _ _) (Nat.le_refl _) (by simp) ?_; (case hd => rfl); (case hg => rfl); (case hr => first | (go_simp; done) | (go_simp; rfl)); (case hp => exact (Reps.none _ _)); intro c8 w26 ho27 hb hg_ hnew_; clear hg_ hnew_; (first | rw [← Ny246.out] at ho27 | (simp only [Int.reduceToNat] at ho27; rw [← Ny246.out] at ho27)); have a9 := am_ (Kd.R_lower ho27 (below_size qB_)); replace HB := hs_ hb; clear hb ho27; obtain ⟨i028, hi028, _, hsz28, _⟩ := info_parts info3; obtain ⟨A28, hcut28, hA28, hC28⟩ := print_mid_of (P := Try.prog) (Value.int .i64) 0 51 3 .i64 .i64 Try.underlying51 hi028 hsz28 A0 c0 l0 a0 (wrap64 ((l0.length : Int) - 1)) (of_decide_eq_true qa_) (by first | omega | exact of_decide_eq_true qa_) (of_decide_eq_true qa_) b4.out; have b0 := am_ (Kd.C_of_reads (h1 := fun _ => rfl) (hA28 _ (Kd.reads_of_C a7.out))); have d2 := am_ hC28; clear hA28 hC28 hi028 hsz28) | ((with_reducible refine gate_builtin (b := .append) (xs := #[.tmp 26, .tmp 32]) rfl ?_); at_builtin; refine Kd.R_append_rows (Kd.int .i64) (w0 := w) w.heap.size rfl (.tmp 26) (.tmp 32) 51 3 (.int .i64 0) 8 rfl Try.underlying51 info3 rfl (by decide) (by omega) c8 a5 ((l0.take ((wrap64 ((l0.length : Int) - 1)) : Int).toNat).drop (a0 : Int).toNat) _ _ _ (fun _ => True) (fun _ => False) rfl rfl ?aO ?aR (fun _ _ h => h) (fun _ h => h.elim) ?aF ?aB ?aS ?aL ?_; (case aR => first | (refine rr_len (show ((l0.take ((wrap64 ((l0.length : Int) - 1)) : Int).toNat).drop (a0 : Int).toNat).length = ((wrap64 ((l0.length : Int) - 1)).toNat - a0.toNat) from (by rw [List.length_drop, List.length_take]; have h_ : ((wrap64 ((l0.length : Int) - 1)) : Int) ≤ (l0.length : Int) := of_decide_eq_true qa_; omega)) ?_; repeat (first | exact (Kd.C_below b0.out HB.out) | (with_reducible refine Kd.C_alloc ?_ _) | (with_reducible refine Kd.C_drewN ?_ _) | (with_reducible refine Kd.C_drew ?_))) | (repeat (first | exact (Kd.C_below b0.out HB.out) | (with_reducible refine Kd.C_alloc ?_ _) | (with_reducible refine Kd.C_drewN ?_ _) | (with_reducible refine Kd.C_drew ?_)))); (case aB => exact qB_); (case aF => exact (fun _ _ => trivial)); (case aO => exact (qR_ a9)); (case aS => exact (below_size qB_)); (case aL => have := LMc21.out; have hlx_ := (show ((l0.take ((wrap64 ((l0.length : Int) - 1)) : Int).toNat).drop (a0 : Int).toNat).length = ((wrap64 ((l0.length : Int) - 1)).toNat - a0.toNat) from (by rw [List.length_drop, List.length_take]; have h_ : ((wrap64 ((l0.length : Int) - 1)) : Int) ≤ (l0.length : Int) := of_decide_eq_true qa_; omega)); omega); intro d0 w29 ho hb hg hat; rw [← Ny250.out] at ho; have b1 := am_ (ho); replace HB := am_ (hb); clear a9; clear ho hb hg hat; obtain ⟨i030, hi030, _, hsz30, _⟩ := info_parts info3; obtain ⟨hcut30, hA30, hC30⟩ := print_take_of (P := Try.prog) (Value.int .i64) 0 51 3 .i64 Try.underlying51 hi030 hsz30 A0 c0 l0 a0 (of_decide_eq_true qa_) (of_decide_eq_true qa_) b4.out; have b2 := am_ (Kd.C_of_reads (h1 := fun _ => rfl) (hA30 _ (Kd.reads_of_C a7.out))); have d3 := am_ hC30; clear hA30 hC30 hi030 hsz30) | ((with_reducible refine gate_builtin (b := .append) (xs := #[.tmp 34, .tmp 37]) rfl ?_); at_builtin; refine Kd.R_append_rows (Kd.int .i64) (w0 := w) w.heap.size rfl (.tmp 34) (.tmp 37) 51 3 (.int .i64 0) 8 rfl Try.underlying51 info3 rfl (by decide) (by omega) d0 a3 (l0.take (a0 : Int).toNat) _ _ _ (fun _ => True) (fun _ => False) rfl rfl ?aO ?aR (fun _ _ h => h) (fun _ h => h.elim) ?aF ?aB ?aS ?aL ?_; (case aR => first | (refine rr_len (show (l0.take (a0 : Int).toNat).length = a0.toNat from (by rw [List.length_take]; have h_ : (a0 : Int) ≤ (l0.length : Int) := of_decide_eq_true qa_; omega)) ?_; repeat (first | exact (Kd.C_below b2.out HB.out) | (with_reducible refine Kd.C_alloc ?_ _) | (with_reducible refine Kd.C_drewN ?_ _) | (with_reducible refine Kd.C_drew ?_))) | (repeat (first | exact (Kd.C_below b2.out HB.out) | (with_reducible refine Kd.C_alloc ?_ _) | (with_reducible refine Kd.C_drewN ?_ _) | (with_reducible refine Kd.C_drew ?_)))); (case aB => exact qB_); (case aF => exact (fun _ _ => trivial)); (case aO => exact (qR_ b1)); (case aS => exact (below_size qB_)); (case aL => have := LMc24.out; have hlx_ := (show (l0.take (a0 : Int).toNat).length = a0.toNat from (by rw [List.length_take]; have h_ : (a0 : Int) ≤ (l0.length : Int) := of_decide_eq_true qa_; omega)); omega); intro d1 w31 ho hb hg hat; rw [← Ny254.out] at ho; have b3 := am_ (ho); replace HB := am_ (hb); clear b1; clear ho hb hg hat) | ((with_reducible refine gate_builtin (b := .append) (xs := #[.tmp 39, .tmp 41]) rfl ?_); at_builtin; refine Kd.R_append (Kd.int .i64) (w0 := w) w.heap.size rfl (.tmp 39) (.tmp 41) 51 3 (.int .i64 0) 8 rfl Try.underlying51 info3 rfl (by decide) (by omega) d1 a2 a1 [.int .i64 a1] (fun _ => True) (fun _ => False) rfl rfl ?aP (fun _ hk => hk.elim) ?aF ?aO ?aB ?aS ?aL ?_; (case aP => exact rfl); (case aB => exact qB_); (case aF => exact (fun _ _ => trivial)); (case aO => exact (qR_ b3)); (case aS => exact (below_size qB_)); (case aL => have := LMc25.out; omega); intro d6 w32 ho hb hg hat; rw [← Ny257.out] at ho; have b9 := am_ (ho); replace HB := am_ (hb); clear b3; clear ho hb hg hat))
   go_ret2
   exact ⟨_, qr_, by (with_reducible repeat (first | apply Kd.R_alloc | apply Kd.R_drewN | apply Kd.R_drew)); exact b9.out, qB_⟩
def spec_l06Last.l0 : Nat → List Int → Int → Int → Option (Int)
  | 0, _, _, _ => none
  | k + 1, x0, x1, x5 => if x5 ≥ 0 then (if 0 ≤ x5 then (if x5 < (x0.length : Int) then (if (rd x0 x5) = x1 then (some x5) else (spec_l06Last.l0 k x0 x1 (wrap64 (x5 - 1)))) else (none)) else (none)) else (some (-1))
def spec_l06Last.f (k : Nat) (l0 : List Int) (a1 : Int) : Option (Int) := spec_l06Last.l0 k l0 a1 (wrap64 ((l0.length : Int) - 1))
theorem spec_l06Last.mono_l : ∀ k, (∀ y0 y1 y2, LeO (spec_l06Last.l0 k y0 y1 y2) (spec_l06Last.l0 (k + 1) y0 y1 y2))
  | 0 => fun _ _ _ r h => by simp [spec_l06Last.l0] at h
  | k + 1 => by
    have ih0 := spec_l06Last.mono_l k
    · intro y0 y1 y2
      unfold spec_l06Last.l0
      repeat' first | (with_reducible first | exact ih0 _ _ _ | exact LeO.refl _ | exact LeO.none _ | refine LeO.ite ?_ ?_ | refine LeO.bind ?_ (fun _ => ?_)) | exact LeO.none _ | refine LeO.ite ?_ ?_ | refine LeO.bind ?_ (fun _ => ?_)
theorem spec_l06Last.mono : ∀ a0 a1 k, LeO (spec_l06Last.f k a0 a1) (spec_l06Last.f (k + 1) a0 a1) := by
  intro a0 a1 k
  have ih0 := spec_l06Last.mono_l k
  unfold spec_l06Last.f
  repeat' first | (with_reducible first | exact ih0 _ _ _ | exact LeO.refl _ | exact LeO.none _ | refine LeO.ite ?_ ?_ | refine LeO.bind ?_ (fun _ => ?_)) | exact LeO.none _ | refine LeO.ite ?_ ?_ | refine LeO.bind ?_ (fun _ => ?_)
set_option maxHeartbeats 8000000 in
set_option maxRecDepth 100000 in
theorem spec_l06Last.calls (k : Nat) (A0 : Option Addr) (c0 : Nat) (l0 : List Int) (a1 : Int) (r : Int) (w : World) (hr0 : Kd.C (Kd.int .i64) w A0 l0.length l0) (hc0 : l0.length ≤ c0) (h : spec_l06Last.f k l0 a1 = some r) :
  Calls Try.prog 124 #[.slice A0 l0.length c0, .int .i64 a1] w fun e w' => e = .returned (.int .i64 r) ∧ Drawn0 w w' := by
 have a2 := am_ hr0
 have a3 := am_ hc0
 clear hr0 hc0
 have H : (spec_l06Last.l0 k l0 a1 (wrap64 ((l0.length : Int) - 1))) = some r := h
 clear h; have H' := am_ H; clear H
 go_enter Try.func124, Try.ntmps124
 go_wp2
 go_loopg [5] k (fun kq v5 w' => ∃ (x5_1 : Int), v5 = .int .i64 x5_1 ∧ Aside0 (spec_l06Last.l0 kq l0 a1 x5_1 = some r) ∧ Aside0 (kq ≤ k) ∧ Drawn0 w w')
 case atStart => exact ⟨(wrap64 ((l0.length : Int) - 1)), qe_, H', ⟨Nat.le_refl _⟩, by repeat (first | exact Drawn0.refl _ | apply Drawn0.step)⟩
 case round =>
  clear H'
  (try clear c1); (try clear p2)
  obtain ⟨x5_1, rfl, HA, HK1, ⟨m1, rfl⟩⟩ := hrel
  cases gk with
  | zero => exact absurd HA.out (by simp [spec_l06Last.l0])
  | succ k1 =>
   have H := HA.out; clear HA
   simp only [spec_l06Last.l0] at H
   by_cases c3 : x5_1 ≥ 0
   rotate_left
   ·rw [if_neg c3] at H
    have c3b0 : decide (0 ≤ x5_1) = false := decide_eq_false c3
    clear c3
    obtain rfl := Option.some.inj H
    go_wp2
    go_ret
    exact ⟨by first | rfl | (simp; done) | (simp [*]; done), by repeat (first | exact Drawn0.refl _ | apply Drawn0.step)⟩
   rw [if_pos c3] at H
   have c3b0 : decide (0 ≤ x5_1) = true := decide_eq_true c3
   clear c3
   by_cases c4 : 0 ≤ x5_1
   rotate_left
   ·rw [if_neg c4] at H
    exact absurd H (by simp)
   rw [if_pos c4] at H
   have c4b0 := decide_eq_true c4
   clear c4
   by_cases c5 : x5_1 < (l0.length : Int)
   rotate_left
   ·rw [if_neg c5] at H
    exact absurd H (by simp)
   rw [if_pos c5] at H
   have c5b0 := decide_eq_true c5
   clear c5
   by_cases c6 : (rd l0 x5_1) = a1
   ·rw [if_pos c6] at H
    have c6b0 : ((rd l0 x5_1) == a1) = true := beq_iff_eq.mpr c6
    have c6b1 : ((rd l0 x5_1) != a1) = false := bne_eq_false_iff_eq.mpr c6
    clear c6
    obtain rfl := Option.some.inj H
    have p260 := dp_ x5_1
    have q260 := dl_ x5_1 l0.length
    obtain ⟨ad260, e260, a0⟩ := Kd.at_int a2.out x5_1 p260 q260
    cases e260; replace p260 := eq_true p260; replace q260 := eq_true q260
    go_wp2
    go_ret
    exact ⟨by first | rfl | (simp; done) | (simp [*]; done), by repeat (first | exact Drawn0.refl _ | apply Drawn0.step)⟩
   rw [if_neg c6] at H
   have c6b0 : ((rd l0 x5_1) == a1) = false := beq_eq_false_iff_ne.mpr c6
   have c6b1 : ((rd l0 x5_1) != a1) = true := bne_iff_ne.mpr c6
   have H' := am_ H; clear H
   have p260 := dp_ x5_1
   have q260 := dl_ x5_1 l0.length
   obtain ⟨ad260, e260, a0⟩ := Kd.at_int a2.out x5_1 p260 q260
   cases e260; replace p260 := eq_true p260; replace q260 := eq_true q260
   go_wp2
   go_roundg k1
   case measure => have := HK1.out; omega
   case rel => exact ⟨(wrap64 (x5_1 - 1)), qe_, H', ⟨by have := HK1.out; omega⟩, by repeat (first | exact Drawn0.refl _ | apply Drawn0.step)⟩
mutual
def spec_JoinTours.j0 : Nat → List Int → Int → List Int → Int → Bool → Option (List Int × Bool)
  | 0, _, _, _, _, _ => none
  | k + 1, x0, x1, x2, x3, x34 => if x34 = true then (some ((([] : List Int)), false)) else (spec_JoinTours.l0 k x0 x1 x2 x3 0)
def spec_JoinTours.l0 : Nat → List Int → Int → List Int → Int → Int → Option (List Int × Bool)
  | 0, _, _, _, _, _ => none
  | k + 1, x0, x1, x2, x3, x10 => if x10 < (x2.length : Int) then (if 0 ≤ x10 then ((spec_l05In.f k x0 (rd x2 x10)).bind fun t269 => (if t269 = true then (some ((([] : List Int)), false)) else (spec_JoinTours.l0 k x0 x1 x2 x3 (wrap64 (x10 + 1))))) else (none)) else ((spec_Reroot.f k x2 x3).bind fun bt273 => ((spec_l06Last.f k x0 x1).bind fun t277 => ((some (([] : List Int) : List Int)).bind fun y278 => (if 0 ≤ (wrap64 (t277 + 1)) then (if (wrap64 (t277 + 1)) ≤ (x0.length : Int) then (if y278.length + (x0.take ((wrap64 (t277 + 1)) : Int).toNat).length < 17592186044416 then ((some (y278 ++ (x0.take ((wrap64 (t277 + 1)) : Int).toNat) : List Int)).bind fun y282 => (if y282.length + bt273.1.length < 17592186044416 then ((some (y282 ++ bt273.1 : List Int)).bind fun y285 => (if 0 ≤ t277 then (if t277 ≤ (x0.length : Int) then (if y285.length + (x0.drop (t277 : Int).toNat).length < 17592186044416 then (some ((y285 ++ (x0.drop (t277 : Int).toNat)), true)) else (none)) else (none)) else (none))) else (none))) else (none)) else (none)) else (none)))))
end
def spec_JoinTours.f (k : Nat) (l0 : List Int) (a1 : Int) (l2 : List Int) (a3 : Int) : Option (List Int × Bool) := (spec_TourOk.f k l0).bind fun t261 => (if t261 = true then ((spec_TourOk.f k l2).bind fun t262 => (if t262 = true then ((spec_l06First.f k l0 a1).bind fun t263 => (if t263 < 0 then (spec_JoinTours.j0 k l0 a1 l2 a3 true) else ((spec_l06First.f k l2 a3).bind fun t264 => (spec_JoinTours.j0 k l0 a1 l2 a3 (decide (t264 < 0)))))) else (spec_JoinTours.j0 k l0 a1 l2 a3 true))) else (spec_JoinTours.j0 k l0 a1 l2 a3 true))
theorem spec_JoinTours.mono_l : ∀ k, (∀ y0 y1 y2 y3 y4, LeO (spec_JoinTours.j0 k y0 y1 y2 y3 y4) (spec_JoinTours.j0 (k + 1) y0 y1 y2 y3 y4)) ∧ (∀ y0 y1 y2 y3 y4, LeO (spec_JoinTours.l0 k y0 y1 y2 y3 y4) (spec_JoinTours.l0 (k + 1) y0 y1 y2 y3 y4))
  | 0 => ⟨fun _ _ _ _ _ r h => by simp [spec_JoinTours.j0] at h, fun _ _ _ _ _ r h => by simp [spec_JoinTours.l0] at h⟩
  | k + 1 => by
    obtain ⟨ih0, ih1⟩ := spec_JoinTours.mono_l k
    refine ⟨?_, ?_⟩ <;> (intros; first | unfold spec_JoinTours.j0 | unfold spec_JoinTours.l0) <;> repeat' first | (with_reducible first | exact ih0 _ _ _ _ _ | exact ih1 _ _ _ _ _ | exact spec_Reroot.mono _ _ _ | exact spec_TourOk.mono _ _ | exact spec_l05In.mono _ _ _ | exact spec_l06First.mono _ _ _ | exact spec_l06Last.mono _ _ _ | exact LeO.refl _ | exact LeO.none _ | refine LeO.ite ?_ ?_ | refine LeO.bind ?_ (fun _ => ?_)) | exact LeO.none _ | refine LeO.ite ?_ ?_ | refine LeO.bind ?_ (fun _ => ?_)
theorem spec_JoinTours.mono : ∀ a0 a1 a2 a3 k, LeO (spec_JoinTours.f k a0 a1 a2 a3) (spec_JoinTours.f (k + 1) a0 a1 a2 a3) := by
  intro a0 a1 a2 a3 k
  obtain ⟨ih0, ih1⟩ := spec_JoinTours.mono_l k
  unfold spec_JoinTours.f
  repeat' first | (with_reducible first | exact ih0 _ _ _ _ _ | exact ih1 _ _ _ _ _ | exact spec_Reroot.mono _ _ _ | exact spec_TourOk.mono _ _ | exact spec_l05In.mono _ _ _ | exact spec_l06First.mono _ _ _ | exact spec_l06Last.mono _ _ _ | exact LeO.refl _ | exact LeO.none _ | refine LeO.ite ?_ ?_ | refine LeO.bind ?_ (fun _ => ?_)) | exact LeO.none _ | refine LeO.ite ?_ ?_ | refine LeO.bind ?_ (fun _ => ?_)
set_option maxHeartbeats 8000000 in
set_option maxRecDepth 100000 in
theorem spec_JoinTours.calls (k : Nat) (A0 : Option Addr) (c0 : Nat) (l0 : List Int) (a1 : Int) (A2 : Option Addr) (c2 : Nat) (l2 : List Int) (a3 : Int) (r1 : List Int) (r2 : Bool) (w : World) (hr0 : Kd.C (Kd.int .i64) w A0 l0.length l0) (hc0 : l0.length ≤ c0) (hr2 : Kd.C (Kd.int .i64) w A2 l2.length l2) (hc2 : l2.length ≤ c2) (h : spec_JoinTours.f k l0 a1 l2 a3 = some (r1, r2)) :
  Calls Try.prog 84 #[.slice A0 l0.length c0, .int .i64 a1, .slice A2 l2.length c2, .int .i64 a3] w fun e w' => ∃ v0_ : Value, e = .returned (.tuple #[v0_, .bool r2]) ∧ Kd.R (Kd.int .i64) 3 w' w.heap.size (fun _ => True) v0_ r1 ∧ Below w.heap.size w w' := by
 have a9 := am_ hr0
 have b0 := am_ hc0
 clear hr0 hc0
 have b8 := am_ hr2
 have c4 := am_ hc2
 clear hr2 hc2
 have HB := am_ (Below.refl w.heap.size w)
 have H : ((spec_TourOk.f k l0).bind fun b9 => (if b9 = true then ((spec_TourOk.f k l2).bind fun c3 => (if c3 = true then ((spec_l06First.f k l0 a1).bind fun b1 => (if b1 < 0 then (spec_JoinTours.j0 k l0 a1 l2 a3 true) else ((spec_l06First.f k l2 a3).bind fun b2 => (spec_JoinTours.j0 k l0 a1 l2 a3 (decide (b2 < 0)))))) else (spec_JoinTours.j0 k l0 a1 l2 a3 true))) else (spec_JoinTours.j0 k l0 a1 l2 a3 true))) = some (r1, r2) := h
 clear h
 have d8 := am_ H
 clear H
 go_enter Try.func84, Try.ntmps84
 go_upto_region 1 with (fail)
 go_cut [34] (fun v34 wc => ∃ (kq : Nat) (x34_4 : Bool), v34 = .bool x34_4 ∧ Aside0 (spec_JoinTours.j0 kq l0 a1 l2 a3 x34_4 = some (r1, r2)) ∧ Aside0 (kq ≤ k) ∧ Aside0 (Below w.heap.size w wc))
 case first =>
  have H := d8.out; clear d8
  obtain ⟨b9, A60, H⟩ := Option.bind_eq_some_iff.mp H; have A6 := am_ A60; clear A60
  by_cases c7 : b9 = true
  rotate_left
  ·replace c7 := Bool.eq_false_iff.mpr c7
   subst c7
   rw [if_neg ff_] at H; have H' := am_ H; clear H
   go_wp2_with (first | ((with_reducible refine gate_callee (f := 104) rfl ?_); refine gl_ (some 16) Try.func104 #[.slice A0 l0.length c0] ?_; (with_reducible refine (spec_TourOk.calls k _ _ l0 false _ ?side1 ?side2 A6.out).mono ?_); (case side1 => exact qC_ a9 HB); (case side2 => exact b0.out); rintro e w19 ⟨rfl, hb⟩; refine ⟨_, rfl, ?_⟩; replace HB := hs_ hb; (try clear hb); (try clear hb2); (try clear hk); (try clear hi)))
   go_meet
   case rel => exact ⟨_, (true), qe_, H', ⟨qo_⟩, ⟨qB_⟩⟩
  subst c7
  rw [if_pos rfl] at H
  obtain ⟨c3, A80, H⟩ := Option.bind_eq_some_iff.mp H; have A8 := am_ A80; clear A80
  by_cases c9 : c3 = true
  rotate_left
  ·replace c9 := Bool.eq_false_iff.mpr c9
   subst c9
   rw [if_neg ff_] at H; have H' := am_ H; clear H
   go_wp2_with (first | ((with_reducible refine gate_callee (f := 104) rfl ?_); refine gl_ (some 16) Try.func104 #[.slice A0 l0.length c0] ?_; (with_reducible refine (spec_TourOk.calls k _ _ l0 true _ ?side1 ?side2 A6.out).mono ?_); (case side1 => exact qC_ a9 HB); (case side2 => exact b0.out); rintro e w17 ⟨rfl, hb⟩; refine ⟨_, rfl, ?_⟩; replace HB := hs_ hb; (try clear hb); (try clear hb2); (try clear hk); (try clear hi)) | (go_at_call 104; (with_reducible refine (spec_TourOk.calls k _ _ l2 false _ ?side1 ?side2 A8.out).mono ?_); (case side1 => exact qC_ b8 HB); (case side2 => exact c4.out); rintro e w18 ⟨rfl, hb⟩; replace HB := hs_ hb; (try clear hb); (try clear hb2); (try clear hk); (try clear hi)))
   go_meet
   case rel => exact ⟨_, (true), qe_, H', ⟨qo_⟩, ⟨qB_⟩⟩
  subst c9
  rw [if_pos rfl] at H
  obtain ⟨b1, c5, H⟩ := Option.bind_eq_some_iff.mp H; have A10 := am_ c5; clear c5
  by_cases c11 : b1 < 0
  ·rw [if_pos c11] at H
   have c11b0 := decide_eq_true c11
   clear c11
   (first | rw [c11b0] | (simp only [i64_w, i32_w]; rw [c11b0]) | skip)
   have H' := am_ H; clear H
   go_wp2_with (first | ((with_reducible refine gate_callee (f := 104) rfl ?_); refine gl_ (some 16) Try.func104 #[.slice A0 l0.length c0] ?_; (with_reducible refine (spec_TourOk.calls k _ _ l0 true _ ?side1 ?side2 A6.out).mono ?_); (case side1 => exact qC_ a9 HB); (case side2 => exact b0.out); rintro e w12 ⟨rfl, hb⟩; refine ⟨_, rfl, ?_⟩; replace HB := hs_ hb; (try clear hb); (try clear hb2); (try clear hk); (try clear hi)) | (go_at_call 104; (with_reducible refine (spec_TourOk.calls k _ _ l2 true _ ?side1 ?side2 A8.out).mono ?_); (case side1 => exact qC_ b8 HB); (case side2 => exact c4.out); rintro e w13 ⟨rfl, hb⟩; replace HB := hs_ hb; (try clear hb); (try clear hb2); (try clear hk); (try clear hi)) | (go_at_call 122; (with_reducible refine (spec_l06First.calls k _ _ l0 a1 b1 _ ?side1 ?side2 A10.out).mono ?_); (case side1 => exact qC_ a9 HB); (case side2 => exact b0.out); rintro e w' ⟨rfl, ⟨nd, rfl⟩⟩))
   go_meet
   case rel => exact ⟨_, (true), qe_, H', ⟨qo_⟩, ⟨qB_⟩⟩
  rw [if_neg c11] at H
  have c11b0 := decide_eq_false c11
  clear c11
  (first | rw [c11b0] | (simp only [i64_w, i32_w]; rw [c11b0]) | skip)
  obtain ⟨b2, c6, H⟩ := Option.bind_eq_some_iff.mp H; have A14 := am_ c6; clear c6
  have H' := am_ H; clear H
  go_wp2_with (first | ((with_reducible refine gate_callee (f := 104) rfl ?_); refine gl_ (some 16) Try.func104 #[.slice A0 l0.length c0] ?_; (with_reducible refine (spec_TourOk.calls k _ _ l0 true _ ?side1 ?side2 A6.out).mono ?_); (case side1 => exact qC_ a9 HB); (case side2 => exact b0.out); rintro e w15 ⟨rfl, hb⟩; refine ⟨_, rfl, ?_⟩; replace HB := hs_ hb; (try clear hb); (try clear hb2); (try clear hk); (try clear hi)) | (go_at_call 104; (with_reducible refine (spec_TourOk.calls k _ _ l2 true _ ?side1 ?side2 A8.out).mono ?_); (case side1 => exact qC_ b8 HB); (case side2 => exact c4.out); rintro e w16 ⟨rfl, hb⟩; replace HB := hs_ hb; (try clear hb); (try clear hb2); (try clear hk); (try clear hi)) | (go_at_call 122; (with_reducible refine (spec_l06First.calls k _ _ l0 a1 b1 _ ?side1 ?side2 A10.out).mono ?_); (case side1 => exact qC_ a9 HB); (case side2 => exact b0.out); rintro e w' ⟨rfl, ⟨nd, rfl⟩⟩) | (go_at_call 122; (with_reducible refine (spec_l06First.calls k _ _ l2 a3 b2 _ ?side1 ?side2 A14.out).mono ?_); (case side1 => repeat (first | exact (Kd.C_below b8.out qB_) | (with_reducible refine Kd.C_alloc ?_ _) | (with_reducible refine Kd.C_drewN ?_ _) | (with_reducible refine Kd.C_drew ?_))); (case side2 => exact c4.out); rintro e w' ⟨rfl, ⟨nd, rfl⟩⟩))
  go_meet
  case rel => exact ⟨_, (decide (b2 < 0)), qe_, H', ⟨qo_⟩, ⟨qB_⟩⟩
 case rest =>
  clear d8; (try clear c1); (try clear c2); (try clear p2); (try clear c7); (try clear c8); (try clear c9); (try clear c10); (try clear c11); (try clear c11b0)
  obtain ⟨kq, x34_4, rfl, HA, e9, HB⟩ := hcut
  cases kq with
  | zero => exact absurd HA.out (by simp [spec_JoinTours.j0])
  | succ kj4 =>
   have H := HA.out; clear HA
   simp only [spec_JoinTours.j0] at H
   by_cases c20 : x34_4 = true
   ·subst c20
    rw [if_pos rfl] at H
    obtain ⟨d9, hy265⟩ : ∃ y_ : List Int, y_ = (([] : List Int)) := ⟨_, rfl⟩
    replace H : (some (d9, false)) = some (r1, r2) := by first | (rw [hy265]; with_reducible exact H) | (have H2_ := (Option.bind_some _ _).symm.trans H; rw [hy265]; with_reducible exact H2_) | (have H2_ := (Option.bind_some _ _).symm.trans H; with_reducible exact H2_) | with_reducible exact H | (rw [hy265]; exact H) | exact H
    have Ny265 := am_ hy265
    clear hy265
    simp only [Option.some.injEq, Prod.mk.injEq] at H
    obtain ⟨rfl, rfl⟩ := H
    go_wp2_with (first | ((with_reducible refine gate_dst (N := 35) rfl ?_); refine Kd.R_lit (Kd.int .i64) _ 3 ?hg (N := 35) ?hd (xs := ([] : List Int)) (inner := []) (ok := fun _ => True) (okp := fun _ => True) ?hr ?hp (fun _ hk => hk) trivial (Below.refl _ _) (Nat.le_refl _) (by simp) ?_; (case hd => rfl); (case hg => rfl); (case hr => first | (go_simp; done) | (go_simp; rfl)); (case hp => exact (Reps.none _ _)); intro f2 w21 ho22 hb hg_ hnew_; clear hg_ hnew_; (first | rw [← Ny265.out] at ho22 | (simp only [Int.reduceToNat] at ho22; rw [← Ny265.out] at ho22)); have d0 := am_ (Kd.R_lower ho22 (below_size qB_)); replace HB := hs_ hb; clear hb ho22))
    go_ret2
    exact ⟨_, qr_, by (with_reducible repeat (first | apply Kd.R_alloc | apply Kd.R_drewN | apply Kd.R_drew)); exact d0.out, qB_⟩
   replace c20 := Bool.eq_false_iff.mpr c20
   subst c20
   rw [if_neg ff_] at H; have H' := am_ H; clear H
   go_wp2
   go_loopg [10] kj4 (fun kq v10 w' => ∃ (x10_2 : Int), v10 = .int .i64 x10_2 ∧ Aside0 (spec_JoinTours.l0 kq l0 a1 l2 a3 x10_2 = some (r1, r2)) ∧ Aside0 (kq ≤ kj4) ∧ Aside0 (Below w.heap.size w w'))
   case atStart => exact ⟨(0), qe_, H', ⟨Nat.le_refl _⟩, ⟨qB_⟩⟩
   case round =>
    clear H'
    (try clear c1); (try clear c2); (try clear p2); (try clear c7); (try clear c8); (try clear c9); (try clear c10); (try clear c11); (try clear c11b0); (try clear c20); (try clear p2)
    obtain ⟨x10_2, rfl, HA, HK2, HB⟩ := hrel
    cases gk with
    | zero => exact absurd HA.out (by simp [spec_JoinTours.l0])
    | succ k2 =>
     have H := HA.out; clear HA
     simp only [spec_JoinTours.l0] at H
     by_cases c23 : x10_2 < (l2.length : Int)
     ·rw [if_pos c23] at H
      have c23b0 := decide_eq_true c23
      clear c23
      by_cases c24 : 0 ≤ x10_2
      rotate_left
      ·rw [if_neg c24] at H
       exact absurd H (by simp)
      rw [if_pos c24] at H
      have c24b0 := decide_eq_true c24
      clear c24
      obtain ⟨e0, d1, H⟩ := Option.bind_eq_some_iff.mp H; have A25 := am_ d1; clear d1
      by_cases c26 : e0 = true
      rotate_left
      ·replace c26 := Bool.eq_false_iff.mpr c26
       subst c26
       rw [if_neg ff_] at H; have H' := am_ H; clear H
       have p268 := dp_ x10_2
       have q268 := dl_ x10_2 l2.length
       obtain ⟨ad268, e268, a4⟩ := Kd.at_int b8.out x10_2 p268 q268
       cases e268
       replace a4 := qx_ HB a4
       replace p268 := eq_true p268; replace q268 := eq_true q268
       go_wp2_with (first | ((with_reducible refine gate_callee (f := 105) rfl ?_); refine gl_ (some 47) Try.func105 #[.slice A0 l0.length c0, .int .i64 (rd l2 x10_2)] ?_; (with_reducible refine (spec_l05In.calls k2 _ _ l0 (rd l2 x10_2) false _ ?side1 ?side2 A25.out).mono ?_); (case side1 => exact qC_ a9 HB); (case side2 => exact b0.out); rintro e w' ⟨rfl, ⟨nd, rfl⟩⟩; refine ⟨_, rfl, ?_⟩))
       go_roundg k2
       case measure => have := e9.out; have := HK2.out; omega
       case rel => exact ⟨(wrap64 (x10_2 + 1)), qe_, H', ⟨by have := e9.out; have := HK2.out; omega⟩, ⟨qB_⟩⟩
      subst c26
      rw [if_pos rfl] at H
      obtain ⟨e1, hy270⟩ : ∃ y_ : List Int, y_ = (([] : List Int)) := ⟨_, rfl⟩
      replace H : (some (e1, false)) = some (r1, r2) := by first | (rw [hy270]; with_reducible exact H) | (have H2_ := (Option.bind_some _ _).symm.trans H; rw [hy270]; with_reducible exact H2_) | (have H2_ := (Option.bind_some _ _).symm.trans H; with_reducible exact H2_) | with_reducible exact H | (rw [hy270]; exact H) | exact H
      have Ny270 := am_ hy270
      clear hy270
      simp only [Option.some.injEq, Prod.mk.injEq] at H
      obtain ⟨rfl, rfl⟩ := H
      have p268 := dp_ x10_2
      have q268 := dl_ x10_2 l2.length
      obtain ⟨ad268, e268, a4⟩ := Kd.at_int b8.out x10_2 p268 q268
      cases e268
      replace a4 := qx_ HB a4
      replace p268 := eq_true p268; replace q268 := eq_true q268
      go_wp2_with (first | ((with_reducible refine gate_callee (f := 105) rfl ?_); refine gl_ (some 47) Try.func105 #[.slice A0 l0.length c0, .int .i64 (rd l2 x10_2)] ?_; (with_reducible refine (spec_l05In.calls k2 _ _ l0 (rd l2 x10_2) true _ ?side1 ?side2 A25.out).mono ?_); (case side1 => exact qC_ a9 HB); (case side2 => exact b0.out); rintro e w' ⟨rfl, ⟨nd, rfl⟩⟩; refine ⟨_, rfl, ?_⟩) | ((with_reducible refine gate_dst (N := 48) rfl ?_); refine Kd.R_lit (Kd.int .i64) _ 3 ?hg (N := 48) ?hd (xs := ([] : List Int)) (inner := []) (ok := fun _ => True) (okp := fun _ => True) ?hr ?hp (fun _ hk => hk) trivial (Below.refl _ _) (Nat.le_refl _) (by simp) ?_; (case hd => rfl); (case hg => rfl); (case hr => first | (go_simp; done) | (go_simp; rfl)); (case hp => exact (Reps.none _ _)); intro f3 w27 ho28 hb hg_ hnew_; clear hg_ hnew_; (first | rw [← Ny270.out] at ho28 | (simp only [Int.reduceToNat] at ho28; rw [← Ny270.out] at ho28)); have d2 := am_ (Kd.R_lower ho28 (below_size qB_)); replace HB := hs_ hb; clear hb ho28))
      go_ret2
      exact ⟨_, qr_, by (with_reducible repeat (first | apply Kd.R_alloc | apply Kd.R_drewN | apply Kd.R_drew)); exact d2.out, qB_⟩
     rw [if_neg c23] at H
     have c23b0 := decide_eq_false c23
     clear c23
     replace H := Option.bind_eq_some_iff.mp H
     obtain ⟨⟨a6, e2⟩, d3, H⟩ := H
     replace H : ((spec_l06Last.f k2 l0 a1).bind fun a0 => ((some (([] : List Int) : List Int)).bind fun a8 => (if 0 ≤ (wrap64 (a0 + 1)) then (if (wrap64 (a0 + 1)) ≤ (l0.length : Int) then (if a8.length + (l0.take ((wrap64 (a0 + 1)) : Int).toNat).length < 17592186044416 then ((some (a8 ++ (l0.take ((wrap64 (a0 + 1)) : Int).toNat) : List Int)).bind fun a7 => (if a7.length + a6.length < 17592186044416 then ((some (a7 ++ a6 : List Int)).bind fun a5 => (if 0 ≤ a0 then (if a0 ≤ (l0.length : Int) then (if a5.length + (l0.drop (a0 : Int).toNat).length < 17592186044416 then (some ((a5 ++ (l0.drop (a0 : Int).toNat)), true)) else (none)) else (none)) else (none))) else (none))) else (none)) else (none)) else (none)))) = some (r1, r2) := H
     have A29 := am_ d3
     clear d3
     obtain ⟨a0, d4, H⟩ := Option.bind_eq_some_iff.mp H; have A30 := am_ d4; clear d4
     obtain ⟨a8, hy278⟩ : ∃ y_ : List Int, y_ = (([] : List Int)) := ⟨_, rfl⟩
     replace H : (if 0 ≤ (wrap64 (a0 + 1)) then (if (wrap64 (a0 + 1)) ≤ (l0.length : Int) then (if a8.length + (l0.take ((wrap64 (a0 + 1)) : Int).toNat).length < 17592186044416 then ((some (a8 ++ (l0.take ((wrap64 (a0 + 1)) : Int).toNat) : List Int)).bind fun a7 => (if a7.length + a6.length < 17592186044416 then ((some (a7 ++ a6 : List Int)).bind fun a5 => (if 0 ≤ a0 then (if a0 ≤ (l0.length : Int) then (if a5.length + (l0.drop (a0 : Int).toNat).length < 17592186044416 then (some ((a5 ++ (l0.drop (a0 : Int).toNat)), true)) else (none)) else (none)) else (none))) else (none))) else (none)) else (none)) else (none)) = some (r1, r2) := by first | (rw [hy278]; with_reducible exact H) | (have H2_ := (Option.bind_some _ _).symm.trans H; rw [hy278]; with_reducible exact H2_) | (have H2_ := (Option.bind_some _ _).symm.trans H; with_reducible exact H2_) | with_reducible exact H | (rw [hy278]; exact H) | exact H
     have Ny278 := am_ hy278
     clear hy278
     obtain ⟨ji31, hji31⟩ : ∃ j_ : Int, (wrap64 (a0 + 1)) = j_ := ⟨_, rfl⟩
     first | rw [hji31] at H | simp only [hji31] at H
     (try rw [hji31] at A29)
     (try rw [hji31] at A30)
     have hji31w : (IntKind.i64.wrap (a0 + 1)) = ji31 := (i64_w _).trans hji31
     by_cases c32 : 0 ≤ (ji31)
     rotate_left
     ·rw [if_neg c32] at H
      exact absurd H (by simp)
     rw [if_pos c32] at H
     have c32b0 := eq_true c32
     have c32b1 := decide_eq_true c32
     clear c32
     by_cases c33 : (ji31) ≤ (l0.length : Int)
     rotate_left
     ·rw [if_neg c33] at H
      exact absurd H (by simp)
     rw [if_pos c33] at H
     have c33b0 := eq_true c33
     have c33b1 := decide_eq_true c33
     clear c33
     by_cases c34 : a8.length + (l0.take ((ji31) : Int).toNat).length < 17592186044416
     rotate_left
     ·rw [if_neg c34] at H
      exact absurd H (by simp)
     rw [if_pos c34] at H
     have LMc34 := am_ c34
     clear c34
     obtain ⟨a7, hy282⟩ : ∃ y_ : List Int, y_ = (a8 ++ (l0.take ((ji31) : Int).toNat)) := ⟨_, rfl⟩
     replace H : (if a7.length + a6.length < 17592186044416 then ((some (a7 ++ a6 : List Int)).bind fun a5 => (if 0 ≤ a0 then (if a0 ≤ (l0.length : Int) then (if a5.length + (l0.drop (a0 : Int).toNat).length < 17592186044416 then (some ((a5 ++ (l0.drop (a0 : Int).toNat)), true)) else (none)) else (none)) else (none))) else (none)) = some (r1, r2) := by first | (rw [hy282]; with_reducible exact H) | (have H2_ := (Option.bind_some _ _).symm.trans H; rw [hy282]; with_reducible exact H2_) | (have H2_ := (Option.bind_some _ _).symm.trans H; with_reducible exact H2_) | with_reducible exact H | (rw [hy282]; exact H) | exact H
     have Ny282 := am_ hy282
     clear hy282
     by_cases c35 : a7.length + a6.length < 17592186044416
     rotate_left
     ·rw [if_neg c35] at H
      exact absurd H (by simp)
     rw [if_pos c35] at H
     have LMc35 := am_ c35
     clear c35
     obtain ⟨a5, hy285⟩ : ∃ y_ : List Int, y_ = (a7 ++ a6) := ⟨_, rfl⟩
     replace H : (if 0 ≤ a0 then (if a0 ≤ (l0.length : Int) then (if a5.length + (l0.drop (a0 : Int).toNat).length < 17592186044416 then (some ((a5 ++ (l0.drop (a0 : Int).toNat)), true)) else (none)) else (none)) else (none)) = some (r1, r2) := by first | (rw [hy285]; with_reducible exact H) | (have H2_ := (Option.bind_some _ _).symm.trans H; rw [hy285]; with_reducible exact H2_) | (have H2_ := (Option.bind_some _ _).symm.trans H; with_reducible exact H2_) | with_reducible exact H | (rw [hy285]; exact H) | exact H
     have Ny285 := am_ hy285
     clear hy285
     by_cases c36 : 0 ≤ a0
     rotate_left
     ·rw [if_neg c36] at H
      exact absurd H (by simp)
     rw [if_pos c36] at H
     have c36b0 := eq_true c36
     have c36b1 := decide_eq_true c36
     clear c36
     by_cases c37 : a0 ≤ (l0.length : Int)
     rotate_left
     ·rw [if_neg c37] at H
      exact absurd H (by simp)
     rw [if_pos c37] at H
     have c37b0 := eq_true c37
     have c37b1 := decide_eq_true c37
     clear c37
     by_cases c38 : a5.length + (l0.drop (a0 : Int).toNat).length < 17592186044416
     rotate_left
     ·rw [if_neg c38] at H
      exact absurd H (by simp)
     rw [if_pos c38] at H
     have LMc38 := am_ c38
     clear c38
     obtain ⟨e3, hy289⟩ : ∃ y_ : List Int, y_ = (a5 ++ (l0.drop (a0 : Int).toNat)) := ⟨_, rfl⟩
     replace H : (some (e3, true)) = some (r1, r2) := by first | (rw [hy289]; with_reducible exact H) | (have H2_ := (Option.bind_some _ _).symm.trans H; rw [hy289]; with_reducible exact H2_) | (have H2_ := (Option.bind_some _ _).symm.trans H; with_reducible exact H2_) | with_reducible exact H | (rw [hy289]; exact H) | exact H
     have Ny289 := am_ hy289
     clear hy289
     simp only [Option.some.injEq, Prod.mk.injEq] at H
     obtain ⟨rfl, rfl⟩ := H
     go_wp2_with (first | ((with_reducible refine gate_callee (f := 123) rfl ?_); refine gl_ (some 52) Try.func123 #[.slice A2 l2.length c2, .int .i64 a3] ?_; (with_reducible refine (spec_Reroot.calls k2 _ _ l2 a3 a6 e2 _ ?side1 ?side2 A29.out).mono ?_); (case side1 => exact qC_ b8 HB); (case side2 => exact c4.out); rintro e w39 ⟨e4, rfl, ho0, hb⟩; refine ⟨_, rfl, ?_⟩; have a2 := am_ (Kd.R_lower ho0 (below_size qB_)); replace HB := hs_ hb; (try clear hb); (try clear hb2); (try clear hk); (try clear hi); (try clear ho0)) | ((with_reducible refine gate_callee (f := 124) rfl ?_); refine gl_ (some 57) Try.func124 #[.slice A0 l0.length c0, .int .i64 a1] ?_; (with_reducible refine (spec_l06Last.calls k2 _ _ l0 a1 a0 _ ?side1 ?side2 A30.out).mono ?_); (case side1 => exact qC_ a9 HB); (case side2 => exact b0.out); rintro e w' ⟨rfl, ⟨nd, rfl⟩⟩; refine ⟨_, rfl, ?_⟩) | ((with_reducible refine gate_dst (N := 58) rfl ?_); refine Kd.R_lit (Kd.int .i64) _ 3 ?hg (N := 58) ?hd (xs := ([] : List Int)) (inner := []) (ok := fun _ => True) (okp := fun _ => True) ?hr ?hp (fun _ hk => hk) trivial (Below.refl _ _) (Nat.le_refl _) (by simp) ?_; (case hd => rfl); (case hg => rfl); (case hr => first | (go_simp; done) | (go_simp; rfl)); (case hp => exact (Reps.none _ _)); intro e5 w40 ho41 hb hg_ hnew_; clear hg_ hnew_; (first | rw [← Ny278.out] at ho41 | (simp only [Int.reduceToNat] at ho41; rw [← Ny278.out] at ho41)); have b3 := am_ (Kd.R_lower (Kd.R_new' ho41 (Kd.R_lt (qR_ a2))) (below_size qB_)); replace a2 := am_ (Kd.R_elder' (qR_ a2) (Kd.R_base ho41) hb); replace HB := hs_ hb; clear hb ho41; obtain ⟨i042, hi042, _, hsz42, _⟩ := info_parts info3; obtain ⟨hcut42, hA42, hC42⟩ := print_take_of (P := Try.prog) (Value.int .i64) 0 51 3 .i64 Try.underlying51 hi042 hsz42 A0 c0 l0 (ji31) (of_decide_eq_true qa_) (of_decide_eq_true qa_) b0.out; have b4 := am_ (Kd.C_of_reads (h1 := fun _ => rfl) (hA42 _ (Kd.reads_of_C a9.out))); have f0 := am_ hC42; clear hA42 hC42 hi042 hsz42) | ((with_reducible refine gate_builtin (b := .append) (xs := #[.tmp 58, .tmp 62]) rfl ?_); at_builtin; refine Kd.R_append_rows (Kd.int .i64) (w0 := w) w.heap.size rfl (.tmp 58) (.tmp 62) 51 3 (.int .i64 0) 8 rfl Try.underlying51 info3 rfl (by decide) (by omega) e5 a8 (l0.take ((ji31) : Int).toNat) _ _ _ (fun k_ => some k_ ≠ (e4 : Value).ownBlock) (fun _ => False) rfl rfl ?aO ?aR (fun _ _ h => h) (fun _ h => h.elim) ?aF ?aB ?aS ?aL ?_; (case aR => first | (refine rr_len (show (l0.take ((ji31) : Int).toNat).length = (ji31).toNat from (by rw [List.length_take]; have h_ : ((ji31) : Int) ≤ (l0.length : Int) := of_decide_eq_true qa_; omega)) ?_; repeat (first | exact (Kd.C_below b4.out HB.out) | (with_reducible refine Kd.C_alloc ?_ _) | (with_reducible refine Kd.C_drewN ?_ _) | (with_reducible refine Kd.C_drew ?_))) | (repeat (first | exact (Kd.C_below b4.out HB.out) | (with_reducible refine Kd.C_alloc ?_ _) | (with_reducible refine Kd.C_drewN ?_ _) | (with_reducible refine Kd.C_drew ?_)))); (case aB => exact qB_); (case aF => exact (fun k_ hk => Kd.fresh' (Kd.R_lt (qR_ a2)) k_ hk)); (case aO => exact (by (with_reducible repeat (first | apply Kd.R_alloc | apply Kd.R_drewN | apply Kd.R_drew)); exact Kd.R_mono b3.out (fun _ hk => hk.2))); (case aS => exact (below_size qB_)); (case aL => have := LMc34.out; have hlx_ := (show (l0.take ((ji31) : Int).toNat).length = (ji31).toNat from (by rw [List.length_take]; have h_ : ((ji31) : Int) ≤ (l0.length : Int) := of_decide_eq_true qa_; omega)); omega); intro e6 w43 ho hb hg hat; rw [← Ny282.out] at ho; have b5 := am_ (ho); replace a2 := am_ (Kd.R_after (ok := (fun _ => True)) (qR_ a2) hg hat); replace HB := am_ (hb); clear b3; clear ho hb hg hat; obtain ⟨d5, d6, e7⟩ := Kd.R_slice a2.out; subst e7) | ((with_reducible refine gate_builtin (b := .append) (xs := #[.tmp 64, .tmp 65]) rfl ?_); at_builtin; refine Kd.R_append_rows (Kd.int .i64) (w0 := w) w.heap.size rfl (.tmp 64) (.tmp 65) 51 3 (.int .i64 0) 8 rfl Try.underlying51 info3 rfl (by decide) (by omega) e6 a7 a6 _ _ _ (fun k_ => some k_ ≠ (.slice d5 a6.length d6 : Value).ownBlock) (fun _ => False) rfl rfl ?aO ?aR (fun _ _ h => h) (fun _ h => h.elim) ?aF ?aB ?aS ?aL ?_; (case aR => repeat (first | exact (Kd.R_reads' a2.out).2.2 | (with_reducible refine Kd.C_alloc ?_ _) | (with_reducible refine Kd.C_drewN ?_ _) | (with_reducible refine Kd.C_drew ?_))); (case aB => exact qB_); (case aF => exact (fun k_ hk => Kd.fresh' (Kd.R_lt (qR_ a2)) k_ hk)); (case aO => exact (qR_ b5)); (case aS => exact (below_size qB_)); (case aL => have := LMc35.out; omega); intro e8 w44 ho hb hg hat; rw [← Ny285.out] at ho; have b6 := am_ (ho); replace a2 := am_ (Kd.R_after (ok := (fun _ => True)) (qR_ a2) hg hat); replace HB := am_ (hb); clear b5; clear ho hb hg hat; obtain ⟨i046, hi046, _, hsz46, _⟩ := info_parts info3; obtain ⟨A46, hcut46, hA46, hC46⟩ := print_drop_of (P := Try.prog) (Value.int .i64) 0 51 3 .i64 Try.underlying51 hi046 hsz46 A0 c0 l0 a0 (of_decide_eq_true qa_) (of_decide_eq_true qa_) b0.out; have b7 := am_ (Kd.C_of_reads (h1 := fun _ => rfl) (hA46 _ (Kd.reads_of_C a9.out))); have f1 := am_ hC46; clear hA46 hC46 hi046 hsz46) | ((with_reducible refine gate_builtin (b := .append) (xs := #[.tmp 67, .tmp 70]) rfl ?_); at_builtin; refine Kd.R_append_rows (Kd.int .i64) (w0 := w) w.heap.size rfl (.tmp 67) (.tmp 70) 51 3 (.int .i64 0) 8 rfl Try.underlying51 info3 rfl (by decide) (by omega) e8 a5 (l0.drop (a0 : Int).toNat) _ _ _ (fun k_ => some k_ ≠ (.slice d5 a6.length d6 : Value).ownBlock) (fun _ => False) rfl rfl ?aO ?aR (fun _ _ h => h) (fun _ h => h.elim) ?aF ?aB ?aS ?aL ?_; (case aR => first | (refine rr_len (show (l0.drop (a0 : Int).toNat).length = (l0.length - a0.toNat) from List.length_drop) ?_; repeat (first | exact (Kd.C_below b7.out HB.out) | (with_reducible refine Kd.C_alloc ?_ _) | (with_reducible refine Kd.C_drewN ?_ _) | (with_reducible refine Kd.C_drew ?_))) | (repeat (first | exact (Kd.C_below b7.out HB.out) | (with_reducible refine Kd.C_alloc ?_ _) | (with_reducible refine Kd.C_drewN ?_ _) | (with_reducible refine Kd.C_drew ?_)))); (case aB => exact qB_); (case aF => exact (fun k_ hk => Kd.fresh' (Kd.R_lt (qR_ a2)) k_ hk)); (case aO => exact (qR_ b6)); (case aS => exact (below_size qB_)); (case aL => have := LMc38.out; have hlx_ := (show (l0.drop (a0 : Int).toNat).length = (l0.length - a0.toNat) from List.length_drop); omega); intro f4 w47 ho hb hg hat; rw [← Ny289.out] at ho; have d7 := am_ (ho); replace a2 := am_ (Kd.R_after (ok := (fun _ => True)) (qR_ a2) hg hat); replace HB := am_ (hb); clear b6; clear ho hb hg hat))
     go_ret2
     exact ⟨_, by first | rfl | (simp [errW_none, errW_some] <;> rfl) | (simp only [← hji31]; first | rfl | (simp [errW_none, errW_some] <;> rfl)) | (simp [*, errW_none, errW_some] <;> rfl), by (with_reducible repeat (first | apply Kd.R_alloc | apply Kd.R_drewN | apply Kd.R_drew)); exact Kd.R_mono d7.out (fun _ hk => trivial), qB_⟩
end Go.Proofs.Ytbkklafkoegdpaa.QFnExactLink
