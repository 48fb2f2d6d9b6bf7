-- printed for this claim by a program of the session's own (no text of the kit's print)
import Derived.Test.YtacnlodcbbhahaaQFnExactEdgesOfx0
import Derived.Test.YtacnlodcbbhahaaQFnExactEdgesOfx6
namespace Go.Proofs.Ytacnlodcbbhahaa.QFnExactEdgesOf
open Go.RowKit Go.Proofs.YtacnlodcbbhahaaW.PrintWords Go.Proofs.YtacnlodcbbhahaaW.PrintLast Go.Proofs.YtacnlodcbbhahaaW.PrintMore
attribute [local go_sem] max2_int min2_int max_two min_two max_three min_three max_four min_four   -- for this text's walks alone
set_option linter.unusedVariables false
set_option linter.unusedSimpArgs false

/-! ### impl_TourOk: function 70 -/
mutual
def impl_TourOk.j0 : Nat → List Int → Bool → Option (Bool)
  | 0, _, _ => none
  | k + 1, x0, x18 => if x18 = true then (some false) else (if 0 < (x0.length : Int) then (if 1 ≤ (x0.length : Int) then (impl_TourOk.l0 k (([rd x0 0] : List Int)) (([rd x0 0] : List Int)) (x0.drop 1) ((x0.drop 1).length : Int) 0) else (none)) else (none))
def impl_TourOk.l0 : Nat → List Int → List Int → List Int → Int → Int → Option (Bool)
  | 0, _, _, _, _, _ => none
  | k + 1, x3, x4, x28, x29, x30 => if x30 < x29 then (if 0 ≤ x30 then (if x30 < (x28.length : Int) then (if (x3.length : Int) > 1 then (if 0 ≤ (wrap64 ((x3.length : Int) - 2)) then (if (wrap64 ((x3.length : Int) - 2)) < (x3.length : Int) then (impl_TourOk.j2 k x3 x4 (rd x28 x30) (x3.length : Int) x28 x29 x30 ((rd x3 (wrap64 ((x3.length : Int) - 2))) == (rd x28 x30))) else (none)) else (none)) else (impl_TourOk.j2 k x3 x4 (rd x28 x30) (x3.length : Int) x28 x29 x30 false)) else (none)) else (none)) else (some ((x3.length : Int) == 1))
def impl_TourOk.j2 : Nat → List Int → List Int → Int → Int → List Int → Int → Int → Bool → Option (Bool)
  | 0, _, _, _, _, _, _, _, _ => none
  | k + 1, x3, x4, x6, x7, x28, x29, x30, x36 => if x36 = true then (if 0 ≤ (wrap64 (x7 - 1)) then (if (wrap64 (x7 - 1)) ≤ (x3.length : Int) then (impl_TourOk.l0 k (x3.take ((wrap64 (x7 - 1)) : Int).toNat) x4 x28 x29 (wrap64 (x30 + 1))) else (none)) else (none)) else ((impl_in.f x6 0 11).bind fun t237 => (if t237 = true then ((impl_hasInt.f k x4 x6).bind fun t238 => (if t238 = true then (some false) else (if x3.length < 17592186044416 then (if x4.length < 17592186044416 then (impl_TourOk.l0 k (x3 ++ [x6]) (x4 ++ [x6]) x28 x29 (wrap64 (x30 + 1))) else (none)) else (none)))) else (some false)))
end
def impl_TourOk.f (k : Nat) (l0 : List Int) : Option (Bool) := (impl_in.f (l0.length : Int) 1 23).bind fun t220 => (if t220 = true then (if 0 < (l0.length : Int) then ((impl_in.f (rd l0 0) 0 11).bind fun t222 => (impl_TourOk.j0 k l0 (!t222))) else (none)) else (impl_TourOk.j0 k l0 true))
theorem impl_TourOk.mono_l : ∀ k, (∀ y0 y1, LeO (impl_TourOk.j0 k y0 y1) (impl_TourOk.j0 (k + 1) y0 y1)) ∧ (∀ y0 y1 y2 y3 y4, LeO (impl_TourOk.l0 k y0 y1 y2 y3 y4) (impl_TourOk.l0 (k + 1) y0 y1 y2 y3 y4)) ∧ (∀ y0 y1 y2 y3 y4 y5 y6 y7, LeO (impl_TourOk.j2 k y0 y1 y2 y3 y4 y5 y6 y7) (impl_TourOk.j2 (k + 1) y0 y1 y2 y3 y4 y5 y6 y7))
  | 0 => ⟨fun _ _ r h => by simp [impl_TourOk.j0] at h, fun _ _ _ _ _ r h => by simp [impl_TourOk.l0] at h, fun _ _ _ _ _ _ _ _ r h => by simp [impl_TourOk.j2] at h⟩
  | k + 1 => by
    obtain ⟨ih0, ih1, ih2⟩ := impl_TourOk.mono_l k
    refine ⟨?_, ?_, ?_⟩ <;> (intros; first | unfold impl_TourOk.j0 | unfold impl_TourOk.l0 | unfold impl_TourOk.j2) <;> repeat' first
    | (with_reducible exact ih0 _ _)
    | (with_reducible exact ih1 _ _ _ _ _)
    | (with_reducible exact ih2 _ _ _ _ _ _ _ _)
    | (with_reducible exact impl_hasInt.mono _ _ _)
    | (with_reducible exact LeO.refl _)
    | (with_reducible exact LeO.none _)
    | (with_reducible refine LeO.ite ?_ ?_)
    | (with_reducible refine LeO.bind ?_ (fun _ => ?_))
    | exact ih0 _ _
    | exact ih1 _ _ _ _ _
    | exact ih2 _ _ _ _ _ _ _ _
    | exact impl_hasInt.mono _ _ _
    | exact LeO.none _
    | refine LeO.ite ?_ ?_
    | refine LeO.bind ?_ (fun _ => ?_)
theorem impl_TourOk.mono : ∀ a0 k, LeO (impl_TourOk.f k a0) (impl_TourOk.f (k + 1) a0) := by
  intro a0 k
  obtain ⟨ih0, ih1, ih2⟩ := impl_TourOk.mono_l k
  unfold impl_TourOk.f
  repeat' first
      | (with_reducible exact ih0 _ _)
      | (with_reducible exact ih1 _ _ _ _ _)
      | (with_reducible exact ih2 _ _ _ _ _ _ _ _)
      | (with_reducible exact impl_hasInt.mono _ _ _)
      | (with_reducible exact LeO.refl _)
      | (with_reducible exact LeO.none _)
      | (with_reducible refine LeO.ite ?_ ?_)
      | (with_reducible refine LeO.bind ?_ (fun _ => ?_))
      | exact ih0 _ _
      | exact ih1 _ _ _ _ _
      | exact ih2 _ _ _ _ _ _ _ _
      | exact impl_hasInt.mono _ _ _
      | exact LeO.none _
      | refine LeO.ite ?_ ?_
      | refine LeO.bind ?_ (fun _ => ?_)
set_option maxHeartbeats 8000000 in
set_option maxRecDepth 100000 in
theorem impl_TourOk.calls (k : Nat) (A0 : Option Addr) (c0 : Nat) (l0 : List Int) (r : Bool) (w : World) (hr0 : Kd.C (Kd.int .i64) w A0 l0.length l0) (hc0 : l0.length ≤ c0) (h : impl_TourOk.f k l0 = some r) :
  Calls Try.prog 70 #[.slice A0 l0.length c0] w fun e w' => e = .returned (.bool r) ∧ Below w.heap.size w w' := by
 have HR0 := Aside0.mk hr0
 have HC0 := Aside0.mk hc0
 clear hr0 hc0
 have HB := Aside0.mk (Below.refl w.heap.size w)
 have H : ((impl_in.f (l0.length : Int) 1 23).bind fun t220 => (if t220 = true then (if 0 < (l0.length : Int) then ((impl_in.f (rd l0 0) 0 11).bind fun t222 => (impl_TourOk.j0 k l0 (!t222))) else (none)) else (impl_TourOk.j0 k l0 true))) = some r := h
 clear h
 have HC2 := Aside0.mk H
 clear H
 go_enter Try.func70, Try.ntmps70
 go_upto_region 1 with (fail)
 go_cut [18] (fun v18 wc => ∃ (kq : Nat) (x18_1 : Bool), v18 = .bool x18_1 ∧ Aside0 (impl_TourOk.j0 kq l0 x18_1 = some r) ∧ Aside0 (kq ≤ k) ∧ Aside0 (Below w.heap.size w wc))
 case first =>
  have H := HC2.out; clear HC2
  obtain ⟨t220, A30, H⟩ := Option.bind_eq_some_iff.mp H; have A3 := Aside0.mk A30; clear A30
  by_cases c4 : t220 = true
  ·subst c4
   rw [if_pos rfl] at H
   by_cases c5 : 0 < (l0.length : Int)
   ·rw [if_pos c5] at H
    have c5b0 : decide (0 < (l0.length : Int)) = true := decide_eq_true c5
    have c5b1 : decide (0 < l0.length) = true := decide_eq_true (by omega)
    clear c5
    (first | rw [c5b0] | (simp only [i64_w, i32_w]; rw [c5b0]) | skip)
    obtain ⟨t222, A60, H⟩ := Option.bind_eq_some_iff.mp H; have A6 := Aside0.mk A60; clear A60
    have H' := Aside0.mk H; clear H
    go_wp2_with (first | ((with_reducible refine gate_callee (f := 69) rfl ?_); refine gl_ (some 10) Try.func69 #[.int .i64 (l0.length : Int), .int .i64 1, .int .i64 23] ?_; (with_reducible refine (impl_in.calls (l0.length : Int) 1 23 true _ A3.out).mono ?_); rintro e w' ⟨rfl, ⟨nd, rfl⟩⟩; refine ⟨_, rfl, ?_⟩; have p221 : 0 ≤ (0 : Int) := (by omega); have q221 : 0 < (l0.length : Int) := of_decide_eq_true qa_; obtain ⟨ad221, e221, hx221_0⟩ := Kd.at_int HR0.out 0 p221 q221; cases e221; have qi221 : (0 < l0.length) = True := eq_true (by omega); (try rw [show ((0 : Int)).toNat = 0 from rfl] at hx221_0); (try rw [Addr.add_zero'] at hx221_0); replace hx221_0 := (HB.out.cell (World.block_lt_of_cell? w _ hx221_0)).trans hx221_0; replace p221 := eq_true p221; replace q221 := eq_true q221) | (go_at_call 69; (with_reducible refine (impl_in.calls (rd l0 0) 0 11 t222 _ A6.out).mono ?_); rintro e w' ⟨rfl, ⟨nd, rfl⟩⟩))
    go_meet
    case rel => exact ⟨_, (!t222), qe_, H', ⟨qo_⟩, ⟨qB_⟩⟩
   ·rw [if_neg c5] at H
    exact absurd H (by simp)
  ·replace c4 := Bool.eq_false_iff.mpr c4
   subst c4
   rw [if_neg (show ¬ (false = true) by decide)] at H; have H' := Aside0.mk H; clear H
   go_wp2_with (first | ((with_reducible refine gate_callee (f := 69) rfl ?_); refine gl_ (some 10) Try.func69 #[.int .i64 (l0.length : Int), .int .i64 1, .int .i64 23] ?_; (with_reducible refine (impl_in.calls (l0.length : Int) 1 23 false _ A3.out).mono ?_); rintro e w' ⟨rfl, ⟨nd, rfl⟩⟩; refine ⟨_, rfl, ?_⟩))
   go_meet
   case rel => exact ⟨_, (true), qe_, H', ⟨qo_⟩, ⟨qB_⟩⟩
 case rest =>
  clear HC2; (try clear p2); (try clear q2); (try clear hx2); (try clear qi2); (try clear c4); (try clear c5); (try clear c5b0); (try clear c5b1); (try clear c6); (try clear hx221_0); (try clear p221); (try clear q221)
  obtain ⟨kq, x18_1, rfl, HA, HJ1, HB⟩ := hcut
  cases kq with
  | zero => exact absurd HA.out (by simp [impl_TourOk.j0])
  | succ kj1 =>
   have H := HA.out; clear HA
   simp only [impl_TourOk.j0] at H
   by_cases c7 : x18_1 = true
   ·subst c7
    rw [if_pos rfl] at H
    obtain rfl := Option.some.inj H
    go_wp2
    go_ret
    exact ⟨qr_, qB_⟩
   ·replace c7 := Bool.eq_false_iff.mpr c7
    subst c7
    rw [if_neg (show ¬ (false = true) by decide)] at H
    by_cases c8 : 0 < (l0.length : Int)
    ·rw [if_pos c8] at H
     have c8b0 : decide (0 < (l0.length : Int)) = true := decide_eq_true c8
     have c8b1 : decide (0 < l0.length) = true := decide_eq_true (by omega)
     clear c8
     obtain ⟨y224, hy224⟩ : ∃ y_ : List Int, y_ = (([rd l0 0] : List Int)) := ⟨_, rfl⟩
     replace H : (if 1 ≤ (l0.length : Int) then (impl_TourOk.l0 kj1 y224 (([rd l0 0] : List Int)) (l0.drop 1) ((l0.drop 1).length : Int) 0) else (none)) = some r := by first | (rw [hy224]; with_reducible exact H) | (have H2_ := (Option.bind_some _ _).symm.trans H; rw [hy224]; with_reducible exact H2_) | (have H2_ := (Option.bind_some _ _).symm.trans H; with_reducible exact H2_) | with_reducible exact H | (rw [hy224]; exact H) | exact H
     have Ny224 := Aside0.mk hy224
     clear hy224
     obtain ⟨y228, hy228⟩ : ∃ y_ : List Int, y_ = (([rd l0 0] : List Int)) := ⟨_, rfl⟩
     replace H : (if 1 ≤ (l0.length : Int) then (impl_TourOk.l0 kj1 y224 y228 (l0.drop 1) ((l0.drop 1).length : Int) 0) else (none)) = some r := by first | (rw [hy228]; with_reducible exact H) | (have H2_ := (Option.bind_some _ _).symm.trans H; rw [hy228]; with_reducible exact H2_) | (have H2_ := (Option.bind_some _ _).symm.trans H; with_reducible exact H2_) | with_reducible exact H | (rw [hy228]; exact H) | exact H
     have Ny228 := Aside0.mk hy228
     clear hy228
     by_cases c9 : 1 ≤ (l0.length : Int)
     ·rw [if_pos c9] at H
      have c9b0 := eq_true c9
      have c9b1 : decide (1 ≤ (l0.length : Int)) = true := decide_eq_true c9
      clear c9; have H' := Aside0.mk H; clear H
      have p223 : 0 ≤ (0 : Int) := (by omega)
      have q223 : 0 < (l0.length : Int) := of_decide_eq_true qa_
      obtain ⟨ad223, e223, hx223_0⟩ := Kd.at_int HR0.out 0 p223 q223
      cases e223
      have qi223 : (0 < l0.length) = True := eq_true (by omega)
      (try rw [show ((0 : Int)).toNat = 0 from rfl] at hx223_0)
      (try rw [Addr.add_zero'] at hx223_0)
      replace hx223_0 := (HB.out.cell (World.block_lt_of_cell? w _ hx223_0)).trans hx223_0
      replace p223 := eq_true p223; replace q223 := eq_true q223
      go_wp2_with (first | ((with_reducible refine gate_dst (N := 22) rfl ?_); refine Kd.R_lit (Kd.int .i64) _ 3 ?hg (N := 22) ?hd (xs := ([rd l0 0] : List Int)) (inner := [.int .i64 (rd l0 0)]) (ok := fun _ => True) (okp := fun _ => True) ?hr ?hp (fun _ hk => hk) trivial (Below.refl _ _) (Nat.le_refl _) (by simp) ?_; (case hd => rfl); (case hg => rfl); (case hr => first | (go_simp; done) | (go_simp; rfl)); (case hp => exact (Reps.one (show Kd.M (Kd.int .i64) _ _ _ (rd l0 0) [.int .i64 (rd l0 0)] from rfl) (Reps.none _ _))); intro v225 w10 ho11 hb hg_ hnew_; clear hg_ hnew_; (first | rw [← Ny224.out] at ho11 | (simp only [Int.reduceToNat] at ho11; rw [← Ny224.out] at ho11)); have HO226 := Aside0.mk (Kd.R_lower ho11 (below_size qB_)); replace HB := Aside0.mk (below_step qB_ hb); clear hb ho11; have p227 : 0 ≤ (0 : Int) := (by omega); have q227 : 0 < (l0.length : Int) := of_decide_eq_true qa_; obtain ⟨ad227, e227, hx227_0⟩ := Kd.at_int HR0.out 0 p227 q227; obtain rfl : ad223 = ad227 := (by injection e227); have qi227 : (0 < l0.length) = True := eq_true (by omega); (try rw [show ((0 : Int)).toNat = 0 from rfl] at hx227_0); (try rw [Addr.add_zero'] at hx227_0); replace hx227_0 := (HB.out.cell (World.block_lt_of_cell? w _ hx227_0)).trans hx227_0; replace p227 := eq_true p227; replace q227 := eq_true q227) | ((with_reducible refine gate_dst (N := 26) rfl ?_); refine Kd.R_lit (Kd.int .i64) _ 3 ?hg (N := 26) ?hd (xs := ([rd l0 0] : List Int)) (inner := [.int .i64 (rd l0 0)]) (ok := fun _ => True) (okp := fun _ => True) ?hr ?hp (fun _ hk => hk) trivial (Below.refl _ _) (Nat.le_refl _) (by simp) ?_; (case hd => rfl); (case hg => rfl); (case hr => first | (go_simp; done) | (go_simp; rfl)); (case hp => exact (Reps.one (show Kd.M (Kd.int .i64) _ _ _ (rd l0 0) [.int .i64 (rd l0 0)] from rfl) (Reps.none _ _))); intro v229 w12 ho13 hb hg_ hnew_; clear hg_ hnew_; (first | rw [← Ny228.out] at ho13 | (simp only [Int.reduceToNat] at ho13; rw [← Ny228.out] at ho13)); have HO230 := Aside0.mk (Kd.R_lower (Kd.R_new' ho13 (Kd.R_lt (qR_ HO226))) (below_size qB_)); replace HO226 := Aside0.mk (Kd.R_elder' (qR_ HO226) (Kd.R_base ho13) hb); replace HB := Aside0.mk (below_step qB_ hb); clear hb ho13; obtain ⟨i014, hi014, _, hsz14, _⟩ := info_parts info3; obtain ⟨A14, hcut14, hA14, hC14⟩ := print_drop_of (P := Try.prog) (Value.int .i64) 0 40 3 .i64 Try.underlying40 hi014 hsz14 (some ad223) c0 l0 1 (by omega) (of_decide_eq_true qa_) HC0.out; have HR231 := Aside0.mk (Kd.C_of_reads (h1 := fun _ => rfl) (hA14 _ (Kd.reads_of_C HR0.out))); have HC231 := Aside0.mk hC14; clear hA14 hC14 hi014 hsz14; obtain ⟨ydHR231, hydHR231⟩ : ∃ y_ : List Int, y_ = l0.drop 1 := ⟨_, rfl⟩; rw [show List.drop (Int.toNat 1) l0 = l0.drop 1 from rfl, ← hydHR231] at hcut14 HR231 HC231; rw [← hydHR231] at H'; clear hydHR231))
      go_loopg [3, 4, 30] kj1 (fun kq v3 v4 v30 w' => ∃ (x3_2 : List Int) (x4_2 : List Int) (x30_2 : Int), v30 = .int .i64 x30_2 ∧ Aside0 (impl_TourOk.l0 kq x3_2 x4_2 ydHR231 (ydHR231.length : Int) x30_2 = some r) ∧ Aside0 (kq ≤ kj1) ∧ Aside0 (Kd.R (Kd.int .i64) 3 w' w.heap.size (fun k_ => some k_ ≠ (v4 : Value).ownBlock) v3 x3_2) ∧ Aside0 (Kd.R (Kd.int .i64) 3 w' w.heap.size (fun k_ => some k_ ≠ (v3 : Value).ownBlock) v4 x4_2) ∧ Aside0 (Below w.heap.size w w'))
      case atStart => exact ⟨(y224), (y228), (0), qe_, H', ⟨Nat.le_refl _⟩, ⟨by (with_reducible repeat (first | apply Kd.R_alloc | apply Kd.R_drewN | apply Kd.R_drew)); exact Kd.R_mono HO226.out (fun _ hk => hk.2)⟩, ⟨by (with_reducible repeat (first | apply Kd.R_alloc | apply Kd.R_drewN | apply Kd.R_drew)); exact Kd.R_mono HO230.out (fun _ hk => hk.2)⟩, ⟨qB_⟩⟩
      case round =>
       clear H'
       (try clear p2); (try clear q2); (try clear hx2); (try clear qi2); (try clear c4); (try clear c5); (try clear c5b0); (try clear c5b1); (try clear c6); (try clear c7); (try clear c8); (try clear c8b0); (try clear c8b1); (try clear c9); (try clear c9b0); (try clear c9b1); (try clear hx221_0); (try clear hx223_0); (try clear hx227_0); (try clear p2); (try clear p221); (try clear p223); (try clear p227); (try clear q2); (try clear q221); (try clear q223); (try clear q227)
       obtain ⟨x3_2, x4_2, x30_2, rfl, HA, HK2, HO_3, HO_4, HB⟩ := hrel
       cases gk with
       | zero => exact absurd HA.out (by simp [impl_TourOk.l0])
       | succ k2 =>
        have H := HA.out; clear HA
        simp only [impl_TourOk.l0] at H
        by_cases c15 : x30_2 < (ydHR231.length : Int)
        ·rw [if_pos c15] at H
         have c15b0 : decide (x30_2 < (ydHR231.length : Int)) = true := decide_eq_true c15
         clear c15
         by_cases c16 : 0 ≤ x30_2
         ·rw [if_pos c16] at H
          have c16b0 : decide (0 ≤ x30_2) = true := decide_eq_true c16
          clear c16
          by_cases c17 : x30_2 < (ydHR231.length : Int)
          ·rw [if_pos c17] at H
           have c17b0 : decide (x30_2 < (ydHR231.length : Int)) = true := decide_eq_true c17
           clear c17
           have HC18 := Aside0.mk H
           clear H
           have p232 : 0 ≤ (x30_2 : Int) := of_decide_eq_true qa_
           have q232 : x30_2 < (ydHR231.length : Int) := of_decide_eq_true qa_
           obtain ⟨ad232, e232, hx232_0⟩ := Kd.at_int HR231.out x30_2 p232 q232
           cases e232
           replace hx232_0 := (HB.out.cell (World.block_lt_of_cell? w _ hx232_0)).trans hx232_0
           replace p232 := eq_true p232; replace q232 := eq_true q232
           obtain ⟨Ao19, co19, eo19⟩ := Kd.R_slice HO_3.out
           subst eo19
           go_upto_region 10 with (fail)
           go_cut [36] (fun v36 wc => ∃ (kq : Nat) (x36_17 : Bool), v36 = .bool x36_17 ∧ Aside0 (impl_TourOk.j2 kq x3_2 x4_2 (rd ydHR231 x30_2) (x3_2.length : Int) ydHR231 (ydHR231.length : Int) x30_2 x36_17 = some r) ∧ Aside0 (kq ≤ k2) ∧ Aside0 (Kd.R (Kd.int .i64) 3 wc w.heap.size (fun k_ => some k_ ≠ (u4 : Value).ownBlock) (.slice Ao19 x3_2.length co19) x3_2) ∧ Aside0 (Kd.R (Kd.int .i64) 3 wc w.heap.size (fun k_ => some k_ ≠ ((.slice Ao19 x3_2.length co19) : Value).ownBlock) u4 x4_2) ∧ Aside0 (Below w.heap.size w wc))
           case first =>
            have H := HC18.out; clear HC18
            by_cases c20 : (x3_2.length : Int) > 1
            ·rw [if_pos c20] at H
             have c20b0 : decide (1 < (x3_2.length : Int)) = true := decide_eq_true c20
             have c20b1 : decide (1 < x3_2.length) = true := decide_eq_true (by omega)
             clear c20
             (first | rw [c20b0] | (simp only [i64_w, i32_w]; rw [c20b0]) | skip)
             obtain ⟨ji21, hji21⟩ : ∃ j_ : Int, (wrap64 ((x3_2.length : Int) - 2)) = j_ := ⟨_, rfl⟩
             first | rw [hji21] at H | simp only [hji21] at H
             have hji21w : (IntKind.i64.wrap ((x3_2.length : Int) - 2)) = ji21 := (i64_w _).trans hji21
             by_cases c22 : 0 ≤ (ji21)
             ·rw [if_pos c22] at H
              have c22b0 : decide (0 ≤ (ji21)) = true := decide_eq_true c22
              clear c22
              by_cases c23 : (ji21) < (x3_2.length : Int)
              ·rw [if_pos c23] at H
               have c23b0 : decide ((ji21) < (x3_2.length : Int)) = true := decide_eq_true c23
               clear c23; have H' := Aside0.mk H; clear H
               have p233 : 0 ≤ ((ji21) : Int) := of_decide_eq_true qa_
               have q233 : (ji21) < (x3_2.length : Int) := of_decide_eq_true qa_
               obtain ⟨ad233, e233, hx233_0⟩ := Kd.at_int (Kd.R_reads' HO_3.out).2.2 (ji21) p233 q233
               cases e233; replace p233 := eq_true p233; replace q233 := eq_true q233
               go_wp2
               go_meet
               case rel => exact ⟨_, (((rd x3_2 (ji21)) == (rd ydHR231 x30_2))), (by first | rfl | (simp; done) | (simp only [← hji21] <;> (first | rfl | simp)) | (simp [*]; done)), H', ⟨by have := HJ1.out; have := HK2.out; first | omega | exact Nat.le_refl _⟩, ⟨by (with_reducible repeat (first | apply Kd.R_alloc | apply Kd.R_drewN | apply Kd.R_drew)); first | exact HO_3.out | (have h_ := HO_3.out; simp only [own_slice] at h_ ⊢; exact h_)⟩, ⟨by (with_reducible repeat (first | apply Kd.R_alloc | apply Kd.R_drewN | apply Kd.R_drew)); first | exact HO_4.out | (have h_ := HO_4.out; simp only [own_slice] at h_ ⊢; exact h_)⟩, ⟨qB_⟩⟩
              ·rw [if_neg c23] at H
               exact absurd H (by simp)
             ·rw [if_neg c22] at H
              exact absurd H (by simp)
            ·rw [if_neg c20] at H
             have c20b0 : decide (1 < (x3_2.length : Int)) = false := decide_eq_false c20
             have c20b1 : decide (1 < x3_2.length) = false := decide_eq_false (by omega)
             clear c20
             (first | rw [c20b0] | (simp only [i64_w, i32_w]; rw [c20b0]) | skip)
             have H' := Aside0.mk H; clear H
             go_wp2
             go_meet
             case rel => exact ⟨_, (false), qe_, H', ⟨by have := HJ1.out; have := HK2.out; first | omega | exact Nat.le_refl _⟩, ⟨by (with_reducible repeat (first | apply Kd.R_alloc | apply Kd.R_drewN | apply Kd.R_drew)); first | exact HO_3.out | (have h_ := HO_3.out; simp only [own_slice] at h_ ⊢; exact h_)⟩, ⟨by (with_reducible repeat (first | apply Kd.R_alloc | apply Kd.R_drewN | apply Kd.R_drew)); first | exact HO_4.out | (have h_ := HO_4.out; simp only [own_slice] at h_ ⊢; exact h_)⟩, ⟨qB_⟩⟩
           case rest =>
            clear HC18; (try clear c1); (try clear c2); (try clear p2); (try clear q2); (try clear hx2); (try clear qi2); (try clear c4); (try clear c5); (try clear c5b0); (try clear c5b1); (try clear c6); (try clear p6); (try clear c7); (try clear c8); (try clear c8b0); (try clear c8b1); (try clear c9); (try clear c9b0); (try clear c9b1); (try clear c15); (try clear c15b0); (try clear c16); (try clear c16b0); (try clear c17); (try clear c17b0); (try clear c20); (try clear c20b0); (try clear c20b1); (try clear c22); (try clear c22b0); (try clear p22); (try clear q22); (try clear hx22); (try clear qi22); (try clear c23); (try clear c23b0); (try clear p23); (try clear q23); (try clear hx23); (try clear hx221_0); (try clear hx223_0); (try clear hx227_0); (try clear hx232_0); (try clear hx233_0); (try clear p2); (try clear p221); (try clear p223); (try clear p227); (try clear p232); (try clear p233); (try clear q2); (try clear q221); (try clear q223); (try clear q227); (try clear q232); (try clear q233)
            obtain ⟨kq, x36_17, rfl, HA, HJ17, HO_3, HO_4, HB⟩ := hcut
            cases kq with
            | zero => exact absurd HA.out (by simp [impl_TourOk.j2])
            | succ kj17 =>
             have H := HA.out; clear HA
             simp only [impl_TourOk.j2] at H
             by_cases c24 : x36_17 = true
             ·subst c24
              rw [if_pos rfl] at H
              obtain ⟨ji25, hji25⟩ : ∃ j_ : Int, (wrap64 ((x3_2.length : Int) - 1)) = j_ := ⟨_, rfl⟩
              first | rw [hji25] at H | simp only [hji25] at H
              have hji25w : (IntKind.i64.wrap ((x3_2.length : Int) - 1)) = ji25 := (i64_w _).trans hji25
              by_cases c26 : 0 ≤ (ji25)
              ·rw [if_pos c26] at H
               have c26b0 := eq_true c26
               have c26b1 : decide (0 ≤ (ji25)) = true := decide_eq_true c26
               clear c26
               by_cases c27 : (ji25) ≤ (x3_2.length : Int)
               ·rw [if_pos c27] at H
                have c27b0 := eq_true c27
                have c27b1 : decide ((ji25) ≤ (x3_2.length : Int)) = true := decide_eq_true c27
                clear c27
                obtain ⟨y234, hy234⟩ : ∃ y_ : List Int, y_ = (x3_2.take ((ji25) : Int).toNat) := ⟨_, rfl⟩
                replace H : (impl_TourOk.l0 kj17 y234 x4_2 ydHR231 (ydHR231.length : Int) (wrap64 (x30_2 + 1))) = some r := by first | (rw [hy234]; with_reducible exact H) | (have H2_ := (Option.bind_some _ _).symm.trans H; rw [hy234]; with_reducible exact H2_) | (have H2_ := (Option.bind_some _ _).symm.trans H; with_reducible exact H2_) | with_reducible exact H | (rw [hy234]; exact H) | exact H
                have Ny234 := Aside0.mk hy234
                clear hy234; have H' := Aside0.mk H; clear H
                have q28 : ((ji25) : Int) ≤ ((x3_2.length : Int) : Int) := of_decide_eq_true qa_
                obtain ⟨i028, hi028, _, hsz28, _⟩ := info_parts info3
                have hcut28 := cut_to (P := Try.prog) 40 3 .i64 Try.underlying40 hi028 Ao19 x3_2.length co19 (ji25) (of_decide_eq_true qa_) q28 (Kd.R_reads' HO_3.out).2.1
                have hr28 := Kd.R_take (m := ((ji25) : Int).toNat) HO_3.out (by omega)
                have hy28 : y234.length = ((ji25) : Int).toNat := (by rw [Ny234.out, List.length_take]; omega)
                rw [← Ny234.out] at hr28
                rw [← hy28] at hr28 hcut28
                clear hy28 hi028 hsz28 HO_3
                have HO236 := Aside0.mk hr28
                clear hr28; replace q28 := eq_true q28
                go_wp2
                go_roundg kj17
                case measure => have := HJ1.out; have := HK2.out; have := HJ17.out; omega
                case rel => exact ⟨(y234), (x4_2), (wrap64 (x30_2 + 1)), qe_, H', ⟨by have := HJ1.out; have := HK2.out; have := HJ17.out; omega⟩, ⟨by (with_reducible repeat (first | apply Kd.R_alloc | apply Kd.R_drewN | apply Kd.R_drew)); first | exact HO236.out | (have h_ := HO236.out; simp only [own_slice] at h_ ⊢; exact h_)⟩, ⟨by (with_reducible repeat (first | apply Kd.R_alloc | apply Kd.R_drewN | apply Kd.R_drew)); first | exact HO_4.out | (have h_ := HO_4.out; simp only [own_slice] at h_ ⊢; exact h_)⟩, ⟨qB_⟩⟩
               ·rw [if_neg c27] at H
                exact absurd H (by simp)
              ·rw [if_neg c26] at H
               exact absurd H (by simp)
             ·replace c24 := Bool.eq_false_iff.mpr c24
              subst c24
              rw [if_neg (show ¬ (false = true) by decide)] at H
              obtain ⟨t237, A290, H⟩ := Option.bind_eq_some_iff.mp H; have A29 := Aside0.mk A290; clear A290
              by_cases c30 : t237 = true
              ·subst c30
               rw [if_pos rfl] at H
               obtain ⟨t238, A310, H⟩ := Option.bind_eq_some_iff.mp H; have A31 := Aside0.mk A310; clear A310
               by_cases c32 : t238 = true
               ·subst c32
                rw [if_pos rfl] at H
                obtain rfl := Option.some.inj H
                go_wp2_with (first | ((with_reducible refine gate_callee (f := 69) rfl ?_); refine gl_ (some 54) Try.func69 #[.int .i64 (rd ydHR231 x30_2), .int .i64 0, .int .i64 11] ?_; (with_reducible refine (impl_in.calls (rd ydHR231 x30_2) 0 11 true _ A29.out).mono ?_); rintro e w' ⟨rfl, ⟨nd, rfl⟩⟩; refine ⟨_, rfl, ?_⟩; obtain ⟨Ao33, co33, eo33⟩ := Kd.R_slice HO_4.out; subst eo33) | (go_at_call 72; (with_reducible refine (impl_hasInt.calls kj17 _ _ x4_2 (rd ydHR231 x30_2) true _ ?side1 ?side2 A31.out).mono ?_); (case side1 => exact qD_ (Kd.R_reads' HO_4.out).2.2); (case side2 => exact (Kd.R_reads' HO_4.out).2.1); rintro e w' ⟨rfl, ⟨nd, rfl⟩⟩))
                go_ret
                exact ⟨qr_, qB_⟩
               ·replace c32 := Bool.eq_false_iff.mpr c32
                subst c32
                rw [if_neg (show ¬ (false = true) by decide)] at H
                by_cases c34 : x3_2.length < 17592186044416
                ·rw [if_pos c34] at H
                 have LMc34 := Aside0.mk c34
                 clear c34
                 obtain ⟨y239, hy239⟩ : ∃ y_ : List Int, y_ = (x3_2 ++ [(rd ydHR231 x30_2)]) := ⟨_, rfl⟩
                 replace H : (if x4_2.length < 17592186044416 then (impl_TourOk.l0 kj17 y239 (x4_2 ++ [(rd ydHR231 x30_2)]) ydHR231 (ydHR231.length : Int) (wrap64 (x30_2 + 1))) else (none)) = some r := by first | (rw [hy239]; with_reducible exact H) | (have H2_ := (Option.bind_some _ _).symm.trans H; rw [hy239]; with_reducible exact H2_) | (have H2_ := (Option.bind_some _ _).symm.trans H; with_reducible exact H2_) | with_reducible exact H | (rw [hy239]; exact H) | exact H
                 have Ny239 := Aside0.mk hy239
                 clear hy239
                 by_cases c35 : x4_2.length < 17592186044416
                 ·rw [if_pos c35] at H
                  have LMc35 := Aside0.mk c35
                  clear c35
                  obtain ⟨y242, hy242⟩ : ∃ y_ : List Int, y_ = (x4_2 ++ [(rd ydHR231 x30_2)]) := ⟨_, rfl⟩
                  replace H : (impl_TourOk.l0 kj17 y239 y242 ydHR231 (ydHR231.length : Int) (wrap64 (x30_2 + 1))) = some r := by first | (rw [hy242]; with_reducible exact H) | (have H2_ := (Option.bind_some _ _).symm.trans H; rw [hy242]; with_reducible exact H2_) | (have H2_ := (Option.bind_some _ _).symm.trans H; with_reducible exact H2_) | with_reducible exact H | (rw [hy242]; exact H) | exact H
                  have Ny242 := Aside0.mk hy242
                  clear hy242; have H' := Aside0.mk H; clear H
                  go_wp2_with (first | ((with_reducible refine gate_callee (f := 69) rfl ?_); refine gl_ (some 54) Try.func69 #[.int .i64 (rd ydHR231 x30_2), .int .i64 0, .int .i64 11] ?_; (with_reducible refine (impl_in.calls (rd ydHR231 x30_2) 0 11 true _ A29.out).mono ?_); rintro e w' ⟨rfl, ⟨nd, rfl⟩⟩; refine ⟨_, rfl, ?_⟩; obtain ⟨Ao36, co36, eo36⟩ := Kd.R_slice HO_4.out; subst eo36) | (go_at_call 72; (with_reducible refine (impl_hasInt.calls kj17 _ _ x4_2 (rd ydHR231 x30_2) false _ ?side1 ?side2 A31.out).mono ?_); (case side1 => exact qD_ (Kd.R_reads' HO_4.out).2.2); (case side2 => exact (Kd.R_reads' HO_4.out).2.1); rintro e w' ⟨rfl, ⟨nd, rfl⟩⟩) | ((with_reducible refine gate_builtin (b := .append) (xs := #[.tmp 61, .tmp 63]) rfl ?_); at_builtin; refine Kd.R_append (Kd.int .i64) (w0 := w) w.heap.size rfl (.tmp 61) (.tmp 63) 40 3 (.int .i64 0) 8 rfl Try.underlying40 info3 rfl (by decide) (by omega) (.slice Ao19 x3_2.length co19) x3_2 (rd ydHR231 x30_2) [.int .i64 (rd ydHR231 x30_2)] (fun k_ => some k_ ≠ (.slice Ao36 x4_2.length co36 : Value).ownBlock) (fun _ => False) rfl rfl ?aP (fun _ hk => hk.elim) ?aF ?aO ?aB ?aS ?aL ?_; (case aP => exact rfl); (case aB => exact qB_); (case aF => exact (fun k_ hk => Kd.fresh' (Kd.R_lt (qR_ HO_4)) k_ hk)); (case aO => exact (qR_ HO_3)); (case aS => exact (below_size qB_)); (case aL => have := LMc34.out; omega); intro v240 w37 ho hb hg hat; rw [← Ny239.out] at ho; have HO241 := Aside0.mk (ho); replace HO_4 := Aside0.mk (Kd.R_after (ok := (fun _ => True)) (by (with_reducible repeat (first | apply Kd.R_alloc | apply Kd.R_drewN | apply Kd.R_drew)); exact Kd.R_mono HO_4.out (fun _ hk => ⟨trivial, hk⟩)) hg hat); replace HB := Aside0.mk (hb); clear HO_3; clear ho hb hg hat) | ((with_reducible refine gate_builtin (b := .append) (xs := #[.tmp 65, .tmp 67]) rfl ?_); at_builtin; refine Kd.R_append (Kd.int .i64) (w0 := w) w.heap.size rfl (.tmp 65) (.tmp 67) 40 3 (.int .i64 0) 8 rfl Try.underlying40 info3 rfl (by decide) (by omega) (.slice Ao36 x4_2.length co36) x4_2 (rd ydHR231 x30_2) [.int .i64 (rd ydHR231 x30_2)] (fun k_ => some k_ ≠ (v240 : Value).ownBlock) (fun _ => False) rfl rfl ?aP (fun _ hk => hk.elim) ?aF ?aO ?aB ?aS ?aL ?_; (case aP => exact rfl); (case aB => exact qB_); (case aF => exact (fun k_ hk => Kd.fresh' (Kd.R_lt (qR_ HO241)) k_ hk)); (case aO => exact (by (with_reducible repeat (first | apply Kd.R_alloc | apply Kd.R_drewN | apply Kd.R_drew)); exact Kd.R_mono HO_4.out (fun _ hk => hk.2))); (case aS => exact (below_size qB_)); (case aL => have := LMc35.out; omega); intro v243 w38 ho hb hg hat; rw [← Ny242.out] at ho; have HO244 := Aside0.mk (ho); replace HO241 := Aside0.mk (Kd.R_after (ok := (fun _ => True)) (by (with_reducible repeat (first | apply Kd.R_alloc | apply Kd.R_drewN | apply Kd.R_drew)); exact Kd.R_mono HO241.out (fun _ hk => ⟨trivial, hk⟩)) hg hat); replace HB := Aside0.mk (hb); clear HO_4; clear ho hb hg hat))
                  go_roundg kj17
                  case measure => have := HJ1.out; have := HK2.out; have := HJ17.out; omega
                  case rel => exact ⟨(y239), (y242), (wrap64 (x30_2 + 1)), qe_, H', ⟨by have := HJ1.out; have := HK2.out; have := HJ17.out; omega⟩, ⟨by (with_reducible repeat (first | apply Kd.R_alloc | apply Kd.R_drewN | apply Kd.R_drew)); exact Kd.R_mono HO241.out (fun _ hk => hk.2)⟩, ⟨by (with_reducible repeat (first | apply Kd.R_alloc | apply Kd.R_drewN | apply Kd.R_drew)); first | exact HO244.out | (have h_ := HO244.out; simp only [own_slice] at h_ ⊢; exact h_)⟩, ⟨qB_⟩⟩
                 ·rw [if_neg c35] at H
                  exact absurd H (by simp)
                ·rw [if_neg c34] at H
                 exact absurd H (by simp)
              ·replace c30 := Bool.eq_false_iff.mpr c30
               subst c30
               rw [if_neg (show ¬ (false = true) by decide)] at H
               obtain rfl := Option.some.inj H
               go_wp2_with (first | ((with_reducible refine gate_callee (f := 69) rfl ?_); refine gl_ (some 54) Try.func69 #[.int .i64 (rd ydHR231 x30_2), .int .i64 0, .int .i64 11] ?_; (with_reducible refine (impl_in.calls (rd ydHR231 x30_2) 0 11 false _ A29.out).mono ?_); rintro e w' ⟨rfl, ⟨nd, rfl⟩⟩; refine ⟨_, rfl, ?_⟩))
               go_ret
               exact ⟨qr_, qB_⟩
          ·rw [if_neg c17] at H
           exact absurd H (by simp)
         ·rw [if_neg c16] at H
          exact absurd H (by simp)
        ·rw [if_neg c15] at H
         have c15b0 : decide (x30_2 < (ydHR231.length : Int)) = false := decide_eq_false c15
         clear c15
         obtain rfl := Option.some.inj H
         obtain ⟨Ao39, co39, eo39⟩ := Kd.R_slice HO_3.out
         subst eo39
         go_wp2
         go_ret
         exact ⟨qr_, qB_⟩
     ·rw [if_neg c9] at H
      exact absurd H (by simp)
    ·rw [if_neg c8] at H
     exact absurd H (by simp)

/-! ### impl_copyInts: function 125 -/
def impl_copyInts.f (l0 : List Int) : Option (List Int) := if ([] : List Int).length + l0.length < 17592186044416 then (some (([] : List Int) ++ l0)) else (none)
set_option maxHeartbeats 8000000 in
set_option maxRecDepth 100000 in
theorem impl_copyInts.calls (A0 : Option Addr) (c0 : Nat) (l0 : List Int) (r : List Int) (w : World) (hr0 : Kd.C (Kd.int .i64) w A0 l0.length l0) (hc0 : l0.length ≤ c0) (h : impl_copyInts.f l0 = some r) :
  Calls Try.prog 125 #[.slice A0 l0.length c0] w fun e w' => ∃ v0_ : Value, e = .returned (v0_) ∧ Kd.R (Kd.int .i64) 3 w' w.heap.size (fun _ => True) v0_ r ∧ Below w.heap.size w w' := by
 have HR0 := Aside0.mk hr0
 have HC0 := Aside0.mk hc0
 clear hr0 hc0
 have HB := Aside0.mk (Below.refl w.heap.size w)
 have H : (if ([] : List Int).length + l0.length < 17592186044416 then (some (([] : List Int) ++ l0)) else (none)) = some r := h
 clear h
 by_cases c2 : ([] : List Int).length + l0.length < 17592186044416
 ·rw [if_pos c2] at H
  have LMc2 := Aside0.mk c2
  clear c2
  obtain ⟨y245, hy245⟩ : ∃ y_ : List Int, y_ = (([] : List Int) ++ l0) := ⟨_, rfl⟩
  replace H : (some y245) = some r := by first | (rw [hy245]; with_reducible exact H) | (have H2_ := (Option.bind_some _ _).symm.trans H; rw [hy245]; with_reducible exact H2_) | (have H2_ := (Option.bind_some _ _).symm.trans H; with_reducible exact H2_) | with_reducible exact H | (rw [hy245]; exact H) | exact H
  have Ny245 := Aside0.mk hy245
  clear hy245
  obtain rfl := Option.some.inj H
  go_enter Try.func125, Try.ntmps125
  go_wp2_with (first | ((with_reducible refine gate_builtin (b := .append) (xs := #[.const (.slice none 0 0), .tmp 3]) rfl ?_); at_builtin; refine Kd.R_append_rows (Kd.int .i64) (w0 := w) w.heap.size rfl (.const (.slice none 0 0)) (.tmp 3) 40 3 (.int .i64 0) 8 rfl Try.underlying40 info3 rfl (by decide) (by omega) (.slice none 0 0) ([] : List Int) l0 _ _ _ (fun _ => True) (fun _ => False) rfl rfl ?aO ?aR (fun _ _ h => h) (fun _ h => h.elim) ?aF ?aB ?aS ?aL ?_; (case aR => repeat (first | exact HR0.out | (with_reducible refine Kd.C_alloc ?_ _) | (with_reducible refine Kd.C_drewN ?_ _) | (with_reducible refine Kd.C_drew ?_))); (case aB => exact qB_); (case aF => exact (fun _ _ => trivial)); (case aO => exact ((Kd.R_nil _ _ _ _ (fun _ => True)))); (case aS => exact (below_size qB_)); (case aL => have := LMc2.out; omega); intro v246 w3 ho hb hg hat; rw [← Ny245.out] at ho; have HO247 := Aside0.mk (ho); replace HB := Aside0.mk (hb); clear ho hb hg hat))
  go_ret
  exact ⟨_, qr_, by (with_reducible repeat (first | apply Kd.R_alloc | apply Kd.R_drewN | apply Kd.R_drew)); exact HO247.out, qB_⟩
 ·rw [if_neg c2] at H
  exact absurd H (by simp)

end Go.Proofs.Ytacnlodcbbhahaa.QFnExactEdgesOf
