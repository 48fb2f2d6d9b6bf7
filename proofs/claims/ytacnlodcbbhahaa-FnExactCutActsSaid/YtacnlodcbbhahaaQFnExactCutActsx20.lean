-- printed for this claim by a program of the session's own (no text of the kit's print)
import Derived.Test.YtacnlodcbbhahaaQFnExactCutActsx0
import Derived.Test.YtacnlodcbbhahaaQFnExactCutActsx14
import Derived.Test.YtacnlodcbbhahaaQFnExactCutActsx15
import Derived.Test.YtacnlodcbbhahaaQFnExactCutActsx17
import Derived.Test.YtacnlodcbbhahaaQFnExactCutActsx18
import Derived.Test.YtacnlodcbbhahaaQFnExactCutActsx19
namespace Go.Proofs.Ytacnlodcbbhahaa.QFnExactCutActs
open Go.RowKit Go.Proofs.YtacnlodcbbhahaaW.PrintWords Go.Proofs.YtacnlodcbbhahaaW.PrintLast Go.Proofs.YtacnlodcbbhahaaW.PrintMore
attribute [local go_sem] max2_int min2_int max_two min_two max_three min_three max_four min_four   -- for this text's walks alone
set_option linter.unusedVariables false
set_option linter.unusedSimpArgs false

/-! ### spec_DoAct: function 38 -/
mutual
def spec_DoAct.j0 : Nat → Bool → List (S99) → Int → ByteArray → ByteArray → ByteArray → Option ((List (S99)) × Bool)
  | 0, _, _, _, _, _, _ => none
  | k + 1, x37, x331000, x332000, x332001, x332002, x332003 => if x37 = true then (some (([] : List (S99)), false)) else ((spec_l03At.f k x331000 x332001).bind fun t335 => (if t335 ≥ 0 then (if 0 ≤ t335 then (if t335 < (x331000.length : Int) then (spec_DoAct.j1 k t335 x331000 x332000 x332001 x332002 x332003 ((rd_T99 x331000 t335).f0) ((rd_T99 x331000 t335).f1) ((rd_T99 x331000 t335).f2)) else (none)) else (none)) else (spec_DoAct.j1 k t335 x331000 x332000 x332001 x332002 x332003 x332001 (⟨#[]⟩ : ByteArray) 0)))
def spec_DoAct.j1 : Nat → Int → List (S99) → Int → ByteArray → ByteArray → ByteArray → ByteArray → ByteArray → Int → Option ((List (S99)) × Bool)
  | 0, _, _, _, _, _, _, _, _, _ => none
  | k + 1, x6, x331000, x332000, x332001, x332002, x332003, x337000, x337001, x337002 => if x332000 = 1 then (if x337001.size + x332002.size ≤ 9223372036854775807 then ((spec_l03Put.f k x331000 x337000 (x337001 ++ x332002) x337002).bind fun t339 => ((spec_DiskOk.f k t339).bind fun t342 => (if t342 = true then (some (t339, true)) else (some (([] : List (S99)), false))))) else (none)) else (if x6 < 0 then (some (([] : List (S99)), false)) else (if x332000 = 2 then ((spec_l03Put.f k x331000 x337000 x337001 (x337001.size : Int)).bind fun t343 => ((spec_DiskOk.f k t343).bind fun t346 => (if t346 = true then (some (t343, true)) else (some (([] : List (S99)), false))))) else (if x332000 = 3 then (if x337002 < (x337001.size : Int) then (spec_DoAct.j2 k true x331000 x332000 x332001 x332002 x332003 x337000 x337001 x337002) else (if x332003.toList = x332001.toList then (spec_DoAct.j2 k true x331000 x332000 x332001 x332002 x332003 x337000 x337001 x337002) else ((spec_l03Name.f x332003).bind fun t347 => (spec_DoAct.j2 k (!t347) x331000 x332000 x332001 x332002 x332003 x337000 x337001 x337002)))) else (if x332000 = 4 then ((spec_l03Without.f k x331000 x332001).bind fun t355 => ((spec_DiskOk.f k t355).bind fun t358 => (if t358 = true then (some (t355, true)) else (some (([] : List (S99)), false))))) else (some (([] : List (S99)), false))))))
def spec_DoAct.j2 : Nat → Bool → List (S99) → Int → ByteArray → ByteArray → ByteArray → ByteArray → ByteArray → Int → Option ((List (S99)) × Bool)
  | 0, _, _, _, _, _, _, _, _, _ => none
  | k + 1, x105, x331000, x332000, x332001, x332002, x332003, x337000, x337001, x337002 => if x105 = true then (some (([] : List (S99)), false)) else ((spec_l03Without.f k x331000 x332001).bind fun t348 => ((spec_l03Put.f k t348 x332003 x337001 x337002).bind fun t351 => ((spec_DiskOk.f k t351).bind fun t354 => (if t354 = true then (some (t351, true)) else (some (([] : List (S99)), false))))))
end
def spec_DoAct.f (k : Nat) (l0_0 : List (S99)) (a1_0 : Int) (a1_1 : ByteArray) (a1_2 : ByteArray) (a1_3 : ByteArray) : Option ((List (S99)) × Bool) := (spec_DiskOk.f k l0_0).bind fun t333 => (if t333 = true then ((spec_l03Name.f a1_1).bind fun t334 => (if t334 = true then (if a1_0 = 3 then (if a1_0 = 1 then (spec_DoAct.j0 k false l0_0 a1_0 a1_1 a1_2 a1_3) else (spec_DoAct.j0 k (a1_2.toList != ([] : List UInt8)) l0_0 a1_0 a1_1 a1_2 a1_3)) else (if a1_3.toList = ([] : List UInt8) then (if a1_0 = 1 then (spec_DoAct.j0 k false l0_0 a1_0 a1_1 a1_2 a1_3) else (spec_DoAct.j0 k (a1_2.toList != ([] : List UInt8)) l0_0 a1_0 a1_1 a1_2 a1_3)) else (spec_DoAct.j0 k true l0_0 a1_0 a1_1 a1_2 a1_3))) else (spec_DoAct.j0 k true l0_0 a1_0 a1_1 a1_2 a1_3))) else (spec_DoAct.j0 k true l0_0 a1_0 a1_1 a1_2 a1_3))
theorem spec_DoAct.mono_l : ∀ k, (∀ y0 y1 y2 y3 y4 y5, LeO (spec_DoAct.j0 k y0 y1 y2 y3 y4 y5) (spec_DoAct.j0 (k + 1) y0 y1 y2 y3 y4 y5)) ∧ (∀ y0 y1 y2 y3 y4 y5 y6 y7 y8, LeO (spec_DoAct.j1 k y0 y1 y2 y3 y4 y5 y6 y7 y8) (spec_DoAct.j1 (k + 1) y0 y1 y2 y3 y4 y5 y6 y7 y8)) ∧ (∀ y0 y1 y2 y3 y4 y5 y6 y7 y8, LeO (spec_DoAct.j2 k y0 y1 y2 y3 y4 y5 y6 y7 y8) (spec_DoAct.j2 (k + 1) y0 y1 y2 y3 y4 y5 y6 y7 y8))
  | 0 => ⟨fun _ _ _ _ _ _ r h => by simp [spec_DoAct.j0] at h, fun _ _ _ _ _ _ _ _ _ r h => by simp [spec_DoAct.j1] at h, fun _ _ _ _ _ _ _ _ _ r h => by simp [spec_DoAct.j2] at h⟩
  | k + 1 => by
    obtain ⟨ih0, ih1, ih2⟩ := spec_DoAct.mono_l k
    refine ⟨?_, ?_, ?_⟩ <;> (intros; first | unfold spec_DoAct.j0 | unfold spec_DoAct.j1 | unfold spec_DoAct.j2) <;> repeat' first | (with_reducible first | exact ih0 _ _ _ _ _ _ | exact ih1 _ _ _ _ _ _ _ _ _ | exact ih2 _ _ _ _ _ _ _ _ _ | exact spec_DiskOk.mono _ _ | exact spec_l03At.mono _ _ _ | exact spec_l03Put.mono _ _ _ _ _ | exact spec_l03Without.mono _ _ _ | exact LeO.refl _ | exact LeO.none _ | refine LeO.ite ?_ ?_ | refine LeO.bind ?_ (fun _ => ?_)) | exact LeO.none _ | refine LeO.ite ?_ ?_ | refine LeO.bind ?_ (fun _ => ?_)
theorem spec_DoAct.mono : ∀ a0 a1 a2 a3 a4 k, LeO (spec_DoAct.f k a0 a1 a2 a3 a4) (spec_DoAct.f (k + 1) a0 a1 a2 a3 a4) := by
  intro a0 a1 a2 a3 a4 k
  obtain ⟨ih0, ih1, ih2⟩ := spec_DoAct.mono_l k
  unfold spec_DoAct.f
  repeat' first | (with_reducible first | exact ih0 _ _ _ _ _ _ | exact ih1 _ _ _ _ _ _ _ _ _ | exact ih2 _ _ _ _ _ _ _ _ _ | exact spec_DiskOk.mono _ _ | exact spec_l03At.mono _ _ _ | exact spec_l03Put.mono _ _ _ _ _ | exact spec_l03Without.mono _ _ _ | exact LeO.refl _ | exact LeO.none _ | refine LeO.ite ?_ ?_ | refine LeO.bind ?_ (fun _ => ?_)) | exact LeO.none _ | refine LeO.ite ?_ ?_ | refine LeO.bind ?_ (fun _ => ?_)
set_option maxHeartbeats 8000000 in
set_option maxRecDepth 100000 in
theorem spec_DoAct.calls (k : Nat) (A0_0 : Option Addr) (c0_0 : Nat) (l0_0 : List (S99)) (a1_0 : Int) (a1_1 : ByteArray) (a1_2 : ByteArray) (a1_3 : ByteArray) (r1 : List (S99)) (r2 : Bool) (w : World) (hr0_0 : Kd.C k99 w A0_0 l0_0.length l0_0) (hc0_0 : l0_0.length ≤ c0_0) (h : spec_DoAct.f k l0_0 a1_0 a1_1 a1_2 a1_3 = some (r1, r2)) :
  Calls Try.prog 38 #[.agg #[.slice A0_0 l0_0.length c0_0], .agg #[.int .i64 a1_0, .string a1_1, .string a1_2, .string a1_3]] w fun e w' => ∃ v0_ : Value, e = .returned (.tuple #[.agg #[v0_], .bool r2]) ∧ Kd.R k99 99 w' w.heap.size (fun _ => True) v0_ r1 ∧ Below w.heap.size w w' := by
 have hu44 := Try.underlying44; have hu60 := Try.underlying60; have hu99 := Try.underlying99
 have HR0_0 := am_ hr0_0
 have HC0_0 := am_ hc0_0
 clear hr0_0 hc0_0
 have HB := am_ (Below.refl w.heap.size w)
 have H : ((spec_DiskOk.f k l0_0).bind fun t333 => (if t333 = true then ((spec_l03Name.f a1_1).bind fun t334 => (if t334 = true then (if a1_0 = 3 then (if a1_0 = 1 then (spec_DoAct.j0 k false l0_0 a1_0 a1_1 a1_2 a1_3) else (spec_DoAct.j0 k (a1_2.toList != ([] : List UInt8)) l0_0 a1_0 a1_1 a1_2 a1_3)) else (if a1_3.toList = ([] : List UInt8) then (if a1_0 = 1 then (spec_DoAct.j0 k false l0_0 a1_0 a1_1 a1_2 a1_3) else (spec_DoAct.j0 k (a1_2.toList != ([] : List UInt8)) l0_0 a1_0 a1_1 a1_2 a1_3)) else (spec_DoAct.j0 k true l0_0 a1_0 a1_1 a1_2 a1_3))) else (spec_DoAct.j0 k true l0_0 a1_0 a1_1 a1_2 a1_3))) else (spec_DoAct.j0 k true l0_0 a1_0 a1_1 a1_2 a1_3))) = some (r1, r2) := h
 clear h
 have HC3 := am_ H
 clear H
 go_enter Try.func38, Try.ntmps38
 go_upto_region 1 with (first | ((with_reducible refine gate_dst (N := 2) rfl ?_); refine bx_ 2 (cs := #[.slice A0_0 l0_0.length c0_0]) (t := 44) ?_; intro gb330 hg w4 hbox hb; have BK330 := am_ (hbox); have GW330 := am_ ((qs_ : w.heap.size ≤ gb330)); have GE330 := GW330; replace HB := hs_ hb; clear hb hbox hg) | ((with_reducible refine gate_dst (N := 3) rfl ?_); refine bx_ 3 (cs := #[.int .i64 a1_0, .string a1_1, .string a1_2, .string a1_3]) (t := 60) ?_; intro gb331 hg w5 hbox hb; have BK331 := am_ (hbox); have GW331 := am_ ((qs_ : w.heap.size ≤ gb331)); have GE331 := GW331; obtain ⟨NB330_331, NB331_330⟩ := qn_ BK330 hg; replace BK330 := qbl_ BK330 hb; replace HB := hs_ hb; clear hb hbox hg) | ((with_reducible refine gate_dst (N := 4) rfl ?_); refine bx_ 4 (cs := #[.slice none 0 0]) (t := 44) ?_; intro gb332 hg w6 hbox hb; have BK332 := am_ (hbox); have GW332 := am_ ((qs_ : w.heap.size ≤ gb332)); have GE332 := GW332; obtain ⟨NB330_332, NB332_330⟩ := qn_ BK330 hg; obtain ⟨NB331_332, NB332_331⟩ := qn_ BK331 hg; replace BK330 := qbl_ BK330 hb; replace BK331 := qbl_ BK331 hb; replace HB := hs_ hb; clear hb hbox hg))
 (try simp only [Act.put, sA_, sB_, sC_])
 go_cut [37] (fun v37 wc => ∃ (kq : Nat) (x37_2 : Bool), v37 = .bool x37_2 ∧ Aside0 (spec_DoAct.j0 kq x37_2 l0_0 a1_0 a1_1 a1_2 a1_3 = some (r1, r2)) ∧ Aside0 (kq ≤ k) ∧ Aside0 (wc.heap[gb330]? = some (.cells #[(.slice A0_0 l0_0.length c0_0)] 44 (0, 0))) ∧ Aside0 (wc.heap[gb331]? = some (.cells #[.int .i64 a1_0, .string a1_1, .string a1_2, .string a1_3] 60 (0, 0))) ∧ Aside0 (wc.heap[gb332]? = some (.cells #[(.slice none 0 0)] 44 (0, 0))) ∧ Aside0 (Below w.heap.size w wc))
 case first =>
  have H := HC3.out; clear HC3
  obtain ⟨t333, A70, H⟩ := Option.bind_eq_some_iff.mp H; have A7 := am_ A70; clear A70
  by_cases c8 : t333 = true
  ·subst c8
   rw [if_pos rfl] at H
   obtain ⟨t334, A90, H⟩ := Option.bind_eq_some_iff.mp H; have A9 := am_ A90; clear A90
   by_cases c10 : t334 = true
   ·subst c10
    rw [if_pos rfl] at H
    by_cases c11 : a1_0 = 3
    ·rw [if_pos c11] at H
     have c11b0 : (a1_0 == 3) = true := beq_iff_eq.mpr c11
     have c11b1 : (a1_0 != 3) = false := bne_eq_false_iff_eq.mpr c11
     clear c11
     (first | rw [c11b0] | (simp only [i64_w, i32_w]; rw [c11b0]) | skip)
     by_cases c12 : a1_0 = 1
     ·rw [if_pos c12] at H
      have c12b0 : (a1_0 == 1) = true := beq_iff_eq.mpr c12
      have c12b1 : (a1_0 != 1) = false := bne_eq_false_iff_eq.mpr c12
      clear c12; have H' := am_ H; clear H; obtain ⟨hnb13, hnc13⟩ := nn_ NB330_331; obtain ⟨hnb14, hnc14⟩ := nn_ NB330_332
      obtain ⟨hcz15_0, hfz15_0⟩ := bc1_ BK330
      go_wp2_with (first | ((with_reducible refine gate_callee (f := 75) rfl ?_); refine gl_ (some 10) Try.func75 #[.agg #[.slice A0_0 l0_0.length c0_0]] ?_; (with_reducible refine (spec_DiskOk.calls k _ _ l0_0 true _ ?side1 ?side2 A7.out).mono ?_); (case side1 => exact qC_ HR0_0 HB); (case side2 => exact HC0_0.out); rintro e w16 ⟨rfl, hb⟩; refine ⟨_, rfl, ?_⟩; replace BK330 := qbl_ BK330 hb; replace BK331 := qbl_ BK331 hb; replace BK332 := qbl_ BK332 hb; replace HB := hs_ hb; (try clear hb); (try clear hb2); (try clear hk); (try clear hi); obtain ⟨hnb17, hnc17⟩ := nn_ NB331_332; obtain ⟨hcz18_0, hcz18_1, hcz18_2, hcz18_3, hfz18_0, hfz18_1, hfz18_2, hfz18_3⟩ := bc4_ BK331) | (go_at_call 82; (with_reducible refine (spec_l03Name.calls a1_1 true _ A9.out).mono ?_); rintro e w' ⟨rfl, ⟨nd, rfl⟩⟩))
      go_meet
      case rel => exact ⟨_, (false), qe_, H', ⟨qo_⟩, ⟨qk_ BK330⟩, ⟨qk_ BK331⟩, ⟨qk_ BK332⟩, ⟨qB_⟩⟩
     rw [if_neg c12] at H
     have c12b0 : (a1_0 == 1) = false := beq_eq_false_iff_ne.mpr c12
     have c12b1 : (a1_0 != 1) = true := bne_iff_ne.mpr c12
     have H' := am_ H; clear H; obtain ⟨hnb19, hnc19⟩ := nn_ NB330_331; obtain ⟨hnb20, hnc20⟩ := nn_ NB330_332
     obtain ⟨hcz21_0, hfz21_0⟩ := bc1_ BK330
     go_wp2_with (first | ((with_reducible refine gate_callee (f := 75) rfl ?_); refine gl_ (some 10) Try.func75 #[.agg #[.slice A0_0 l0_0.length c0_0]] ?_; (with_reducible refine (spec_DiskOk.calls k _ _ l0_0 true _ ?side1 ?side2 A7.out).mono ?_); (case side1 => exact qC_ HR0_0 HB); (case side2 => exact HC0_0.out); rintro e w22 ⟨rfl, hb⟩; refine ⟨_, rfl, ?_⟩; replace BK330 := qbl_ BK330 hb; replace BK331 := qbl_ BK331 hb; replace BK332 := qbl_ BK332 hb; replace HB := hs_ hb; (try clear hb); (try clear hb2); (try clear hk); (try clear hi); obtain ⟨hnb23, hnc23⟩ := nn_ NB331_332; obtain ⟨hcz24_0, hcz24_1, hcz24_2, hcz24_3, hfz24_0, hfz24_1, hfz24_2, hfz24_3⟩ := bc4_ BK331) | (go_at_call 82; (with_reducible refine (spec_l03Name.calls a1_1 true _ A9.out).mono ?_); rintro e w' ⟨rfl, ⟨nd, rfl⟩⟩))
     go_meet
     case rel => exact ⟨_, ((a1_2.toList != ([] : List UInt8))), qe_, H', ⟨qo_⟩, ⟨qk_ BK330⟩, ⟨qk_ BK331⟩, ⟨qk_ BK332⟩, ⟨qB_⟩⟩
    rw [if_neg c11] at H
    have c11b0 : (a1_0 == 3) = false := beq_eq_false_iff_ne.mpr c11
    have c11b1 : (a1_0 != 3) = true := bne_iff_ne.mpr c11
    (first | rw [c11b0] | (simp only [i64_w, i32_w]; rw [c11b0]) | skip)
    by_cases c25 : a1_3.toList = ([] : List UInt8)
    ·rw [if_pos c25] at H
     have c25b0 : (a1_3.toList == ([] : List UInt8)) = true := beq_iff_eq.mpr c25
     have c25b1 : (a1_3.toList != ([] : List UInt8)) = false := bne_eq_false_iff_eq.mpr c25
     clear c25
     by_cases c26 : a1_0 = 1
     ·rw [if_pos c26] at H
      have c26b0 : (a1_0 == 1) = true := beq_iff_eq.mpr c26
      have c26b1 : (a1_0 != 1) = false := bne_eq_false_iff_eq.mpr c26
      clear c26; have H' := am_ H; clear H; obtain ⟨hnb27, hnc27⟩ := nn_ NB330_331; obtain ⟨hnb28, hnc28⟩ := nn_ NB330_332
      obtain ⟨hcz29_0, hfz29_0⟩ := bc1_ BK330
      go_wp2_with (first | ((with_reducible refine gate_callee (f := 75) rfl ?_); refine gl_ (some 10) Try.func75 #[.agg #[.slice A0_0 l0_0.length c0_0]] ?_; (with_reducible refine (spec_DiskOk.calls k _ _ l0_0 true _ ?side1 ?side2 A7.out).mono ?_); (case side1 => exact qC_ HR0_0 HB); (case side2 => exact HC0_0.out); rintro e w30 ⟨rfl, hb⟩; refine ⟨_, rfl, ?_⟩; replace BK330 := qbl_ BK330 hb; replace BK331 := qbl_ BK331 hb; replace BK332 := qbl_ BK332 hb; replace HB := hs_ hb; (try clear hb); (try clear hb2); (try clear hk); (try clear hi); obtain ⟨hnb31, hnc31⟩ := nn_ NB331_332; obtain ⟨hcz32_0, hcz32_1, hcz32_2, hcz32_3, hfz32_0, hfz32_1, hfz32_2, hfz32_3⟩ := bc4_ BK331) | (go_at_call 82; (with_reducible refine (spec_l03Name.calls a1_1 true _ A9.out).mono ?_); rintro e w' ⟨rfl, ⟨nd, rfl⟩⟩))
      go_meet
      case rel => exact ⟨_, (false), qe_, H', ⟨qo_⟩, ⟨qk_ BK330⟩, ⟨qk_ BK331⟩, ⟨qk_ BK332⟩, ⟨qB_⟩⟩
     rw [if_neg c26] at H
     have c26b0 : (a1_0 == 1) = false := beq_eq_false_iff_ne.mpr c26
     have c26b1 : (a1_0 != 1) = true := bne_iff_ne.mpr c26
     have H' := am_ H; clear H; obtain ⟨hnb33, hnc33⟩ := nn_ NB330_331; obtain ⟨hnb34, hnc34⟩ := nn_ NB330_332
     obtain ⟨hcz35_0, hfz35_0⟩ := bc1_ BK330
     go_wp2_with (first | ((with_reducible refine gate_callee (f := 75) rfl ?_); refine gl_ (some 10) Try.func75 #[.agg #[.slice A0_0 l0_0.length c0_0]] ?_; (with_reducible refine (spec_DiskOk.calls k _ _ l0_0 true _ ?side1 ?side2 A7.out).mono ?_); (case side1 => exact qC_ HR0_0 HB); (case side2 => exact HC0_0.out); rintro e w36 ⟨rfl, hb⟩; refine ⟨_, rfl, ?_⟩; replace BK330 := qbl_ BK330 hb; replace BK331 := qbl_ BK331 hb; replace BK332 := qbl_ BK332 hb; replace HB := hs_ hb; (try clear hb); (try clear hb2); (try clear hk); (try clear hi); obtain ⟨hnb37, hnc37⟩ := nn_ NB331_332; obtain ⟨hcz38_0, hcz38_1, hcz38_2, hcz38_3, hfz38_0, hfz38_1, hfz38_2, hfz38_3⟩ := bc4_ BK331) | (go_at_call 82; (with_reducible refine (spec_l03Name.calls a1_1 true _ A9.out).mono ?_); rintro e w' ⟨rfl, ⟨nd, rfl⟩⟩))
     go_meet
     case rel => exact ⟨_, ((a1_2.toList != ([] : List UInt8))), qe_, H', ⟨qo_⟩, ⟨qk_ BK330⟩, ⟨qk_ BK331⟩, ⟨qk_ BK332⟩, ⟨qB_⟩⟩
    rw [if_neg c25] at H
    have c25b0 : (a1_3.toList == ([] : List UInt8)) = false := beq_eq_false_iff_ne.mpr c25
    have c25b1 : (a1_3.toList != ([] : List UInt8)) = true := bne_iff_ne.mpr c25
    have H' := am_ H; clear H; obtain ⟨hnb39, hnc39⟩ := nn_ NB330_331; obtain ⟨hnb40, hnc40⟩ := nn_ NB330_332
    obtain ⟨hcz41_0, hfz41_0⟩ := bc1_ BK330
    go_wp2_with (first | ((with_reducible refine gate_callee (f := 75) rfl ?_); refine gl_ (some 10) Try.func75 #[.agg #[.slice A0_0 l0_0.length c0_0]] ?_; (with_reducible refine (spec_DiskOk.calls k _ _ l0_0 true _ ?side1 ?side2 A7.out).mono ?_); (case side1 => exact qC_ HR0_0 HB); (case side2 => exact HC0_0.out); rintro e w42 ⟨rfl, hb⟩; refine ⟨_, rfl, ?_⟩; replace BK330 := qbl_ BK330 hb; replace BK331 := qbl_ BK331 hb; replace BK332 := qbl_ BK332 hb; replace HB := hs_ hb; (try clear hb); (try clear hb2); (try clear hk); (try clear hi); obtain ⟨hnb43, hnc43⟩ := nn_ NB331_332; obtain ⟨hcz44_0, hcz44_1, hcz44_2, hcz44_3, hfz44_0, hfz44_1, hfz44_2, hfz44_3⟩ := bc4_ BK331) | (go_at_call 82; (with_reducible refine (spec_l03Name.calls a1_1 true _ A9.out).mono ?_); rintro e w' ⟨rfl, ⟨nd, rfl⟩⟩))
    go_meet
    case rel => exact ⟨_, (true), qe_, H', ⟨qo_⟩, ⟨qk_ BK330⟩, ⟨qk_ BK331⟩, ⟨qk_ BK332⟩, ⟨qB_⟩⟩
   replace c10 := Bool.eq_false_iff.mpr c10
   subst c10
   rw [if_neg (show ¬ (false = true) by decide)] at H; have H' := am_ H; clear H; obtain ⟨hnb45, hnc45⟩ := nn_ NB330_331; obtain ⟨hnb46, hnc46⟩ := nn_ NB330_332
   obtain ⟨hcz47_0, hfz47_0⟩ := bc1_ BK330
   go_wp2_with (first | ((with_reducible refine gate_callee (f := 75) rfl ?_); refine gl_ (some 10) Try.func75 #[.agg #[.slice A0_0 l0_0.length c0_0]] ?_; (with_reducible refine (spec_DiskOk.calls k _ _ l0_0 true _ ?side1 ?side2 A7.out).mono ?_); (case side1 => exact qC_ HR0_0 HB); (case side2 => exact HC0_0.out); rintro e w48 ⟨rfl, hb⟩; refine ⟨_, rfl, ?_⟩; replace BK330 := qbl_ BK330 hb; replace BK331 := qbl_ BK331 hb; replace BK332 := qbl_ BK332 hb; replace HB := hs_ hb; (try clear hb); (try clear hb2); (try clear hk); (try clear hi); obtain ⟨hnb49, hnc49⟩ := nn_ NB331_332; obtain ⟨hcz50_0, hcz50_1, hcz50_2, hcz50_3, hfz50_0, hfz50_1, hfz50_2, hfz50_3⟩ := bc4_ BK331) | (go_at_call 82; (with_reducible refine (spec_l03Name.calls a1_1 false _ A9.out).mono ?_); rintro e w' ⟨rfl, ⟨nd, rfl⟩⟩))
   go_meet
   case rel => exact ⟨_, (true), qe_, H', ⟨qo_⟩, ⟨qk_ BK330⟩, ⟨qk_ BK331⟩, ⟨qk_ BK332⟩, ⟨qB_⟩⟩
  replace c8 := Bool.eq_false_iff.mpr c8
  subst c8
  rw [if_neg (show ¬ (false = true) by decide)] at H; have H' := am_ H; clear H; obtain ⟨hnb51, hnc51⟩ := nn_ NB330_331; obtain ⟨hnb52, hnc52⟩ := nn_ NB330_332
  obtain ⟨hcz53_0, hfz53_0⟩ := bc1_ BK330
  go_wp2_with (first | ((with_reducible refine gate_callee (f := 75) rfl ?_); refine gl_ (some 10) Try.func75 #[.agg #[.slice A0_0 l0_0.length c0_0]] ?_; (with_reducible refine (spec_DiskOk.calls k _ _ l0_0 false _ ?side1 ?side2 A7.out).mono ?_); (case side1 => exact qC_ HR0_0 HB); (case side2 => exact HC0_0.out); rintro e w54 ⟨rfl, hb⟩; refine ⟨_, rfl, ?_⟩; replace BK330 := qbl_ BK330 hb; replace BK331 := qbl_ BK331 hb; replace BK332 := qbl_ BK332 hb; replace HB := hs_ hb; (try clear hb); (try clear hb2); (try clear hk); (try clear hi)))
  go_meet
  case rel => exact ⟨_, (true), qe_, H', ⟨qo_⟩, ⟨qk_ BK330⟩, ⟨qk_ BK331⟩, ⟨qk_ BK332⟩, ⟨qB_⟩⟩
 case rest =>
  clear HC3; (try clear c1); (try clear c2); (try clear p2); (try clear c3); (try clear c4); (try clear c5); (try clear c7); (try clear c8); (try clear c10); (try clear c11); (try clear c11b0); (try clear c11b1); (try clear c12); (try clear c12b0); (try clear c12b1); (try clear c13); (try clear c14); (try clear c17); (try clear c19); (try clear c20); (try clear c23); (try clear c25); (try clear c25b0); (try clear c25b1); (try clear c26); (try clear c26b0); (try clear c26b1); (try clear c27); (try clear c28); (try clear c31); (try clear c33); (try clear c34); (try clear c37); (try clear c38); (try clear c39); (try clear c40); (try clear c43); (try clear c45); (try clear c46); (try clear c49); (try clear c51); (try clear c52); (try clear hcz15_0); (try clear hcz18_0 hcz18_1 hcz18_2 hcz18_3); (try clear hcz21_0); (try clear hcz24_0 hcz24_1 hcz24_2 hcz24_3); (try clear hcz29_0); (try clear hcz32_0 hcz32_1 hcz32_2 hcz32_3); (try clear hcz35_0); (try clear hcz38_0 hcz38_1 hcz38_2 hcz38_3); (try clear hcz41_0); (try clear hcz44_0 hcz44_1 hcz44_2 hcz44_3); (try clear hcz47_0); (try clear hcz50_0 hcz50_1 hcz50_2 hcz50_3); (try clear hcz53_0); (try clear hfz15_0); (try clear hfz18_0 hfz18_1 hfz18_2 hfz18_3); (try clear hfz21_0); (try clear hfz24_0 hfz24_1 hfz24_2 hfz24_3); (try clear hfz29_0); (try clear hfz32_0 hfz32_1 hfz32_2 hfz32_3); (try clear hfz35_0); (try clear hfz38_0 hfz38_1 hfz38_2 hfz38_3); (try clear hfz41_0); (try clear hfz44_0 hfz44_1 hfz44_2 hfz44_3); (try clear hfz47_0); (try clear hfz50_0 hfz50_1 hfz50_2 hfz50_3); (try clear hfz53_0)
  obtain ⟨kq, x37_2, rfl, HA, HJ2, BK330, BK331, BK332, HB⟩ := hcut
  cases kq with
  | zero => exact absurd HA.out (by simp [spec_DoAct.j0])
  | succ kj2 =>
   have H := HA.out; clear HA
   simp only [spec_DoAct.j0] at H
   by_cases c55 : x37_2 = true
   ·subst c55
    rw [if_pos rfl] at H
    simp only [Option.some.injEq, Prod.mk.injEq] at H
    obtain ⟨rfl, rfl⟩ := H
    obtain ⟨hnb56, hnc56⟩ := nn_ NB332_330; obtain ⟨hnb57, hnc57⟩ := nn_ NB332_331
    obtain ⟨hcz58_0, hfz58_0⟩ := bc1_ BK332
    go_wp2
    refine bodyPost_ret (results_ct rfl _ _ gb332 44 #[.slice none 0 0] (0, 0) _ rfl (by (with_reducible repeat (first | refine blk_drewN ?_ _ | refine blk_drew ?_ | refine blk_alloc ?_ _)); refine blk_put (cs := #[.slice none 0 0]) ?_ 0 _ rfl; exact qf_ BK332) Try.underlying44 rfl (by kernel_rfl)) rfl ?_
    exact ⟨_, qr_, by first | exact Kd.R_nil _ _ _ _ _ | exact Kd.N_nil _ _ _ _ _ | exact Kd.V_nil _ _ _ _ _ | exact Kd.Q_nil _ _ _ _ _ | exact Kd.S_nil _ _ _ _ _, qB_⟩
   replace c55 := Bool.eq_false_iff.mpr c55
   subst c55
   rw [if_neg (show ¬ (false = true) by decide)] at H
   obtain ⟨t335, A590, H⟩ := Option.bind_eq_some_iff.mp H; have A59 := am_ A590; clear A590
   have HC60 := am_ H
   clear H; obtain ⟨hnb61, hnc61⟩ := nn_ NB330_331; obtain ⟨hnb62, hnc62⟩ := nn_ NB330_332
   obtain ⟨hcz63_0, hfz63_0⟩ := bc1_ BK330
   obtain ⟨hnb64, hnc64⟩ := nn_ NB331_332
   obtain ⟨hcz65_0, hcz65_1, hcz65_2, hcz65_3, hfz65_0, hfz65_1, hfz65_2, hfz65_3⟩ := bc4_ BK331
   go_upto_if 47 with (first | ((with_reducible refine gate_callee (f := 83) rfl ?_); refine gl_ (some 42) Try.func83 #[.agg #[.slice A0_0 l0_0.length c0_0], .string a1_1] ?_; (with_reducible refine (spec_l03At.calls kj2 _ _ l0_0 a1_1 t335 _ ?side1 ?side2 A59.out).mono ?_); (case side1 => exact qC_ HR0_0 HB); (case side2 => exact HC0_0.out); rintro e w66 ⟨rfl, hb⟩; refine ⟨_, rfl, ?_⟩; replace BK330 := qbl_ BK330 hb; replace BK331 := qbl_ BK331 hb; replace BK332 := qbl_ BK332 hb; replace HB := hs_ hb; (try clear hb); (try clear hb2); (try clear hk); (try clear hi); obtain ⟨hcz67_0, hcz67_1, hcz67_2, hcz67_3, hfz67_0, hfz67_1, hfz67_2, hfz67_3⟩ := bc4_ BK331) | ((with_reducible refine gate_dst (N := 7) rfl ?_); refine bx_ 7 (cs := #[.string (⟨#[]⟩ : ByteArray), .string (⟨#[]⟩ : ByteArray), .int .i64 0]) (t := 99) ?_; intro gb336 hg w68 hbox hb; have BK336 := am_ (hbox); have GW336 := am_ ((qs_ : w.heap.size ≤ gb336)); have GE336 := GW336; obtain ⟨NB330_336, NB336_330⟩ := qn_ BK330 hg; obtain ⟨NB331_336, NB336_331⟩ := qn_ BK331 hg; obtain ⟨NB332_336, NB336_332⟩ := qn_ BK332 hg; replace BK330 := qbl_ BK330 hb; replace BK331 := qbl_ BK331 hb; replace BK332 := qbl_ BK332 hb; replace HB := hs_ hb; clear hb hbox hg; obtain ⟨hnb69, hnc69⟩ := nn_ NB336_330; obtain ⟨hnb70, hnc70⟩ := nn_ NB336_331; obtain ⟨hnb71, hnc71⟩ := nn_ NB336_332; obtain ⟨hcz72_0, hcz72_1, hcz72_2, hfz72_0, hfz72_1, hfz72_2⟩ := bc3_ BK336))
   (try simp only [Act.put, sA_, sB_, sC_])
   go_cut [] (fun wc => ∃ (kq : Nat) (x337000_59 : ByteArray) (x337001_59 : ByteArray) (x337002_59 : Int), Aside0 (spec_DoAct.j1 kq t335 l0_0 a1_0 a1_1 a1_2 a1_3 x337000_59 x337001_59 x337002_59 = some (r1, r2)) ∧ Aside0 (kq ≤ kj2) ∧ Aside0 (wc.heap[gb330]? = some (.cells #[(.slice A0_0 l0_0.length c0_0)] 44 (0, 0))) ∧ Aside0 (wc.heap[gb331]? = some (.cells #[.int .i64 a1_0, .string a1_1, .string a1_2, .string a1_3] 60 (0, 0))) ∧ Aside0 (wc.heap[gb332]? = some (.cells #[(.slice none 0 0)] 44 (0, 0))) ∧ Aside0 (wc.heap[gb336]? = some (.cells #[.string x337000_59, .string x337001_59, .int .i64 x337002_59] 99 (0, 0))) ∧ Aside0 (Below w.heap.size w wc))
   case first =>
    have H := HC60.out; clear HC60
    by_cases c73 : t335 ≥ 0
    ·rw [if_pos c73] at H
     have c73b0 : decide (0 ≤ t335) = true := decide_eq_true c73
     clear c73
     (first | rw [c73b0] | (simp only [i64_w, i32_w]; rw [c73b0]) | skip)
     by_cases c74 : 0 ≤ t335
     ·rw [if_pos c74] at H
      have c74b0 : decide (0 ≤ t335) = true := decide_eq_true c74
      clear c74
      by_cases c75 : t335 < (l0_0.length : Int)
      ·rw [if_pos c75] at H
       have c75b0 : decide (t335 < (l0_0.length : Int)) = true := decide_eq_true c75
       clear c75; have H' := am_ H; clear H; obtain ⟨hnb76, hnc76⟩ := nn_ NB330_331; obtain ⟨hnb77, hnc77⟩ := nn_ NB330_332; obtain ⟨hnb78, hnc78⟩ := nn_ NB330_336
       obtain ⟨hcz79_0, hfz79_0⟩ := bc1_ BK330
       have p337 : 0 ≤ (t335 : Int) := of_decide_eq_true qa_
       have q337 : t335 < (l0_0.length : Int) := of_decide_eq_true qa_
       obtain ⟨ad337, e337, hx337_0, hx337_1, hx337_2⟩ := at_T99 HR0_0.out t335 p337 q337
       cases e337
       have hn337_0 : ad337.block ≠ gb336 := Nat.ne_of_lt (Nat.lt_of_lt_of_le (by have := World.block_lt_of_cell? _ _ hx337_0; first | rwa [add_block] at this | exact this) GW336.out)
       have hn337_1 : ad337.block ≠ gb336 := Nat.ne_of_lt (Nat.lt_of_lt_of_le (by have := World.block_lt_of_cell? _ _ hx337_0; first | rwa [add_block] at this | exact this) GW336.out)
       have hn337_2 : ad337.block ≠ gb336 := Nat.ne_of_lt (Nat.lt_of_lt_of_le (by have := World.block_lt_of_cell? _ _ hx337_0; first | rwa [add_block] at this | exact this) GW336.out)
       replace hx337_0 := qx_ HB hx337_0
       replace hx337_1 := qx_ HB hx337_1
       replace hx337_2 := qx_ HB hx337_2
       replace hx337_0 := (cell_far (p := ⟨gb336, 0, none⟩) (by first | (rw [add_block]; exact hn337_0) | (show (Addr.add _ _).block ≠ _; rw [add_block]; exact hn337_0) | exact hn337_0) (.string a1_1)).trans hx337_0
       replace hx337_1 := (cell_far (p := ⟨gb336, 0, none⟩) (by first | (rw [add_block]; exact hn337_0) | (show (Addr.add _ _).block ≠ _; rw [add_block]; exact hn337_0) | exact hn337_0) (.string a1_1)).trans hx337_1
       replace hx337_2 := (cell_far (p := ⟨gb336, 0, none⟩) (by first | (rw [add_block]; exact hn337_0) | (show (Addr.add _ _).block ≠ _; rw [add_block]; exact hn337_0) | exact hn337_0) (.string a1_1)).trans hx337_2
       replace hx337_0 := (cell_far (p := ⟨gb336, 1, none⟩) (by first | (rw [add_block]; exact hn337_1) | (show (Addr.add _ _).block ≠ _; rw [add_block]; exact hn337_1) | exact hn337_1) (.string (⟨#[]⟩ : ByteArray))).trans hx337_0
       replace hx337_1 := (cell_far (p := ⟨gb336, 1, none⟩) (by first | (rw [add_block]; exact hn337_1) | (show (Addr.add _ _).block ≠ _; rw [add_block]; exact hn337_1) | exact hn337_1) (.string (⟨#[]⟩ : ByteArray))).trans hx337_1
       replace hx337_2 := (cell_far (p := ⟨gb336, 1, none⟩) (by first | (rw [add_block]; exact hn337_1) | (show (Addr.add _ _).block ≠ _; rw [add_block]; exact hn337_1) | exact hn337_1) (.string (⟨#[]⟩ : ByteArray))).trans hx337_2
       replace hx337_0 := (cell_far (p := ⟨gb336, 2, none⟩) (by first | (rw [add_block]; exact hn337_2) | (show (Addr.add _ _).block ≠ _; rw [add_block]; exact hn337_2) | exact hn337_2) (.int .i64 0)).trans hx337_0
       replace hx337_1 := (cell_far (p := ⟨gb336, 2, none⟩) (by first | (rw [add_block]; exact hn337_2) | (show (Addr.add _ _).block ≠ _; rw [add_block]; exact hn337_2) | exact hn337_2) (.int .i64 0)).trans hx337_1
       replace hx337_2 := (cell_far (p := ⟨gb336, 2, none⟩) (by first | (rw [add_block]; exact hn337_2) | (show (Addr.add _ _).block ≠ _; rw [add_block]; exact hn337_2) | exact hn337_2) (.int .i64 0)).trans hx337_2
       clear hn337_0; clear hn337_1; clear hn337_2; replace p337 := eq_true p337; replace q337 := eq_true q337; obtain ⟨hnb80, hnc80⟩ := nn_ NB336_331; obtain ⟨hnb81, hnc81⟩ := nn_ NB336_332
       obtain ⟨hcz82_0, hcz82_1, hcz82_2, hfz82_0, hfz82_1, hfz82_2⟩ := bc3_ BK336
       go_wp2
       go_meet
       case rel => exact ⟨_, ((rd_T99 l0_0 t335).f0), ((rd_T99 l0_0 t335).f1), ((rd_T99 l0_0 t335).f2), H', ⟨by have := HJ2.out; first | omega | exact Nat.le_refl _⟩, ⟨qf_ BK330⟩, ⟨qf_ BK331⟩, ⟨qf_ BK332⟩, ⟨by (with_reducible repeat (first | refine blk_drewN ?_ _ | refine blk_drew ?_ | refine blk_alloc ?_ _)); refine blk_put (cs := #[.string ((rd_T99 l0_0 t335).f0), .string ((rd_T99 l0_0 t335).f1), .int .i64 0]) ?_ 2 _ rfl; (with_reducible repeat (first | refine blk_drewN ?_ _ | refine blk_drew ?_ | refine blk_alloc ?_ _)); refine blk_put (cs := #[.string ((rd_T99 l0_0 t335).f0), .string (⟨#[]⟩ : ByteArray), .int .i64 0]) ?_ 1 _ rfl; (with_reducible repeat (first | refine blk_drewN ?_ _ | refine blk_drew ?_ | refine blk_alloc ?_ _)); refine blk_put (cs := #[.string a1_1, .string (⟨#[]⟩ : ByteArray), .int .i64 0]) ?_ 0 _ rfl; (with_reducible repeat (first | refine blk_drewN ?_ _ | refine blk_drew ?_ | refine blk_alloc ?_ _)); refine blk_put (cs := #[.string a1_1, .string (⟨#[]⟩ : ByteArray), .int .i64 0]) ?_ 2 _ rfl; (with_reducible repeat (first | refine blk_drewN ?_ _ | refine blk_drew ?_ | refine blk_alloc ?_ _)); refine blk_put (cs := #[.string a1_1, .string (⟨#[]⟩ : ByteArray), .int .i64 0]) ?_ 1 _ rfl; (with_reducible repeat (first | refine blk_drewN ?_ _ | refine blk_drew ?_ | refine blk_alloc ?_ _)); refine blk_put (cs := #[.string (⟨#[]⟩ : ByteArray), .string (⟨#[]⟩ : ByteArray), .int .i64 0]) ?_ 0 _ rfl; exact qf_ BK336⟩, ⟨qB_⟩⟩
      rw [if_neg c75] at H
      exact absurd H (by simp)
     rw [if_neg c74] at H
     exact absurd H (by simp)
    rw [if_neg c73] at H
    have c73b0 : decide (0 ≤ t335) = false := decide_eq_false c73
    clear c73
    (first | rw [c73b0] | (simp only [i64_w, i32_w]; rw [c73b0]) | skip)
    have H' := am_ H; clear H
    go_wp2
    go_meet
    case rel => exact ⟨_, (a1_1), ((⟨#[]⟩ : ByteArray)), (0), H', ⟨by have := HJ2.out; first | omega | exact Nat.le_refl _⟩, ⟨qf_ BK330⟩, ⟨qf_ BK331⟩, ⟨qf_ BK332⟩, ⟨by (with_reducible repeat (first | refine blk_drewN ?_ _ | refine blk_drew ?_ | refine blk_alloc ?_ _)); refine blk_put (cs := #[.string a1_1, .string (⟨#[]⟩ : ByteArray), .int .i64 0]) ?_ 2 _ rfl; (with_reducible repeat (first | refine blk_drewN ?_ _ | refine blk_drew ?_ | refine blk_alloc ?_ _)); refine blk_put (cs := #[.string a1_1, .string (⟨#[]⟩ : ByteArray), .int .i64 0]) ?_ 1 _ rfl; (with_reducible repeat (first | refine blk_drewN ?_ _ | refine blk_drew ?_ | refine blk_alloc ?_ _)); refine blk_put (cs := #[.string (⟨#[]⟩ : ByteArray), .string (⟨#[]⟩ : ByteArray), .int .i64 0]) ?_ 0 _ rfl; exact qf_ BK336⟩, ⟨qB_⟩⟩
   case rest =>
    clear HC60; (try clear c1); (try clear c2); (try clear p2); (try clear c3); (try clear p3); (try clear q3); (try clear hx3); (try clear c4); (try clear c5); (try clear c6); (try clear c7); (try clear c8); (try clear c10); (try clear c11); (try clear c11b0); (try clear c11b1); (try clear c12); (try clear c12b0); (try clear c12b1); (try clear c13); (try clear c14); (try clear c17); (try clear c19); (try clear c20); (try clear c23); (try clear c25); (try clear c25b0); (try clear c25b1); (try clear c26); (try clear c26b0); (try clear c26b1); (try clear c27); (try clear c28); (try clear c31); (try clear c33); (try clear p33); (try clear q33); (try clear hx33); (try clear c34); (try clear c37); (try clear c38); (try clear c39); (try clear c40); (try clear c43); (try clear c45); (try clear c46); (try clear c49); (try clear c51); (try clear c52); (try clear c55); (try clear c56); (try clear c57); (try clear c61); (try clear c62); (try clear c64); (try clear c69); (try clear c70); (try clear c71); (try clear c73); (try clear c73b0); (try clear c74); (try clear c74b0); (try clear c75); (try clear c75b0); (try clear c76); (try clear c77); (try clear c78); (try clear c80); (try clear c81); (try clear hcz15_0); (try clear hcz18_0 hcz18_1 hcz18_2 hcz18_3); (try clear hcz21_0); (try clear hcz24_0 hcz24_1 hcz24_2 hcz24_3); (try clear hcz29_0); (try clear hcz32_0 hcz32_1 hcz32_2 hcz32_3); (try clear hcz35_0); (try clear hcz38_0 hcz38_1 hcz38_2 hcz38_3); (try clear hcz41_0); (try clear hcz44_0 hcz44_1 hcz44_2 hcz44_3); (try clear hcz47_0); (try clear hcz50_0 hcz50_1 hcz50_2 hcz50_3); (try clear hcz53_0); (try clear hcz58_0); (try clear hcz63_0); (try clear hcz65_0 hcz65_1 hcz65_2 hcz65_3); (try clear hcz67_0 hcz67_1 hcz67_2 hcz67_3); (try clear hcz72_0 hcz72_1 hcz72_2); (try clear hcz79_0); (try clear hcz82_0 hcz82_1 hcz82_2); (try clear hfz15_0); (try clear hfz18_0 hfz18_1 hfz18_2 hfz18_3); (try clear hfz21_0); (try clear hfz24_0 hfz24_1 hfz24_2 hfz24_3); (try clear hfz29_0); (try clear hfz32_0 hfz32_1 hfz32_2 hfz32_3); (try clear hfz35_0); (try clear hfz38_0 hfz38_1 hfz38_2 hfz38_3); (try clear hfz41_0); (try clear hfz44_0 hfz44_1 hfz44_2 hfz44_3); (try clear hfz47_0); (try clear hfz50_0 hfz50_1 hfz50_2 hfz50_3); (try clear hfz53_0); (try clear hfz58_0); (try clear hfz63_0); (try clear hfz65_0 hfz65_1 hfz65_2 hfz65_3); (try clear hfz67_0 hfz67_1 hfz67_2 hfz67_3); (try clear hfz72_0 hfz72_1 hfz72_2); (try clear hfz79_0); (try clear hfz82_0 hfz82_1 hfz82_2); (try clear hx337_0); (try clear hx337_1); (try clear hx337_2); (try clear p2); (try clear p337); (try clear q337)
    obtain ⟨kq, x337000_59, x337001_59, x337002_59, HA, HJ59, BK330, BK331, BK332, BK336, HB⟩ := hcut
    cases kq with
    | zero => exact absurd HA.out (by simp [spec_DoAct.j1])
    | succ kj59 =>
     have H := HA.out; clear HA
     simp only [spec_DoAct.j1] at H
     by_cases c83 : a1_0 = 1
     ·rw [if_pos c83] at H
      have c83b0 : (a1_0 == 1) = true := beq_iff_eq.mpr c83
      have c83b1 : (a1_0 != 1) = false := bne_eq_false_iff_eq.mpr c83
      clear c83
      by_cases c84 : x337001_59.size + a1_2.size ≤ 9223372036854775807
      ·rw [if_pos c84] at H
       have c84b0 := eq_true c84
       have c84b1 : decide (x337001_59.size + a1_2.size ≤ 9223372036854775807) = true := decide_eq_true c84
       try have c84b2 : (9223372036854775807 < x337001_59.size + a1_2.size) = False := eq_false (Nat.not_lt.2 c84)
       obtain ⟨t339, A850, H⟩ := Option.bind_eq_some_iff.mp H; have A85 := am_ A850; clear A850
       obtain ⟨t342, A860, H⟩ := Option.bind_eq_some_iff.mp H; have A86 := am_ A860; clear A860
       by_cases c87 : t342 = true
       ·subst c87
        rw [if_pos rfl] at H
        simp only [Option.some.injEq, Prod.mk.injEq] at H
        obtain ⟨rfl, rfl⟩ := H
        go_wp2_with (first | ((with_reducible refine gate_dst (N := 8) rfl ?_); refine bx_ 8 (cs := #[.slice none 0 0]) (t := 44) ?_; intro gb338 hg w88 hbox hb; have BK338 := am_ (hbox); have GW338 := am_ ((qs_ : w.heap.size ≤ gb338)); have GE338 := GW338; obtain ⟨NB330_338, NB338_330⟩ := qn_ BK330 hg; obtain ⟨NB331_338, NB338_331⟩ := qn_ BK331 hg; obtain ⟨NB332_338, NB338_332⟩ := qn_ BK332 hg; obtain ⟨NB336_338, NB338_336⟩ := qn_ BK336 hg; replace BK330 := qbl_ BK330 hb; replace BK331 := qbl_ BK331 hb; replace BK332 := qbl_ BK332 hb; replace BK336 := qbl_ BK336 hb; replace HB := hs_ hb; clear hb hbox hg; obtain ⟨hnb89, hnc89⟩ := nn_ NB338_330; obtain ⟨hnb90, hnc90⟩ := nn_ NB338_331; obtain ⟨hnb91, hnc91⟩ := nn_ NB338_332; obtain ⟨hnb92, hnc92⟩ := nn_ NB338_336; obtain ⟨hcz93_0, hfz93_0⟩ := bc1_ BK338; obtain ⟨hnb94, hnc94⟩ := nn_ NB331_330; obtain ⟨hnb95, hnc95⟩ := nn_ NB331_332; obtain ⟨hnb96, hnc96⟩ := nn_ NB331_336; obtain ⟨hcz97_0, hcz97_1, hcz97_2, hcz97_3, hfz97_0, hfz97_1, hfz97_2, hfz97_3⟩ := bc4_ BK331; obtain ⟨hnb98, hnc98⟩ := nn_ NB336_330; obtain ⟨hnb99, hnc99⟩ := nn_ NB336_332; obtain ⟨hcz100_0, hcz100_1, hcz100_2, hfz100_0, hfz100_1, hfz100_2⟩ := bc3_ BK336; obtain ⟨hnb101, hnc101⟩ := nn_ NB330_332; obtain ⟨hcz102_0, hfz102_0⟩ := bc1_ BK330) | ((with_reducible refine gate_callee (f := 84) rfl ?_); refine gl_ (some 67) Try.func84 #[.agg #[.slice A0_0 l0_0.length c0_0], .agg #[.string x337000_59, .string (x337001_59 ++ a1_2), .int .i64 x337002_59]] ?_; (with_reducible refine (spec_l03Put.calls kj59 _ _ l0_0 x337000_59 (x337001_59 ++ a1_2) x337002_59 t339 _ ?side1 ?side2 A85.out).mono ?_); (case side1 => exact Kd.C_below HR0_0.out qB_); (case side2 => exact HC0_0.out); rintro e w103 ⟨v340, rfl, ho0, hb⟩; refine ⟨_, rfl, ?_⟩; have HO341 := am_ (Kd.R_lower (Kd.R_newB ho0 (g := gb336) (o := .cells #[.string x337000_59, .string (x337001_59 ++ a1_2), .int .i64 x337002_59] 99 (0, 0)) (by (with_reducible repeat (first | refine blk_drewN ?_ _ | refine blk_drew ?_ | refine blk_alloc ?_ _)); refine blk_put (cs := #[.string x337000_59, .string x337001_59, .int .i64 x337002_59]) ?_ 1 _ rfl; exact qf_ BK336)) (below_size qB_)); replace BK330 := qbl_ BK330 hb; replace BK331 := qbl_ BK331 hb; replace BK332 := qbl_ BK332 hb; replace BK336 := am_ (blk_below (g := gb336) (o := .cells #[.string x337000_59, .string (x337001_59 ++ a1_2), .int .i64 x337002_59] 99 (0, 0)) (by (with_reducible repeat (first | refine blk_drewN ?_ _ | refine blk_drew ?_ | refine blk_alloc ?_ _)); refine blk_put (cs := #[.string x337000_59, .string x337001_59, .int .i64 x337002_59]) ?_ 1 _ rfl; exact qf_ BK336) hb); replace BK338 := am_ (blk_below (g := gb338) (o := .cells #[.slice none 0 0] 44 (0, 0)) (by (with_reducible repeat (first | refine blk_drewN ?_ _ | refine blk_drew ?_ | refine blk_alloc ?_ _)); refine blk_far ?_ NB338_336.out _; (with_reducible repeat (first | refine blk_drewN ?_ _ | refine blk_drew ?_ | refine blk_alloc ?_ _)); refine blk_put (cs := #[.slice none 0 0]) ?_ 0 _ rfl; exact qf_ BK338) hb); replace HB := hs_ hb; (try clear hb); (try clear hb2); (try clear hk); (try clear hi); (try clear ho0); obtain ⟨Ao104, co104, eo104⟩ := Kd.R_slice HO341.out; subst eo104; obtain ⟨hcz105_0, hfz105_0⟩ := bc1_ BK338) | ((with_reducible refine gate_callee (f := 75) rfl ?_); refine gl_ (some 125) Try.func75 #[.agg #[.slice Ao104 t339.length co104]] ?_; (with_reducible refine (spec_DiskOk.calls kj59 _ _ t339 true _ ?side1 ?side2 A86.out).mono ?_); (case side1 => refine (Kd.R_reads' (e := 99) (base := w.heap.size) (ok := fun k_ => (True ∧ k_ ≠ gb336)) (n := t339.length) (c := co104) ?_).2.2; exact (by (with_reducible repeat (first | apply Kd.R_alloc | apply Kd.R_drewN | apply Kd.R_drew)); exact (Kd.R_mono (Kd.R_far (p := ⟨gb338, 0, none⟩) (Kd.R_types HO341.out BK338.out (by decide)) (fun _ hk => hk.2) (.slice Ao104 t339.length co104)) (fun _ h_ => h_.1)))); (case side2 => exact (Kd.R_reads' HO341.out).2.1); rintro e w106 ⟨rfl, hb⟩; refine ⟨_, rfl, ?_⟩; replace HO341 := am_ (Kd.R_below (by (with_reducible repeat (first | apply Kd.R_alloc | apply Kd.R_drewN | apply Kd.R_drew)); exact (Kd.R_mono (Kd.R_far (p := ⟨gb338, 0, none⟩) (Kd.R_types HO341.out BK338.out (by decide)) (fun _ hk => hk.2) (.slice Ao104 t339.length co104)) (fun _ h_ => h_.1))) hb); replace BK330 := qbl_ BK330 hb; replace BK331 := qbl_ BK331 hb; replace BK332 := qbl_ BK332 hb; replace BK336 := qbl_ BK336 hb; replace BK338 := am_ (blk_below (g := gb338) (o := .cells #[.slice Ao104 t339.length co104] 44 (0, 0)) (by (with_reducible repeat (first | refine blk_drewN ?_ _ | refine blk_drew ?_ | refine blk_alloc ?_ _)); refine blk_put (cs := #[.slice none 0 0]) ?_ 0 _ rfl; exact qf_ BK338) hb); replace HB := hs_ hb; (try clear hb); (try clear hb2); (try clear hk); (try clear hi); obtain ⟨hcz107_0, hfz107_0⟩ := bc1_ BK338; obtain ⟨hcz108_0, hfz108_0⟩ := bc1_ BK332))
        refine bodyPost_ret (results_ct rfl _ _ gb332 44 #[.slice Ao104 t339.length co104] (0, 0) _ rfl (by (with_reducible repeat (first | refine blk_drewN ?_ _ | refine blk_drew ?_ | refine blk_alloc ?_ _)); refine blk_put (cs := #[.slice none 0 0]) ?_ 0 _ rfl; exact qf_ BK332) Try.underlying44 rfl (by kernel_rfl)) rfl ?_
        exact ⟨_, qr_, by (with_reducible repeat (first | apply Kd.R_alloc | apply Kd.R_drewN | apply Kd.R_drew)); exact Kd.R_mono (Kd.R_far (p := ⟨gb332, 0, none⟩) (Kd.R_types HO341.out BK332.out (by decide)) (fun _ hk => hk.2) (.slice Ao104 t339.length co104)) (fun _ hk => trivial), qB_⟩
       replace c87 := Bool.eq_false_iff.mpr c87
       subst c87
       rw [if_neg (show ¬ (false = true) by decide)] at H
       simp only [Option.some.injEq, Prod.mk.injEq] at H
       obtain ⟨rfl, rfl⟩ := H
       go_wp2_with (first | ((with_reducible refine gate_dst (N := 8) rfl ?_); refine bx_ 8 (cs := #[.slice none 0 0]) (t := 44) ?_; intro gb338 hg w109 hbox hb; have BK338 := am_ (hbox); have GW338 := am_ ((qs_ : w.heap.size ≤ gb338)); have GE338 := GW338; obtain ⟨NB330_338, NB338_330⟩ := qn_ BK330 hg; obtain ⟨NB331_338, NB338_331⟩ := qn_ BK331 hg; obtain ⟨NB332_338, NB338_332⟩ := qn_ BK332 hg; obtain ⟨NB336_338, NB338_336⟩ := qn_ BK336 hg; replace BK330 := qbl_ BK330 hb; replace BK331 := qbl_ BK331 hb; replace BK332 := qbl_ BK332 hb; replace BK336 := qbl_ BK336 hb; replace HB := hs_ hb; clear hb hbox hg; obtain ⟨hnb110, hnc110⟩ := nn_ NB338_330; obtain ⟨hnb111, hnc111⟩ := nn_ NB338_331; obtain ⟨hnb112, hnc112⟩ := nn_ NB338_332; obtain ⟨hnb113, hnc113⟩ := nn_ NB338_336; obtain ⟨hcz114_0, hfz114_0⟩ := bc1_ BK338; obtain ⟨hnb115, hnc115⟩ := nn_ NB331_330; obtain ⟨hnb116, hnc116⟩ := nn_ NB331_332; obtain ⟨hnb117, hnc117⟩ := nn_ NB331_336; obtain ⟨hcz118_0, hcz118_1, hcz118_2, hcz118_3, hfz118_0, hfz118_1, hfz118_2, hfz118_3⟩ := bc4_ BK331; obtain ⟨hnb119, hnc119⟩ := nn_ NB336_330; obtain ⟨hnb120, hnc120⟩ := nn_ NB336_332; obtain ⟨hcz121_0, hcz121_1, hcz121_2, hfz121_0, hfz121_1, hfz121_2⟩ := bc3_ BK336; obtain ⟨hnb122, hnc122⟩ := nn_ NB330_332; obtain ⟨hcz123_0, hfz123_0⟩ := bc1_ BK330) | ((with_reducible refine gate_callee (f := 84) rfl ?_); refine gl_ (some 67) Try.func84 #[.agg #[.slice A0_0 l0_0.length c0_0], .agg #[.string x337000_59, .string (x337001_59 ++ a1_2), .int .i64 x337002_59]] ?_; (with_reducible refine (spec_l03Put.calls kj59 _ _ l0_0 x337000_59 (x337001_59 ++ a1_2) x337002_59 t339 _ ?side1 ?side2 A85.out).mono ?_); (case side1 => exact Kd.C_below HR0_0.out qB_); (case side2 => exact HC0_0.out); rintro e w124 ⟨v340, rfl, ho0, hb⟩; refine ⟨_, rfl, ?_⟩; have HO341 := am_ (Kd.R_lower (Kd.R_newB ho0 (g := gb336) (o := .cells #[.string x337000_59, .string (x337001_59 ++ a1_2), .int .i64 x337002_59] 99 (0, 0)) (by (with_reducible repeat (first | refine blk_drewN ?_ _ | refine blk_drew ?_ | refine blk_alloc ?_ _)); refine blk_put (cs := #[.string x337000_59, .string x337001_59, .int .i64 x337002_59]) ?_ 1 _ rfl; exact qf_ BK336)) (below_size qB_)); replace BK330 := qbl_ BK330 hb; replace BK331 := qbl_ BK331 hb; replace BK332 := qbl_ BK332 hb; replace BK336 := am_ (blk_below (g := gb336) (o := .cells #[.string x337000_59, .string (x337001_59 ++ a1_2), .int .i64 x337002_59] 99 (0, 0)) (by (with_reducible repeat (first | refine blk_drewN ?_ _ | refine blk_drew ?_ | refine blk_alloc ?_ _)); refine blk_put (cs := #[.string x337000_59, .string x337001_59, .int .i64 x337002_59]) ?_ 1 _ rfl; exact qf_ BK336) hb); replace BK338 := am_ (blk_below (g := gb338) (o := .cells #[.slice none 0 0] 44 (0, 0)) (by (with_reducible repeat (first | refine blk_drewN ?_ _ | refine blk_drew ?_ | refine blk_alloc ?_ _)); refine blk_far ?_ NB338_336.out _; (with_reducible repeat (first | refine blk_drewN ?_ _ | refine blk_drew ?_ | refine blk_alloc ?_ _)); refine blk_put (cs := #[.slice none 0 0]) ?_ 0 _ rfl; exact qf_ BK338) hb); replace HB := hs_ hb; (try clear hb); (try clear hb2); (try clear hk); (try clear hi); (try clear ho0); obtain ⟨Ao125, co125, eo125⟩ := Kd.R_slice HO341.out; subst eo125; obtain ⟨hcz126_0, hfz126_0⟩ := bc1_ BK338) | ((with_reducible refine gate_callee (f := 75) rfl ?_); refine gl_ (some 125) Try.func75 #[.agg #[.slice Ao125 t339.length co125]] ?_; (with_reducible refine (spec_DiskOk.calls kj59 _ _ t339 false _ ?side1 ?side2 A86.out).mono ?_); (case side1 => refine (Kd.R_reads' (e := 99) (base := w.heap.size) (ok := fun k_ => (True ∧ k_ ≠ gb336)) (n := t339.length) (c := co125) ?_).2.2; exact (by (with_reducible repeat (first | apply Kd.R_alloc | apply Kd.R_drewN | apply Kd.R_drew)); exact (Kd.R_mono (Kd.R_far (p := ⟨gb338, 0, none⟩) (Kd.R_types HO341.out BK338.out (by decide)) (fun _ hk => hk.2) (.slice Ao125 t339.length co125)) (fun _ h_ => h_.1)))); (case side2 => exact (Kd.R_reads' HO341.out).2.1); rintro e w127 ⟨rfl, hb⟩; refine ⟨_, rfl, ?_⟩; replace HO341 := am_ (Kd.R_below (by (with_reducible repeat (first | apply Kd.R_alloc | apply Kd.R_drewN | apply Kd.R_drew)); exact (Kd.R_mono (Kd.R_far (p := ⟨gb338, 0, none⟩) (Kd.R_types HO341.out BK338.out (by decide)) (fun _ hk => hk.2) (.slice Ao125 t339.length co125)) (fun _ h_ => h_.1))) hb); replace BK330 := qbl_ BK330 hb; replace BK331 := qbl_ BK331 hb; replace BK332 := qbl_ BK332 hb; replace BK336 := qbl_ BK336 hb; replace BK338 := am_ (blk_below (g := gb338) (o := .cells #[.slice Ao125 t339.length co125] 44 (0, 0)) (by (with_reducible repeat (first | refine blk_drewN ?_ _ | refine blk_drew ?_ | refine blk_alloc ?_ _)); refine blk_put (cs := #[.slice none 0 0]) ?_ 0 _ rfl; exact qf_ BK338) hb); replace HB := hs_ hb; (try clear hb); (try clear hb2); (try clear hk); (try clear hi); obtain ⟨hcz128_0, hfz128_0⟩ := bc1_ BK332))
       refine bodyPost_ret (results_ct rfl _ _ gb332 44 #[.slice none 0 0] (0, 0) _ rfl (by (with_reducible repeat (first | refine blk_drewN ?_ _ | refine blk_drew ?_ | refine blk_alloc ?_ _)); refine blk_put (cs := #[.slice none 0 0]) ?_ 0 _ rfl; exact qf_ BK332) Try.underlying44 rfl (by kernel_rfl)) rfl ?_
       exact ⟨_, qr_, by first | exact Kd.R_nil _ _ _ _ _ | exact Kd.N_nil _ _ _ _ _ | exact Kd.V_nil _ _ _ _ _ | exact Kd.Q_nil _ _ _ _ _ | exact Kd.S_nil _ _ _ _ _, qB_⟩
      rw [if_neg c84] at H
      exact absurd H (by simp)
     rw [if_neg c83] at H
     have c83b0 : (a1_0 == 1) = false := beq_eq_false_iff_ne.mpr c83
     have c83b1 : (a1_0 != 1) = true := bne_iff_ne.mpr c83
     by_cases c129 : t335 < 0
     ·rw [if_pos c129] at H
      have c129b0 : decide (t335 < 0) = true := decide_eq_true c129
      clear c129
      simp only [Option.some.injEq, Prod.mk.injEq] at H
      obtain ⟨rfl, rfl⟩ := H
      go_wp2_with (first | ((with_reducible refine gate_dst (N := 8) rfl ?_); refine bx_ 8 (cs := #[.slice none 0 0]) (t := 44) ?_; intro gb338 hg w130 hbox hb; have BK338 := am_ (hbox); have GW338 := am_ ((qs_ : w.heap.size ≤ gb338)); have GE338 := GW338; obtain ⟨NB330_338, NB338_330⟩ := qn_ BK330 hg; obtain ⟨NB331_338, NB338_331⟩ := qn_ BK331 hg; obtain ⟨NB332_338, NB338_332⟩ := qn_ BK332 hg; obtain ⟨NB336_338, NB338_336⟩ := qn_ BK336 hg; replace BK330 := qbl_ BK330 hb; replace BK331 := qbl_ BK331 hb; replace BK332 := qbl_ BK332 hb; replace BK336 := qbl_ BK336 hb; replace HB := hs_ hb; clear hb hbox hg; obtain ⟨hnb131, hnc131⟩ := nn_ NB338_330; obtain ⟨hnb132, hnc132⟩ := nn_ NB338_331; obtain ⟨hnb133, hnc133⟩ := nn_ NB338_332; obtain ⟨hnb134, hnc134⟩ := nn_ NB338_336; obtain ⟨hcz135_0, hfz135_0⟩ := bc1_ BK338; obtain ⟨hnb136, hnc136⟩ := nn_ NB331_330; obtain ⟨hnb137, hnc137⟩ := nn_ NB331_332; obtain ⟨hnb138, hnc138⟩ := nn_ NB331_336; obtain ⟨hcz139_0, hcz139_1, hcz139_2, hcz139_3, hfz139_0, hfz139_1, hfz139_2, hfz139_3⟩ := bc4_ BK331; obtain ⟨hnb140, hnc140⟩ := nn_ NB332_330; obtain ⟨hnb141, hnc141⟩ := nn_ NB332_336; obtain ⟨hcz142_0, hfz142_0⟩ := bc1_ BK332))
      refine bodyPost_ret (results_ct rfl _ _ gb332 44 #[.slice none 0 0] (0, 0) _ rfl (by (with_reducible repeat (first | refine blk_drewN ?_ _ | refine blk_drew ?_ | refine blk_alloc ?_ _)); refine blk_put (cs := #[.slice none 0 0]) ?_ 0 _ rfl; exact qf_ BK332) Try.underlying44 rfl (by kernel_rfl)) rfl ?_
      exact ⟨_, qr_, by first | exact Kd.R_nil _ _ _ _ _ | exact Kd.N_nil _ _ _ _ _ | exact Kd.V_nil _ _ _ _ _ | exact Kd.Q_nil _ _ _ _ _ | exact Kd.S_nil _ _ _ _ _, qB_⟩
     rw [if_neg c129] at H
     have c129b0 : decide (t335 < 0) = false := decide_eq_false c129
     clear c129
     by_cases c143 : a1_0 = 2
     ·rw [if_pos c143] at H
      have c143b0 : (a1_0 == 2) = true := beq_iff_eq.mpr c143
      have c143b1 : (a1_0 != 2) = false := bne_eq_false_iff_eq.mpr c143
      clear c143
      obtain ⟨t343, A1440, H⟩ := Option.bind_eq_some_iff.mp H; have A144 := am_ A1440; clear A1440
      obtain ⟨t346, A1450, H⟩ := Option.bind_eq_some_iff.mp H; have A145 := am_ A1450; clear A1450
      by_cases c146 : t346 = true
      ·subst c146
       rw [if_pos rfl] at H
       simp only [Option.some.injEq, Prod.mk.injEq] at H
       obtain ⟨rfl, rfl⟩ := H
       go_wp2_with (first | ((with_reducible refine gate_dst (N := 8) rfl ?_); refine bx_ 8 (cs := #[.slice none 0 0]) (t := 44) ?_; intro gb338 hg w147 hbox hb; have BK338 := am_ (hbox); have GW338 := am_ ((qs_ : w.heap.size ≤ gb338)); have GE338 := GW338; obtain ⟨NB330_338, NB338_330⟩ := qn_ BK330 hg; obtain ⟨NB331_338, NB338_331⟩ := qn_ BK331 hg; obtain ⟨NB332_338, NB338_332⟩ := qn_ BK332 hg; obtain ⟨NB336_338, NB338_336⟩ := qn_ BK336 hg; replace BK330 := qbl_ BK330 hb; replace BK331 := qbl_ BK331 hb; replace BK332 := qbl_ BK332 hb; replace BK336 := qbl_ BK336 hb; replace HB := hs_ hb; clear hb hbox hg; obtain ⟨hnb148, hnc148⟩ := nn_ NB338_330; obtain ⟨hnb149, hnc149⟩ := nn_ NB338_331; obtain ⟨hnb150, hnc150⟩ := nn_ NB338_332; obtain ⟨hnb151, hnc151⟩ := nn_ NB338_336; obtain ⟨hcz152_0, hfz152_0⟩ := bc1_ BK338; obtain ⟨hnb153, hnc153⟩ := nn_ NB331_330; obtain ⟨hnb154, hnc154⟩ := nn_ NB331_332; obtain ⟨hnb155, hnc155⟩ := nn_ NB331_336; obtain ⟨hcz156_0, hcz156_1, hcz156_2, hcz156_3, hfz156_0, hfz156_1, hfz156_2, hfz156_3⟩ := bc4_ BK331; obtain ⟨hnb157, hnc157⟩ := nn_ NB336_330; obtain ⟨hnb158, hnc158⟩ := nn_ NB336_332; obtain ⟨hcz159_0, hcz159_1, hcz159_2, hfz159_0, hfz159_1, hfz159_2⟩ := bc3_ BK336; obtain ⟨hnb160, hnc160⟩ := nn_ NB330_332; obtain ⟨hcz161_0, hfz161_0⟩ := bc1_ BK330) | ((with_reducible refine gate_callee (f := 84) rfl ?_); refine gl_ (some 82) Try.func84 #[.agg #[.slice A0_0 l0_0.length c0_0], .agg #[.string x337000_59, .string x337001_59, .int .i64 (x337001_59.size : Int)]] ?_; (with_reducible refine (spec_l03Put.calls kj59 _ _ l0_0 x337000_59 x337001_59 (x337001_59.size : Int) t343 _ ?side1 ?side2 A144.out).mono ?_); (case side1 => exact Kd.C_below HR0_0.out qB_); (case side2 => exact HC0_0.out); rintro e w162 ⟨v344, rfl, ho0, hb⟩; refine ⟨_, rfl, ?_⟩; have HO345 := am_ (Kd.R_lower (Kd.R_newB ho0 (g := gb336) (o := .cells #[.string x337000_59, .string x337001_59, .int .i64 (x337001_59.size : Int)] 99 (0, 0)) (by (with_reducible repeat (first | refine blk_drewN ?_ _ | refine blk_drew ?_ | refine blk_alloc ?_ _)); refine blk_put (cs := #[.string x337000_59, .string x337001_59, .int .i64 x337002_59]) ?_ 2 _ rfl; exact qf_ BK336)) (below_size qB_)); replace BK330 := qbl_ BK330 hb; replace BK331 := qbl_ BK331 hb; replace BK332 := qbl_ BK332 hb; replace BK336 := am_ (blk_below (g := gb336) (o := .cells #[.string x337000_59, .string x337001_59, .int .i64 (x337001_59.size : Int)] 99 (0, 0)) (by (with_reducible repeat (first | refine blk_drewN ?_ _ | refine blk_drew ?_ | refine blk_alloc ?_ _)); refine blk_put (cs := #[.string x337000_59, .string x337001_59, .int .i64 x337002_59]) ?_ 2 _ rfl; exact qf_ BK336) hb); replace BK338 := am_ (blk_below (g := gb338) (o := .cells #[.slice none 0 0] 44 (0, 0)) (by (with_reducible repeat (first | refine blk_drewN ?_ _ | refine blk_drew ?_ | refine blk_alloc ?_ _)); refine blk_far ?_ NB338_336.out _; (with_reducible repeat (first | refine blk_drewN ?_ _ | refine blk_drew ?_ | refine blk_alloc ?_ _)); refine blk_put (cs := #[.slice none 0 0]) ?_ 0 _ rfl; exact qf_ BK338) hb); replace HB := hs_ hb; (try clear hb); (try clear hb2); (try clear hk); (try clear hi); (try clear ho0); obtain ⟨Ao163, co163, eo163⟩ := Kd.R_slice HO345.out; subst eo163; obtain ⟨hcz164_0, hfz164_0⟩ := bc1_ BK338) | ((with_reducible refine gate_callee (f := 75) rfl ?_); refine gl_ (some 125) Try.func75 #[.agg #[.slice Ao163 t343.length co163]] ?_; (with_reducible refine (spec_DiskOk.calls kj59 _ _ t343 true _ ?side1 ?side2 A145.out).mono ?_); (case side1 => refine (Kd.R_reads' (e := 99) (base := w.heap.size) (ok := fun k_ => (True ∧ k_ ≠ gb336)) (n := t343.length) (c := co163) ?_).2.2; exact (by (with_reducible repeat (first | apply Kd.R_alloc | apply Kd.R_drewN | apply Kd.R_drew)); exact (Kd.R_mono (Kd.R_far (p := ⟨gb338, 0, none⟩) (Kd.R_types HO345.out BK338.out (by decide)) (fun _ hk => hk.2) (.slice Ao163 t343.length co163)) (fun _ h_ => h_.1)))); (case side2 => exact (Kd.R_reads' HO345.out).2.1); rintro e w165 ⟨rfl, hb⟩; refine ⟨_, rfl, ?_⟩; replace HO345 := am_ (Kd.R_below (by (with_reducible repeat (first | apply Kd.R_alloc | apply Kd.R_drewN | apply Kd.R_drew)); exact (Kd.R_mono (Kd.R_far (p := ⟨gb338, 0, none⟩) (Kd.R_types HO345.out BK338.out (by decide)) (fun _ hk => hk.2) (.slice Ao163 t343.length co163)) (fun _ h_ => h_.1))) hb); replace BK330 := qbl_ BK330 hb; replace BK331 := qbl_ BK331 hb; replace BK332 := qbl_ BK332 hb; replace BK336 := qbl_ BK336 hb; replace BK338 := am_ (blk_below (g := gb338) (o := .cells #[.slice Ao163 t343.length co163] 44 (0, 0)) (by (with_reducible repeat (first | refine blk_drewN ?_ _ | refine blk_drew ?_ | refine blk_alloc ?_ _)); refine blk_put (cs := #[.slice none 0 0]) ?_ 0 _ rfl; exact qf_ BK338) hb); replace HB := hs_ hb; (try clear hb); (try clear hb2); (try clear hk); (try clear hi); obtain ⟨hcz166_0, hfz166_0⟩ := bc1_ BK338; obtain ⟨hcz167_0, hfz167_0⟩ := bc1_ BK332))
       refine bodyPost_ret (results_ct rfl _ _ gb332 44 #[.slice Ao163 t343.length co163] (0, 0) _ rfl (by (with_reducible repeat (first | refine blk_drewN ?_ _ | refine blk_drew ?_ | refine blk_alloc ?_ _)); refine blk_put (cs := #[.slice none 0 0]) ?_ 0 _ rfl; exact qf_ BK332) Try.underlying44 rfl (by kernel_rfl)) rfl ?_
       exact ⟨_, qr_, by (with_reducible repeat (first | apply Kd.R_alloc | apply Kd.R_drewN | apply Kd.R_drew)); exact Kd.R_mono (Kd.R_far (p := ⟨gb332, 0, none⟩) (Kd.R_types HO345.out BK332.out (by decide)) (fun _ hk => hk.2) (.slice Ao163 t343.length co163)) (fun _ hk => trivial), qB_⟩
      replace c146 := Bool.eq_false_iff.mpr c146
      subst c146
      rw [if_neg (show ¬ (false = true) by decide)] at H
      simp only [Option.some.injEq, Prod.mk.injEq] at H
      obtain ⟨rfl, rfl⟩ := H
      go_wp2_with (first | ((with_reducible refine gate_dst (N := 8) rfl ?_); refine bx_ 8 (cs := #[.slice none 0 0]) (t := 44) ?_; intro gb338 hg w168 hbox hb; have BK338 := am_ (hbox); have GW338 := am_ ((qs_ : w.heap.size ≤ gb338)); have GE338 := GW338; obtain ⟨NB330_338, NB338_330⟩ := qn_ BK330 hg; obtain ⟨NB331_338, NB338_331⟩ := qn_ BK331 hg; obtain ⟨NB332_338, NB338_332⟩ := qn_ BK332 hg; obtain ⟨NB336_338, NB338_336⟩ := qn_ BK336 hg; replace BK330 := qbl_ BK330 hb; replace BK331 := qbl_ BK331 hb; replace BK332 := qbl_ BK332 hb; replace BK336 := qbl_ BK336 hb; replace HB := hs_ hb; clear hb hbox hg; obtain ⟨hnb169, hnc169⟩ := nn_ NB338_330; obtain ⟨hnb170, hnc170⟩ := nn_ NB338_331; obtain ⟨hnb171, hnc171⟩ := nn_ NB338_332; obtain ⟨hnb172, hnc172⟩ := nn_ NB338_336; obtain ⟨hcz173_0, hfz173_0⟩ := bc1_ BK338; obtain ⟨hnb174, hnc174⟩ := nn_ NB331_330; obtain ⟨hnb175, hnc175⟩ := nn_ NB331_332; obtain ⟨hnb176, hnc176⟩ := nn_ NB331_336; obtain ⟨hcz177_0, hcz177_1, hcz177_2, hcz177_3, hfz177_0, hfz177_1, hfz177_2, hfz177_3⟩ := bc4_ BK331; obtain ⟨hnb178, hnc178⟩ := nn_ NB336_330; obtain ⟨hnb179, hnc179⟩ := nn_ NB336_332; obtain ⟨hcz180_0, hcz180_1, hcz180_2, hfz180_0, hfz180_1, hfz180_2⟩ := bc3_ BK336; obtain ⟨hnb181, hnc181⟩ := nn_ NB330_332; obtain ⟨hcz182_0, hfz182_0⟩ := bc1_ BK330) | ((with_reducible refine gate_callee (f := 84) rfl ?_); refine gl_ (some 82) Try.func84 #[.agg #[.slice A0_0 l0_0.length c0_0], .agg #[.string x337000_59, .string x337001_59, .int .i64 (x337001_59.size : Int)]] ?_; (with_reducible refine (spec_l03Put.calls kj59 _ _ l0_0 x337000_59 x337001_59 (x337001_59.size : Int) t343 _ ?side1 ?side2 A144.out).mono ?_); (case side1 => exact Kd.C_below HR0_0.out qB_); (case side2 => exact HC0_0.out); rintro e w183 ⟨v344, rfl, ho0, hb⟩; refine ⟨_, rfl, ?_⟩; have HO345 := am_ (Kd.R_lower (Kd.R_newB ho0 (g := gb336) (o := .cells #[.string x337000_59, .string x337001_59, .int .i64 (x337001_59.size : Int)] 99 (0, 0)) (by (with_reducible repeat (first | refine blk_drewN ?_ _ | refine blk_drew ?_ | refine blk_alloc ?_ _)); refine blk_put (cs := #[.string x337000_59, .string x337001_59, .int .i64 x337002_59]) ?_ 2 _ rfl; exact qf_ BK336)) (below_size qB_)); replace BK330 := qbl_ BK330 hb; replace BK331 := qbl_ BK331 hb; replace BK332 := qbl_ BK332 hb; replace BK336 := am_ (blk_below (g := gb336) (o := .cells #[.string x337000_59, .string x337001_59, .int .i64 (x337001_59.size : Int)] 99 (0, 0)) (by (with_reducible repeat (first | refine blk_drewN ?_ _ | refine blk_drew ?_ | refine blk_alloc ?_ _)); refine blk_put (cs := #[.string x337000_59, .string x337001_59, .int .i64 x337002_59]) ?_ 2 _ rfl; exact qf_ BK336) hb); replace BK338 := am_ (blk_below (g := gb338) (o := .cells #[.slice none 0 0] 44 (0, 0)) (by (with_reducible repeat (first | refine blk_drewN ?_ _ | refine blk_drew ?_ | refine blk_alloc ?_ _)); refine blk_far ?_ NB338_336.out _; (with_reducible repeat (first | refine blk_drewN ?_ _ | refine blk_drew ?_ | refine blk_alloc ?_ _)); refine blk_put (cs := #[.slice none 0 0]) ?_ 0 _ rfl; exact qf_ BK338) hb); replace HB := hs_ hb; (try clear hb); (try clear hb2); (try clear hk); (try clear hi); (try clear ho0); obtain ⟨Ao184, co184, eo184⟩ := Kd.R_slice HO345.out; subst eo184; obtain ⟨hcz185_0, hfz185_0⟩ := bc1_ BK338) | ((with_reducible refine gate_callee (f := 75) rfl ?_); refine gl_ (some 125) Try.func75 #[.agg #[.slice Ao184 t343.length co184]] ?_; (with_reducible refine (spec_DiskOk.calls kj59 _ _ t343 false _ ?side1 ?side2 A145.out).mono ?_); (case side1 => refine (Kd.R_reads' (e := 99) (base := w.heap.size) (ok := fun k_ => (True ∧ k_ ≠ gb336)) (n := t343.length) (c := co184) ?_).2.2; exact (by (with_reducible repeat (first | apply Kd.R_alloc | apply Kd.R_drewN | apply Kd.R_drew)); exact (Kd.R_mono (Kd.R_far (p := ⟨gb338, 0, none⟩) (Kd.R_types HO345.out BK338.out (by decide)) (fun _ hk => hk.2) (.slice Ao184 t343.length co184)) (fun _ h_ => h_.1)))); (case side2 => exact (Kd.R_reads' HO345.out).2.1); rintro e w186 ⟨rfl, hb⟩; refine ⟨_, rfl, ?_⟩; replace HO345 := am_ (Kd.R_below (by (with_reducible repeat (first | apply Kd.R_alloc | apply Kd.R_drewN | apply Kd.R_drew)); exact (Kd.R_mono (Kd.R_far (p := ⟨gb338, 0, none⟩) (Kd.R_types HO345.out BK338.out (by decide)) (fun _ hk => hk.2) (.slice Ao184 t343.length co184)) (fun _ h_ => h_.1))) hb); replace BK330 := qbl_ BK330 hb; replace BK331 := qbl_ BK331 hb; replace BK332 := qbl_ BK332 hb; replace BK336 := qbl_ BK336 hb; replace BK338 := am_ (blk_below (g := gb338) (o := .cells #[.slice Ao184 t343.length co184] 44 (0, 0)) (by (with_reducible repeat (first | refine blk_drewN ?_ _ | refine blk_drew ?_ | refine blk_alloc ?_ _)); refine blk_put (cs := #[.slice none 0 0]) ?_ 0 _ rfl; exact qf_ BK338) hb); replace HB := hs_ hb; (try clear hb); (try clear hb2); (try clear hk); (try clear hi); obtain ⟨hcz187_0, hfz187_0⟩ := bc1_ BK332))
      refine bodyPost_ret (results_ct rfl _ _ gb332 44 #[.slice none 0 0] (0, 0) _ rfl (by (with_reducible repeat (first | refine blk_drewN ?_ _ | refine blk_drew ?_ | refine blk_alloc ?_ _)); refine blk_put (cs := #[.slice none 0 0]) ?_ 0 _ rfl; exact qf_ BK332) Try.underlying44 rfl (by kernel_rfl)) rfl ?_
      exact ⟨_, qr_, by first | exact Kd.R_nil _ _ _ _ _ | exact Kd.N_nil _ _ _ _ _ | exact Kd.V_nil _ _ _ _ _ | exact Kd.Q_nil _ _ _ _ _ | exact Kd.S_nil _ _ _ _ _, qB_⟩
     rw [if_neg c143] at H
     have c143b0 : (a1_0 == 2) = false := beq_eq_false_iff_ne.mpr c143
     have c143b1 : (a1_0 != 2) = true := bne_iff_ne.mpr c143
     by_cases c188 : a1_0 = 3
     ·rw [if_pos c188] at H
      have c188b0 : (a1_0 == 3) = true := beq_iff_eq.mpr c188
      have c188b1 : (a1_0 != 3) = false := bne_eq_false_iff_eq.mpr c188
      clear c188
      have HC189 := am_ H
      clear H
      go_upto_region 18 with (first | ((with_reducible refine gate_dst (N := 8) rfl ?_); refine bx_ 8 (cs := #[.slice none 0 0]) (t := 44) ?_; intro gb338 hg w190 hbox hb; have BK338 := am_ (hbox); have GW338 := am_ ((qs_ : w.heap.size ≤ gb338)); have GE338 := GW338; obtain ⟨NB330_338, NB338_330⟩ := qn_ BK330 hg; obtain ⟨NB331_338, NB338_331⟩ := qn_ BK331 hg; obtain ⟨NB332_338, NB338_332⟩ := qn_ BK332 hg; obtain ⟨NB336_338, NB338_336⟩ := qn_ BK336 hg; replace BK330 := qbl_ BK330 hb; replace BK331 := qbl_ BK331 hb; replace BK332 := qbl_ BK332 hb; replace BK336 := qbl_ BK336 hb; replace HB := hs_ hb; clear hb hbox hg; obtain ⟨hnb191, hnc191⟩ := nn_ NB338_330; obtain ⟨hnb192, hnc192⟩ := nn_ NB338_331; obtain ⟨hnb193, hnc193⟩ := nn_ NB338_332; obtain ⟨hnb194, hnc194⟩ := nn_ NB338_336; obtain ⟨hcz195_0, hfz195_0⟩ := bc1_ BK338; obtain ⟨hnb196, hnc196⟩ := nn_ NB331_330; obtain ⟨hnb197, hnc197⟩ := nn_ NB331_332; obtain ⟨hnb198, hnc198⟩ := nn_ NB331_336; obtain ⟨hcz199_0, hcz199_1, hcz199_2, hcz199_3, hfz199_0, hfz199_1, hfz199_2, hfz199_3⟩ := bc4_ BK331))
      (try simp only [Act.put, sA_, sB_, sC_])
      go_cut [105] (fun v105 wc => ∃ (kq : Nat) (x105_188 : Bool), v105 = .bool x105_188 ∧ Aside0 (spec_DoAct.j2 kq x105_188 l0_0 a1_0 a1_1 a1_2 a1_3 x337000_59 x337001_59 x337002_59 = some (r1, r2)) ∧ Aside0 (kq ≤ kj59) ∧ Aside0 (wc.heap[gb330]? = some (.cells #[(.slice A0_0 l0_0.length c0_0)] 44 (0, 0))) ∧ Aside0 (wc.heap[gb331]? = some (.cells #[.int .i64 a1_0, .string a1_1, .string a1_2, .string a1_3] 60 (0, 0))) ∧ Aside0 (wc.heap[gb332]? = some (.cells #[(.slice none 0 0)] 44 (0, 0))) ∧ Aside0 (wc.heap[gb336]? = some (.cells #[.string x337000_59, .string x337001_59, .int .i64 x337002_59] 99 (0, 0))) ∧ Aside0 (wc.heap[gb338]? = some (.cells #[(.slice none 0 0)] 44 (0, 0))) ∧ Aside0 (Below w.heap.size w wc))
      case first =>
       have H := HC189.out; clear HC189
       by_cases c200 : x337002_59 < (x337001_59.size : Int)
       ·rw [if_pos c200] at H
        have c200b0 : decide (x337002_59 < (x337001_59.size : Int)) = true := decide_eq_true c200
        clear c200
        (first | rw [c200b0] | (simp only [i64_w, i32_w]; rw [c200b0]) | skip)
        have H' := am_ H; clear H; obtain ⟨hnb201, hnc201⟩ := nn_ NB336_330; obtain ⟨hnb202, hnc202⟩ := nn_ NB336_331; obtain ⟨hnb203, hnc203⟩ := nn_ NB336_332; obtain ⟨hnb204, hnc204⟩ := nn_ NB336_338
        obtain ⟨hcz205_0, hcz205_1, hcz205_2, hfz205_0, hfz205_1, hfz205_2⟩ := bc3_ BK336
        go_wp2
        go_meet
        case rel => exact ⟨_, (true), qe_, H', ⟨by have := HJ2.out; have := HJ59.out; first | omega | exact Nat.le_refl _⟩, ⟨qf_ BK330⟩, ⟨qf_ BK331⟩, ⟨qf_ BK332⟩, ⟨qf_ BK336⟩, ⟨by (with_reducible repeat (first | refine blk_drewN ?_ _ | refine blk_drew ?_ | refine blk_alloc ?_ _)); refine blk_put (cs := #[.slice none 0 0]) ?_ 0 _ rfl; exact qf_ BK338⟩, ⟨qB_⟩⟩
       rw [if_neg c200] at H
       have c200b0 : decide (x337002_59 < (x337001_59.size : Int)) = false := decide_eq_false c200
       clear c200
       (first | rw [c200b0] | (simp only [i64_w, i32_w]; rw [c200b0]) | skip)
       by_cases c206 : a1_3.toList = a1_1.toList
       ·rw [if_pos c206] at H
        have c206b0 : (a1_3.toList == a1_1.toList) = true := beq_iff_eq.mpr c206
        have c206b1 : (a1_3.toList != a1_1.toList) = false := bne_eq_false_iff_eq.mpr c206
        clear c206; have H' := am_ H; clear H; obtain ⟨hnb207, hnc207⟩ := nn_ NB336_330; obtain ⟨hnb208, hnc208⟩ := nn_ NB336_331; obtain ⟨hnb209, hnc209⟩ := nn_ NB336_332; obtain ⟨hnb210, hnc210⟩ := nn_ NB336_338
        obtain ⟨hcz211_0, hcz211_1, hcz211_2, hfz211_0, hfz211_1, hfz211_2⟩ := bc3_ BK336
        obtain ⟨hnb212, hnc212⟩ := nn_ NB331_330; obtain ⟨hnb213, hnc213⟩ := nn_ NB331_332; obtain ⟨hnb214, hnc214⟩ := nn_ NB331_338
        obtain ⟨hcz215_0, hcz215_1, hcz215_2, hcz215_3, hfz215_0, hfz215_1, hfz215_2, hfz215_3⟩ := bc4_ BK331
        go_wp2
        go_meet
        case rel => exact ⟨_, (true), qe_, H', ⟨by have := HJ2.out; have := HJ59.out; first | omega | exact Nat.le_refl _⟩, ⟨qf_ BK330⟩, ⟨qf_ BK331⟩, ⟨qf_ BK332⟩, ⟨qf_ BK336⟩, ⟨by (with_reducible repeat (first | refine blk_drewN ?_ _ | refine blk_drew ?_ | refine blk_alloc ?_ _)); refine blk_put (cs := #[.slice none 0 0]) ?_ 0 _ rfl; exact qf_ BK338⟩, ⟨qB_⟩⟩
       rw [if_neg c206] at H
       have c206b0 : (a1_3.toList == a1_1.toList) = false := beq_eq_false_iff_ne.mpr c206
       have c206b1 : (a1_3.toList != a1_1.toList) = true := bne_iff_ne.mpr c206
       obtain ⟨t347, A2160, H⟩ := Option.bind_eq_some_iff.mp H; have A216 := am_ A2160; clear A2160
       have H' := am_ H; clear H; obtain ⟨hnb217, hnc217⟩ := nn_ NB336_330; obtain ⟨hnb218, hnc218⟩ := nn_ NB336_331; obtain ⟨hnb219, hnc219⟩ := nn_ NB336_332; obtain ⟨hnb220, hnc220⟩ := nn_ NB336_338
       obtain ⟨hcz221_0, hcz221_1, hcz221_2, hfz221_0, hfz221_1, hfz221_2⟩ := bc3_ BK336
       obtain ⟨hnb222, hnc222⟩ := nn_ NB331_330; obtain ⟨hnb223, hnc223⟩ := nn_ NB331_332; obtain ⟨hnb224, hnc224⟩ := nn_ NB331_338
       obtain ⟨hcz225_0, hcz225_1, hcz225_2, hcz225_3, hfz225_0, hfz225_1, hfz225_2, hfz225_3⟩ := bc4_ BK331
       go_wp2_with (first | (go_at_call 82; (with_reducible refine (spec_l03Name.calls a1_3 t347 _ A216.out).mono ?_); rintro e w' ⟨rfl, ⟨nd, rfl⟩⟩))
       go_meet
       case rel => exact ⟨_, (!t347), qe_, H', ⟨by have := HJ2.out; have := HJ59.out; first | omega | exact Nat.le_refl _⟩, ⟨qf_ BK330⟩, ⟨qf_ BK331⟩, ⟨qf_ BK332⟩, ⟨qf_ BK336⟩, ⟨by (with_reducible repeat (first | refine blk_drewN ?_ _ | refine blk_drew ?_ | refine blk_alloc ?_ _)); refine blk_put (cs := #[.slice none 0 0]) ?_ 0 _ rfl; exact qf_ BK338⟩, ⟨qB_⟩⟩
      case rest =>
       clear HC189; (try clear c1); (try clear c2); (try clear p2); (try clear c3); (try clear p3); (try clear q3); (try clear hx3); (try clear c4); (try clear c5); (try clear c6); (try clear c7); (try clear c8); (try clear c9); (try clear c10); (try clear c11); (try clear c11b0); (try clear c11b1); (try clear c12); (try clear c12b0); (try clear c12b1); (try clear c13); (try clear c14); (try clear c15); (try clear c16); (try clear c17); (try clear c18); (try clear c19); (try clear c20); (try clear c21); (try clear c22); (try clear c23); (try clear c25); (try clear c25b0); (try clear c25b1); (try clear c26); (try clear c26b0); (try clear c26b1); (try clear c27); (try clear c28); (try clear c31); (try clear c33); (try clear p33); (try clear q33); (try clear hx33); (try clear c34); (try clear c37); (try clear c38); (try clear c39); (try clear c40); (try clear c43); (try clear c45); (try clear c46); (try clear c49); (try clear c51); (try clear c52); (try clear c55); (try clear c56); (try clear c57); (try clear c61); (try clear c62); (try clear c64); (try clear c69); (try clear c70); (try clear c71); (try clear c73); (try clear c73b0); (try clear c74); (try clear c74b0); (try clear c75); (try clear c75b0); (try clear c76); (try clear c77); (try clear c78); (try clear c80); (try clear c81); (try clear c83); (try clear c83b0); (try clear c83b1); (try clear c84); (try clear c84b0); (try clear c84b1); (try clear c84b2); (try clear c87); (try clear c89); (try clear c90); (try clear c91); (try clear c92); (try clear c94); (try clear c95); (try clear c96); (try clear c98); (try clear c99); (try clear c101); (try clear c110); (try clear c111); (try clear c112); (try clear c113); (try clear c115); (try clear c116); (try clear c117); (try clear c119); (try clear c120); (try clear c122); (try clear c129); (try clear c129b0); (try clear c131); (try clear c132); (try clear c133); (try clear c134); (try clear c136); (try clear c137); (try clear c138); (try clear c140); (try clear c141); (try clear c143); (try clear c143b0); (try clear c143b1); (try clear c146); (try clear c148); (try clear c149); (try clear c150); (try clear c151); (try clear c153); (try clear c154); (try clear c155); (try clear c157); (try clear c158); (try clear c160); (try clear c169); (try clear c170); (try clear c171); (try clear c172); (try clear c174); (try clear c175); (try clear c176); (try clear c178); (try clear c179); (try clear c181); (try clear c188); (try clear c188b0); (try clear c188b1); (try clear c191); (try clear c192); (try clear c193); (try clear c194); (try clear c196); (try clear c197); (try clear c198); (try clear c200); (try clear c200b0); (try clear c201); (try clear c202); (try clear c203); (try clear c204); (try clear c206); (try clear c206b0); (try clear c206b1); (try clear c207); (try clear c208); (try clear c209); (try clear c210); (try clear c212); (try clear c213); (try clear c214); (try clear c217); (try clear c218); (try clear c219); (try clear c220); (try clear c222); (try clear c223); (try clear c224); (try clear hcz100_0 hcz100_1 hcz100_2); (try clear hcz102_0); (try clear hcz105_0); (try clear hcz107_0); (try clear hcz108_0); (try clear hcz114_0); (try clear hcz118_0 hcz118_1 hcz118_2 hcz118_3); (try clear hcz121_0 hcz121_1 hcz121_2); (try clear hcz123_0); (try clear hcz126_0); (try clear hcz128_0); (try clear hcz135_0); (try clear hcz139_0 hcz139_1 hcz139_2 hcz139_3); (try clear hcz142_0); (try clear hcz152_0); (try clear hcz156_0 hcz156_1 hcz156_2 hcz156_3); (try clear hcz159_0 hcz159_1 hcz159_2); (try clear hcz15_0); (try clear hcz161_0); (try clear hcz164_0); (try clear hcz166_0); (try clear hcz167_0); (try clear hcz173_0); (try clear hcz177_0 hcz177_1 hcz177_2 hcz177_3); (try clear hcz180_0 hcz180_1 hcz180_2); (try clear hcz182_0); (try clear hcz185_0); (try clear hcz187_0); (try clear hcz18_0 hcz18_1 hcz18_2 hcz18_3); (try clear hcz195_0); (try clear hcz199_0 hcz199_1 hcz199_2 hcz199_3); (try clear hcz205_0 hcz205_1 hcz205_2); (try clear hcz211_0 hcz211_1 hcz211_2); (try clear hcz215_0 hcz215_1 hcz215_2 hcz215_3); (try clear hcz21_0); (try clear hcz221_0 hcz221_1 hcz221_2); (try clear hcz225_0 hcz225_1 hcz225_2 hcz225_3); (try clear hcz24_0 hcz24_1 hcz24_2 hcz24_3); (try clear hcz29_0); (try clear hcz32_0 hcz32_1 hcz32_2 hcz32_3); (try clear hcz35_0); (try clear hcz38_0 hcz38_1 hcz38_2 hcz38_3); (try clear hcz41_0); (try clear hcz44_0 hcz44_1 hcz44_2 hcz44_3); (try clear hcz47_0); (try clear hcz50_0 hcz50_1 hcz50_2 hcz50_3); (try clear hcz53_0); (try clear hcz58_0); (try clear hcz63_0); (try clear hcz65_0 hcz65_1 hcz65_2 hcz65_3); (try clear hcz67_0 hcz67_1 hcz67_2 hcz67_3); (try clear hcz72_0 hcz72_1 hcz72_2); (try clear hcz79_0); (try clear hcz82_0 hcz82_1 hcz82_2); (try clear hcz93_0); (try clear hcz97_0 hcz97_1 hcz97_2 hcz97_3); (try clear hfz100_0 hfz100_1 hfz100_2); (try clear hfz102_0); (try clear hfz105_0); (try clear hfz107_0); (try clear hfz108_0); (try clear hfz114_0); (try clear hfz118_0 hfz118_1 hfz118_2 hfz118_3); (try clear hfz121_0 hfz121_1 hfz121_2); (try clear hfz123_0); (try clear hfz126_0); (try clear hfz128_0); (try clear hfz135_0); (try clear hfz139_0 hfz139_1 hfz139_2 hfz139_3); (try clear hfz142_0); (try clear hfz152_0); (try clear hfz156_0 hfz156_1 hfz156_2 hfz156_3); (try clear hfz159_0 hfz159_1 hfz159_2); (try clear hfz15_0); (try clear hfz161_0); (try clear hfz164_0); (try clear hfz166_0); (try clear hfz167_0); (try clear hfz173_0); (try clear hfz177_0 hfz177_1 hfz177_2 hfz177_3); (try clear hfz180_0 hfz180_1 hfz180_2); (try clear hfz182_0); (try clear hfz185_0); (try clear hfz187_0); (try clear hfz18_0 hfz18_1 hfz18_2 hfz18_3); (try clear hfz195_0); (try clear hfz199_0 hfz199_1 hfz199_2 hfz199_3); (try clear hfz205_0 hfz205_1 hfz205_2); (try clear hfz211_0 hfz211_1 hfz211_2); (try clear hfz215_0 hfz215_1 hfz215_2 hfz215_3); (try clear hfz21_0); (try clear hfz221_0 hfz221_1 hfz221_2); (try clear hfz225_0 hfz225_1 hfz225_2 hfz225_3); (try clear hfz24_0 hfz24_1 hfz24_2 hfz24_3); (try clear hfz29_0); (try clear hfz32_0 hfz32_1 hfz32_2 hfz32_3); (try clear hfz35_0); (try clear hfz38_0 hfz38_1 hfz38_2 hfz38_3); (try clear hfz41_0); (try clear hfz44_0 hfz44_1 hfz44_2 hfz44_3); (try clear hfz47_0); (try clear hfz50_0 hfz50_1 hfz50_2 hfz50_3); (try clear hfz53_0); (try clear hfz58_0); (try clear hfz63_0); (try clear hfz65_0 hfz65_1 hfz65_2 hfz65_3); (try clear hfz67_0 hfz67_1 hfz67_2 hfz67_3); (try clear hfz72_0 hfz72_1 hfz72_2); (try clear hfz79_0); (try clear hfz82_0 hfz82_1 hfz82_2); (try clear hfz93_0); (try clear hfz97_0 hfz97_1 hfz97_2 hfz97_3); (try clear hx337_0); (try clear hx337_1); (try clear hx337_2); (try clear p2); (try clear p3); (try clear p33); (try clear p337); (try clear q3); (try clear q33); (try clear q337)
       obtain ⟨kq, x105_188, rfl, HA, HJ188, BK330, BK331, BK332, BK336, BK338, HB⟩ := hcut
       cases kq with
       | zero => exact absurd HA.out (by simp [spec_DoAct.j2])
       | succ kj188 =>
        have H := HA.out; clear HA
        simp only [spec_DoAct.j2] at H
        by_cases c226 : x105_188 = true
        ·subst c226
         rw [if_pos rfl] at H
         simp only [Option.some.injEq, Prod.mk.injEq] at H
         obtain ⟨rfl, rfl⟩ := H
         obtain ⟨hnb227, hnc227⟩ := nn_ NB332_330; obtain ⟨hnb228, hnc228⟩ := nn_ NB332_331; obtain ⟨hnb229, hnc229⟩ := nn_ NB332_336; obtain ⟨hnb230, hnc230⟩ := nn_ NB332_338
         obtain ⟨hcz231_0, hfz231_0⟩ := bc1_ BK332
         go_wp2
         refine bodyPost_ret (results_ct rfl _ _ gb332 44 #[.slice none 0 0] (0, 0) _ rfl (by (with_reducible repeat (first | refine blk_drewN ?_ _ | refine blk_drew ?_ | refine blk_alloc ?_ _)); refine blk_put (cs := #[.slice none 0 0]) ?_ 0 _ rfl; exact qf_ BK332) Try.underlying44 rfl (by kernel_rfl)) rfl ?_
         exact ⟨_, qr_, by first | exact Kd.R_nil _ _ _ _ _ | exact Kd.N_nil _ _ _ _ _ | exact Kd.V_nil _ _ _ _ _ | exact Kd.Q_nil _ _ _ _ _ | exact Kd.S_nil _ _ _ _ _, qB_⟩
        replace c226 := Bool.eq_false_iff.mpr c226
        subst c226
        rw [if_neg (show ¬ (false = true) by decide)] at H
        obtain ⟨t348, A2320, H⟩ := Option.bind_eq_some_iff.mp H; have A232 := am_ A2320; clear A2320
        obtain ⟨t351, A2330, H⟩ := Option.bind_eq_some_iff.mp H; have A233 := am_ A2330; clear A2330
        obtain ⟨t354, A2340, H⟩ := Option.bind_eq_some_iff.mp H; have A234 := am_ A2340; clear A2340
        by_cases c235 : t354 = true
        ·subst c235
         rw [if_pos rfl] at H
         simp only [Option.some.injEq, Prod.mk.injEq] at H
         obtain ⟨rfl, rfl⟩ := H
         obtain ⟨hnb236, hnc236⟩ := nn_ NB331_330; obtain ⟨hnb237, hnc237⟩ := nn_ NB331_332; obtain ⟨hnb238, hnc238⟩ := nn_ NB331_336; obtain ⟨hnb239, hnc239⟩ := nn_ NB331_338
         obtain ⟨hcz240_0, hcz240_1, hcz240_2, hcz240_3, hfz240_0, hfz240_1, hfz240_2, hfz240_3⟩ := bc4_ BK331
         obtain ⟨hnb241, hnc241⟩ := nn_ NB336_330; obtain ⟨hnb242, hnc242⟩ := nn_ NB336_332; obtain ⟨hnb243, hnc243⟩ := nn_ NB336_338
         obtain ⟨hcz244_0, hcz244_1, hcz244_2, hfz244_0, hfz244_1, hfz244_2⟩ := bc3_ BK336
         try go_wp2
         have n0_ : Aside0 ((wc.setCell ⟨gb336, 0, none⟩ (.string a1_3)).heap[gb330]? = some (.cells #[.slice A0_0 l0_0.length c0_0] 44 (0, 0))) := ⟨qf_ BK330⟩
         have n1_ : Aside0 ((wc.setCell ⟨gb336, 0, none⟩ (.string a1_3)).heap[gb331]? = some (.cells #[.int .i64 a1_0, .string a1_1, .string a1_2, .string a1_3] 60 (0, 0))) := ⟨qf_ BK331⟩
         have n2_ : Aside0 ((wc.setCell ⟨gb336, 0, none⟩ (.string a1_3)).heap[gb332]? = some (.cells #[.slice none 0 0] 44 (0, 0))) := ⟨qf_ BK332⟩
         have n3_ : Aside0 ((wc.setCell ⟨gb336, 0, none⟩ (.string a1_3)).heap[gb336]? = some (.cells #[.string a1_3, .string x337001_59, .int .i64 x337002_59] 99 (0, 0))) := ⟨by (with_reducible repeat (first | refine blk_drewN ?_ _ | refine blk_drew ?_ | refine blk_alloc ?_ _)); refine blk_put (cs := #[.string x337000_59, .string x337001_59, .int .i64 x337002_59]) ?_ 0 _ rfl; exact qf_ BK336⟩
         have n4_ : Aside0 ((wc.setCell ⟨gb336, 0, none⟩ (.string a1_3)).heap[gb338]? = some (.cells #[.slice none 0 0] 44 (0, 0))) := ⟨qf_ BK338⟩
         have n5_ : Aside0 (Below w.heap.size w (wc.setCell ⟨gb336, 0, none⟩ (.string a1_3))) := ⟨qB_⟩
         (try clear BK330); (try clear BK331); (try clear BK332); (try clear BK336); (try clear BK338); (try clear HB)
         generalize (wc.setCell ⟨gb336, 0, none⟩ (.string a1_3)) = w245 at n0_ n1_ n2_ n3_ n4_ n5_ ⊢
         have BK330 := n0_; have BK331 := n1_; have BK332 := n2_; have BK336 := n3_; have BK338 := n4_; have HB := n5_; clear n0_ n1_ n2_ n3_ n4_ n5_
         replace BK330 := am_ (blk_drew BK330.out); replace BK331 := am_ (blk_drew BK331.out); replace BK332 := am_ (blk_drew BK332.out); replace BK336 := am_ (blk_drew BK336.out); replace BK338 := am_ (blk_drew BK338.out); replace HB := am_ (below_drew1 HB.out)
         refine start_ (n := 7) (S := fun w' => w'.cell? ⟨gb330, 0, none⟩ = some (.slice A0_0 l0_0.length c0_0) ∧ w'.cell? ⟨gb331, 0, none⟩ = some (.int .i64 a1_0) ∧ w'.cell? ⟨gb331, 1, none⟩ = some (.string a1_1) ∧ w'.cell? ⟨gb331, 2, none⟩ = some (.string a1_2) ∧ w'.cell? ⟨gb331, 3, none⟩ = some (.string a1_3) ∧ w'.cell? ⟨gb336, 0, none⟩ = some (.string a1_3) ∧ w'.cell? ⟨gb336, 1, none⟩ = some (.string x337001_59) ∧ w'.cell? ⟨gb336, 2, none⟩ = some (.int .i64 x337002_59)) (ds := []) (bm 7 0) (by kernel_rfl) rfl (by kernel_rfl) ⟨bl_ BK330 0, bl_ BK331 0, bl_ BK331 1, bl_ BK331 2, bl_ BK331 3, bl_ BK336 0, bl_ BK336 1, bl_ BK336 2⟩ (fun hHeld => ?_)
         generalize w245.drew = w246 at BK330 BK331 BK332 BK336 BK338 HB hHeld ⊢
         refine pure_ (i := 1) (N := some 111) (v := ?_) (a' := ?_) (bm 7 2) rfl rfl (by kernel_rfl) (fun _ _ _ h => h) (Or.inl ⟨by rfl, ?_⟩) ?_ ?_
         rotate_left
         ·intro w'
          go_simp
          with_reducible rfl
         rotate_left
         ·simp only [Act.put, sA_, sB_, sC_, i64_w, i32_w]
          rfl
         refine take_ (i := 0) (N := some 110) (v := ?_) (a' := ?_) (bm 7 3) rfl rfl (by kernel_rfl) (fun _ _ _ h => h) (Or.inl ⟨by rfl, ?_⟩) hHeld ?_ ?_
         rotate_left
         ·rintro w' ⟨s0, s1, s2, s3, s4, s5, s6, s7⟩
          go_simp
          with_reducible rfl
         rotate_left
         ·simp only [Act.put, sA_, sB_, sC_, i64_w, i32_w]
          rfl
         refine take_ (i := 2) (N := some 112) (v := ?_) (a' := ?_) (bm 7 7) rfl rfl (by kernel_rfl) (fun _ _ _ h => h) (Or.inl ⟨by rfl, ?_⟩) hHeld ?_ ?_
         rotate_left
         ·rintro w' ⟨s0, s1, s2, s3, s4, s5, s6, s7⟩
          go_simp
          with_reducible rfl
         rotate_left
         ·simp only [Act.put, sA_, sB_, sC_, i64_w, i32_w]
          rfl
         refine take_ (i := 4) (N := some 114) (v := ?_) (a' := ?_) (bm 7 23) rfl rfl (by kernel_rfl) (fun _ _ _ h => h) (Or.inl ⟨by rfl, ?_⟩) hHeld ?_ ?_
         rotate_left
         ·rintro w' ⟨s0, s1, s2, s3, s4, s5, s6, s7⟩
          go_simp
          with_reducible rfl
         rotate_left
         ·simp only [Act.put, sA_, sB_, sC_, i64_w, i32_w]
          rfl
         refine one_ (i := 3) (N := some 113) (bm 7 31) rfl rfl (by kernel_rfl) (by decide) (fun K hK => ?_)
         refine goes_ Try.func85 (by kernel_rfl) rfl #[.agg #[.slice A0_0 l0_0.length c0_0], .string a1_1] (by rfl) rfl rfl (by (try simp only [List.map_toArray, List.map_cons, List.map_nil]); first | done | rfl | (simp only [List.length_drop, List.length_take]; rfl)) ?_
         with_reducible refine (spec_l03Without.calls kj188 _ _ l0_0 a1_1 t348 _ ?side1 ?side2 A232.out).mono ?_
         (case side1 => exact qC_ HR0_0 HB)
         (case side2 => exact HC0_0.out)
         rintro e w247 ⟨v349, rfl, ho0, hb⟩
         refine ⟨_, rfl, ?_⟩
         have HO350 := am_ (Kd.R_lower (Kd.R_newB ho0 (qk_ BK336)) (below_size qB_)); replace BK330 := qbl_ BK330 hb; replace BK331 := qbl_ BK331 hb; replace BK332 := qbl_ BK332 hb; replace BK336 := qbl_ BK336 hb; replace BK338 := qbl_ BK338 hb; replace HB := am_ (below_step qB_ hb); (try clear hb); (try clear hb2); (try clear hk); (try clear hi); (try clear ho0)
         obtain ⟨Ao248, co248, eo248⟩ := Kd.R_slice HO350.out
         (first | subst eo248 | (injection eo248 with f1_ f2_ f3_; have f4_ := f1_.symm; have f5_ := f3_.symm; clear f1_ f2_ f3_; subst f4_; subst f5_))
         refine hK.out _ _ ⟨bl_ BK330 0, bl_ BK331 0, bl_ BK331 1, bl_ BK331 2, bl_ BK331 3, bl_ BK336 0, bl_ BK336 1, bl_ BK336 2⟩ (fun hHeld => ?_)
         clear hK K
         refine nm_ 113 ?_
         refine one_ (i := 5) (N := some 115) (bm 7 63) rfl rfl (by kernel_rfl) (by decide) (fun K hK => ?_)
         refine goes_ Try.func84 (by kernel_rfl) rfl #[.agg #[.slice Ao248 t348.length co248], .agg #[.string a1_3, .string x337001_59, .int .i64 x337002_59]] (by rfl) rfl rfl (by (try simp only [List.map_toArray, List.map_cons, List.map_nil]); first | done | rfl | (simp only [List.length_drop, List.length_take]; rfl)) ?_
         with_reducible refine (spec_l03Put.calls kj188 _ _ t348 a1_3 x337001_59 x337002_59 t351 _ ?side1 ?side2 A233.out).mono ?_
         (case side1 => exact qD_ (Kd.R_reads' HO350.out).2.2)
         (case side2 => exact (Kd.R_reads' HO350.out).2.1)
         rintro e w249 ⟨v352, rfl, ho0, hb⟩
         refine ⟨_, rfl, ?_⟩
         have HO353 := am_ (Kd.R_lower (Kd.R_newB (Kd.R_new' ho0 (Kd.R_lt (qR_ HO350))) (qk_ BK336)) (below_size qB_)); replace HO350 := am_ (Kd.R_elder' (qR_ HO350) (Kd.R_base ho0) hb); replace BK330 := qbl_ BK330 hb; replace BK331 := qbl_ BK331 hb; replace BK332 := qbl_ BK332 hb; replace BK336 := qbl_ BK336 hb; replace BK338 := qbl_ BK338 hb; replace HB := am_ (below_step qB_ hb); (try clear hb); (try clear hb2); (try clear hk); (try clear hi); (try clear ho0)
         obtain ⟨Ao250, co250, eo250⟩ := Kd.R_slice HO353.out
         (first | subst eo250 | (injection eo250 with f1_ f2_ f3_; have f4_ := f1_.symm; have f5_ := f3_.symm; clear f1_ f2_ f3_; subst f4_; subst f5_))
         refine hK.out _ _ ⟨bl_ BK330 0, bl_ BK331 0, bl_ BK331 1, bl_ BK331 2, bl_ BK331 3, bl_ BK336 0, bl_ BK336 1, bl_ BK336 2⟩ (fun hHeld => ?_)
         clear hK K
         refine nm_ 115 ?_
         refine one_ (i := 6) (N := none) (bm 7 127) rfl rfl (by kernel_rfl) (by decide) (fun K hK => ?_)
         have hs251 : w249.cell? ⟨gb338, 0, none⟩ = some (.slice none 0 0) := bl_ BK338 0
         have hfs251 := blk_frozen BK338.out 0
         have hns251_0 := NB330_338.out; have hns251_1 := NB331_338.out; have hns251_2 := NB332_338.out; have hns251_3 := NB336_338.out; have hms251_0 := NB338_330.out; have hms251_1 := NB338_331.out; have hms251_2 := NB338_332.out; have hms251_3 := NB338_336.out
         refine skip_ (w1 := ?_) (by rfl) rfl ?_ ?_
         rotate_left
         ·go_simp
          rfl
         refine hK.out _ _ ⟨((cell_far (p := ⟨gb338, _, none⟩) NB330_338.out _).trans (hHeld.1)), ((cell_far (p := ⟨gb338, _, none⟩) NB331_338.out _).trans (hHeld.2.1)), ((cell_far (p := ⟨gb338, _, none⟩) NB331_338.out _).trans (hHeld.2.2.1)), ((cell_far (p := ⟨gb338, _, none⟩) NB331_338.out _).trans (hHeld.2.2.2.1)), ((cell_far (p := ⟨gb338, _, none⟩) NB331_338.out _).trans (hHeld.2.2.2.2.1)), ((cell_far (p := ⟨gb338, _, none⟩) NB336_338.out _).trans (hHeld.2.2.2.2.2.1)), ((cell_far (p := ⟨gb338, _, none⟩) NB336_338.out _).trans (hHeld.2.2.2.2.2.2.1)), ((cell_far (p := ⟨gb338, _, none⟩) NB336_338.out _).trans (hHeld.2.2.2.2.2.2.2))⟩ (fun hHeld => ?_)
         clear hK K
         refine done_ (by kernel_rfl) ?_
         obtain ⟨hnb252, hnc252⟩ := nn_ NB338_330; obtain ⟨hnb253, hnc253⟩ := nn_ NB338_332
         obtain ⟨hcz254_0, hfz254_0⟩ := bc1_ BK338
         try go_wp2_with (first | ((with_reducible refine gate_callee (f := 75) rfl ?_); refine gl_ (some 125) Try.func75 #[.agg #[.slice Ao250 t351.length co250]] ?_; (with_reducible refine (spec_DiskOk.calls kj188 _ _ t351 true _ ?side1 ?side2 A234.out).mono ?_); (case side1 => refine (Kd.R_reads' (e := 99) (base := w.heap.size) (ok := fun k_ => ((True ∧ some k_ ≠ (.slice Ao248 t348.length co248 : Value).ownBlock) ∧ k_ ≠ gb336)) (n := t351.length) (c := co250) ?_).2.2; exact (by (with_reducible repeat (first | apply Kd.R_alloc | apply Kd.R_drewN | apply Kd.R_drew)); exact (Kd.R_mono (Kd.R_far (p := ⟨gb338, 0, none⟩) (Kd.R_types HO353.out BK338.out (by decide)) (fun _ hk => hk.2) (.slice Ao250 t351.length co250)) (fun _ h_ => h_.1)))); (case side2 => exact (Kd.R_reads' HO353.out).2.1); rintro e w255 ⟨rfl, hb⟩; refine ⟨_, rfl, ?_⟩; replace HO350 := am_ (Kd.R_below (by (with_reducible repeat (first | apply Kd.R_alloc | apply Kd.R_drewN | apply Kd.R_drew)); exact (Kd.R_mono (Kd.R_far (p := ⟨gb338, 0, none⟩) (Kd.R_types HO350.out BK338.out (by decide)) (fun _ hk => hk.2) (.slice Ao250 t351.length co250)) (fun _ h_ => h_.1))) hb); replace HO353 := am_ (Kd.R_below (by (with_reducible repeat (first | apply Kd.R_alloc | apply Kd.R_drewN | apply Kd.R_drew)); exact (Kd.R_mono (Kd.R_far (p := ⟨gb338, 0, none⟩) (Kd.R_types HO353.out BK338.out (by decide)) (fun _ hk => hk.2) (.slice Ao250 t351.length co250)) (fun _ h_ => h_.1))) hb); replace BK330 := qbl_ BK330 hb; replace BK331 := qbl_ BK331 hb; replace BK332 := qbl_ BK332 hb; replace BK336 := qbl_ BK336 hb; replace BK338 := am_ (blk_below (g := gb338) (o := .cells #[.slice Ao250 t351.length co250] 44 (0, 0)) (by (with_reducible repeat (first | refine blk_drewN ?_ _ | refine blk_drew ?_ | refine blk_alloc ?_ _)); refine blk_put (cs := #[.slice none 0 0]) ?_ 0 _ rfl; exact qf_ BK338) hb); replace HB := hs_ hb; (try clear hb); (try clear hb2); (try clear hk); (try clear hi); obtain ⟨hcz256_0, hfz256_0⟩ := bc1_ BK338; obtain ⟨hnb257, hnc257⟩ := nn_ NB332_330; obtain ⟨hcz258_0, hfz258_0⟩ := bc1_ BK332))
         refine bodyPost_ret (results_ct rfl _ _ gb332 44 #[.slice Ao250 t351.length co250] (0, 0) _ rfl (by (with_reducible repeat (first | refine blk_drewN ?_ _ | refine blk_drew ?_ | refine blk_alloc ?_ _)); refine blk_put (cs := #[.slice none 0 0]) ?_ 0 _ rfl; exact qf_ BK332) Try.underlying44 rfl (by kernel_rfl)) rfl ?_
         exact ⟨_, qr_, by (with_reducible repeat (first | apply Kd.R_alloc | apply Kd.R_drewN | apply Kd.R_drew)); exact Kd.R_mono (Kd.R_far (p := ⟨gb332, 0, none⟩) (Kd.R_types HO353.out BK332.out (by decide)) (fun _ hk => hk.2) (.slice Ao250 t351.length co250)) (fun _ hk => trivial), qB_⟩
        replace c235 := Bool.eq_false_iff.mpr c235
        subst c235
        rw [if_neg (show ¬ (false = true) by decide)] at H
        simp only [Option.some.injEq, Prod.mk.injEq] at H
        obtain ⟨rfl, rfl⟩ := H
        obtain ⟨hnb259, hnc259⟩ := nn_ NB331_330; obtain ⟨hnb260, hnc260⟩ := nn_ NB331_332; obtain ⟨hnb261, hnc261⟩ := nn_ NB331_336; obtain ⟨hnb262, hnc262⟩ := nn_ NB331_338
        obtain ⟨hcz263_0, hcz263_1, hcz263_2, hcz263_3, hfz263_0, hfz263_1, hfz263_2, hfz263_3⟩ := bc4_ BK331
        obtain ⟨hnb264, hnc264⟩ := nn_ NB336_330; obtain ⟨hnb265, hnc265⟩ := nn_ NB336_332; obtain ⟨hnb266, hnc266⟩ := nn_ NB336_338
        obtain ⟨hcz267_0, hcz267_1, hcz267_2, hfz267_0, hfz267_1, hfz267_2⟩ := bc3_ BK336
        try go_wp2
        have n0_ : Aside0 ((wc.setCell ⟨gb336, 0, none⟩ (.string a1_3)).heap[gb330]? = some (.cells #[.slice A0_0 l0_0.length c0_0] 44 (0, 0))) := ⟨qf_ BK330⟩
        have n1_ : Aside0 ((wc.setCell ⟨gb336, 0, none⟩ (.string a1_3)).heap[gb331]? = some (.cells #[.int .i64 a1_0, .string a1_1, .string a1_2, .string a1_3] 60 (0, 0))) := ⟨qf_ BK331⟩
        have n2_ : Aside0 ((wc.setCell ⟨gb336, 0, none⟩ (.string a1_3)).heap[gb332]? = some (.cells #[.slice none 0 0] 44 (0, 0))) := ⟨qf_ BK332⟩
        have n3_ : Aside0 ((wc.setCell ⟨gb336, 0, none⟩ (.string a1_3)).heap[gb336]? = some (.cells #[.string a1_3, .string x337001_59, .int .i64 x337002_59] 99 (0, 0))) := ⟨by (with_reducible repeat (first | refine blk_drewN ?_ _ | refine blk_drew ?_ | refine blk_alloc ?_ _)); refine blk_put (cs := #[.string x337000_59, .string x337001_59, .int .i64 x337002_59]) ?_ 0 _ rfl; exact qf_ BK336⟩
        have n4_ : Aside0 ((wc.setCell ⟨gb336, 0, none⟩ (.string a1_3)).heap[gb338]? = some (.cells #[.slice none 0 0] 44 (0, 0))) := ⟨qf_ BK338⟩
        have n5_ : Aside0 (Below w.heap.size w (wc.setCell ⟨gb336, 0, none⟩ (.string a1_3))) := ⟨qB_⟩
        (try clear BK330); (try clear BK331); (try clear BK332); (try clear BK336); (try clear BK338); (try clear HB)
        generalize (wc.setCell ⟨gb336, 0, none⟩ (.string a1_3)) = w268 at n0_ n1_ n2_ n3_ n4_ n5_ ⊢
        have BK330 := n0_; have BK331 := n1_; have BK332 := n2_; have BK336 := n3_; have BK338 := n4_; have HB := n5_; clear n0_ n1_ n2_ n3_ n4_ n5_
        replace BK330 := am_ (blk_drew BK330.out); replace BK331 := am_ (blk_drew BK331.out); replace BK332 := am_ (blk_drew BK332.out); replace BK336 := am_ (blk_drew BK336.out); replace BK338 := am_ (blk_drew BK338.out); replace HB := am_ (below_drew1 HB.out)
        refine start_ (n := 7) (S := fun w' => w'.cell? ⟨gb330, 0, none⟩ = some (.slice A0_0 l0_0.length c0_0) ∧ w'.cell? ⟨gb331, 0, none⟩ = some (.int .i64 a1_0) ∧ w'.cell? ⟨gb331, 1, none⟩ = some (.string a1_1) ∧ w'.cell? ⟨gb331, 2, none⟩ = some (.string a1_2) ∧ w'.cell? ⟨gb331, 3, none⟩ = some (.string a1_3) ∧ w'.cell? ⟨gb336, 0, none⟩ = some (.string a1_3) ∧ w'.cell? ⟨gb336, 1, none⟩ = some (.string x337001_59) ∧ w'.cell? ⟨gb336, 2, none⟩ = some (.int .i64 x337002_59)) (ds := []) (bm 7 0) (by kernel_rfl) rfl (by kernel_rfl) ⟨bl_ BK330 0, bl_ BK331 0, bl_ BK331 1, bl_ BK331 2, bl_ BK331 3, bl_ BK336 0, bl_ BK336 1, bl_ BK336 2⟩ (fun hHeld => ?_)
        generalize w268.drew = w269 at BK330 BK331 BK332 BK336 BK338 HB hHeld ⊢
        refine pure_ (i := 1) (N := some 111) (v := ?_) (a' := ?_) (bm 7 2) rfl rfl (by kernel_rfl) (fun _ _ _ h => h) (Or.inl ⟨by rfl, ?_⟩) ?_ ?_
        rotate_left
        ·intro w'
         go_simp
         with_reducible rfl
        rotate_left
        ·simp only [Act.put, sA_, sB_, sC_, i64_w, i32_w]
         rfl
        refine take_ (i := 0) (N := some 110) (v := ?_) (a' := ?_) (bm 7 3) rfl rfl (by kernel_rfl) (fun _ _ _ h => h) (Or.inl ⟨by rfl, ?_⟩) hHeld ?_ ?_
        rotate_left
        ·rintro w' ⟨s0, s1, s2, s3, s4, s5, s6, s7⟩
         go_simp
         with_reducible rfl
        rotate_left
        ·simp only [Act.put, sA_, sB_, sC_, i64_w, i32_w]
         rfl
        refine take_ (i := 2) (N := some 112) (v := ?_) (a' := ?_) (bm 7 7) rfl rfl (by kernel_rfl) (fun _ _ _ h => h) (Or.inl ⟨by rfl, ?_⟩) hHeld ?_ ?_
        rotate_left
        ·rintro w' ⟨s0, s1, s2, s3, s4, s5, s6, s7⟩
         go_simp
         with_reducible rfl
        rotate_left
        ·simp only [Act.put, sA_, sB_, sC_, i64_w, i32_w]
         rfl
        refine take_ (i := 4) (N := some 114) (v := ?_) (a' := ?_) (bm 7 23) rfl rfl (by kernel_rfl) (fun _ _ _ h => h) (Or.inl ⟨by rfl, ?_⟩) hHeld ?_ ?_
        rotate_left
        ·rintro w' ⟨s0, s1, s2, s3, s4, s5, s6, s7⟩
         go_simp
         with_reducible rfl
        rotate_left
        ·simp only [Act.put, sA_, sB_, sC_, i64_w, i32_w]
         rfl
        refine one_ (i := 3) (N := some 113) (bm 7 31) rfl rfl (by kernel_rfl) (by decide) (fun K hK => ?_)
        refine goes_ Try.func85 (by kernel_rfl) rfl #[.agg #[.slice A0_0 l0_0.length c0_0], .string a1_1] (by rfl) rfl rfl (by (try simp only [List.map_toArray, List.map_cons, List.map_nil]); first | done | rfl | (simp only [List.length_drop, List.length_take]; rfl)) ?_
        with_reducible refine (spec_l03Without.calls kj188 _ _ l0_0 a1_1 t348 _ ?side1 ?side2 A232.out).mono ?_
        (case side1 => exact qC_ HR0_0 HB)
        (case side2 => exact HC0_0.out)
        rintro e w270 ⟨v349, rfl, ho0, hb⟩
        refine ⟨_, rfl, ?_⟩
        have HO350 := am_ (Kd.R_lower (Kd.R_newB ho0 (qk_ BK336)) (below_size qB_)); replace BK330 := qbl_ BK330 hb; replace BK331 := qbl_ BK331 hb; replace BK332 := qbl_ BK332 hb; replace BK336 := qbl_ BK336 hb; replace BK338 := qbl_ BK338 hb; replace HB := am_ (below_step qB_ hb); (try clear hb); (try clear hb2); (try clear hk); (try clear hi); (try clear ho0)
        obtain ⟨Ao271, co271, eo271⟩ := Kd.R_slice HO350.out
        (first | subst eo271 | (injection eo271 with f1_ f2_ f3_; have f4_ := f1_.symm; have f5_ := f3_.symm; clear f1_ f2_ f3_; subst f4_; subst f5_))
        refine hK.out _ _ ⟨bl_ BK330 0, bl_ BK331 0, bl_ BK331 1, bl_ BK331 2, bl_ BK331 3, bl_ BK336 0, bl_ BK336 1, bl_ BK336 2⟩ (fun hHeld => ?_)
        clear hK K
        refine nm_ 113 ?_
        refine one_ (i := 5) (N := some 115) (bm 7 63) rfl rfl (by kernel_rfl) (by decide) (fun K hK => ?_)
        refine goes_ Try.func84 (by kernel_rfl) rfl #[.agg #[.slice Ao271 t348.length co271], .agg #[.string a1_3, .string x337001_59, .int .i64 x337002_59]] (by rfl) rfl rfl (by (try simp only [List.map_toArray, List.map_cons, List.map_nil]); first | done | rfl | (simp only [List.length_drop, List.length_take]; rfl)) ?_
        with_reducible refine (spec_l03Put.calls kj188 _ _ t348 a1_3 x337001_59 x337002_59 t351 _ ?side1 ?side2 A233.out).mono ?_
        (case side1 => exact qD_ (Kd.R_reads' HO350.out).2.2)
        (case side2 => exact (Kd.R_reads' HO350.out).2.1)
        rintro e w272 ⟨v352, rfl, ho0, hb⟩
        refine ⟨_, rfl, ?_⟩
        have HO353 := am_ (Kd.R_lower (Kd.R_newB (Kd.R_new' ho0 (Kd.R_lt (qR_ HO350))) (qk_ BK336)) (below_size qB_)); replace HO350 := am_ (Kd.R_elder' (qR_ HO350) (Kd.R_base ho0) hb); replace BK330 := qbl_ BK330 hb; replace BK331 := qbl_ BK331 hb; replace BK332 := qbl_ BK332 hb; replace BK336 := qbl_ BK336 hb; replace BK338 := qbl_ BK338 hb; replace HB := am_ (below_step qB_ hb); (try clear hb); (try clear hb2); (try clear hk); (try clear hi); (try clear ho0)
        obtain ⟨Ao273, co273, eo273⟩ := Kd.R_slice HO353.out
        (first | subst eo273 | (injection eo273 with f1_ f2_ f3_; have f4_ := f1_.symm; have f5_ := f3_.symm; clear f1_ f2_ f3_; subst f4_; subst f5_))
        refine hK.out _ _ ⟨bl_ BK330 0, bl_ BK331 0, bl_ BK331 1, bl_ BK331 2, bl_ BK331 3, bl_ BK336 0, bl_ BK336 1, bl_ BK336 2⟩ (fun hHeld => ?_)
        clear hK K
        refine nm_ 115 ?_
        refine one_ (i := 6) (N := none) (bm 7 127) rfl rfl (by kernel_rfl) (by decide) (fun K hK => ?_)
        have hs274 : w272.cell? ⟨gb338, 0, none⟩ = some (.slice none 0 0) := bl_ BK338 0
        have hfs274 := blk_frozen BK338.out 0
        have hns274_0 := NB330_338.out; have hns274_1 := NB331_338.out; have hns274_2 := NB332_338.out; have hns274_3 := NB336_338.out; have hms274_0 := NB338_330.out; have hms274_1 := NB338_331.out; have hms274_2 := NB338_332.out; have hms274_3 := NB338_336.out
        refine skip_ (w1 := ?_) (by rfl) rfl ?_ ?_
        rotate_left
        ·go_simp
         rfl
        refine hK.out _ _ ⟨((cell_far (p := ⟨gb338, _, none⟩) NB330_338.out _).trans (hHeld.1)), ((cell_far (p := ⟨gb338, _, none⟩) NB331_338.out _).trans (hHeld.2.1)), ((cell_far (p := ⟨gb338, _, none⟩) NB331_338.out _).trans (hHeld.2.2.1)), ((cell_far (p := ⟨gb338, _, none⟩) NB331_338.out _).trans (hHeld.2.2.2.1)), ((cell_far (p := ⟨gb338, _, none⟩) NB331_338.out _).trans (hHeld.2.2.2.2.1)), ((cell_far (p := ⟨gb338, _, none⟩) NB336_338.out _).trans (hHeld.2.2.2.2.2.1)), ((cell_far (p := ⟨gb338, _, none⟩) NB336_338.out _).trans (hHeld.2.2.2.2.2.2.1)), ((cell_far (p := ⟨gb338, _, none⟩) NB336_338.out _).trans (hHeld.2.2.2.2.2.2.2))⟩ (fun hHeld => ?_)
        clear hK K
        refine done_ (by kernel_rfl) ?_
        obtain ⟨hnb275, hnc275⟩ := nn_ NB338_330; obtain ⟨hnb276, hnc276⟩ := nn_ NB338_332
        obtain ⟨hcz277_0, hfz277_0⟩ := bc1_ BK338
        try go_wp2_with (first | ((with_reducible refine gate_callee (f := 75) rfl ?_); refine gl_ (some 125) Try.func75 #[.agg #[.slice Ao273 t351.length co273]] ?_; (with_reducible refine (spec_DiskOk.calls kj188 _ _ t351 false _ ?side1 ?side2 A234.out).mono ?_); (case side1 => refine (Kd.R_reads' (e := 99) (base := w.heap.size) (ok := fun k_ => ((True ∧ some k_ ≠ (.slice Ao271 t348.length co271 : Value).ownBlock) ∧ k_ ≠ gb336)) (n := t351.length) (c := co273) ?_).2.2; exact (by (with_reducible repeat (first | apply Kd.R_alloc | apply Kd.R_drewN | apply Kd.R_drew)); exact (Kd.R_mono (Kd.R_far (p := ⟨gb338, 0, none⟩) (Kd.R_types HO353.out BK338.out (by decide)) (fun _ hk => hk.2) (.slice Ao273 t351.length co273)) (fun _ h_ => h_.1)))); (case side2 => exact (Kd.R_reads' HO353.out).2.1); rintro e w278 ⟨rfl, hb⟩; refine ⟨_, rfl, ?_⟩; replace HO350 := am_ (Kd.R_below (by (with_reducible repeat (first | apply Kd.R_alloc | apply Kd.R_drewN | apply Kd.R_drew)); exact (Kd.R_mono (Kd.R_far (p := ⟨gb338, 0, none⟩) (Kd.R_types HO350.out BK338.out (by decide)) (fun _ hk => hk.2) (.slice Ao273 t351.length co273)) (fun _ h_ => h_.1))) hb); replace HO353 := am_ (Kd.R_below (by (with_reducible repeat (first | apply Kd.R_alloc | apply Kd.R_drewN | apply Kd.R_drew)); exact (Kd.R_mono (Kd.R_far (p := ⟨gb338, 0, none⟩) (Kd.R_types HO353.out BK338.out (by decide)) (fun _ hk => hk.2) (.slice Ao273 t351.length co273)) (fun _ h_ => h_.1))) hb); replace BK330 := qbl_ BK330 hb; replace BK331 := qbl_ BK331 hb; replace BK332 := qbl_ BK332 hb; replace BK336 := qbl_ BK336 hb; replace BK338 := am_ (blk_below (g := gb338) (o := .cells #[.slice Ao273 t351.length co273] 44 (0, 0)) (by (with_reducible repeat (first | refine blk_drewN ?_ _ | refine blk_drew ?_ | refine blk_alloc ?_ _)); refine blk_put (cs := #[.slice none 0 0]) ?_ 0 _ rfl; exact qf_ BK338) hb); replace HB := hs_ hb; (try clear hb); (try clear hb2); (try clear hk); (try clear hi); obtain ⟨hnb279, hnc279⟩ := nn_ NB332_330; obtain ⟨hcz280_0, hfz280_0⟩ := bc1_ BK332))
        refine bodyPost_ret (results_ct rfl _ _ gb332 44 #[.slice none 0 0] (0, 0) _ rfl (by (with_reducible repeat (first | refine blk_drewN ?_ _ | refine blk_drew ?_ | refine blk_alloc ?_ _)); refine blk_put (cs := #[.slice none 0 0]) ?_ 0 _ rfl; exact qf_ BK332) Try.underlying44 rfl (by kernel_rfl)) rfl ?_
        exact ⟨_, qr_, by first | exact Kd.R_nil _ _ _ _ _ | exact Kd.N_nil _ _ _ _ _ | exact Kd.V_nil _ _ _ _ _ | exact Kd.Q_nil _ _ _ _ _ | exact Kd.S_nil _ _ _ _ _, qB_⟩
     rw [if_neg c188] at H
     have c188b0 : (a1_0 == 3) = false := beq_eq_false_iff_ne.mpr c188
     have c188b1 : (a1_0 != 3) = true := bne_iff_ne.mpr c188
     by_cases c281 : a1_0 = 4
     ·rw [if_pos c281] at H
      have c281b0 : (a1_0 == 4) = true := beq_iff_eq.mpr c281
      have c281b1 : (a1_0 != 4) = false := bne_eq_false_iff_eq.mpr c281
      clear c281
      obtain ⟨t355, A2820, H⟩ := Option.bind_eq_some_iff.mp H; have A282 := am_ A2820; clear A2820
      obtain ⟨t358, A2830, H⟩ := Option.bind_eq_some_iff.mp H; have A283 := am_ A2830; clear A2830
      by_cases c284 : t358 = true
      ·subst c284
       rw [if_pos rfl] at H
       simp only [Option.some.injEq, Prod.mk.injEq] at H
       obtain ⟨rfl, rfl⟩ := H
       go_wp2_with (first | ((with_reducible refine gate_dst (N := 8) rfl ?_); refine bx_ 8 (cs := #[.slice none 0 0]) (t := 44) ?_; intro gb338 hg w285 hbox hb; have BK338 := am_ (hbox); have GW338 := am_ ((qs_ : w.heap.size ≤ gb338)); have GE338 := GW338; obtain ⟨NB330_338, NB338_330⟩ := qn_ BK330 hg; obtain ⟨NB331_338, NB338_331⟩ := qn_ BK331 hg; obtain ⟨NB332_338, NB338_332⟩ := qn_ BK332 hg; obtain ⟨NB336_338, NB338_336⟩ := qn_ BK336 hg; replace BK330 := qbl_ BK330 hb; replace BK331 := qbl_ BK331 hb; replace BK332 := qbl_ BK332 hb; replace BK336 := qbl_ BK336 hb; replace HB := hs_ hb; clear hb hbox hg; obtain ⟨hnb286, hnc286⟩ := nn_ NB338_330; obtain ⟨hnb287, hnc287⟩ := nn_ NB338_331; obtain ⟨hnb288, hnc288⟩ := nn_ NB338_332; obtain ⟨hnb289, hnc289⟩ := nn_ NB338_336; obtain ⟨hcz290_0, hfz290_0⟩ := bc1_ BK338; obtain ⟨hnb291, hnc291⟩ := nn_ NB331_330; obtain ⟨hnb292, hnc292⟩ := nn_ NB331_332; obtain ⟨hnb293, hnc293⟩ := nn_ NB331_336; obtain ⟨hcz294_0, hcz294_1, hcz294_2, hcz294_3, hfz294_0, hfz294_1, hfz294_2, hfz294_3⟩ := bc4_ BK331; obtain ⟨hnb295, hnc295⟩ := nn_ NB330_332; obtain ⟨hnb296, hnc296⟩ := nn_ NB330_336; obtain ⟨hcz297_0, hfz297_0⟩ := bc1_ BK330) | ((with_reducible refine gate_callee (f := 85) rfl ?_); refine gl_ (some 123) Try.func85 #[.agg #[.slice A0_0 l0_0.length c0_0], .string a1_1] ?_; (with_reducible refine (spec_l03Without.calls kj59 _ _ l0_0 a1_1 t355 _ ?side1 ?side2 A282.out).mono ?_); (case side1 => exact Kd.C_below HR0_0.out qB_); (case side2 => exact HC0_0.out); rintro e w298 ⟨v356, rfl, ho0, hb⟩; refine ⟨_, rfl, ?_⟩; have HO357 := am_ (Kd.R_lower (Kd.R_newB ho0 (g := gb336) (o := .cells #[.string x337000_59, .string x337001_59, .int .i64 x337002_59] 99 (0, 0)) (qf_ BK336)) (below_size qB_)); replace BK330 := qbl_ BK330 hb; replace BK331 := qbl_ BK331 hb; replace BK332 := qbl_ BK332 hb; replace BK336 := qbl_ BK336 hb; replace BK338 := am_ (blk_below (g := gb338) (o := .cells #[.slice none 0 0] 44 (0, 0)) (by (with_reducible repeat (first | refine blk_drewN ?_ _ | refine blk_drew ?_ | refine blk_alloc ?_ _)); refine blk_put (cs := #[.slice none 0 0]) ?_ 0 _ rfl; exact qf_ BK338) hb); replace HB := hs_ hb; (try clear hb); (try clear hb2); (try clear hk); (try clear hi); (try clear ho0); obtain ⟨Ao299, co299, eo299⟩ := Kd.R_slice HO357.out; subst eo299; obtain ⟨hcz300_0, hfz300_0⟩ := bc1_ BK338) | ((with_reducible refine gate_callee (f := 75) rfl ?_); refine gl_ (some 125) Try.func75 #[.agg #[.slice Ao299 t355.length co299]] ?_; (with_reducible refine (spec_DiskOk.calls kj59 _ _ t355 true _ ?side1 ?side2 A283.out).mono ?_); (case side1 => refine (Kd.R_reads' (e := 99) (base := w.heap.size) (ok := fun k_ => (True ∧ k_ ≠ gb336)) (n := t355.length) (c := co299) ?_).2.2; exact (by (with_reducible repeat (first | apply Kd.R_alloc | apply Kd.R_drewN | apply Kd.R_drew)); exact (Kd.R_mono (Kd.R_far (p := ⟨gb338, 0, none⟩) (Kd.R_types HO357.out BK338.out (by decide)) (fun _ hk => hk.2) (.slice Ao299 t355.length co299)) (fun _ h_ => h_.1)))); (case side2 => exact (Kd.R_reads' HO357.out).2.1); rintro e w301 ⟨rfl, hb⟩; refine ⟨_, rfl, ?_⟩; replace HO357 := am_ (Kd.R_below (by (with_reducible repeat (first | apply Kd.R_alloc | apply Kd.R_drewN | apply Kd.R_drew)); exact (Kd.R_mono (Kd.R_far (p := ⟨gb338, 0, none⟩) (Kd.R_types HO357.out BK338.out (by decide)) (fun _ hk => hk.2) (.slice Ao299 t355.length co299)) (fun _ h_ => h_.1))) hb); replace BK330 := qbl_ BK330 hb; replace BK331 := qbl_ BK331 hb; replace BK332 := qbl_ BK332 hb; replace BK336 := qbl_ BK336 hb; replace BK338 := am_ (blk_below (g := gb338) (o := .cells #[.slice Ao299 t355.length co299] 44 (0, 0)) (by (with_reducible repeat (first | refine blk_drewN ?_ _ | refine blk_drew ?_ | refine blk_alloc ?_ _)); refine blk_put (cs := #[.slice none 0 0]) ?_ 0 _ rfl; exact qf_ BK338) hb); replace HB := hs_ hb; (try clear hb); (try clear hb2); (try clear hk); (try clear hi); obtain ⟨hcz302_0, hfz302_0⟩ := bc1_ BK338; obtain ⟨hnb303, hnc303⟩ := nn_ NB332_336; obtain ⟨hcz304_0, hfz304_0⟩ := bc1_ BK332))
       refine bodyPost_ret (results_ct rfl _ _ gb332 44 #[.slice Ao299 t355.length co299] (0, 0) _ rfl (by (with_reducible repeat (first | refine blk_drewN ?_ _ | refine blk_drew ?_ | refine blk_alloc ?_ _)); refine blk_put (cs := #[.slice none 0 0]) ?_ 0 _ rfl; exact qf_ BK332) Try.underlying44 rfl (by kernel_rfl)) rfl ?_
       exact ⟨_, qr_, by (with_reducible repeat (first | apply Kd.R_alloc | apply Kd.R_drewN | apply Kd.R_drew)); exact Kd.R_mono (Kd.R_far (p := ⟨gb332, 0, none⟩) (Kd.R_types HO357.out BK332.out (by decide)) (fun _ hk => hk.2) (.slice Ao299 t355.length co299)) (fun _ hk => trivial), qB_⟩
      replace c284 := Bool.eq_false_iff.mpr c284
      subst c284
      rw [if_neg (show ¬ (false = true) by decide)] at H
      simp only [Option.some.injEq, Prod.mk.injEq] at H
      obtain ⟨rfl, rfl⟩ := H
      go_wp2_with (first | ((with_reducible refine gate_dst (N := 8) rfl ?_); refine bx_ 8 (cs := #[.slice none 0 0]) (t := 44) ?_; intro gb338 hg w305 hbox hb; have BK338 := am_ (hbox); have GW338 := am_ ((qs_ : w.heap.size ≤ gb338)); have GE338 := GW338; obtain ⟨NB330_338, NB338_330⟩ := qn_ BK330 hg; obtain ⟨NB331_338, NB338_331⟩ := qn_ BK331 hg; obtain ⟨NB332_338, NB338_332⟩ := qn_ BK332 hg; obtain ⟨NB336_338, NB338_336⟩ := qn_ BK336 hg; replace BK330 := qbl_ BK330 hb; replace BK331 := qbl_ BK331 hb; replace BK332 := qbl_ BK332 hb; replace BK336 := qbl_ BK336 hb; replace HB := hs_ hb; clear hb hbox hg; obtain ⟨hnb306, hnc306⟩ := nn_ NB338_330; obtain ⟨hnb307, hnc307⟩ := nn_ NB338_331; obtain ⟨hnb308, hnc308⟩ := nn_ NB338_332; obtain ⟨hnb309, hnc309⟩ := nn_ NB338_336; obtain ⟨hcz310_0, hfz310_0⟩ := bc1_ BK338; obtain ⟨hnb311, hnc311⟩ := nn_ NB331_330; obtain ⟨hnb312, hnc312⟩ := nn_ NB331_332; obtain ⟨hnb313, hnc313⟩ := nn_ NB331_336; obtain ⟨hcz314_0, hcz314_1, hcz314_2, hcz314_3, hfz314_0, hfz314_1, hfz314_2, hfz314_3⟩ := bc4_ BK331; obtain ⟨hnb315, hnc315⟩ := nn_ NB330_332; obtain ⟨hnb316, hnc316⟩ := nn_ NB330_336; obtain ⟨hcz317_0, hfz317_0⟩ := bc1_ BK330) | ((with_reducible refine gate_callee (f := 85) rfl ?_); refine gl_ (some 123) Try.func85 #[.agg #[.slice A0_0 l0_0.length c0_0], .string a1_1] ?_; (with_reducible refine (spec_l03Without.calls kj59 _ _ l0_0 a1_1 t355 _ ?side1 ?side2 A282.out).mono ?_); (case side1 => exact Kd.C_below HR0_0.out qB_); (case side2 => exact HC0_0.out); rintro e w318 ⟨v356, rfl, ho0, hb⟩; refine ⟨_, rfl, ?_⟩; have HO357 := am_ (Kd.R_lower (Kd.R_newB ho0 (g := gb336) (o := .cells #[.string x337000_59, .string x337001_59, .int .i64 x337002_59] 99 (0, 0)) (qf_ BK336)) (below_size qB_)); replace BK330 := qbl_ BK330 hb; replace BK331 := qbl_ BK331 hb; replace BK332 := qbl_ BK332 hb; replace BK336 := qbl_ BK336 hb; replace BK338 := am_ (blk_below (g := gb338) (o := .cells #[.slice none 0 0] 44 (0, 0)) (by (with_reducible repeat (first | refine blk_drewN ?_ _ | refine blk_drew ?_ | refine blk_alloc ?_ _)); refine blk_put (cs := #[.slice none 0 0]) ?_ 0 _ rfl; exact qf_ BK338) hb); replace HB := hs_ hb; (try clear hb); (try clear hb2); (try clear hk); (try clear hi); (try clear ho0); obtain ⟨Ao319, co319, eo319⟩ := Kd.R_slice HO357.out; subst eo319; obtain ⟨hcz320_0, hfz320_0⟩ := bc1_ BK338) | ((with_reducible refine gate_callee (f := 75) rfl ?_); refine gl_ (some 125) Try.func75 #[.agg #[.slice Ao319 t355.length co319]] ?_; (with_reducible refine (spec_DiskOk.calls kj59 _ _ t355 false _ ?side1 ?side2 A283.out).mono ?_); (case side1 => refine (Kd.R_reads' (e := 99) (base := w.heap.size) (ok := fun k_ => (True ∧ k_ ≠ gb336)) (n := t355.length) (c := co319) ?_).2.2; exact (by (with_reducible repeat (first | apply Kd.R_alloc | apply Kd.R_drewN | apply Kd.R_drew)); exact (Kd.R_mono (Kd.R_far (p := ⟨gb338, 0, none⟩) (Kd.R_types HO357.out BK338.out (by decide)) (fun _ hk => hk.2) (.slice Ao319 t355.length co319)) (fun _ h_ => h_.1)))); (case side2 => exact (Kd.R_reads' HO357.out).2.1); rintro e w321 ⟨rfl, hb⟩; refine ⟨_, rfl, ?_⟩; replace HO357 := am_ (Kd.R_below (by (with_reducible repeat (first | apply Kd.R_alloc | apply Kd.R_drewN | apply Kd.R_drew)); exact (Kd.R_mono (Kd.R_far (p := ⟨gb338, 0, none⟩) (Kd.R_types HO357.out BK338.out (by decide)) (fun _ hk => hk.2) (.slice Ao319 t355.length co319)) (fun _ h_ => h_.1))) hb); replace BK330 := qbl_ BK330 hb; replace BK331 := qbl_ BK331 hb; replace BK332 := qbl_ BK332 hb; replace BK336 := qbl_ BK336 hb; replace BK338 := am_ (blk_below (g := gb338) (o := .cells #[.slice Ao319 t355.length co319] 44 (0, 0)) (by (with_reducible repeat (first | refine blk_drewN ?_ _ | refine blk_drew ?_ | refine blk_alloc ?_ _)); refine blk_put (cs := #[.slice none 0 0]) ?_ 0 _ rfl; exact qf_ BK338) hb); replace HB := hs_ hb; (try clear hb); (try clear hb2); (try clear hk); (try clear hi); obtain ⟨hnb322, hnc322⟩ := nn_ NB332_336; obtain ⟨hcz323_0, hfz323_0⟩ := bc1_ BK332))
      refine bodyPost_ret (results_ct rfl _ _ gb332 44 #[.slice none 0 0] (0, 0) _ rfl (by (with_reducible repeat (first | refine blk_drewN ?_ _ | refine blk_drew ?_ | refine blk_alloc ?_ _)); refine blk_put (cs := #[.slice none 0 0]) ?_ 0 _ rfl; exact qf_ BK332) Try.underlying44 rfl (by kernel_rfl)) rfl ?_
      exact ⟨_, qr_, by first | exact Kd.R_nil _ _ _ _ _ | exact Kd.N_nil _ _ _ _ _ | exact Kd.V_nil _ _ _ _ _ | exact Kd.Q_nil _ _ _ _ _ | exact Kd.S_nil _ _ _ _ _, qB_⟩
     rw [if_neg c281] at H
     have c281b0 : (a1_0 == 4) = false := beq_eq_false_iff_ne.mpr c281
     have c281b1 : (a1_0 != 4) = true := bne_iff_ne.mpr c281
     simp only [Option.some.injEq, Prod.mk.injEq] at H
     obtain ⟨rfl, rfl⟩ := H
     go_wp2_with (first | ((with_reducible refine gate_dst (N := 8) rfl ?_); refine bx_ 8 (cs := #[.slice none 0 0]) (t := 44) ?_; intro gb338 hg w324 hbox hb; have BK338 := am_ (hbox); have GW338 := am_ ((qs_ : w.heap.size ≤ gb338)); have GE338 := GW338; obtain ⟨NB330_338, NB338_330⟩ := qn_ BK330 hg; obtain ⟨NB331_338, NB338_331⟩ := qn_ BK331 hg; obtain ⟨NB332_338, NB338_332⟩ := qn_ BK332 hg; obtain ⟨NB336_338, NB338_336⟩ := qn_ BK336 hg; replace BK330 := qbl_ BK330 hb; replace BK331 := qbl_ BK331 hb; replace BK332 := qbl_ BK332 hb; replace BK336 := qbl_ BK336 hb; replace HB := hs_ hb; clear hb hbox hg; obtain ⟨hnb325, hnc325⟩ := nn_ NB338_330; obtain ⟨hnb326, hnc326⟩ := nn_ NB338_331; obtain ⟨hnb327, hnc327⟩ := nn_ NB338_332; obtain ⟨hnb328, hnc328⟩ := nn_ NB338_336; obtain ⟨hcz329_0, hfz329_0⟩ := bc1_ BK338; obtain ⟨hnb330, hnc330⟩ := nn_ NB331_330; obtain ⟨hnb331, hnc331⟩ := nn_ NB331_332; obtain ⟨hnb332, hnc332⟩ := nn_ NB331_336; obtain ⟨hcz333_0, hcz333_1, hcz333_2, hcz333_3, hfz333_0, hfz333_1, hfz333_2, hfz333_3⟩ := bc4_ BK331; obtain ⟨hnb334, hnc334⟩ := nn_ NB332_330; obtain ⟨hnb335, hnc335⟩ := nn_ NB332_336; obtain ⟨hcz336_0, hfz336_0⟩ := bc1_ BK332))
     refine bodyPost_ret (results_ct rfl _ _ gb332 44 #[.slice none 0 0] (0, 0) _ rfl (by (with_reducible repeat (first | refine blk_drewN ?_ _ | refine blk_drew ?_ | refine blk_alloc ?_ _)); refine blk_put (cs := #[.slice none 0 0]) ?_ 0 _ rfl; exact qf_ BK332) Try.underlying44 rfl (by kernel_rfl)) rfl ?_
     exact ⟨_, qr_, by first | exact Kd.R_nil _ _ _ _ _ | exact Kd.N_nil _ _ _ _ _ | exact Kd.V_nil _ _ _ _ _ | exact Kd.Q_nil _ _ _ _ _ | exact Kd.S_nil _ _ _ _ _, qB_⟩

end Go.Proofs.Ytacnlodcbbhahaa.QFnExactCutActs
