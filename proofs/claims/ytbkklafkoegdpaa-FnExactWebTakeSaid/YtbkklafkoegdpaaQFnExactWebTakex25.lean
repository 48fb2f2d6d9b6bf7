import Derived.Test.YtbkklafkoegdpaaQFnExactWebTakex0
import Derived.Test.YtbkklafkoegdpaaQFnExactWebTakex2
import Derived.Test.YtbkklafkoegdpaaQFnExactWebTakex15
import Derived.Test.YtbkklafkoegdpaaQFnExactWebTakex23
namespace Go.Proofs.Ytbkklafkoegdpaa.QFnExactWebTake
open Go.RowKit Go.Proofs.YtbkklafkoegdpaaW.PrintWords Go.Proofs.YtbkklafkoegdpaaW.PrintLast Go.Proofs.YtbkklafkoegdpaaW.PrintMore
set_option linter.unusedVariables false
set_option linter.unusedSimpArgs false
set_option maxHeartbeats 8000000
set_option maxRecDepth 100000
def laws_eqEdge.f (a0_0 : Int) (a0_1 : Int) (a1_0 : Int) (a1_1 : Int) : Option (Bool) := if a0_0 = a1_0 then (if a0_1 = a1_1 then (some true) else (some false)) else (some false)
theorem laws_eqEdge.calls (a : Int) (c : Int) (d : Int) (g : Int) (r : Bool) (w : World) (h : laws_eqEdge.f a c d g = some r) :
  Calls Try.prog 43 #[.agg #[.int .i64 a, .int .i64 c], .agg #[.int .i64 d, .int .i64 g]] w fun e w' => e = .returned (.bool r) ∧ Below w.heap.size w w' := by
 have hu43 := Try.underlying43
 have HB := am_ (Below.refl w.heap.size w)
 rw [laws_eqEdge.f] at h; have H := h; clear h
 refine jb_ H ?_ ?_ <;> clear H <;> intro j H
 ·have l : (a == d) = false := beq_eq_false_iff_ne.mpr j
  have m : (a != d) = true := bne_iff_ne.mpr j
  obtain rfl := oi_ H
  go_enter Try.func43, Try.ntmps43
  go_wp2_with (first | ((with_reducible refine gd_ 2 ?_); refine by_ 2 (cs := #[.int .i64 a, .int .i64 c]) (t := 43) ?_; intro u hg A i hb; have v := gw_ hg; replace HB := hs_ hb; clear hb hg) | ((with_reducible refine gd_ 3 ?_); refine by_ 3 (cs := #[.int .i64 d, .int .i64 g]) (t := 43) ?_; intro x hg B n hb; have y := gw_ hg; obtain ⟨o, z⟩ := qn_ i hg; replace i := qbl_ i hb; replace HB := hs_ hb; clear hb hg; obtain ⟨E, F⟩ := nn_ o; obtain ⟨G, I, J, L⟩ := bc2_ i; obtain ⟨M, N, O, R⟩ := bc2_ n))
  go_ret
  exact ⟨qr_, qB_⟩
 have l : (a == d) = true := beq_iff_eq.mpr j
 have m : (a != d) = false := bne_eq_false_iff_eq.mpr j
 clear j
 refine jc_ H ?_ ?_ <;> clear H <;> intro p H
 ·have q : (c == g) = true := beq_iff_eq.mpr p
  have s : (c != g) = false := bne_eq_false_iff_eq.mpr p
  clear p
  obtain rfl := oi_ H
  go_enter Try.func43, Try.ntmps43
  go_wp2_with (first | ((with_reducible refine gd_ 2 ?_); refine by_ 2 (cs := #[.int .i64 a, .int .i64 c]) (t := 43) ?_; intro u hg T i hb; have v := gw_ hg; replace HB := hs_ hb; clear hb hg) | ((with_reducible refine gd_ 3 ?_); refine by_ 3 (cs := #[.int .i64 d, .int .i64 g]) (t := 43) ?_; intro x hg U n hb; have y := gw_ hg; obtain ⟨o, z⟩ := qn_ i hg; replace i := qbl_ i hb; replace HB := hs_ hb; clear hb hg; obtain ⟨V, X⟩ := nn_ o; obtain ⟨Y, Z, a0, a1⟩ := bc2_ i; obtain ⟨a2, a3, a4, a5⟩ := bc2_ n))
  go_ret
  exact ⟨qr_, qB_⟩
 have q : (c == g) = false := beq_eq_false_iff_ne.mpr p
 have s : (c != g) = true := bne_iff_ne.mpr p
 obtain rfl := oi_ H
 go_enter Try.func43, Try.ntmps43
 go_wp2_with (first | ((with_reducible refine gd_ 2 ?_); refine by_ 2 (cs := #[.int .i64 a, .int .i64 c]) (t := 43) ?_; intro u hg C i hb; have v := gw_ hg; replace HB := hs_ hb; clear hb hg) | ((with_reducible refine gd_ 3 ?_); refine by_ 3 (cs := #[.int .i64 d, .int .i64 g]) (t := 43) ?_; intro x hg D n hb; have y := gw_ hg; obtain ⟨o, z⟩ := qn_ i hg; replace i := qbl_ i hb; replace HB := hs_ hb; clear hb hg; obtain ⟨a6, a7⟩ := nn_ o; obtain ⟨a8, a9, b0, b1⟩ := bc2_ i; obtain ⟨b2, b3, b4, b5⟩ := bc2_ n))
 go_ret
 exact ⟨qr_, qB_⟩
mutual
def laws_FnExactWebTake.j0 : Nat → Bool → Bool → Bool → Bool → Bool → Int → List (S120) → Int → Int → Int → List (S72) → Int → Int → Int → List (S72) → Int → List (S72) → Int → Int → Option (Bool)
  | 0, _, _, _, _, _, _, _, _, _, _, _, _, _, _, _, _, _, _, _ => none
  | k + 1, x8, x9, x13, x14, x67, x550000, x550001, x551000, x551001, x567000, x567001, x568000, x568001, x573000, x573001, x584000, x584001, x585000, x585001 => if x67 = true then (some false) else ((laws_toWeb.f k x550000 x550001).bind fun bt587 => ((laws_eqWeb.f k x573000 x573001 bt587.1 bt587.2).bind fun t591 => (if t591 = true then ((laws_markWeb.f k x573000 x573001 1).bind fun bt592 => (if bt592.1 < 0 then (laws_FnExactWebTake.j1 k x8 x9 true x550000 x550001 x551000 x551001 x567000 x567001 x568000 x568001 x584000 x584001) else ((laws_eqWeb.f k x584000 x584001 x567000 x567001).bind fun t594 => (if t594 = true then ((laws_eqEdge.f x585000 x585001 x568000 x568001).bind fun t595 => (if t595 = true then (if (x13 != x8) = true then (laws_FnExactWebTake.j1 k x8 x9 true x550000 x550001 x551000 x551001 x567000 x567001 x568000 x568001 x584000 x584001) else (laws_FnExactWebTake.j1 k x8 x9 (x14 != x9) x550000 x550001 x551000 x551001 x567000 x567001 x568000 x568001 x584000 x584001)) else (laws_FnExactWebTake.j1 k x8 x9 true x550000 x550001 x551000 x551001 x567000 x567001 x568000 x568001 x584000 x584001))) else (laws_FnExactWebTake.j1 k x8 x9 true x550000 x550001 x551000 x551001 x567000 x567001 x568000 x568001 x584000 x584001))))) else (some false))))
def laws_FnExactWebTake.j1 : Nat → Bool → Bool → Bool → Int → List (S120) → Int → Int → Int → List (S72) → Int → Int → Int → List (S72) → Option (Bool)
  | 0, _, _, _, _, _, _, _, _, _, _, _, _, _ => none
  | k + 1, x8, x9, x99, x550000, x550001, x551000, x551001, x567000, x567001, x568000, x568001, x584000, x584001 => if x99 = true then (some false) else ((laws_markWeb.f k x584000 x584001 1).bind fun bt596 => ((laws_heldWeb.f k x584000 bt596.2 1).bind fun t598 => (if t598 < 0 then (some false) else (if t598 = bt596.1 then ((laws_toWeb.f k x550000 x550001).bind fun bt599 => ((laws_toEdge.f x551000 x551001).bind fun bt603 => ((impl_WebTake.f k bt599.1 bt599.2 bt603.1 bt603.2).bind fun bt605 => ((laws_eqWeb.f k bt605.1 bt605.2.1 x567000 x567001).bind fun t615 => (if t615 = true then ((laws_eqEdge.f bt605.2.2.1 bt605.2.2.2.1 x568000 x568001).bind fun t616 => (if t616 = true then (if (bt605.2.2.2.2.1 != x8) = true then (laws_FnExactWebTake.j2 k bt596.1 true x584000 bt596.2) else (laws_FnExactWebTake.j2 k bt596.1 (bt605.2.2.2.2.2 != x9) x584000 bt596.2)) else (laws_FnExactWebTake.j2 k bt596.1 true x584000 bt596.2))) else (laws_FnExactWebTake.j2 k bt596.1 true x584000 bt596.2)))))) else (some false)))))
def laws_FnExactWebTake.j2 : Nat → Int → Bool → Int → List (S72) → Option (Bool)
  | 0, _, _, _, _ => none
  | k + 1, x16, x140, x584000, x584001 => if x140 = true then (some false) else ((laws_heldWeb.f k x584000 x584001 1).bind fun t617 => (if t617 < 0 then (some false) else (if t617 = x16 then (some true) else (some false))))
end
def laws_FnExactWebTake.f (k : Nat) (a0_0 : Int) (l0_1 : List (S120)) (a1_0 : Int) (a1_1 : Int) : Option (Bool) := (laws_szWeb.f a0_0 l0_1 1048576).bind fun t551 => (if t551 < 0 then (some true) else ((laws_toWeb.f k a0_0 l0_1).bind fun bt552 => ((laws_toEdge.f a1_0 a1_1).bind fun bt556 => ((spec_WebTake.f k bt552.1 bt552.2 bt556.1 bt556.2).bind fun bt558 => ((laws_toWeb.f k a0_0 l0_1).bind fun bt568 => ((laws_toEdge.f a1_0 a1_1).bind fun bt573 => ((impl_WebTake.f k bt568.1 bt568.2 bt573.1 bt573.2).bind fun bt575 => ((laws_eqWeb.f k bt575.1 bt575.2.1 bt558.1 bt558.2.1).bind fun t585 => (if t585 = true then ((laws_eqEdge.f bt575.2.2.1 bt575.2.2.2.1 bt558.2.2.1 bt558.2.2.2.1).bind fun t586 => (if t586 = true then (if (bt575.2.2.2.2.1 != bt558.2.2.2.2.1) = true then (laws_FnExactWebTake.j0 k bt558.2.2.2.2.1 bt558.2.2.2.2.2 bt575.2.2.2.2.1 bt575.2.2.2.2.2 true a0_0 l0_1 a1_0 a1_1 bt558.1 bt558.2.1 bt558.2.2.1 bt558.2.2.2.1 bt568.1 bt568.2 bt575.1 bt575.2.1 bt575.2.2.1 bt575.2.2.2.1) else (laws_FnExactWebTake.j0 k bt558.2.2.2.2.1 bt558.2.2.2.2.2 bt575.2.2.2.2.1 bt575.2.2.2.2.2 (bt575.2.2.2.2.2 != bt558.2.2.2.2.2) a0_0 l0_1 a1_0 a1_1 bt558.1 bt558.2.1 bt558.2.2.1 bt558.2.2.2.1 bt568.1 bt568.2 bt575.1 bt575.2.1 bt575.2.2.1 bt575.2.2.2.1)) else (laws_FnExactWebTake.j0 k bt558.2.2.2.2.1 bt558.2.2.2.2.2 bt575.2.2.2.2.1 bt575.2.2.2.2.2 true a0_0 l0_1 a1_0 a1_1 bt558.1 bt558.2.1 bt558.2.2.1 bt558.2.2.2.1 bt568.1 bt568.2 bt575.1 bt575.2.1 bt575.2.2.1 bt575.2.2.2.1))) else (laws_FnExactWebTake.j0 k bt558.2.2.2.2.1 bt558.2.2.2.2.2 bt575.2.2.2.2.1 bt575.2.2.2.2.2 true a0_0 l0_1 a1_0 a1_1 bt558.1 bt558.2.1 bt558.2.2.1 bt558.2.2.2.1 bt568.1 bt568.2 bt575.1 bt575.2.1 bt575.2.2.1 bt575.2.2.2.1))))))))))
theorem laws_FnExactWebTake.mono_l : ∀ k, (∀ y0 y1 y2 y3 y4 y5 y6 y7 y8 y9 y10 y11 y12 y13 y14 y15 y16 y17 y18, LeO (laws_FnExactWebTake.j0 k y0 y1 y2 y3 y4 y5 y6 y7 y8 y9 y10 y11 y12 y13 y14 y15 y16 y17 y18) (laws_FnExactWebTake.j0 (k + 1) y0 y1 y2 y3 y4 y5 y6 y7 y8 y9 y10 y11 y12 y13 y14 y15 y16 y17 y18)) ∧ (∀ y0 y1 y2 y3 y4 y5 y6 y7 y8 y9 y10 y11 y12, LeO (laws_FnExactWebTake.j1 k y0 y1 y2 y3 y4 y5 y6 y7 y8 y9 y10 y11 y12) (laws_FnExactWebTake.j1 (k + 1) y0 y1 y2 y3 y4 y5 y6 y7 y8 y9 y10 y11 y12)) ∧ (∀ y0 y1 y2 y3, LeO (laws_FnExactWebTake.j2 k y0 y1 y2 y3) (laws_FnExactWebTake.j2 (k + 1) y0 y1 y2 y3))
  | 0 => ⟨fun _ _ _ _ _ _ _ _ _ _ _ _ _ _ _ _ _ _ _ r h => by simp [laws_FnExactWebTake.j0] at h, fun _ _ _ _ _ _ _ _ _ _ _ _ _ r h => by simp [laws_FnExactWebTake.j1] at h, fun _ _ _ _ r h => by simp [laws_FnExactWebTake.j2] at h⟩
  | k + 1 => by
    obtain ⟨ih0, ih1, ih2⟩ := laws_FnExactWebTake.mono_l k
    have m0 := @impl_WebTake.mono; have m1 := @laws_eqWeb.mono; have m2 := @laws_heldWeb.mono; have m3 := @laws_markWeb.mono; have m4 := @laws_toWeb.mono; have m5 := @spec_WebTake.mono
    refine ⟨?_, ?_, ?_⟩ <;> (intros; first | unfold laws_FnExactWebTake.j0 | unfold laws_FnExactWebTake.j1 | unfold laws_FnExactWebTake.j2) <;> exact lo_
theorem laws_FnExactWebTake.mono : ∀ a0 a1 a2 a3 k, LeO (laws_FnExactWebTake.f k a0 a1 a2 a3) (laws_FnExactWebTake.f (k + 1) a0 a1 a2 a3) := by
  intro a0 a1 a2 a3 k
  obtain ⟨ih0, ih1, ih2⟩ := laws_FnExactWebTake.mono_l k
  have m0 := @impl_WebTake.mono; have m1 := @laws_eqWeb.mono; have m2 := @laws_heldWeb.mono; have m3 := @laws_markWeb.mono; have m4 := @laws_toWeb.mono; have m5 := @spec_WebTake.mono
  unfold laws_FnExactWebTake.f
  exact lo_
def laws_FnExactWebTake.T5 : Bool × List (List Nat × List Nat) := (true, [([], []), ([0], [0]), ([], []), ([2, 1], [2]), ([1, 3, 3], [1, 3]), ([4], [4]), ([5], [5]), ([5], [5]), ([5], [5]), ([5], [5]), ([], []), ([], []), ([10, 6, 4, 0, 1, 2, 3, 4, 5, 6, 10, 11], [6, 10]), ([11, 7, 12, 0, 1, 2, 3, 4, 5, 6, 7, 10, 11, 12], [7, 11]), ([8, 13, 0, 1, 2, 3, 4, 5, 6, 7, 8, 10, 11, 12, 13], [8]), ([9, 14, 0, 1, 2, 3, 4, 5, 6, 7, 8, 9, 10, 11, 12, 13, 14], [9])])
def laws_FnExactWebTake.B5 : List Nat := [0, 1, 0, 7, 15, 31, 63, 63, 63, 63, 0, 0, 3199, 7423, 15871, 32767]
theorem laws_FnExactWebTake.tab5 : rtab .any (opsOf Try.f10 5) = laws_FnExactWebTake.T5 := by kernel_rfl
theorem laws_FnExactWebTake.bits5 : waitsOk laws_FnExactWebTake.T5.2 laws_FnExactWebTake.B5 = true := by kernel_rfl
def laws_FnExactWebTake.T7 : Bool × List (List Nat × List Nat) := (true, [([], []), ([], []), ([1], [1]), ([0, 2, 2], [0, 2]), ([3], [3]), ([4], [4]), ([4], [4]), ([4], [4]), ([4], [4]), ([], []), ([], []), ([9, 5, 3, 0, 1, 2, 3, 4, 5, 9, 10], [5, 9]), ([10, 6, 11, 0, 1, 2, 3, 4, 5, 6, 9, 10, 11], [6, 10]), ([7, 12, 0, 1, 2, 3, 4, 5, 6, 7, 9, 10, 11, 12], [7]), ([8, 13, 0, 1, 2, 3, 4, 5, 6, 7, 8, 9, 10, 11, 12, 13], [8])])
def laws_FnExactWebTake.B7 : List Nat := [0, 0, 2, 7, 15, 31, 31, 31, 31, 0, 0, 1599, 3711, 7935, 16383]
theorem laws_FnExactWebTake.tab7 : rtab .any (opsOf Try.f10 7) = laws_FnExactWebTake.T7 := by kernel_rfl
theorem laws_FnExactWebTake.bits7 : waitsOk laws_FnExactWebTake.T7.2 laws_FnExactWebTake.B7 = true := by kernel_rfl
def laws_FnExactWebTake.T24 : Bool × List (List Nat × List Nat) := (true, [([], []), ([0], [0]), ([], []), ([2, 1], [2]), ([1, 3, 3], [1, 3]), ([4], [4]), ([5], [5]), ([5], [5]), ([5], [5]), ([5], [5]), ([], []), ([], []), ([10, 6, 4, 0, 1, 2, 3, 4, 5, 6, 10, 11], [6, 10]), ([11, 7, 12, 0, 1, 2, 3, 4, 5, 6, 7, 10, 11, 12], [7, 11]), ([8, 13, 0, 1, 2, 3, 4, 5, 6, 7, 8, 10, 11, 12, 13], [8]), ([9, 14, 0, 1, 2, 3, 4, 5, 6, 7, 8, 9, 10, 11, 12, 13, 14], [9])])
def laws_FnExactWebTake.B24 : List Nat := [0, 1, 0, 7, 15, 31, 63, 63, 63, 63, 0, 0, 3199, 7423, 15871, 32767]
theorem laws_FnExactWebTake.tab24 : rtab .any (opsOf Try.f10 24) = laws_FnExactWebTake.T24 := by kernel_rfl
theorem laws_FnExactWebTake.bits24 : waitsOk laws_FnExactWebTake.T24.2 laws_FnExactWebTake.B24 = true := by kernel_rfl
theorem qsw_ {w : World} {b : Nat} {A B K : Nat → Prop} {v u : Value} {xs ys : List S72} (h : Kd.R k72 72 w b (fun k => A k ∧ B k) v xs) (g : Kd.R k72 72 w b K u ys) (hk : ∀ k, K k → some k ≠ v.ownBlock) : Kd.R k72 72 w b (fun k => A k ∧ B k ∧ some k ≠ u.ownBlock) v xs :=
 Kd.R_mono (Kd.R_tight rfl h) (fun k e => ⟨(h.1 k e.symm).1, (h.1 k e.symm).2, fun e2 => hk k (g.1 k e2.symm) e⟩)
theorem laws_FnExactWebTake.calls (k : Nat) (F : Int) (a6 : Option Addr) (a7 : Nat) (D : List (S120)) (M : Int) (O : Int) (w : World) (hr0_1 : Kd.C k120 w a6 D.length D) (hc0_1 : D.length ≤ a7) (h : laws_FnExactWebTake.f k F D M O = some true) :
  Calls Try.prog 10 #[.agg #[.int .i64 F, .slice a6 D.length a7], .agg #[.int .i64 M, .int .i64 O]] w fun e w' => e = .returned (.bool true) ∧ Below w.heap.size w w' := by
 have hu24 := Try.underlying24; have hu37 := Try.underlying37; have hu29 := Try.underlying29; have hu43 := Try.underlying43
 have o6 := am_ hr0_1
 have o7 := am_ hc0_1
 clear hr0_1 hc0_1
 have HB := am_ (Below.refl w.heap.size w)
 have H : ((laws_szWeb.f F D 1048576).bind fun I3 => (if I3 < 0 then (some true) else ((laws_toWeb.f k F D).bind fun W0 => ((laws_toEdge.f M O).bind fun W1 => ((spec_WebTake.f k W0.1 W0.2 W1.1 W1.2).bind fun o1 => ((laws_toWeb.f k F D).bind fun y5 => ((laws_toEdge.f M O).bind fun W2 => ((impl_WebTake.f k y5.1 y5.2 W2.1 W2.2).bind fun o2 => ((laws_eqWeb.f k o2.1 o2.2.1 o1.1 o1.2.1).bind fun B5 => (if B5 = true then ((laws_eqEdge.f o2.2.2.1 o2.2.2.2.1 o1.2.2.1 o1.2.2.2.1).bind fun B6 => (if B6 = true then (if (o2.2.2.2.2.1 != o1.2.2.2.2.1) = true then (laws_FnExactWebTake.j0 k o1.2.2.2.2.1 o1.2.2.2.2.2 o2.2.2.2.2.1 o2.2.2.2.2.2 true F D M O o1.1 o1.2.1 o1.2.2.1 o1.2.2.2.1 y5.1 y5.2 o2.1 o2.2.1 o2.2.2.1 o2.2.2.2.1) else (laws_FnExactWebTake.j0 k o1.2.2.2.2.1 o1.2.2.2.2.2 o2.2.2.2.2.1 o2.2.2.2.2.2 (o2.2.2.2.2.2 != o1.2.2.2.2.2) F D M O o1.1 o1.2.1 o1.2.2.1 o1.2.2.2.1 y5.1 y5.2 o2.1 o2.2.1 o2.2.2.1 o2.2.2.2.1)) else (laws_FnExactWebTake.j0 k o1.2.2.2.2.1 o1.2.2.2.2.2 o2.2.2.2.2.1 o2.2.2.2.2.2 true F D M O o1.1 o1.2.1 o1.2.2.1 o1.2.2.2.1 y5.1 y5.2 o2.1 o2.2.1 o2.2.2.1 o2.2.2.2.1))) else (laws_FnExactWebTake.j0 k o1.2.2.2.2.1 o1.2.2.2.2.2 o2.2.2.2.2.1 o2.2.2.2.2.2 true F D M O o1.1 o1.2.1 o1.2.2.1 o1.2.2.2.1 y5.1 y5.2 o2.1 o2.2.1 o2.2.2.1 o2.2.2.2.1))))))))))) = some true := h
 clear h
 obtain ⟨I3, W3, H⟩ := bs_ H
 refine ic_ H ?_ ?_ <;> clear H <;> intro W4 H
 ·clear H
  go_enter Try.func10, Try.ntmps10
  go_wp2_with (first | ((with_reducible refine gd_ 2 ?_); refine by_ 2 (cs := #[.int .i64 F, .slice a6 D.length a7]) (t := 24) ?_; intro u7 hg rB g hb; have J3 := gw_ hg; replace HB := hs_ hb; clear hb hg) | ((with_reducible refine gd_ 3 ?_); refine by_ 3 (cs := #[.int .i64 M, .int .i64 O]) (t := 37) ?_; intro u6 hg rC l hb; have J4 := gw_ hg; obtain ⟨J5, bs⟩ := qn_ g hg; replace g := qbl_ g hb; replace HB := hs_ hb; clear hb hg; obtain ⟨bt, bu⟩ := nn_ J5; obtain ⟨bv, bw, bx, bz⟩ := bc2_ g) | ((with_reducible refine gc_ 13 ?_); refine gl_ (some 24) Try.func13 #[.agg #[.int .i64 F, .slice a6 D.length a7], .int .i64 1048576] ?_; (with_reducible refine (laws_szWeb.calls F _ _ D 1048576 I3 _ ?_ ?_ W3.out).mono ?_); exact qC_ o6 HB; exact o7.out; rintro e rD ⟨rfl, hb⟩; refine ⟨_, rfl, ?_⟩; replace g := qbl_ g hb; replace l := qbl_ l hb; replace HB := hs_ hb; (try clear hb); (try clear hk)))
  go_ret
  exact ⟨qr_, qB_⟩
 obtain ⟨⟨F7, A7⟩, J6, H⟩ := bs_ H; dsimp only at H
 obtain ⟨⟨E9, F0⟩, J7, H⟩ := bs_ H; dsimp only at H
 obtain ⟨⟨e5, e9, o3, o4, f0, t0⟩, J8, H⟩ := bs_ H; dsimp only at H
 obtain ⟨⟨k7, d0⟩, J9, H⟩ := bs_ H; dsimp only at H
 obtain ⟨⟨F1, F2⟩, K0, H⟩ := bs_ H; dsimp only at H
 obtain ⟨⟨e6, d3, p0, p1, o8, t7⟩, K1, H⟩ := bs_ H; dsimp only at H
 have D7 := am_ H
 clear H
 go_enter Try.func10, Try.ntmps10
 try go_wp2_with (first | ((with_reducible refine gd_ 2 ?_); refine by_ 2 (cs := #[.int .i64 F, .slice a6 D.length a7]) (t := 24) ?_; intro u7 hg bA g hb; have J3 := gw_ hg; replace HB := hs_ hb; clear hb hg) | ((with_reducible refine gd_ 3 ?_); refine by_ 3 (cs := #[.int .i64 M, .int .i64 O]) (t := 37) ?_; intro u6 hg bB l hb; have J4 := gw_ hg; obtain ⟨J5, bs⟩ := qn_ g hg; replace g := qbl_ g hb; replace HB := hs_ hb; clear hb hg; obtain ⟨bC, bD⟩ := nn_ J5; obtain ⟨bE, bF, bG, bH⟩ := bc2_ g) | ((with_reducible refine gc_ 13 ?_); refine gl_ (some 24) Try.func13 #[.agg #[.int .i64 F, .slice a6 D.length a7], .int .i64 1048576] ?_; (with_reducible refine (laws_szWeb.calls F _ _ D 1048576 I3 _ ?_ ?_ W3.out).mono ?_); exact qC_ o6 HB; exact o7.out; rintro e K2 ⟨rfl, hb⟩; refine ⟨_, rfl, ?_⟩; replace g := qbl_ g hb; replace l := qbl_ l hb; replace HB := hs_ hb; (try clear hb); (try clear hk)))
 replace g := bd_ g; replace l := bd_ l; replace HB := hd_ HB
 refine start_ (n := 16) (S := fun w' => True) (ds := []) (bm 16 0) (by kernel_rfl) rfl (by kernel_rfl) trivial (fun hHeld => ?_); refine with_tabW laws_FnExactWebTake.tab5 laws_FnExactWebTake.bits5 (fun HT_ HW_ => ?_)
 generalize K2.drew = bI at g l HB hHeld ⊢
 refine inv_at [0, 1, 2, 3, 4, 5, 6, 7, 8, 9, 10, 11, 12, 13, 14, 15] (fun y2 b a w' => ∃ (u3 : Value) (a8 : Value) (l1 : Nat) (l2 : Nat) (A : Value) (m : Value) (j : Value) (B : Value) (m10_ : Value) (m11_ : Value), a = putSel y2 b [(0, 28, .agg #[.int .i64 F, .slice a6 D.length a7]), (1, 29, A), (2, 30, .agg #[.int .i64 M, .int .i64 O]), (3, 31, .agg #[.int .i64 E9, .int .i64 F0]), (4, 32, m), (5, 27, j), (6, 33, B), (7, 34, .agg #[.int .i64 o3, .int .i64 o4]), (8, 35, .bool f0), (9, 36, .bool t0), (10, 6, m10_), (11, 7, m11_), (14, 8, .bool f0), (15, 9, .bool t0)] ∧ (w'.heap[u7]? = some (.cells #[.int .i64 F, .slice a6 D.length a7] 24 (0, 0))) ∧ (w'.heap[u6]? = some (.cells #[.int .i64 M, .int .i64 O] 37 (0, 0))) ∧ (Below w.heap.size w w') ∧ (b 10 = true → b 11 = true → l2 ≠ l1) ∧ (b 10 = true → b 11 = true → l1 ≠ l2) ∧ (b 1 = true → Kd.R k72 72 w' w.heap.size (fun k_ => b 4 = true → some k_ ≠ (a8 : Value).ownBlock) u3 A7) ∧ (b 4 = true → Kd.R k72 72 w' w.heap.size (fun k_ => some k_ ≠ (u3 : Value).ownBlock) a8 e9) ∧ (b 10 = true → b 12 = false → w'.heap[l1]? = some (.cells #[.int .i64 0, .slice none 0 0] 29 (0, 0))) ∧ (b 10 = true → w.heap.size ≤ l1) ∧ (b 10 = true → w.heap.size ≤ l1) ∧ (b 10 = true → u7 ≠ l1) ∧ (b 10 = true → l1 ≠ u7) ∧ (b 10 = true → u6 ≠ l1) ∧ (b 10 = true → l1 ≠ u6) ∧ (b 11 = true → b 13 = false → w'.heap[l2]? = some (.cells #[.int .i64 0, .int .i64 0] 43 (0, 0))) ∧ (b 11 = true → w.heap.size ≤ l2) ∧ (b 11 = true → w.heap.size ≤ l2) ∧ (b 11 = true → u7 ≠ l2) ∧ (b 11 = true → l2 ≠ u7) ∧ (b 11 = true → u6 ≠ l2) ∧ (b 11 = true → l2 ≠ u6) ∧ (b 12 = true → w'.heap[l1]? = some (.cells #[.int .i64 e5, a8] 29 (0, 0))) ∧ (b 13 = true → w'.heap[l2]? = some (.cells #[.int .i64 o3, .int .i64 o4] 43 (0, 0))) ∧ (b 1 = true → (A : Value) = .agg #[.int .i64 F7, u3]) ∧ (b 4 = true → (m : Value) = .tuple #[.agg #[.int .i64 e5, a8], .agg #[.int .i64 o3, .int .i64 o4], .bool f0, .bool t0]) ∧ (b 5 = true → (j : Value) = .tuple #[.agg #[.int .i64 e5, a8], .agg #[.int .i64 o3, .int .i64 o4], .bool f0, .bool t0]) ∧ (b 6 = true → (B : Value) = .agg #[.int .i64 e5, a8]) ∧ (b 10 = true → (m10_ : Value) = .pointer (some ⟨l1, 0, none⟩)) ∧ (b 11 = true → (m11_ : Value) = .pointer (some ⟨l2, 0, none⟩))) HT_.out HW_.out (by kernel_rfl) (by kernel_rfl) ?_ ?_ ?_
 ·exact ⟨.bool false, .bool false, 0, 0, .bool false, .bool false, .bool false, .bool false, .bool false, .bool false, by simp only [putSel, Bool.false_eq_true, if_false], g.out, l.out, HB.out, fun h_ => absurd h_ (by decide), fun h_ => absurd h_ (by decide), fun h_ => absurd h_ (by decide), fun h_ => absurd h_ (by decide), fun h_ => absurd h_ (by decide), fun h_ => absurd h_ (by decide), fun h_ => absurd h_ (by decide), fun h_ => absurd h_ (by decide), fun h_ => absurd h_ (by decide), fun h_ => absurd h_ (by decide), fun h_ => absurd h_ (by decide), fun h_ => absurd h_ (by decide), fun h_ => absurd h_ (by decide), fun h_ => absurd h_ (by decide), fun h_ => absurd h_ (by decide), fun h_ => absurd h_ (by decide), fun h_ => absurd h_ (by decide), fun h_ => absurd h_ (by decide), fun h_ => absurd h_ (by decide), fun h_ => absurd h_ (by decide), fun h_ => absurd h_ (by decide), fun h_ => absurd h_ (by decide), fun h_ => absurd h_ (by decide), fun h_ => absurd h_ (by decide), fun h_ => absurd h_ (by decide), fun h_ => absurd h_ (by decide)⟩
 ·skip
  clear g l HB
  refine steps_cons ?_ ?_
  ·rintro b a w' ⟨u3, a8, l1, l2, A, m, j, B, m10_, m11_, ha, I, J, L, k2, k3, b0, b1, U, f1, f2, f3, f4, f5, f6, T, f7, f8, f9, g0, g1, g2, p2, p5, c5, a3, a4, c9, X, c3⟩ hb_ hon hoff
   refine ⟨_, rfl, fun K hK => ?_⟩
   have bJ : a.tmps[2]? = some (.pointer (some ⟨u7, 0, none⟩)) := by rw [ha]; exact (putSel_off rfl).trans rfl
   replace ha := am_ ha
   have g := am_ I
   have l := am_ J
   have HB := am_ L
   have hc0_ : w'.cell? ⟨u7, 0, none⟩ = some (.int .i64 F) := bl_ g 0
   have hc1_ : w'.cell? ⟨u7, 1, none⟩ = some (.slice a6 D.length a7) := bl_ g 1
   refine value_ (w1 := w') (v := .agg #[.int .i64 F, .slice a6 D.length a7]) (by rfl) rfl ?_ ?_
   ·go_simp
    (try simp only [i64_w])
    try rfl
   refine hK.out _ _ ⟨u3, a8, l1, l2, A, m, j, B, m10_, m11_, (by rw [ha.out]; exact putSel_upk 0 hb_ rfl rfl rfl), I, J, L, k2, k3, fun d => absurd ((hoff 1 (by kernel_rfl)).symm.trans d) (by decide), fun d => absurd ((hoff 4 (by kernel_rfl)).symm.trans d) (by decide), U, f1, f2, f3, f4, f5, f6, T, f7, f8, f9, g0, g1, g2, fun d => absurd ((hoff 12 (by kernel_rfl)).symm.trans d) (by decide), fun d => absurd ((hoff 13 (by kernel_rfl)).symm.trans d) (by decide), fun d => absurd ((hoff 1 (by kernel_rfl)).symm.trans d) (by decide), fun d => absurd ((hoff 4 (by kernel_rfl)).symm.trans d) (by decide), fun d => absurd ((hoff 5 (by kernel_rfl)).symm.trans d) (by decide), fun d => absurd ((hoff 6 (by kernel_rfl)).symm.trans d) (by decide), X, c3⟩
  refine steps_cons ?_ ?_
  ·rintro b a w' ⟨u3, a8, l1, l2, A, m, j, B, m10_, m11_, ha, I, J, L, k2, k3, b0, b1, U, f1, f2, f3, f4, f5, f6, T, f7, f8, f9, g0, g1, g2, p2, p5, c5, a3, a4, c9, X, c3⟩ hb_ hon hoff
   refine ⟨_, rfl, fun K hK => ?_⟩
   have F8 : a.tmps[28]? = some (.agg #[.int .i64 F, .slice a6 D.length a7]) := by rw [ha]; exact putSel_on (e := (0, 28, .agg #[.int .i64 F, .slice a6 D.length a7])) 0 rfl rfl (hon 0 (by kernel_rfl)) rfl
   replace ha := am_ ha
   have g := am_ I
   have l := am_ J
   have HB := am_ L
   refine goes_ Try.func15 (by kernel_rfl) rfl #[.agg #[.int .i64 F, .slice a6 D.length a7]] (by rfl) rfl rfl (by first | (simp only [List.map_toArray, List.map_cons, List.map_nil, Act.eval, Array.getD_eq_getD_getElem?, Option.getD_some, F8]; done) | (simp only [List.map_toArray, List.map_cons, List.map_nil, Act.eval, Array.getD_eq_getD_getElem?, Option.getD_some, F8]; rfl)) ?_
   with_reducible refine (laws_toWeb.calls k F _ _ D F7 A7 _ ?side1 ?side2 J6.out).mono ?_
   (case side1 => exact qC_ o6 HB)
   (case side2 => exact o7.out)
   rintro e x6 ⟨u3, rfl, ho0, hb⟩
   refine ⟨_, rfl, ?_⟩
   have Z := am_ (Kd.R_lower ho0 (below_size qB_))
   have a0 := qbl_ g hb
   have a1 := qbl_ l hb
   have a2 := am_ (below_step qB_ hb)
   have D8 := fun (d : b 10 = true) (o : b 12 = false) => (qbl_ (am_ (U d o)) hb).out
   have D9 := fun (d : b 11 = true) (o : b 13 = false) => (qbl_ (am_ (T d o)) hb).out
   clear g; clear l; clear HB; have a5 := Z; have g := a0; have l := a1; have HB := a2; clear Z a0 a1 a2; (try clear hb); (try clear hk); (try clear ho0)
   refine hK.out _ _ ⟨u3, a8, l1, l2, (.agg #[.int .i64 F7, u3]), m, j, B, m10_, m11_, (by rw [ha.out]; exact putSel_upk 1 hb_ rfl rfl rfl), (qk_ g), (qk_ l), qB_, k2, k3, fun _ => (by (with_reducible repeat (first | apply Kd.R_alloc | apply Kd.R_drewN | apply Kd.R_drew)); exact Kd.R_mono a5.out (fun _ _ K3 => absurd ((hoff 4 (by kernel_rfl)).symm.trans K3) (by decide))), fun d => absurd ((hoff 4 (by kernel_rfl)).symm.trans d) (by decide), D8, f1, f2, f3, f4, f5, f6, D9, f7, f8, f9, g0, g1, g2, fun d => absurd ((hoff 12 (by kernel_rfl)).symm.trans d) (by decide), fun d => absurd ((hoff 13 (by kernel_rfl)).symm.trans d) (by decide), fun _ => rfl, fun d => absurd ((hoff 4 (by kernel_rfl)).symm.trans d) (by decide), fun d => absurd ((hoff 5 (by kernel_rfl)).symm.trans d) (by decide), fun d => absurd ((hoff 6 (by kernel_rfl)).symm.trans d) (by decide), X, c3⟩
  refine steps_cons ?_ ?_
  ·rintro b a w' ⟨u3, a8, l1, l2, A, m, j, B, m10_, m11_, ha, I, J, L, k2, k3, b0, b1, U, f1, f2, f3, f4, f5, f6, T, f7, f8, f9, g0, g1, g2, p2, p5, c5, a3, a4, c9, X, c3⟩ hb_ hon hoff
   refine ⟨_, rfl, fun K hK => ?_⟩
   have W5 : a.tmps[3]? = some (.pointer (some ⟨u6, 0, none⟩)) := by rw [ha]; exact (putSel_off rfl).trans rfl
   replace ha := am_ ha
   have g := am_ I
   have l := am_ J
   have HB := am_ L
   have hc0_ : w'.cell? ⟨u6, 0, none⟩ = some (.int .i64 M) := bl_ l 0
   have hc1_ : w'.cell? ⟨u6, 1, none⟩ = some (.int .i64 O) := bl_ l 1
   refine value_ (w1 := w') (v := .agg #[.int .i64 M, .int .i64 O]) (by rfl) rfl ?_ ?_
   ·go_simp
    (try simp only [i64_w])
    try rfl
   refine hK.out _ _ ⟨u3, a8, l1, l2, A, m, j, B, m10_, m11_, (by rw [ha.out]; exact putSel_upk 2 hb_ rfl rfl rfl), I, J, L, k2, k3, b0, fun d => absurd ((hoff 4 (by kernel_rfl)).symm.trans d) (by decide), U, f1, f2, f3, f4, f5, f6, T, f7, f8, f9, g0, g1, g2, fun d => absurd ((hoff 12 (by kernel_rfl)).symm.trans d) (by decide), fun d => absurd ((hoff 13 (by kernel_rfl)).symm.trans d) (by decide), c5, fun d => absurd ((hoff 4 (by kernel_rfl)).symm.trans d) (by decide), fun d => absurd ((hoff 5 (by kernel_rfl)).symm.trans d) (by decide), fun d => absurd ((hoff 6 (by kernel_rfl)).symm.trans d) (by decide), X, c3⟩
  refine steps_cons ?_ ?_
  ·rintro b a w' ⟨u3, a8, l1, l2, A, m, j, B, m10_, m11_, ha, I, J, L, k2, k3, b0, b1, U, f1, f2, f3, f4, f5, f6, T, f7, f8, f9, g0, g1, g2, p2, p5, c5, a3, a4, c9, X, c3⟩ hb_ hon hoff
   refine ⟨_, rfl, fun K hK => ?_⟩
   have F9 : a.tmps[30]? = some (.agg #[.int .i64 M, .int .i64 O]) := by rw [ha]; exact putSel_on (e := (2, 30, .agg #[.int .i64 M, .int .i64 O])) 2 rfl rfl (hon 2 (by kernel_rfl)) rfl
   replace ha := am_ ha
   have g := am_ I
   have l := am_ J
   have HB := am_ L
   have a5 := on_ hon 1 b0
   refine goes_ Try.func21 (by kernel_rfl) rfl #[.agg #[.int .i64 M, .int .i64 O]] (by rfl) rfl rfl (by first | (simp only [List.map_toArray, List.map_cons, List.map_nil, Act.eval, Array.getD_eq_getD_getElem?, Option.getD_some, F9]; done) | (simp only [List.map_toArray, List.map_cons, List.map_nil, Act.eval, Array.getD_eq_getD_getElem?, Option.getD_some, F9]; rfl)) ?_
   with_reducible refine (laws_toEdge.calls M O E9 F0 _ J7.out).mono ?_
   rintro e bK ⟨rfl, hb⟩
   refine ⟨_, rfl, ?_⟩
   have Z := kb_ a5 hb
   have a0 := qbl_ g hb
   have a1 := qbl_ l hb
   have a2 := am_ (below_step qB_ hb)
   have D8 := fun (d : b 10 = true) (o : b 12 = false) => (qbl_ (am_ (U d o)) hb).out
   have D9 := fun (d : b 11 = true) (o : b 13 = false) => (qbl_ (am_ (T d o)) hb).out
   clear a5; clear g; clear l; clear HB; have a5 := Z; have g := a0; have l := a1; have HB := a2; clear Z a0 a1 a2; (try clear hb); (try clear hk)
   refine hK.out _ _ ⟨u3, a8, l1, l2, A, m, j, B, m10_, m11_, (by rw [ha.out]; exact putSel_upk 3 hb_ rfl rfl rfl), (qk_ g), (qk_ l), qB_, k2, k3, fun _ => (qR_ a5), fun d => absurd ((hoff 4 (by kernel_rfl)).symm.trans d) (by decide), D8, f1, f2, f3, f4, f5, f6, D9, f7, f8, f9, g0, g1, g2, fun d => absurd ((hoff 12 (by kernel_rfl)).symm.trans d) (by decide), fun d => absurd ((hoff 13 (by kernel_rfl)).symm.trans d) (by decide), c5, fun d => absurd ((hoff 4 (by kernel_rfl)).symm.trans d) (by decide), fun d => absurd ((hoff 5 (by kernel_rfl)).symm.trans d) (by decide), fun d => absurd ((hoff 6 (by kernel_rfl)).symm.trans d) (by decide), X, c3⟩
  refine steps_cons ?_ ?_
  ·rintro b a w' ⟨u3, a8, l1, l2, A, m, j, B, m10_, m11_, ha, I, J, L, k2, k3, b0, b1, U, f1, f2, f3, f4, f5, f6, T, f7, f8, f9, g0, g1, g2, p2, p5, c5, a3, a4, c9, X, c3⟩ hb_ hon hoff
   refine ⟨_, rfl, fun K hK => ?_⟩
   have E0 : a.tmps[29]? = some (A) := by rw [ha]; exact putSel_on (e := (1, 29, A)) 1 rfl rfl (hon 1 (by kernel_rfl)) rfl
   rw [c5 (hon 1 (by kernel_rfl))] at E0
   have G0 : a.tmps[31]? = some (.agg #[.int .i64 E9, .int .i64 F0]) := by rw [ha]; exact putSel_on (e := (3, 31, .agg #[.int .i64 E9, .int .i64 F0])) 3 rfl rfl (hon 3 (by kernel_rfl)) rfl
   replace ha := am_ ha
   have g := am_ I
   have l := am_ J
   have HB := am_ L
   have a5 := on_ hon 1 b0
   obtain ⟨G1, G2, G3⟩ := Kd.R_slice a5.out
   (first | subst G3 | (injection G3 with g3 p9 g4; have q0 := g3.symm; have q1 := g4.symm; clear g3 p9 g4; subst q0; subst q1))
   refine goes_ Try.func41 (by kernel_rfl) rfl #[.agg #[.int .i64 F7, .slice G1 A7.length G2], .agg #[.int .i64 E9, .int .i64 F0]] (by rfl) rfl rfl (by first | (simp only [List.map_toArray, List.map_cons, List.map_nil, Act.eval, Array.getD_eq_getD_getElem?, Option.getD_some, E0, G0]; done) | (simp only [List.map_toArray, List.map_cons, List.map_nil, Act.eval, Array.getD_eq_getD_getElem?, Option.getD_some, E0, G0]; rfl)) ?_
   with_reducible refine (spec_WebTake.calls k F7 _ _ A7 E9 F0 e5 e9 o3 o4 f0 t0 _ ?side1 ?side2 J8.out).mono ?_
   (case side1 => exact qD_ (Kd.R_reads' a5.out).2.2)
   (case side2 => exact (Kd.R_reads' a5.out).2.1)
   rintro e bL ⟨a8, rfl, ho0, hb⟩
   refine ⟨_, rfl, ?_⟩
   have Z := ke_ a5 ho0 hb
   have a0 := am_ (Kd.R_lower (Kd.R_new' ho0 (Kd.R_lt (qR_ a5))) (below_size qB_))
   have a1 := qbl_ g hb
   have a2 := qbl_ l hb
   have b2 := am_ (below_step qB_ hb)
   have D8 := fun (d : b 10 = true) (o : b 12 = false) => (qbl_ (am_ (U d o)) hb).out
   have D9 := fun (d : b 11 = true) (o : b 13 = false) => (qbl_ (am_ (T d o)) hb).out
   clear a5; clear g; clear l; clear HB; have a5 := Z; have Y := a0; have g := a1; have l := a2; have HB := b2; clear Z a0 a1 a2 b2; (try clear hb); (try clear hk); (try clear ho0)
   refine hK.out _ _ ⟨.slice G1 A7.length G2, a8, l1, l2, A, (.tuple #[.agg #[.int .i64 e5, a8], .agg #[.int .i64 o3, .int .i64 o4], .bool f0, .bool t0]), j, B, m10_, m11_, (by rw [ha.out]; exact putSel_upk 4 hb_ rfl rfl rfl), (qk_ g), (qk_ l), qB_, k2, k3, fun _ => (by (with_reducible repeat (first | apply Kd.R_alloc | apply Kd.R_drewN | apply Kd.R_drew)); exact Kd.R_mono a5.out (fun _ hk => by first | exact hk.2 | exact fun _ => hk.2 | trivial | exact qw_ hk)), fun _ => (by (with_reducible repeat (first | apply Kd.R_alloc | apply Kd.R_drewN | apply Kd.R_drew)); exact Kd.R_mono Y.out (fun _ hk => by first | exact hk.2 | exact fun _ => hk.2 | trivial | exact qw_ hk)), D8, f1, f2, f3, f4, f5, f6, D9, f7, f8, f9, g0, g1, g2, fun d => absurd ((hoff 12 (by kernel_rfl)).symm.trans d) (by decide), fun d => absurd ((hoff 13 (by kernel_rfl)).symm.trans d) (by decide), c5, fun _ => rfl, fun d => absurd ((hoff 5 (by kernel_rfl)).symm.trans d) (by decide), fun d => absurd ((hoff 6 (by kernel_rfl)).symm.trans d) (by decide), X, c3⟩
  refine steps_cons ?_ ?_
  ·rintro b a w' ⟨u3, a8, l1, l2, A, m, j, B, m10_, m11_, ha, I, J, L, k2, k3, b0, b1, U, f1, f2, f3, f4, f5, f6, T, f7, f8, f9, g0, g1, g2, p2, p5, c5, a3, a4, c9, X, c3⟩ hb_ hon hoff
   refine ⟨_, rfl, fun K hK => ?_⟩
   have K4 : a.tmps[32]? = some (m) := by rw [ha]; exact putSel_on (e := (4, 32, m)) 4 rfl rfl (hon 4 (by kernel_rfl)) rfl
   rw [a3 (hon 4 (by kernel_rfl))] at K4
   replace ha := am_ ha
   have g := am_ I
   have l := am_ J
   have HB := am_ L
   have a5 := on_ hon 1 b0
   have Y := on_ hon 4 b1
   refine value_ (w1 := w') (v := .tuple #[.agg #[.int .i64 e5, a8], .agg #[.int .i64 o3, .int .i64 o4], .bool f0, .bool t0]) (by rfl) rfl ?_ ?_
   ·go_simp
    (try simp only [i64_w])
    try rfl
   refine hK.out _ _ ⟨u3, a8, l1, l2, A, m, (.tuple #[.agg #[.int .i64 e5, a8], .agg #[.int .i64 o3, .int .i64 o4], .bool f0, .bool t0]), B, m10_, m11_, (by rw [ha.out]; exact putSel_upk 5 hb_ rfl rfl rfl), I, J, L, k2, k3, b0, b1, U, f1, f2, f3, f4, f5, f6, T, f7, f8, f9, g0, g1, g2, fun d => absurd ((hoff 12 (by kernel_rfl)).symm.trans d) (by decide), fun d => absurd ((hoff 13 (by kernel_rfl)).symm.trans d) (by decide), c5, a3, fun _ => rfl, fun d => absurd ((hoff 6 (by kernel_rfl)).symm.trans d) (by decide), X, c3⟩
  refine steps_cons ?_ ?_
  ·rintro b a w' ⟨u3, a8, l1, l2, A, m, j, B, m10_, m11_, ha, I, J, L, k2, k3, b0, b1, U, f1, f2, f3, f4, f5, f6, T, f7, f8, f9, g0, g1, g2, p2, p5, c5, a3, a4, c9, X, c3⟩ hb_ hon hoff
   refine ⟨_, rfl, fun K hK => ?_⟩
   have t8 : a.tmps[27]? = some (j) := by rw [ha]; exact putSel_on (e := (5, 27, j)) 5 rfl rfl (hon 5 (by kernel_rfl)) rfl
   rw [a4 (hon 5 (by kernel_rfl))] at t8
   replace ha := am_ ha
   have g := am_ I
   have l := am_ J
   have HB := am_ L
   have a5 := on_ hon 1 b0
   have Y := on_ hon 4 b1
   refine value_ (w1 := w') (v := .agg #[.int .i64 e5, a8]) (by rfl) rfl ?_ ?_
   ·go_simp
    (try simp only [i64_w])
    try rfl
   refine hK.out _ _ ⟨u3, a8, l1, l2, A, m, j, (.agg #[.int .i64 e5, a8]), m10_, m11_, (by rw [ha.out]; exact putSel_upk 6 hb_ rfl rfl rfl), I, J, L, k2, k3, b0, b1, U, f1, f2, f3, f4, f5, f6, T, f7, f8, f9, g0, g1, g2, fun d => absurd ((hoff 12 (by kernel_rfl)).symm.trans d) (by decide), fun d => absurd ((hoff 13 (by kernel_rfl)).symm.trans d) (by decide), c5, a3, a4, fun _ => rfl, X, c3⟩
  refine steps_cons ?_ ?_
  ·rintro b a w' ⟨u3, a8, l1, l2, A, m, j, B, m10_, m11_, ha, I, J, L, k2, k3, b0, b1, U, f1, f2, f3, f4, f5, f6, T, f7, f8, f9, g0, g1, g2, p2, p5, c5, a3, a4, c9, X, c3⟩ hb_ hon hoff
   refine ⟨_, rfl, fun K hK => ?_⟩
   have t8 : a.tmps[27]? = some (j) := by rw [ha]; exact putSel_on (e := (5, 27, j)) 5 rfl rfl (hon 5 (by kernel_rfl)) rfl
   rw [a4 (hon 5 (by kernel_rfl))] at t8
   replace ha := am_ ha
   have g := am_ I
   have l := am_ J
   have HB := am_ L
   have a5 := on_ hon 1 b0
   have Y := on_ hon 4 b1
   refine value_ (w1 := w') (v := .agg #[.int .i64 o3, .int .i64 o4]) (by rfl) rfl ?_ ?_
   ·go_simp
    (try simp only [i64_w])
    try rfl
   refine hK.out _ _ ⟨u3, a8, l1, l2, A, m, j, B, m10_, m11_, (by rw [ha.out]; exact putSel_upk 7 hb_ rfl rfl rfl), I, J, L, k2, k3, b0, b1, U, f1, f2, f3, f4, f5, f6, T, f7, f8, f9, g0, g1, g2, p2, fun d => absurd ((hoff 13 (by kernel_rfl)).symm.trans d) (by decide), c5, a3, a4, c9, X, c3⟩
  refine steps_cons ?_ ?_
  ·rintro b a w' ⟨u3, a8, l1, l2, A, m, j, B, m10_, m11_, ha, I, J, L, k2, k3, b0, b1, U, f1, f2, f3, f4, f5, f6, T, f7, f8, f9, g0, g1, g2, p2, p5, c5, a3, a4, c9, X, c3⟩ hb_ hon hoff
   refine ⟨_, rfl, fun K hK => ?_⟩
   have t8 : a.tmps[27]? = some (j) := by rw [ha]; exact putSel_on (e := (5, 27, j)) 5 rfl rfl (hon 5 (by kernel_rfl)) rfl
   rw [a4 (hon 5 (by kernel_rfl))] at t8
   replace ha := am_ ha
   have g := am_ I
   have l := am_ J
   have HB := am_ L
   have a5 := on_ hon 1 b0
   have Y := on_ hon 4 b1
   refine value_ (w1 := w') (v := .bool f0) (by rfl) rfl ?_ ?_
   ·go_simp
    (try simp only [i64_w])
    try rfl
   refine hK.out _ _ ⟨u3, a8, l1, l2, A, m, j, B, m10_, m11_, (by rw [ha.out]; exact putSel_upk 8 hb_ rfl rfl rfl), I, J, L, k2, k3, b0, b1, U, f1, f2, f3, f4, f5, f6, T, f7, f8, f9, g0, g1, g2, p2, p5, c5, a3, a4, c9, X, c3⟩
  refine steps_cons ?_ ?_
  ·rintro b a w' ⟨u3, a8, l1, l2, A, m, j, B, m10_, m11_, ha, I, J, L, k2, k3, b0, b1, U, f1, f2, f3, f4, f5, f6, T, f7, f8, f9, g0, g1, g2, p2, p5, c5, a3, a4, c9, X, c3⟩ hb_ hon hoff
   refine ⟨_, rfl, fun K hK => ?_⟩
   have t8 : a.tmps[27]? = some (j) := by rw [ha]; exact putSel_on (e := (5, 27, j)) 5 rfl rfl (hon 5 (by kernel_rfl)) rfl
   rw [a4 (hon 5 (by kernel_rfl))] at t8
   replace ha := am_ ha
   have g := am_ I
   have l := am_ J
   have HB := am_ L
   have a5 := on_ hon 1 b0
   have Y := on_ hon 4 b1
   refine value_ (w1 := w') (v := .bool t0) (by rfl) rfl ?_ ?_
   ·go_simp
    (try simp only [i64_w])
    try rfl
   refine hK.out _ _ ⟨u3, a8, l1, l2, A, m, j, B, m10_, m11_, (by rw [ha.out]; exact putSel_upk 9 hb_ rfl rfl rfl), I, J, L, k2, k3, b0, b1, U, f1, f2, f3, f4, f5, f6, T, f7, f8, f9, g0, g1, g2, p2, p5, c5, a3, a4, c9, X, c3⟩
  refine steps_cons ?_ ?_
  ·rintro b a w' ⟨u3, a8, l1, l2, A, m, j, B, m10_, m11_, ha, I, J, L, k2, k3, b0, b1, U, f1, f2, f3, f4, f5, f6, T, f7, f8, f9, g0, g1, g2, p2, p5, c5, a3, a4, c9, X, c3⟩ hb_ hon hoff
   refine ⟨_, rfl, fun K hK => ?_⟩
   replace ha := am_ ha
   have g := am_ I
   have l := am_ J
   have HB := am_ L
   refine box_step ?hg (N := 6) ?hd (cs := #[.int .i64 0, .slice none 0 0]) (t := 29) ?hr ?_; (case hd => rfl); (case hg => rfl); (case hr => first | (go_simp; done) | (go_simp; rfl))
   intro l1 hg x6 hbox hb
   have Z := qbl_ g hb
   have a0 := qbl_ l hb
   have a1 := am_ (below_step qB_ hb)
   have a2 := am_ (hbox)
   have b2 := gw_ hg
   have b6 := gw_ hg
   have b7 := (qn_ g hg).1
   have b8 := (qn_ g hg).2
   have b9 := (qn_ l hg).1
   have c8 := (qn_ l hg).2
   have K5 := fun (d : up b 10 10 = true) (o : up b 10 11 = true) => (show l2 ≠ l1 from ((by rw [hg]; exact Nat.ne_of_lt (blk_lt (qk_ (am_ (T o (hoff 13 (by kernel_rfl)))))) : l2 ≠ l1)))
   have K6 := fun (d : up b 10 10 = true) (o : up b 10 11 = true) => (show l1 ≠ l2 from ((by rw [hg]; exact Nat.ne_of_gt (blk_lt (qk_ (am_ (T o (hoff 13 (by kernel_rfl)))))) : l1 ≠ l2)))
   have K7 := fun (d : b 1 = true) => (show Kd.R k72 72 x6 w.heap.size (fun k_ => b 4 = true → some k_ ≠ (a8 : Value).ownBlock) u3 A7 from by first | exact (Kd.R_below (by (with_reducible repeat (first | apply Kd.R_alloc | apply Kd.R_drewN | apply Kd.R_drew)); exact (b0 d)) hb) | exact Kd.R_mono (Kd.R_below (by (with_reducible repeat (first | apply Kd.R_alloc | apply Kd.R_drewN | apply Kd.R_drew)); exact (b0 d)) hb) (fun _ h_ => by first | trivial | exact h_ | exact h_.1))
   have K8 := fun (d : b 4 = true) => (show Kd.R k72 72 x6 w.heap.size (fun k_ => some k_ ≠ (u3 : Value).ownBlock) a8 e9 from by first | exact (Kd.R_below (by (with_reducible repeat (first | apply Kd.R_alloc | apply Kd.R_drewN | apply Kd.R_drew)); exact (b1 d)) hb) | exact Kd.R_mono (Kd.R_below (by (with_reducible repeat (first | apply Kd.R_alloc | apply Kd.R_drewN | apply Kd.R_drew)); exact (b1 d)) hb) (fun _ h_ => by first | trivial | exact h_ | exact h_.1))
   have D9 := fun (d : b 11 = true) (o : b 13 = false) => (qbl_ (am_ (T d o)) hb).out
   clear g; clear l; clear HB; have g := Z; have l := a0; have HB := a1; have q := a2; have C6 := b2; have B1 := b6; have u9 := b7; have q7 := b8; have v6 := b9; have q8 := c8; clear Z a0 a1 a2 b2 b6 b7 b8 b9 c8; clear hb hbox hg
   refine hK.out _ _ ⟨u3, a8, l1, l2, A, m, j, B, (.pointer (some ⟨l1, 0, none⟩)), m11_, (by rw [ha.out]; exact putSel_upk 10 hb_ rfl rfl rfl), (qk_ g), (qk_ l), qB_, K5, K6, K7, K8, fun _ _ => (qk_ q), fun _ => C6.out, fun _ => B1.out, fun _ => u9.out, fun _ => q7.out, fun _ => v6.out, fun _ => q8.out, D9, f7, f8, f9, g0, g1, g2, fun d => absurd ((hoff 12 (by kernel_rfl)).symm.trans d) (by decide), fun d => absurd ((hoff 13 (by kernel_rfl)).symm.trans d) (by decide), c5, a3, a4, c9, fun _ => rfl, c3⟩
  refine steps_cons ?_ ?_
  ·rintro b a w' ⟨u3, a8, l1, l2, A, m, j, B, m10_, m11_, ha, I, J, L, k2, k3, b0, b1, U, f1, f2, f3, f4, f5, f6, T, f7, f8, f9, g0, g1, g2, p2, p5, c5, a3, a4, c9, X, c3⟩ hb_ hon hoff
   refine ⟨_, rfl, fun K hK => ?_⟩
   replace ha := am_ ha
   have g := am_ I
   have l := am_ J
   have HB := am_ L
   refine box_step ?hg (N := 7) ?hd (cs := #[.int .i64 0, .int .i64 0]) (t := 43) ?hr ?_; (case hd => rfl); (case hg => rfl); (case hr => first | (go_simp; done) | (go_simp; rfl))
   intro l2 hg x6 hbox hb
   have Z := qbl_ g hb
   have a0 := qbl_ l hb
   have a1 := am_ (below_step qB_ hb)
   have a2 := am_ (hbox)
   have b2 := gw_ hg
   have b6 := gw_ hg
   have b7 := (qn_ g hg).1
   have b8 := (qn_ g hg).2
   have b9 := (qn_ l hg).1
   have c8 := (qn_ l hg).2
   have K5 := fun (d : up b 11 10 = true) (o : up b 11 11 = true) => (show l2 ≠ l1 from ((by rw [hg]; exact Nat.ne_of_gt (blk_lt (qk_ (am_ (U d (hoff 12 (by kernel_rfl)))))) : l2 ≠ l1)))
   have K6 := fun (d : up b 11 10 = true) (o : up b 11 11 = true) => (show l1 ≠ l2 from ((by rw [hg]; exact Nat.ne_of_lt (blk_lt (qk_ (am_ (U d (hoff 12 (by kernel_rfl)))))) : l1 ≠ l2)))
   have K7 := fun (d : b 1 = true) => (show Kd.R k72 72 x6 w.heap.size (fun k_ => b 4 = true → some k_ ≠ (a8 : Value).ownBlock) u3 A7 from by first | exact (Kd.R_below (by (with_reducible repeat (first | apply Kd.R_alloc | apply Kd.R_drewN | apply Kd.R_drew)); exact (b0 d)) hb) | exact Kd.R_mono (Kd.R_below (by (with_reducible repeat (first | apply Kd.R_alloc | apply Kd.R_drewN | apply Kd.R_drew)); exact (b0 d)) hb) (fun _ h_ => by first | trivial | exact h_ | exact h_.1))
   have K8 := fun (d : b 4 = true) => (show Kd.R k72 72 x6 w.heap.size (fun k_ => some k_ ≠ (u3 : Value).ownBlock) a8 e9 from by first | exact (Kd.R_below (by (with_reducible repeat (first | apply Kd.R_alloc | apply Kd.R_drewN | apply Kd.R_drew)); exact (b1 d)) hb) | exact Kd.R_mono (Kd.R_below (by (with_reducible repeat (first | apply Kd.R_alloc | apply Kd.R_drewN | apply Kd.R_drew)); exact (b1 d)) hb) (fun _ h_ => by first | trivial | exact h_ | exact h_.1))
   have D8 := fun (d : b 10 = true) (o : b 12 = false) => (qbl_ (am_ (U d o)) hb).out
   clear g; clear l; clear HB; have g := Z; have l := a0; have HB := a1; have s := a2; have C7 := b2; have y6 := b6; have v0 := b7; have s5 := b8; have v7 := b9; have s6 := c8; clear Z a0 a1 a2 b2 b6 b7 b8 b9 c8; clear hb hbox hg
   refine hK.out _ _ ⟨u3, a8, l1, l2, A, m, j, B, m10_, (.pointer (some ⟨l2, 0, none⟩)), (by rw [ha.out]; exact putSel_upk 11 hb_ rfl rfl rfl), (qk_ g), (qk_ l), qB_, K5, K6, K7, K8, D8, f1, f2, f3, f4, f5, f6, fun _ _ => (qk_ s), fun _ => C7.out, fun _ => y6.out, fun _ => v0.out, fun _ => s5.out, fun _ => v7.out, fun _ => s6.out, fun d => absurd ((hoff 12 (by kernel_rfl)).symm.trans d) (by decide), fun d => absurd ((hoff 13 (by kernel_rfl)).symm.trans d) (by decide), c5, a3, a4, c9, X, fun _ => rfl⟩
  refine steps_cons ?_ ?_
  ·rintro b a w' ⟨u3, a8, l1, l2, A, m, j, B, m10_, m11_, ha, I, J, L, k2, k3, b0, b1, U, f1, f2, f3, f4, f5, f6, T, f7, f8, f9, g0, g1, g2, p2, p5, c5, a3, a4, c9, X, c3⟩ hb_ hon hoff
   refine ⟨_, rfl, fun K hK => ?_⟩
   have bM : a.tmps[6]? = some (m10_) := by rw [ha]; exact putSel_on (e := (10, 6, m10_)) 10 rfl rfl (hon 10 (by kernel_rfl)) rfl
   rw [X (hon 10 (by kernel_rfl))] at bM
   have K9 : a.tmps[33]? = some (B) := by rw [ha]; exact putSel_on (e := (6, 33, B)) 6 rfl rfl (hon 6 (by kernel_rfl)) rfl
   rw [c9 (hon 6 (by kernel_rfl))] at K9
   replace ha := am_ ha
   have g := am_ I
   have l := am_ J
   have HB := am_ L
   have v8 := am_ (k2 (hon 10 (by kernel_rfl)) (hon 11 (by kernel_rfl)))
   have q9 := am_ (k3 (hon 10 (by kernel_rfl)) (hon 11 (by kernel_rfl)))
   have a5 := on_ hon 1 b0
   have Y := on_ hon 4 b1
   have q := am_ (U (hon 10 (by kernel_rfl)) hb_)
   have C6 := on_ hon 10 f1
   have B1 := on_ hon 10 f2
   have u9 := on_ hon 10 f3
   have q7 := on_ hon 10 f4
   have v6 := on_ hon 10 f5
   have q8 := on_ hon 10 f6
   have s := am_ (T (hon 11 (by kernel_rfl)) (hoff 13 (by kernel_rfl)))
   have C7 := on_ hon 11 f7
   have y6 := on_ hon 11 f8
   have v0 := on_ hon 11 f9
   have s5 := on_ hon 11 g0
   have v7 := on_ hon 11 g1
   have s6 := on_ hon 11 g2
   obtain ⟨E1, E2, G4⟩ := Kd.R_slice Y.out
   (first | subst G4 | (injection G4 with g3 p9 g4; have q0 := g3.symm; have q1 := g4.symm; clear g3 p9 g4; subst q0; subst q1))
   have W6 : w'.cell? ⟨l1, 0, none⟩ = some (.int .i64 0) := bl_ q 0
   have L0 := blk_frozen q.out 0
   have bN := u9.out; have bO := v6.out; have bP := v8.out; have bQ := q7.out; have bR := q8.out; have bS := q9.out
   have W7 : w'.cell? ⟨l1, 1, none⟩ = some (.slice none 0 0) := bl_ q 1
   have L1 := blk_frozen q.out 1
   have bT := u9.out; have bU := v6.out; have bV := v8.out; have bW := q7.out; have bX := q8.out; have bY := q9.out
   refine skip_ (w1 := ?_) (by rfl) rfl ?_ ?_
   rotate_left
   ·go_simp
    rfl
   refine hK.out _ _ ⟨u3, .slice E1 e9.length E2, l1, l2, A, m, j, B, m10_, m11_, (by rw [ha.out]; exact putSel_none (v := undef) rfl), (qf_ g), (qf_ l), qB_, fun _ _ => v8.out, fun _ _ => q9.out, fun _ => (by (with_reducible repeat (first | apply Kd.R_alloc | apply Kd.R_drewN | apply Kd.R_drew)); exact Kd.R_mono (Kd.R_far (p := ⟨l1, 1, none⟩) (Kd.R_far (p := ⟨l1, 0, none⟩) (Kd.R_types a5.out q.out (by decide)) (fun _ hk => by first | exact hk.2 | exact fun _ => hk.2 | trivial | exact qw_ hk) (.int .i64 e5)) (fun _ hk => by first | exact hk.2 | exact fun _ => hk.2 | trivial | exact qw_ hk) (.slice E1 e9.length E2)) (fun _ hk => by first | exact hk.1 | trivial | exact qw_ hk)), fun _ => (by (with_reducible repeat (first | apply Kd.R_alloc | apply Kd.R_drewN | apply Kd.R_drew)); exact Kd.R_mono (Kd.R_far (p := ⟨l1, 1, none⟩) (Kd.R_far (p := ⟨l1, 0, none⟩) (Kd.R_types Y.out q.out (by decide)) (fun _ hk => by first | exact hk.2 | exact fun _ => hk.2 | trivial | exact qw_ hk) (.int .i64 e5)) (fun _ hk => by first | exact hk.2 | exact fun _ => hk.2 | trivial | exact qw_ hk) (.slice E1 e9.length E2)) (fun _ hk => by first | exact hk.1 | trivial | exact qw_ hk)), fun _ o => absurd ((up_self b 12).symm.trans o) (by decide), fun _ => C6.out, fun _ => B1.out, fun _ => u9.out, fun _ => q7.out, fun _ => v6.out, fun _ => q8.out, fun _ _ => (qf_ s), fun _ => C7.out, fun _ => y6.out, fun _ => v0.out, fun _ => s5.out, fun _ => v7.out, fun _ => s6.out, fun _ => (qp_ q), fun d => absurd ((hoff 13 (by kernel_rfl)).symm.trans d) (by decide), c5, a3, a4, c9, X, c3⟩
  refine steps_cons ?_ ?_
  ·rintro b a w' ⟨u3, a8, l1, l2, A, m, j, B, m10_, m11_, ha, I, J, L, k2, k3, b0, b1, U, f1, f2, f3, f4, f5, f6, T, f7, f8, f9, g0, g1, g2, p2, p5, c5, a3, a4, c9, X, c3⟩ hb_ hon hoff
   refine ⟨_, rfl, fun K hK => ?_⟩
   have bZ : a.tmps[7]? = some (m11_) := by rw [ha]; exact putSel_on (e := (11, 7, m11_)) 11 rfl rfl (hon 11 (by kernel_rfl)) rfl
   rw [c3 (hon 11 (by kernel_rfl))] at bZ
   have ca : a.tmps[34]? = some (.agg #[.int .i64 o3, .int .i64 o4]) := by rw [ha]; exact putSel_on (e := (7, 34, .agg #[.int .i64 o3, .int .i64 o4])) 7 rfl rfl (hon 7 (by kernel_rfl)) rfl
   replace ha := am_ ha
   have g := am_ I
   have l := am_ J
   have HB := am_ L
   have v8 := am_ (k2 (hon 10 (by kernel_rfl)) (hon 11 (by kernel_rfl)))
   have q9 := am_ (k3 (hon 10 (by kernel_rfl)) (hon 11 (by kernel_rfl)))
   have a5 := on_ hon 1 b0
   have Y := on_ hon 4 b1
   have C6 := on_ hon 10 f1
   have B1 := on_ hon 10 f2
   have u9 := on_ hon 10 f3
   have q7 := on_ hon 10 f4
   have v6 := on_ hon 10 f5
   have q8 := on_ hon 10 f6
   have s := am_ (T (hon 11 (by kernel_rfl)) hb_)
   have C7 := on_ hon 11 f7
   have y6 := on_ hon 11 f8
   have v0 := on_ hon 11 f9
   have s5 := on_ hon 11 g0
   have v7 := on_ hon 11 g1
   have s6 := on_ hon 11 g2
   have q := on_ hon 12 p2
   have W8 : w'.cell? ⟨l2, 0, none⟩ = some (.int .i64 0) := bl_ s 0
   have L2 := blk_frozen s.out 0
   have cb := v0.out; have cc := v7.out; have cd := q9.out; have ce := s5.out; have cf := s6.out; have cg := v8.out
   have W9 : w'.cell? ⟨l2, 1, none⟩ = some (.int .i64 0) := bl_ s 1
   have L3 := blk_frozen s.out 1
   have ch := v0.out; have ci := v7.out; have cj := q9.out; have ck := s5.out; have cl := s6.out; have cm := v8.out
   refine skip_ (w1 := ?_) (by rfl) rfl ?_ ?_
   rotate_left
   ·go_simp
    rfl
   refine hK.out _ _ ⟨u3, a8, l1, l2, A, m, j, B, m10_, m11_, (by rw [ha.out]; exact putSel_none (v := undef) rfl), (qf_ g), (qf_ l), qB_, fun _ _ => v8.out, fun _ _ => q9.out, fun _ => (by (with_reducible repeat (first | apply Kd.R_alloc | apply Kd.R_drewN | apply Kd.R_drew)); exact Kd.R_mono (Kd.R_far (p := ⟨l2, 1, none⟩) (Kd.R_far (p := ⟨l2, 0, none⟩) (Kd.R_types a5.out s.out (by decide)) (fun _ hk => by first | exact hk.2 | exact fun _ => hk.2 | trivial | exact qw_ hk) (.int .i64 o3)) (fun _ hk => by first | exact hk.2 | exact fun _ => hk.2 | trivial | exact qw_ hk) (.int .i64 o4)) (fun _ hk => by first | exact hk.1 | trivial | exact qw_ hk)), fun _ => (by (with_reducible repeat (first | apply Kd.R_alloc | apply Kd.R_drewN | apply Kd.R_drew)); exact Kd.R_mono (Kd.R_far (p := ⟨l2, 1, none⟩) (Kd.R_far (p := ⟨l2, 0, none⟩) (Kd.R_types Y.out s.out (by decide)) (fun _ hk => by first | exact hk.2 | exact fun _ => hk.2 | trivial | exact qw_ hk) (.int .i64 o3)) (fun _ hk => by first | exact hk.2 | exact fun _ => hk.2 | trivial | exact qw_ hk) (.int .i64 o4)) (fun _ hk => by first | exact hk.1 | trivial | exact qw_ hk)), fun _ o => absurd ((hon 12 (by kernel_rfl)).symm.trans o) (by decide), fun _ => C6.out, fun _ => B1.out, fun _ => u9.out, fun _ => q7.out, fun _ => v6.out, fun _ => q8.out, fun _ o => absurd ((up_self b 13).symm.trans o) (by decide), fun _ => C7.out, fun _ => y6.out, fun _ => v0.out, fun _ => s5.out, fun _ => v7.out, fun _ => s6.out, fun _ => (qf_ q), fun _ => (qp_ s), c5, a3, a4, c9, X, c3⟩
  refine steps_cons ?_ ?_
  ·rintro b a w' ⟨u3, a8, l1, l2, A, m, j, B, m10_, m11_, ha, I, J, L, k2, k3, b0, b1, U, f1, f2, f3, f4, f5, f6, T, f7, f8, f9, g0, g1, g2, p2, p5, c5, a3, a4, c9, X, c3⟩ hb_ hon hoff
   refine ⟨_, rfl, fun K hK => ?_⟩
   have cn : a.tmps[35]? = some (.bool f0) := by rw [ha]; exact putSel_on (e := (8, 35, .bool f0)) 8 rfl rfl (hon 8 (by kernel_rfl)) rfl
   replace ha := am_ ha
   have g := am_ I
   have l := am_ J
   have HB := am_ L
   have v8 := am_ (k2 (hon 10 (by kernel_rfl)) (hon 11 (by kernel_rfl)))
   have q9 := am_ (k3 (hon 10 (by kernel_rfl)) (hon 11 (by kernel_rfl)))
   have a5 := on_ hon 1 b0
   have Y := on_ hon 4 b1
   have C6 := on_ hon 10 f1
   have B1 := on_ hon 10 f2
   have u9 := on_ hon 10 f3
   have q7 := on_ hon 10 f4
   have v6 := on_ hon 10 f5
   have q8 := on_ hon 10 f6
   have C7 := on_ hon 11 f7
   have y6 := on_ hon 11 f8
   have v0 := on_ hon 11 f9
   have s5 := on_ hon 11 g0
   have v7 := on_ hon 11 g1
   have s6 := on_ hon 11 g2
   have q := on_ hon 12 p2
   have s := on_ hon 13 p5
   refine value_ (w1 := w') (v := .bool f0) (by rfl) rfl ?_ ?_
   ·go_simp
    (try simp only [i64_w])
    try rfl
   refine hK.out _ _ ⟨u3, a8, l1, l2, A, m, j, B, m10_, m11_, (by rw [ha.out]; exact putSel_upk 12 hb_ rfl rfl rfl), I, J, L, k2, k3, b0, b1, fun _ o => absurd ((hon 12 (by kernel_rfl)).symm.trans o) (by decide), f1, f2, f3, f4, f5, f6, fun _ o => absurd ((hon 13 (by kernel_rfl)).symm.trans o) (by decide), f7, f8, f9, g0, g1, g2, p2, p5, c5, a3, a4, c9, X, c3⟩
  refine steps_cons ?_ ?_
  ·rintro b a w' ⟨u3, a8, l1, l2, A, m, j, B, m10_, m11_, ha, I, J, L, k2, k3, b0, b1, U, f1, f2, f3, f4, f5, f6, T, f7, f8, f9, g0, g1, g2, p2, p5, c5, a3, a4, c9, X, c3⟩ hb_ hon hoff
   refine ⟨_, rfl, fun K hK => ?_⟩
   have co : a.tmps[36]? = some (.bool t0) := by rw [ha]; exact putSel_on (e := (9, 36, .bool t0)) 9 rfl rfl (hon 9 (by kernel_rfl)) rfl
   replace ha := am_ ha
   have g := am_ I
   have l := am_ J
   have HB := am_ L
   have v8 := am_ (k2 (hon 10 (by kernel_rfl)) (hon 11 (by kernel_rfl)))
   have q9 := am_ (k3 (hon 10 (by kernel_rfl)) (hon 11 (by kernel_rfl)))
   have a5 := on_ hon 1 b0
   have Y := on_ hon 4 b1
   have C6 := on_ hon 10 f1
   have B1 := on_ hon 10 f2
   have u9 := on_ hon 10 f3
   have q7 := on_ hon 10 f4
   have v6 := on_ hon 10 f5
   have q8 := on_ hon 10 f6
   have C7 := on_ hon 11 f7
   have y6 := on_ hon 11 f8
   have v0 := on_ hon 11 f9
   have s5 := on_ hon 11 g0
   have v7 := on_ hon 11 g1
   have s6 := on_ hon 11 g2
   have q := on_ hon 12 p2
   have s := on_ hon 13 p5
   refine value_ (w1 := w') (v := .bool t0) (by rfl) rfl ?_ ?_
   ·go_simp
    (try simp only [i64_w])
    try rfl
   refine hK.out _ _ ⟨u3, a8, l1, l2, A, m, j, B, m10_, m11_, (by rw [ha.out]; exact putSel_upk 13 hb_ rfl rfl rfl), I, J, L, k2, k3, b0, b1, fun _ o => absurd ((hon 12 (by kernel_rfl)).symm.trans o) (by decide), f1, f2, f3, f4, f5, f6, fun _ o => absurd ((hon 13 (by kernel_rfl)).symm.trans o) (by decide), f7, f8, f9, g0, g1, g2, p2, p5, c5, a3, a4, c9, X, c3⟩
  exact steps_nil
 rintro b a cp hall ⟨u3, a8, l1, l2, A, m, j, B, m10_, m11_, ha, I, J, L, k2, k3, b0, b1, U, f1, f2, f3, f4, f5, f6, T, f7, f8, f9, g0, g1, g2, p2, p5, c5, a3, a4, c9, X, c3⟩
 clear g l HB
 have hb0_ := hall 0 (by kernel_rfl)
 have hb1_ := hall 1 (by kernel_rfl)
 have hb2_ := hall 2 (by kernel_rfl)
 have hb3_ := hall 3 (by kernel_rfl)
 have hb4_ := hall 4 (by kernel_rfl)
 have hb5_ := hall 5 (by kernel_rfl)
 have hb6_ := hall 6 (by kernel_rfl)
 have hb7_ := hall 7 (by kernel_rfl)
 have hb8_ := hall 8 (by kernel_rfl)
 have hb9_ := hall 9 (by kernel_rfl)
 have hb10_ := hall 10 (by kernel_rfl)
 have hb11_ := hall 11 (by kernel_rfl)
 have hb12_ := hall 12 (by kernel_rfl)
 have hb13_ := hall 13 (by kernel_rfl)
 have hb14_ := hall 14 (by kernel_rfl)
 have hb15_ := hall 15 (by kernel_rfl)
 subst ha
 obtain rfl := c5 hb1_
 obtain rfl := a3 hb4_
 obtain rfl := a4 hb5_
 obtain rfl := c9 hb6_
 obtain rfl := X hb10_
 obtain rfl := c3 hb11_
 simp only [putSel, hb0_, hb1_, hb2_, hb3_, hb4_, hb5_, hb6_, hb7_, hb8_, hb9_, hb10_, hb11_, hb12_, hb13_, hb14_, hb15_, if_true, Act.put, sA_, sB_, sC_]
 have g := am_ I
 clear I
 have l := am_ J
 clear J
 have HB := am_ L
 clear L
 have v8 := am_ (k2 hb10_ hb11_)
 clear k2
 have q9 := am_ (k3 hb10_ hb11_)
 clear k3
 have a5 := am_ (Kd.R_mono (b0 hb1_) (fun _ hk => hk hb4_))
 clear b0
 have Y := am_ (b1 hb4_)
 clear b1; clear U
 have C6 := am_ (f1 hb10_)
 clear f1
 have B1 := am_ (f2 hb10_)
 clear f2
 have u9 := am_ (f3 hb10_)
 clear f3
 have q7 := am_ (f4 hb10_)
 clear f4
 have v6 := am_ (f5 hb10_)
 clear f5
 have q8 := am_ (f6 hb10_)
 clear f6; clear T
 have C7 := am_ (f7 hb11_)
 clear f7
 have y6 := am_ (f8 hb11_)
 clear f8
 have v0 := am_ (f9 hb11_)
 clear f9
 have s5 := am_ (g0 hb11_)
 clear g0
 have v7 := am_ (g1 hb11_)
 clear g1
 have s6 := am_ (g2 hb11_)
 clear g2
 have q := am_ (p2 hb12_)
 clear p2
 have s := am_ (p5 hb13_)
 clear p5; clear hall hb0_ hb1_ hb2_ hb3_ hb4_ hb5_ hb6_ hb7_ hb8_ hb9_ hb10_ hb11_ hb12_ hb13_ hb14_ hb15_; obtain ⟨cq, cr⟩ := nn_ u9; obtain ⟨ct, cu⟩ := nn_ v0
 obtain ⟨cv, cw, cx, cy⟩ := bc2_ g
 try go_wp2_with (first | ((with_reducible refine gc_ 15 ?_); refine gl_ (some 38) Try.func15 #[.agg #[.int .i64 F, .slice a6 D.length a7]] ?_; (with_reducible refine (laws_toWeb.calls k F _ _ D k7 d0 _ ?_ ?_ J9.out).mono ?_); exact qC_ o6 HB; exact o7.out; rintro e cz ⟨cA, rfl, ho0, hb⟩; refine ⟨_, rfl, ?_⟩; have c4 := am_ (Kd.R_lower (Kd.R_new' (Kd.R_new' ho0 (Kd.R_lt (qR_ a5))) (Kd.R_lt (qR_ Y))) (below_size qB_)); replace a5 := ke_ a5 ho0 hb; replace Y := ke_ Y ho0 hb; replace g := qbl_ g hb; replace l := qbl_ l hb; replace q := qbl_ q hb; replace s := qbl_ s hb; replace HB := hs_ hb; (try clear hb); (try clear hk); (try clear ho0)) | ((with_reducible refine gd_ 10 ?_); refine by_ 10 (cs := #[.int .i64 0, .slice none 0 0]) (t := 29) ?_; intro d4 hg r4 u hb; have G5 := gw_ hg; obtain ⟨cB, X0⟩ := qn_ g hg; obtain ⟨cC, X1⟩ := qn_ l hg; obtain ⟨u5, X2⟩ := qn_ q hg; obtain ⟨A8, X3⟩ := qn_ s hg; replace a5 := kb_ a5 hb; replace Y := kb_ Y hb; replace c4 := kb_ c4 hb; replace g := qbl_ g hb; replace l := qbl_ l hb; replace q := qbl_ q hb; replace s := qbl_ s hb; replace HB := hs_ hb; clear hb hg; obtain ⟨cD, cE⟩ := nn_ X0; obtain ⟨cF, cG⟩ := nn_ X1; obtain ⟨cH, cI⟩ := nn_ X2; obtain ⟨cJ, cK⟩ := nn_ X3; obtain ⟨cL, cM, cN, cO⟩ := bc2_ u; obtain ⟨c6, c7, L4⟩ := Kd.R_slice c4.out; subst L4))
 have Z : Aside0 (Kd.R k72 72 ((r4.setCell ⟨d4, 0, none⟩ (.int .i64 k7)).setCell ⟨d4, 1, none⟩ (.slice c6 d0.length c7)) w.heap.size (fun k_ => some k_ ≠ (a8 : Value).ownBlock ∧ some k_ ≠ (.slice c6 d0.length c7 : Value).ownBlock) u3 A7) := ⟨by (with_reducible repeat (first | apply Kd.R_alloc | apply Kd.R_drewN | apply Kd.R_drew)); exact Kd.R_mono (Kd.R_far (p := ⟨d4, 1, none⟩) (Kd.R_far (p := ⟨d4, 0, none⟩) (Kd.R_types a5.out u.out (by decide)) (fun _ hk => by first | exact hk.2 | exact fun _ => hk.2 | trivial | exact qw_ hk) (.int .i64 k7)) (fun _ hk => by first | exact hk.2 | exact fun _ => hk.2 | trivial | exact qw_ hk) (.slice c6 d0.length c7)) (fun _ hk => by first | exact ⟨hk.1.1, hk.1.2⟩ | trivial | exact qw_ hk)⟩
 have a0 : Aside0 (Kd.R k72 72 ((r4.setCell ⟨d4, 0, none⟩ (.int .i64 k7)).setCell ⟨d4, 1, none⟩ (.slice c6 d0.length c7)) w.heap.size (fun k_ => some k_ ≠ (u3 : Value).ownBlock ∧ some k_ ≠ (.slice c6 d0.length c7 : Value).ownBlock) a8 e9) := ⟨by (with_reducible repeat (first | apply Kd.R_alloc | apply Kd.R_drewN | apply Kd.R_drew)); exact Kd.R_mono (Kd.R_far (p := ⟨d4, 1, none⟩) (Kd.R_far (p := ⟨d4, 0, none⟩) (Kd.R_types Y.out u.out (by decide)) (fun _ hk => by first | exact hk.2 | exact fun _ => hk.2 | trivial | exact qw_ hk) (.int .i64 k7)) (fun _ hk => by first | exact hk.2 | exact fun _ => hk.2 | trivial | exact qw_ hk) (.slice c6 d0.length c7)) (fun _ hk => by first | exact ⟨hk.1.1, hk.1.2⟩ | trivial | exact qw_ hk)⟩
 have a1 : Aside0 (Kd.R k72 72 ((r4.setCell ⟨d4, 0, none⟩ (.int .i64 k7)).setCell ⟨d4, 1, none⟩ (.slice c6 d0.length c7)) w.heap.size (fun k_ => some k_ ≠ (u3 : Value).ownBlock ∧ some k_ ≠ (a8 : Value).ownBlock) (.slice c6 d0.length c7) d0) := ⟨by (with_reducible repeat (first | apply Kd.R_alloc | apply Kd.R_drewN | apply Kd.R_drew)); exact Kd.R_mono (Kd.R_far (p := ⟨d4, 1, none⟩) (Kd.R_far (p := ⟨d4, 0, none⟩) (Kd.R_types c4.out u.out (by decide)) (fun _ hk => by first | exact hk.2 | exact fun _ => hk.2 | trivial | exact qw_ hk) (.int .i64 k7)) (fun _ hk => by first | exact hk.2 | exact fun _ => hk.2 | trivial | exact qw_ hk) (.slice c6 d0.length c7)) (fun _ hk => by first | exact ⟨hk.1.1.2, hk.1.2⟩ | trivial | exact qw_ hk)⟩
 have a2 : Aside0 (((r4.setCell ⟨d4, 0, none⟩ (.int .i64 k7)).setCell ⟨d4, 1, none⟩ (.slice c6 d0.length c7)).heap[u7]? = some (.cells #[.int .i64 F, .slice a6 D.length a7] 24 (0, 0))) := ⟨qf_ g⟩
 have b2 : Aside0 (((r4.setCell ⟨d4, 0, none⟩ (.int .i64 k7)).setCell ⟨d4, 1, none⟩ (.slice c6 d0.length c7)).heap[u6]? = some (.cells #[.int .i64 M, .int .i64 O] 37 (0, 0))) := ⟨qf_ l⟩
 have b6 : Aside0 (((r4.setCell ⟨d4, 0, none⟩ (.int .i64 k7)).setCell ⟨d4, 1, none⟩ (.slice c6 d0.length c7)).heap[l1]? = some (.cells #[.int .i64 e5, a8] 29 (0, 0))) := ⟨qf_ q⟩
 have b7 : Aside0 (((r4.setCell ⟨d4, 0, none⟩ (.int .i64 k7)).setCell ⟨d4, 1, none⟩ (.slice c6 d0.length c7)).heap[l2]? = some (.cells #[.int .i64 o3, .int .i64 o4] 43 (0, 0))) := ⟨qf_ s⟩
 have b8 : Aside0 (((r4.setCell ⟨d4, 0, none⟩ (.int .i64 k7)).setCell ⟨d4, 1, none⟩ (.slice c6 d0.length c7)).heap[d4]? = some (.cells #[.int .i64 k7, .slice c6 d0.length c7] 29 (0, 0))) := ⟨qp_ u⟩
 have b9 : Aside0 (Below w.heap.size w ((r4.setCell ⟨d4, 0, none⟩ (.int .i64 k7)).setCell ⟨d4, 1, none⟩ (.slice c6 d0.length c7))) := ⟨qB_⟩
 (try clear a5); (try clear Y); (try clear c4); (try clear g); (try clear l); (try clear q); (try clear s); (try clear u); (try clear HB)
 generalize ((r4.setCell ⟨d4, 0, none⟩ (.int .i64 k7)).setCell ⟨d4, 1, none⟩ (.slice c6 d0.length c7)) = L5 at Z a0 a1 a2 b2 b6 b7 b8 b9 ⊢
 have a5 := Z; have Y := a0; have c4 := a1; have g := a2; have l := b2; have q := b6; have s := b7; have u := b8; have HB := b9; clear Z a0 a1 a2 b2 b6 b7 b8 b9
 replace a5 := rd_ a5; replace Y := rd_ Y; replace c4 := rd_ c4; replace g := bd_ g; replace l := bd_ l; replace q := bd_ q; replace s := bd_ s; replace u := bd_ u; replace HB := hd_ HB
 refine start_ (n := 15) (S := fun w' => True) (ds := []) (bm 15 0) (by kernel_rfl) rfl (by kernel_rfl) trivial (fun hHeld => ?_); refine with_tabW laws_FnExactWebTake.tab7 laws_FnExactWebTake.bits7 (fun HT_ HW_ => ?_)
 generalize L5.drew = cP at a5 Y c4 g l q s u HB hHeld ⊢
 refine inv_at [0, 1, 2, 3, 4, 5, 6, 7, 8, 9, 10, 11, 12, 13, 14] (fun y2 b a w' => ∃ (d1 : Value) (l3 : Nat) (b4 : Nat) (c1 : Value) (m : Value) (j : Value) (c2 : Value) (m10_ : Value), a = putSel y2 b [(0, 40, .agg #[.int .i64 k7, .slice c6 d0.length c7]), (1, 41, .agg #[.int .i64 M, .int .i64 O]), (2, 42, .agg #[.int .i64 F1, .int .i64 F2]), (3, 43, c1), (4, 39, m), (5, 44, j), (6, 45, .agg #[.int .i64 p0, .int .i64 p1]), (7, 46, .bool o8), (8, 47, .bool t7), (9, 11, c2), (10, 12, m10_), (13, 13, .bool o8), (14, 14, .bool t7)] ∧ (Kd.R k72 72 w' w.heap.size (fun k_ => some k_ ≠ (a8 : Value).ownBlock ∧ some k_ ≠ (.slice c6 d0.length c7 : Value).ownBlock) u3 A7) ∧ (Kd.R k72 72 w' w.heap.size (fun k_ => some k_ ≠ (u3 : Value).ownBlock ∧ some k_ ≠ (.slice c6 d0.length c7 : Value).ownBlock) a8 e9) ∧ (Kd.R k72 72 w' w.heap.size (fun k_ => some k_ ≠ (u3 : Value).ownBlock ∧ some k_ ≠ (a8 : Value).ownBlock) (.slice c6 d0.length c7) d0) ∧ (w'.heap[u7]? = some (.cells #[.int .i64 F, .slice a6 D.length a7] 24 (0, 0))) ∧ (w'.heap[u6]? = some (.cells #[.int .i64 M, .int .i64 O] 37 (0, 0))) ∧ (w'.heap[l1]? = some (.cells #[.int .i64 e5, a8] 29 (0, 0))) ∧ (w'.heap[l2]? = some (.cells #[.int .i64 o3, .int .i64 o4] 43 (0, 0))) ∧ (w'.heap[d4]? = some (.cells #[.int .i64 k7, .slice c6 d0.length c7] 29 (0, 0))) ∧ (Below w.heap.size w w') ∧ (b 9 = true → b 10 = true → b4 ≠ l3) ∧ (b 9 = true → b 10 = true → l3 ≠ b4) ∧ (b 3 = true → Kd.R k72 72 w' w.heap.size (fun k_ => some k_ ≠ (u3 : Value).ownBlock ∧ some k_ ≠ (a8 : Value).ownBlock ∧ some k_ ≠ (.slice c6 d0.length c7 : Value).ownBlock) d1 d3) ∧ (b 9 = true → b 11 = false → w'.heap[l3]? = some (.cells #[.int .i64 0, .slice none 0 0] 29 (0, 0))) ∧ (b 9 = true → w.heap.size ≤ l3) ∧ (b 9 = true → w.heap.size ≤ l3) ∧ (b 9 = true → u7 ≠ l3) ∧ (b 9 = true → l3 ≠ u7) ∧ (b 9 = true → u6 ≠ l3) ∧ (b 9 = true → l3 ≠ u6) ∧ (b 9 = true → l1 ≠ l3) ∧ (b 9 = true → l3 ≠ l1) ∧ (b 9 = true → l2 ≠ l3) ∧ (b 9 = true → l3 ≠ l2) ∧ (b 9 = true → d4 ≠ l3) ∧ (b 9 = true → l3 ≠ d4) ∧ (b 10 = true → b 12 = false → w'.heap[b4]? = some (.cells #[.int .i64 0, .int .i64 0] 43 (0, 0))) ∧ (b 10 = true → w.heap.size ≤ b4) ∧ (b 10 = true → w.heap.size ≤ b4) ∧ (b 10 = true → u7 ≠ b4) ∧ (b 10 = true → b4 ≠ u7) ∧ (b 10 = true → u6 ≠ b4) ∧ (b 10 = true → b4 ≠ u6) ∧ (b 10 = true → l1 ≠ b4) ∧ (b 10 = true → b4 ≠ l1) ∧ (b 10 = true → l2 ≠ b4) ∧ (b 10 = true → b4 ≠ l2) ∧ (b 10 = true → d4 ≠ b4) ∧ (b 10 = true → b4 ≠ d4) ∧ (b 11 = true → w'.heap[l3]? = some (.cells #[.int .i64 e6, d1] 29 (0, 0))) ∧ (b 12 = true → w'.heap[b4]? = some (.cells #[.int .i64 p0, .int .i64 p1] 43 (0, 0))) ∧ (b 3 = true → (c1 : Value) = .tuple #[.agg #[.int .i64 e6, d1], .agg #[.int .i64 p0, .int .i64 p1], .bool o8, .bool t7]) ∧ (b 4 = true → (m : Value) = .tuple #[.agg #[.int .i64 e6, d1], .agg #[.int .i64 p0, .int .i64 p1], .bool o8, .bool t7]) ∧ (b 5 = true → (j : Value) = .agg #[.int .i64 e6, d1]) ∧ (b 9 = true → (c2 : Value) = .pointer (some ⟨l3, 0, none⟩)) ∧ (b 10 = true → (m10_ : Value) = .pointer (some ⟨b4, 0, none⟩))) HT_.out HW_.out (by kernel_rfl) (by kernel_rfl) ?_ ?_ ?_
 ·exact ⟨.bool false, 0, 0, .bool false, .bool false, .bool false, .bool false, .bool false, by simp only [putSel, Bool.false_eq_true, if_false], a5.out, Y.out, c4.out, g.out, l.out, q.out, s.out, u.out, HB.out, fun h_ => absurd h_ (by decide), fun h_ => absurd h_ (by decide), fun h_ => absurd h_ (by decide), fun h_ => absurd h_ (by decide), fun h_ => absurd h_ (by decide), fun h_ => absurd h_ (by decide), fun h_ => absurd h_ (by decide), fun h_ => absurd h_ (by decide), fun h_ => absurd h_ (by decide), fun h_ => absurd h_ (by decide), fun h_ => absurd h_ (by decide), fun h_ => absurd h_ (by decide), fun h_ => absurd h_ (by decide), fun h_ => absurd h_ (by decide), fun h_ => absurd h_ (by decide), fun h_ => absurd h_ (by decide), fun h_ => absurd h_ (by decide), fun h_ => absurd h_ (by decide), fun h_ => absurd h_ (by decide), fun h_ => absurd h_ (by decide), fun h_ => absurd h_ (by decide), fun h_ => absurd h_ (by decide), fun h_ => absurd h_ (by decide), fun h_ => absurd h_ (by decide), fun h_ => absurd h_ (by decide), fun h_ => absurd h_ (by decide), fun h_ => absurd h_ (by decide), fun h_ => absurd h_ (by decide), fun h_ => absurd h_ (by decide), fun h_ => absurd h_ (by decide), fun h_ => absurd h_ (by decide), fun h_ => absurd h_ (by decide), fun h_ => absurd h_ (by decide), fun h_ => absurd h_ (by decide), fun h_ => absurd h_ (by decide), fun h_ => absurd h_ (by decide)⟩
 ·skip
  clear g l q s u HB a5 Y c4
  refine steps_cons ?_ ?_
  ·rintro b a w' ⟨d1, l3, b4, c1, m, j, c2, m10_, ha, b0, b1, e2, I, J, U, T, a9, L, n4, n5, e8, c0, k8, k9, l4, l5, l6, l7, l8, l9, m0, m1, m2, m3, b5, m4, m5, m6, m7, m8, j3, j4, m9, n0, n1, n2, n3, p4, q2, u8, a3, a4, u4, X⟩ hb_ hon hoff
   refine ⟨_, rfl, fun K hK => ?_⟩
   have cQ : a.tmps[10]? = some (.pointer (some ⟨d4, 0, none⟩)) := by rw [ha]; exact (putSel_off rfl).trans rfl
   replace ha := am_ ha
   have a5 := am_ b0
   have Y := am_ b1
   have c4 := am_ e2
   have g := am_ I
   have l := am_ J
   have q := am_ U
   have s := am_ T
   have u := am_ a9
   have HB := am_ L
   have hc0_ : w'.cell? ⟨d4, 0, none⟩ = some (.int .i64 k7) := bl_ u 0
   have hc1_ : w'.cell? ⟨d4, 1, none⟩ = some (.slice c6 d0.length c7) := bl_ u 1
   refine value_ (w1 := w') (v := .agg #[.int .i64 k7, .slice c6 d0.length c7]) (by rfl) rfl ?_ ?_
   ·go_simp
    (try simp only [i64_w])
    try rfl
   refine hK.out _ _ ⟨d1, l3, b4, c1, m, j, c2, m10_, (by rw [ha.out]; exact putSel_upk 0 hb_ rfl rfl rfl), b0, b1, e2, I, J, U, T, a9, L, n4, n5, fun d => absurd ((hoff 3 (by kernel_rfl)).symm.trans d) (by decide), c0, k8, k9, l4, l5, l6, l7, l8, l9, m0, m1, m2, m3, b5, m4, m5, m6, m7, m8, j3, j4, m9, n0, n1, n2, n3, fun d => absurd ((hoff 11 (by kernel_rfl)).symm.trans d) (by decide), fun d => absurd ((hoff 12 (by kernel_rfl)).symm.trans d) (by decide), fun d => absurd ((hoff 3 (by kernel_rfl)).symm.trans d) (by decide), fun d => absurd ((hoff 4 (by kernel_rfl)).symm.trans d) (by decide), fun d => absurd ((hoff 5 (by kernel_rfl)).symm.trans d) (by decide), u4, X⟩
  refine steps_cons ?_ ?_
  ·rintro b a w' ⟨d1, l3, b4, c1, m, j, c2, m10_, ha, b0, b1, e2, I, J, U, T, a9, L, n4, n5, e8, c0, k8, k9, l4, l5, l6, l7, l8, l9, m0, m1, m2, m3, b5, m4, m5, m6, m7, m8, j3, j4, m9, n0, n1, n2, n3, p4, q2, u8, a3, a4, u4, X⟩ hb_ hon hoff
   refine ⟨_, rfl, fun K hK => ?_⟩
   have W5 : a.tmps[3]? = some (.pointer (some ⟨u6, 0, none⟩)) := by rw [ha]; exact (putSel_off rfl).trans rfl
   replace ha := am_ ha
   have a5 := am_ b0
   have Y := am_ b1
   have c4 := am_ e2
   have g := am_ I
   have l := am_ J
   have q := am_ U
   have s := am_ T
   have u := am_ a9
   have HB := am_ L
   have hc0_ : w'.cell? ⟨u6, 0, none⟩ = some (.int .i64 M) := bl_ l 0
   have hc1_ : w'.cell? ⟨u6, 1, none⟩ = some (.int .i64 O) := bl_ l 1
   refine value_ (w1 := w') (v := .agg #[.int .i64 M, .int .i64 O]) (by rfl) rfl ?_ ?_
   ·go_simp
    (try simp only [i64_w])
    try rfl
   refine hK.out _ _ ⟨d1, l3, b4, c1, m, j, c2, m10_, (by rw [ha.out]; exact putSel_upk 1 hb_ rfl rfl rfl), b0, b1, e2, I, J, U, T, a9, L, n4, n5, fun d => absurd ((hoff 3 (by kernel_rfl)).symm.trans d) (by decide), c0, k8, k9, l4, l5, l6, l7, l8, l9, m0, m1, m2, m3, b5, m4, m5, m6, m7, m8, j3, j4, m9, n0, n1, n2, n3, fun d => absurd ((hoff 11 (by kernel_rfl)).symm.trans d) (by decide), fun d => absurd ((hoff 12 (by kernel_rfl)).symm.trans d) (by decide), fun d => absurd ((hoff 3 (by kernel_rfl)).symm.trans d) (by decide), fun d => absurd ((hoff 4 (by kernel_rfl)).symm.trans d) (by decide), fun d => absurd ((hoff 5 (by kernel_rfl)).symm.trans d) (by decide), u4, X⟩
  refine steps_cons ?_ ?_
  ·rintro b a w' ⟨d1, l3, b4, c1, m, j, c2, m10_, ha, b0, b1, e2, I, J, U, T, a9, L, n4, n5, e8, c0, k8, k9, l4, l5, l6, l7, l8, l9, m0, m1, m2, m3, b5, m4, m5, m6, m7, m8, j3, j4, m9, n0, n1, n2, n3, p4, q2, u8, a3, a4, u4, X⟩ hb_ hon hoff
   refine ⟨_, rfl, fun K hK => ?_⟩
   have G6 : a.tmps[41]? = some (.agg #[.int .i64 M, .int .i64 O]) := by rw [ha]; exact putSel_on (e := (1, 41, .agg #[.int .i64 M, .int .i64 O])) 1 rfl rfl (hon 1 (by kernel_rfl)) rfl
   replace ha := am_ ha
   have a5 := am_ b0
   have Y := am_ b1
   have c4 := am_ e2
   have g := am_ I
   have l := am_ J
   have q := am_ U
   have s := am_ T
   have u := am_ a9
   have HB := am_ L
   refine goes_ Try.func21 (by kernel_rfl) rfl #[.agg #[.int .i64 M, .int .i64 O]] (by rfl) rfl rfl (by first | (simp only [List.map_toArray, List.map_cons, List.map_nil, Act.eval, Array.getD_eq_getD_getElem?, Option.getD_some, G6]; done) | (simp only [List.map_toArray, List.map_cons, List.map_nil, Act.eval, Array.getD_eq_getD_getElem?, Option.getD_some, G6]; rfl)) ?_
   with_reducible refine (laws_toEdge.calls M O F1 F2 _ K0.out).mono ?_
   rintro e A9 ⟨rfl, hb⟩
   refine ⟨_, rfl, ?_⟩
   have Z := kb_ a5 hb
   have a0 := kb_ Y hb
   have a1 := kb_ c4 hb
   have a2 := qbl_ g hb
   have b2 := qbl_ l hb
   have b6 := qbl_ q hb
   have b7 := qbl_ s hb
   have b8 := qbl_ u hb
   have b9 := am_ (below_step qB_ hb)
   have B7 := fun (d : b 9 = true) (o : b 11 = false) => (qbl_ (am_ (c0 d o)) hb).out
   have B8 := fun (d : b 10 = true) (o : b 12 = false) => (qbl_ (am_ (b5 d o)) hb).out
   clear a5; clear Y; clear c4; clear g; clear l; clear q; clear s; clear u; clear HB; have a5 := Z; have Y := a0; have c4 := a1; have g := a2; have l := b2; have q := b6; have s := b7; have u := b8; have HB := b9; clear Z a0 a1 a2 b2 b6 b7 b8 b9; (try clear hb); (try clear hk)
   refine hK.out _ _ ⟨d1, l3, b4, c1, m, j, c2, m10_, (by rw [ha.out]; exact putSel_upk 2 hb_ rfl rfl rfl), (qR_ a5), (qR_ Y), (qR_ c4), (qk_ g), (qk_ l), (qk_ q), (qk_ s), (qk_ u), qB_, n4, n5, fun d => absurd ((hoff 3 (by kernel_rfl)).symm.trans d) (by decide), B7, k8, k9, l4, l5, l6, l7, l8, l9, m0, m1, m2, m3, B8, m4, m5, m6, m7, m8, j3, j4, m9, n0, n1, n2, n3, fun d => absurd ((hoff 11 (by kernel_rfl)).symm.trans d) (by decide), fun d => absurd ((hoff 12 (by kernel_rfl)).symm.trans d) (by decide), fun d => absurd ((hoff 3 (by kernel_rfl)).symm.trans d) (by decide), fun d => absurd ((hoff 4 (by kernel_rfl)).symm.trans d) (by decide), fun d => absurd ((hoff 5 (by kernel_rfl)).symm.trans d) (by decide), u4, X⟩
  refine steps_cons ?_ ?_
  ·rintro b a w' ⟨d1, l3, b4, c1, m, j, c2, m10_, ha, b0, b1, e2, I, J, U, T, a9, L, n4, n5, e8, c0, k8, k9, l4, l5, l6, l7, l8, l9, m0, m1, m2, m3, b5, m4, m5, m6, m7, m8, j3, j4, m9, n0, n1, n2, n3, p4, q2, u8, a3, a4, u4, X⟩ hb_ hon hoff
   refine ⟨_, rfl, fun K hK => ?_⟩
   have G7 : a.tmps[40]? = some (.agg #[.int .i64 k7, .slice c6 d0.length c7]) := by rw [ha]; exact putSel_on (e := (0, 40, .agg #[.int .i64 k7, .slice c6 d0.length c7])) 0 rfl rfl (hon 0 (by kernel_rfl)) rfl
   have G8 : a.tmps[42]? = some (.agg #[.int .i64 F1, .int .i64 F2]) := by rw [ha]; exact putSel_on (e := (2, 42, .agg #[.int .i64 F1, .int .i64 F2])) 2 rfl rfl (hon 2 (by kernel_rfl)) rfl
   replace ha := am_ ha
   have a5 := am_ b0
   have Y := am_ b1
   have c4 := am_ e2
   have g := am_ I
   have l := am_ J
   have q := am_ U
   have s := am_ T
   have u := am_ a9
   have HB := am_ L
   refine goes_ Try.func42 (by kernel_rfl) rfl #[.agg #[.int .i64 k7, .slice c6 d0.length c7], .agg #[.int .i64 F1, .int .i64 F2]] (by rfl) rfl rfl (by first | (simp only [List.map_toArray, List.map_cons, List.map_nil, Act.eval, Array.getD_eq_getD_getElem?, Option.getD_some, G7, G8]; done) | (simp only [List.map_toArray, List.map_cons, List.map_nil, Act.eval, Array.getD_eq_getD_getElem?, Option.getD_some, G7, G8]; rfl)) ?_
   with_reducible refine (impl_WebTake.calls k k7 _ _ d0 F1 F2 e6 d3 p0 p1 o8 t7 _ ?side1 ?side2 K1.out).mono ?_
   (case side1 => exact qD_ (Kd.R_reads' c4.out).2.2)
   (case side2 => exact (Kd.R_reads' c4.out).2.1)
   rintro e cR ⟨d1, rfl, ho0, hb⟩
   refine ⟨_, rfl, ?_⟩
   have Z := ke_ a5 ho0 hb
   have a0 := ke_ Y ho0 hb
   have a1 := ke_ c4 ho0 hb
   have a2 := am_ (Kd.R_lower (Kd.R_new' (Kd.R_new' (Kd.R_new' ho0 (Kd.R_lt (qR_ a5))) (Kd.R_lt (qR_ Y))) (Kd.R_lt (qR_ c4))) (below_size qB_))
   have b2 := qbl_ g hb
   have b6 := qbl_ l hb
   have b7 := qbl_ q hb
   have b8 := qbl_ s hb
   have b9 := qbl_ u hb
   have c8 := am_ (below_step qB_ hb)
   have B7 := fun (d : b 9 = true) (o : b 11 = false) => (qbl_ (am_ (c0 d o)) hb).out
   have B8 := fun (d : b 10 = true) (o : b 12 = false) => (qbl_ (am_ (b5 d o)) hb).out
   clear a5; clear Y; clear c4; clear g; clear l; clear q; clear s; clear u; clear HB; have a5 := Z; have Y := a0; have c4 := a1; have d5 := a2; have g := b2; have l := b6; have q := b7; have s := b8; have u := b9; have HB := c8; clear Z a0 a1 a2 b2 b6 b7 b8 b9 c8; (try clear hb); (try clear hk); (try clear ho0)
   refine hK.out _ _ ⟨d1, l3, b4, (.tuple #[.agg #[.int .i64 e6, d1], .agg #[.int .i64 p0, .int .i64 p1], .bool o8, .bool t7]), m, j, c2, m10_, (by rw [ha.out]; exact putSel_upk 3 hb_ rfl rfl rfl), (by (with_reducible repeat (first | apply Kd.R_alloc | apply Kd.R_drewN | apply Kd.R_drew)); exact Kd.R_mono a5.out (fun _ hk => by first | exact ⟨hk.1.1, ⟨hk.1.2, hk.2⟩⟩ | trivial | exact qw_ hk)), (by (with_reducible repeat (first | apply Kd.R_alloc | apply Kd.R_drewN | apply Kd.R_drew)); exact Kd.R_mono Y.out (fun _ hk => by first | exact ⟨hk.1.1, ⟨hk.1.2, hk.2⟩⟩ | trivial | exact qw_ hk)), (by (with_reducible repeat (first | apply Kd.R_alloc | apply Kd.R_drewN | apply Kd.R_drew)); exact Kd.R_mono c4.out (fun _ hk => by first | exact ⟨hk.1.1, ⟨hk.1.2, hk.2⟩⟩ | trivial | exact qw_ hk)), (qk_ g), (qk_ l), (qk_ q), (qk_ s), (qk_ u), qB_, n4, n5, fun _ => (by (with_reducible repeat (first | apply Kd.R_alloc | apply Kd.R_drewN | apply Kd.R_drew)); exact Kd.R_mono d5.out (fun _ hk => by first | exact ⟨hk.1.1.2, ⟨hk.1.2, hk.2⟩⟩ | trivial | exact qw_ hk)), B7, k8, k9, l4, l5, l6, l7, l8, l9, m0, m1, m2, m3, B8, m4, m5, m6, m7, m8, j3, j4, m9, n0, n1, n2, n3, fun d => absurd ((hoff 11 (by kernel_rfl)).symm.trans d) (by decide), fun d => absurd ((hoff 12 (by kernel_rfl)).symm.trans d) (by decide), fun _ => rfl, fun d => absurd ((hoff 4 (by kernel_rfl)).symm.trans d) (by decide), fun d => absurd ((hoff 5 (by kernel_rfl)).symm.trans d) (by decide), u4, X⟩
  refine steps_cons ?_ ?_
  ·rintro b a w' ⟨d1, l3, b4, c1, m, j, c2, m10_, ha, b0, b1, e2, I, J, U, T, a9, L, n4, n5, e8, c0, k8, k9, l4, l5, l6, l7, l8, l9, m0, m1, m2, m3, b5, m4, m5, m6, m7, m8, j3, j4, m9, n0, n1, n2, n3, p4, q2, u8, a3, a4, u4, X⟩ hb_ hon hoff
   refine ⟨_, rfl, fun K hK => ?_⟩
   have L6 : a.tmps[43]? = some (c1) := by rw [ha]; exact putSel_on (e := (3, 43, c1)) 3 rfl rfl (hon 3 (by kernel_rfl)) rfl
   rw [u8 (hon 3 (by kernel_rfl))] at L6
   replace ha := am_ ha
   have a5 := am_ b0
   have Y := am_ b1
   have c4 := am_ e2
   have g := am_ I
   have l := am_ J
   have q := am_ U
   have s := am_ T
   have u := am_ a9
   have HB := am_ L
   have d5 := on_ hon 3 e8
   refine value_ (w1 := w') (v := .tuple #[.agg #[.int .i64 e6, d1], .agg #[.int .i64 p0, .int .i64 p1], .bool o8, .bool t7]) (by rfl) rfl ?_ ?_
   ·go_simp
    (try simp only [i64_w])
    try rfl
   refine hK.out _ _ ⟨d1, l3, b4, c1, (.tuple #[.agg #[.int .i64 e6, d1], .agg #[.int .i64 p0, .int .i64 p1], .bool o8, .bool t7]), j, c2, m10_, (by rw [ha.out]; exact putSel_upk 4 hb_ rfl rfl rfl), b0, b1, e2, I, J, U, T, a9, L, n4, n5, e8, c0, k8, k9, l4, l5, l6, l7, l8, l9, m0, m1, m2, m3, b5, m4, m5, m6, m7, m8, j3, j4, m9, n0, n1, n2, n3, fun d => absurd ((hoff 11 (by kernel_rfl)).symm.trans d) (by decide), fun d => absurd ((hoff 12 (by kernel_rfl)).symm.trans d) (by decide), u8, fun _ => rfl, fun d => absurd ((hoff 5 (by kernel_rfl)).symm.trans d) (by decide), u4, X⟩
  refine steps_cons ?_ ?_
  ·rintro b a w' ⟨d1, l3, b4, c1, m, j, c2, m10_, ha, b0, b1, e2, I, J, U, T, a9, L, n4, n5, e8, c0, k8, k9, l4, l5, l6, l7, l8, l9, m0, m1, m2, m3, b5, m4, m5, m6, m7, m8, j3, j4, m9, n0, n1, n2, n3, p4, q2, u8, a3, a4, u4, X⟩ hb_ hon hoff
   refine ⟨_, rfl, fun K hK => ?_⟩
   have t9 : a.tmps[39]? = some (m) := by rw [ha]; exact putSel_on (e := (4, 39, m)) 4 rfl rfl (hon 4 (by kernel_rfl)) rfl
   rw [a3 (hon 4 (by kernel_rfl))] at t9
   replace ha := am_ ha
   have a5 := am_ b0
   have Y := am_ b1
   have c4 := am_ e2
   have g := am_ I
   have l := am_ J
   have q := am_ U
   have s := am_ T
   have u := am_ a9
   have HB := am_ L
   have d5 := on_ hon 3 e8
   refine value_ (w1 := w') (v := .agg #[.int .i64 e6, d1]) (by rfl) rfl ?_ ?_
   ·go_simp
    (try simp only [i64_w])
    try rfl
   refine hK.out _ _ ⟨d1, l3, b4, c1, m, (.agg #[.int .i64 e6, d1]), c2, m10_, (by rw [ha.out]; exact putSel_upk 5 hb_ rfl rfl rfl), b0, b1, e2, I, J, U, T, a9, L, n4, n5, e8, c0, k8, k9, l4, l5, l6, l7, l8, l9, m0, m1, m2, m3, b5, m4, m5, m6, m7, m8, j3, j4, m9, n0, n1, n2, n3, fun d => absurd ((hoff 11 (by kernel_rfl)).symm.trans d) (by decide), fun d => absurd ((hoff 12 (by kernel_rfl)).symm.trans d) (by decide), u8, a3, fun _ => rfl, u4, X⟩
  refine steps_cons ?_ ?_
  ·rintro b a w' ⟨d1, l3, b4, c1, m, j, c2, m10_, ha, b0, b1, e2, I, J, U, T, a9, L, n4, n5, e8, c0, k8, k9, l4, l5, l6, l7, l8, l9, m0, m1, m2, m3, b5, m4, m5, m6, m7, m8, j3, j4, m9, n0, n1, n2, n3, p4, q2, u8, a3, a4, u4, X⟩ hb_ hon hoff
   refine ⟨_, rfl, fun K hK => ?_⟩
   have t9 : a.tmps[39]? = some (m) := by rw [ha]; exact putSel_on (e := (4, 39, m)) 4 rfl rfl (hon 4 (by kernel_rfl)) rfl
   rw [a3 (hon 4 (by kernel_rfl))] at t9
   replace ha := am_ ha
   have a5 := am_ b0
   have Y := am_ b1
   have c4 := am_ e2
   have g := am_ I
   have l := am_ J
   have q := am_ U
   have s := am_ T
   have u := am_ a9
   have HB := am_ L
   have d5 := on_ hon 3 e8
   refine value_ (w1 := w') (v := .agg #[.int .i64 p0, .int .i64 p1]) (by rfl) rfl ?_ ?_
   ·go_simp
    (try simp only [i64_w])
    try rfl
   refine hK.out _ _ ⟨d1, l3, b4, c1, m, j, c2, m10_, (by rw [ha.out]; exact putSel_upk 6 hb_ rfl rfl rfl), b0, b1, e2, I, J, U, T, a9, L, n4, n5, e8, c0, k8, k9, l4, l5, l6, l7, l8, l9, m0, m1, m2, m3, b5, m4, m5, m6, m7, m8, j3, j4, m9, n0, n1, n2, n3, p4, fun d => absurd ((hoff 12 (by kernel_rfl)).symm.trans d) (by decide), u8, a3, a4, u4, X⟩
  refine steps_cons ?_ ?_
  ·rintro b a w' ⟨d1, l3, b4, c1, m, j, c2, m10_, ha, b0, b1, e2, I, J, U, T, a9, L, n4, n5, e8, c0, k8, k9, l4, l5, l6, l7, l8, l9, m0, m1, m2, m3, b5, m4, m5, m6, m7, m8, j3, j4, m9, n0, n1, n2, n3, p4, q2, u8, a3, a4, u4, X⟩ hb_ hon hoff
   refine ⟨_, rfl, fun K hK => ?_⟩
   have t9 : a.tmps[39]? = some (m) := by rw [ha]; exact putSel_on (e := (4, 39, m)) 4 rfl rfl (hon 4 (by kernel_rfl)) rfl
   rw [a3 (hon 4 (by kernel_rfl))] at t9
   replace ha := am_ ha
   have a5 := am_ b0
   have Y := am_ b1
   have c4 := am_ e2
   have g := am_ I
   have l := am_ J
   have q := am_ U
   have s := am_ T
   have u := am_ a9
   have HB := am_ L
   have d5 := on_ hon 3 e8
   refine value_ (w1 := w') (v := .bool o8) (by rfl) rfl ?_ ?_
   ·go_simp
    (try simp only [i64_w])
    try rfl
   refine hK.out _ _ ⟨d1, l3, b4, c1, m, j, c2, m10_, (by rw [ha.out]; exact putSel_upk 7 hb_ rfl rfl rfl), b0, b1, e2, I, J, U, T, a9, L, n4, n5, e8, c0, k8, k9, l4, l5, l6, l7, l8, l9, m0, m1, m2, m3, b5, m4, m5, m6, m7, m8, j3, j4, m9, n0, n1, n2, n3, p4, q2, u8, a3, a4, u4, X⟩
  refine steps_cons ?_ ?_
  ·rintro b a w' ⟨d1, l3, b4, c1, m, j, c2, m10_, ha, b0, b1, e2, I, J, U, T, a9, L, n4, n5, e8, c0, k8, k9, l4, l5, l6, l7, l8, l9, m0, m1, m2, m3, b5, m4, m5, m6, m7, m8, j3, j4, m9, n0, n1, n2, n3, p4, q2, u8, a3, a4, u4, X⟩ hb_ hon hoff
   refine ⟨_, rfl, fun K hK => ?_⟩
   have t9 : a.tmps[39]? = some (m) := by rw [ha]; exact putSel_on (e := (4, 39, m)) 4 rfl rfl (hon 4 (by kernel_rfl)) rfl
   rw [a3 (hon 4 (by kernel_rfl))] at t9
   replace ha := am_ ha
   have a5 := am_ b0
   have Y := am_ b1
   have c4 := am_ e2
   have g := am_ I
   have l := am_ J
   have q := am_ U
   have s := am_ T
   have u := am_ a9
   have HB := am_ L
   have d5 := on_ hon 3 e8
   refine value_ (w1 := w') (v := .bool t7) (by rfl) rfl ?_ ?_
   ·go_simp
    (try simp only [i64_w])
    try rfl
   refine hK.out _ _ ⟨d1, l3, b4, c1, m, j, c2, m10_, (by rw [ha.out]; exact putSel_upk 8 hb_ rfl rfl rfl), b0, b1, e2, I, J, U, T, a9, L, n4, n5, e8, c0, k8, k9, l4, l5, l6, l7, l8, l9, m0, m1, m2, m3, b5, m4, m5, m6, m7, m8, j3, j4, m9, n0, n1, n2, n3, p4, q2, u8, a3, a4, u4, X⟩
  refine steps_cons ?_ ?_
  ·rintro b a w' ⟨d1, l3, b4, c1, m, j, c2, m10_, ha, b0, b1, e2, I, J, U, T, a9, L, n4, n5, e8, c0, k8, k9, l4, l5, l6, l7, l8, l9, m0, m1, m2, m3, b5, m4, m5, m6, m7, m8, j3, j4, m9, n0, n1, n2, n3, p4, q2, u8, a3, a4, u4, X⟩ hb_ hon hoff
   refine ⟨_, rfl, fun K hK => ?_⟩
   replace ha := am_ ha
   have a5 := am_ b0
   have Y := am_ b1
   have c4 := am_ e2
   have g := am_ I
   have l := am_ J
   have q := am_ U
   have s := am_ T
   have u := am_ a9
   have HB := am_ L
   refine box_step ?hg (N := 11) ?hd (cs := #[.int .i64 0, .slice none 0 0]) (t := 29) ?hr ?_; (case hd => rfl); (case hg => rfl); (case hr => first | (go_simp; done) | (go_simp; rfl))
   intro l3 hg A9 hbox hb
   have Z := kb_ a5 hb
   have a0 := kb_ Y hb
   have a1 := kb_ c4 hb
   have a2 := qbl_ g hb
   have b2 := qbl_ l hb
   have b6 := qbl_ q hb
   have b7 := qbl_ s hb
   have b8 := qbl_ u hb
   have b9 := am_ (below_step qB_ hb)
   have c8 := am_ (hbox)
   have n10_ := gw_ hg
   have n11_ := gw_ hg
   have n12_ := (qn_ g hg).1
   have n13_ := (qn_ g hg).2
   have n14_ := (qn_ l hg).1
   have n15_ := (qn_ l hg).2
   have n16_ := (qn_ q hg).1
   have n17_ := (qn_ q hg).2
   have n18_ := (qn_ s hg).1
   have n19_ := (qn_ s hg).2
   have n20_ := (qn_ u hg).1
   have n21_ := (qn_ u hg).2
   have L7 := fun (d : up b 9 9 = true) (o : up b 9 10 = true) => (show b4 ≠ l3 from ((by rw [hg]; exact Nat.ne_of_lt (blk_lt (qk_ (am_ (b5 o (hoff 12 (by kernel_rfl)))))) : b4 ≠ l3)))
   have L8 := fun (d : up b 9 9 = true) (o : up b 9 10 = true) => (show l3 ≠ b4 from ((by rw [hg]; exact Nat.ne_of_gt (blk_lt (qk_ (am_ (b5 o (hoff 12 (by kernel_rfl)))))) : l3 ≠ b4)))
   have L9 := fun (d : b 3 = true) => (show Kd.R k72 72 A9 w.heap.size (fun k_ => some k_ ≠ (u3 : Value).ownBlock ∧ some k_ ≠ (a8 : Value).ownBlock ∧ some k_ ≠ (.slice c6 d0.length c7 : Value).ownBlock) d1 d3 from by first | exact (Kd.R_below (by (with_reducible repeat (first | apply Kd.R_alloc | apply Kd.R_drewN | apply Kd.R_drew)); exact (e8 d)) hb) | exact Kd.R_mono (Kd.R_below (by (with_reducible repeat (first | apply Kd.R_alloc | apply Kd.R_drewN | apply Kd.R_drew)); exact (e8 d)) hb) (fun _ h_ => by first | trivial | exact h_ | exact h_.1))
   have B8 := fun (d : b 10 = true) (o : b 12 = false) => (qbl_ (am_ (b5 d o)) hb).out
   clear a5; clear Y; clear c4; clear g; clear l; clear q; clear s; clear u; clear HB; have a5 := Z; have Y := a0; have c4 := a1; have g := a2; have l := b2; have q := b6; have s := b7; have u := b8; have HB := b9; have y := c8; have C8 := n10_; have B3 := n11_; have v9 := n12_; have r5 := n13_; have y7 := n14_; have r6 := n15_; have w2 := n16_; have r7 := n17_; have x7 := n18_; have r8 := n19_; have v1 := n20_; have r9 := n21_; clear Z a0 a1 a2 b2 b6 b7 b8 b9 c8 n10_ n11_ n12_ n13_ n14_ n15_ n16_ n17_ n18_ n19_ n20_ n21_; clear hb hbox hg
   refine hK.out _ _ ⟨d1, l3, b4, c1, m, j, (.pointer (some ⟨l3, 0, none⟩)), m10_, (by rw [ha.out]; exact putSel_upk 9 hb_ rfl rfl rfl), (qR_ a5), (qR_ Y), (qR_ c4), (qk_ g), (qk_ l), (qk_ q), (qk_ s), (qk_ u), qB_, L7, L8, L9, fun _ _ => (qk_ y), fun _ => C8.out, fun _ => B3.out, fun _ => v9.out, fun _ => r5.out, fun _ => y7.out, fun _ => r6.out, fun _ => w2.out, fun _ => r7.out, fun _ => x7.out, fun _ => r8.out, fun _ => v1.out, fun _ => r9.out, B8, m4, m5, m6, m7, m8, j3, j4, m9, n0, n1, n2, n3, fun d => absurd ((hoff 11 (by kernel_rfl)).symm.trans d) (by decide), fun d => absurd ((hoff 12 (by kernel_rfl)).symm.trans d) (by decide), u8, a3, a4, fun _ => rfl, X⟩
  refine steps_cons ?_ ?_
  ·rintro b a w' ⟨d1, l3, b4, c1, m, j, c2, m10_, ha, b0, b1, e2, I, J, U, T, a9, L, n4, n5, e8, c0, k8, k9, l4, l5, l6, l7, l8, l9, m0, m1, m2, m3, b5, m4, m5, m6, m7, m8, j3, j4, m9, n0, n1, n2, n3, p4, q2, u8, a3, a4, u4, X⟩ hb_ hon hoff
   refine ⟨_, rfl, fun K hK => ?_⟩
   replace ha := am_ ha
   have a5 := am_ b0
   have Y := am_ b1
   have c4 := am_ e2
   have g := am_ I
   have l := am_ J
   have q := am_ U
   have s := am_ T
   have u := am_ a9
   have HB := am_ L
   refine box_step ?hg (N := 12) ?hd (cs := #[.int .i64 0, .int .i64 0]) (t := 43) ?hr ?_; (case hd => rfl); (case hg => rfl); (case hr => first | (go_simp; done) | (go_simp; rfl))
   intro b4 hg A9 hbox hb
   have Z := kb_ a5 hb
   have a0 := kb_ Y hb
   have a1 := kb_ c4 hb
   have a2 := qbl_ g hb
   have b2 := qbl_ l hb
   have b6 := qbl_ q hb
   have b7 := qbl_ s hb
   have b8 := qbl_ u hb
   have b9 := am_ (below_step qB_ hb)
   have c8 := am_ (hbox)
   have n10_ := gw_ hg
   have n11_ := gw_ hg
   have n12_ := (qn_ g hg).1
   have n13_ := (qn_ g hg).2
   have n14_ := (qn_ l hg).1
   have n15_ := (qn_ l hg).2
   have n16_ := (qn_ q hg).1
   have n17_ := (qn_ q hg).2
   have n18_ := (qn_ s hg).1
   have n19_ := (qn_ s hg).2
   have n20_ := (qn_ u hg).1
   have n21_ := (qn_ u hg).2
   have L7 := fun (d : up b 10 9 = true) (o : up b 10 10 = true) => (show b4 ≠ l3 from ((by rw [hg]; exact Nat.ne_of_gt (blk_lt (qk_ (am_ (c0 d (hoff 11 (by kernel_rfl)))))) : b4 ≠ l3)))
   have L8 := fun (d : up b 10 9 = true) (o : up b 10 10 = true) => (show l3 ≠ b4 from ((by rw [hg]; exact Nat.ne_of_lt (blk_lt (qk_ (am_ (c0 d (hoff 11 (by kernel_rfl)))))) : l3 ≠ b4)))
   have L9 := fun (d : b 3 = true) => (show Kd.R k72 72 A9 w.heap.size (fun k_ => some k_ ≠ (u3 : Value).ownBlock ∧ some k_ ≠ (a8 : Value).ownBlock ∧ some k_ ≠ (.slice c6 d0.length c7 : Value).ownBlock) d1 d3 from by first | exact (Kd.R_below (by (with_reducible repeat (first | apply Kd.R_alloc | apply Kd.R_drewN | apply Kd.R_drew)); exact (e8 d)) hb) | exact Kd.R_mono (Kd.R_below (by (with_reducible repeat (first | apply Kd.R_alloc | apply Kd.R_drewN | apply Kd.R_drew)); exact (e8 d)) hb) (fun _ h_ => by first | trivial | exact h_ | exact h_.1))
   have B7 := fun (d : b 9 = true) (o : b 11 = false) => (qbl_ (am_ (c0 d o)) hb).out
   clear a5; clear Y; clear c4; clear g; clear l; clear q; clear s; clear u; clear HB; have a5 := Z; have Y := a0; have c4 := a1; have g := a2; have l := b2; have q := b6; have s := b7; have u := b8; have HB := b9; have z := c8; have C9 := n10_; have B4 := n11_; have y8 := n12_; have t3 := n13_; have y9 := n14_; have t4 := n15_; have r0 := n16_; have z0 := n17_; have x8 := n18_; have t5 := n19_; have v2 := n20_; have t6 := n21_; clear Z a0 a1 a2 b2 b6 b7 b8 b9 c8 n10_ n11_ n12_ n13_ n14_ n15_ n16_ n17_ n18_ n19_ n20_ n21_; clear hb hbox hg
   refine hK.out _ _ ⟨d1, l3, b4, c1, m, j, c2, (.pointer (some ⟨b4, 0, none⟩)), (by rw [ha.out]; exact putSel_upk 10 hb_ rfl rfl rfl), (qR_ a5), (qR_ Y), (qR_ c4), (qk_ g), (qk_ l), (qk_ q), (qk_ s), (qk_ u), qB_, L7, L8, L9, B7, k8, k9, l4, l5, l6, l7, l8, l9, m0, m1, m2, m3, fun _ _ => (qk_ z), fun _ => C9.out, fun _ => B4.out, fun _ => y8.out, fun _ => t3.out, fun _ => y9.out, fun _ => t4.out, fun _ => r0.out, fun _ => z0.out, fun _ => x8.out, fun _ => t5.out, fun _ => v2.out, fun _ => t6.out, fun d => absurd ((hoff 11 (by kernel_rfl)).symm.trans d) (by decide), fun d => absurd ((hoff 12 (by kernel_rfl)).symm.trans d) (by decide), u8, a3, a4, u4, fun _ => rfl⟩
  refine steps_cons ?_ ?_
  ·rintro b a w' ⟨d1, l3, b4, c1, m, j, c2, m10_, ha, b0, b1, e2, I, J, U, T, a9, L, n4, n5, e8, c0, k8, k9, l4, l5, l6, l7, l8, l9, m0, m1, m2, m3, b5, m4, m5, m6, m7, m8, j3, j4, m9, n0, n1, n2, n3, p4, q2, u8, a3, a4, u4, X⟩ hb_ hon hoff
   refine ⟨_, rfl, fun K hK => ?_⟩
   have M0 : a.tmps[11]? = some (c2) := by rw [ha]; exact putSel_on (e := (9, 11, c2)) 9 rfl rfl (hon 9 (by kernel_rfl)) rfl
   rw [u4 (hon 9 (by kernel_rfl))] at M0
   have M1 : a.tmps[44]? = some (j) := by rw [ha]; exact putSel_on (e := (5, 44, j)) 5 rfl rfl (hon 5 (by kernel_rfl)) rfl
   rw [a4 (hon 5 (by kernel_rfl))] at M1
   replace ha := am_ ha
   have a5 := am_ b0
   have Y := am_ b1
   have c4 := am_ e2
   have g := am_ I
   have l := am_ J
   have q := am_ U
   have s := am_ T
   have u := am_ a9
   have HB := am_ L
   have z1 := am_ (n4 (hon 9 (by kernel_rfl)) (hon 10 (by kernel_rfl)))
   have s0 := am_ (n5 (hon 9 (by kernel_rfl)) (hon 10 (by kernel_rfl)))
   have d5 := on_ hon 3 e8
   have y := am_ (c0 (hon 9 (by kernel_rfl)) hb_)
   have C8 := on_ hon 9 k8
   have B3 := on_ hon 9 k9
   have v9 := on_ hon 9 l4
   have r5 := on_ hon 9 l5
   have y7 := on_ hon 9 l6
   have r6 := on_ hon 9 l7
   have w2 := on_ hon 9 l8
   have r7 := on_ hon 9 l9
   have x7 := on_ hon 9 m0
   have r8 := on_ hon 9 m1
   have v1 := on_ hon 9 m2
   have r9 := on_ hon 9 m3
   have z := am_ (b5 (hon 10 (by kernel_rfl)) (hoff 12 (by kernel_rfl)))
   have C9 := on_ hon 10 m4
   have B4 := on_ hon 10 m5
   have y8 := on_ hon 10 m6
   have t3 := on_ hon 10 m7
   have y9 := on_ hon 10 m8
   have t4 := on_ hon 10 j3
   have r0 := on_ hon 10 j4
   have z0 := on_ hon 10 m9
   have x8 := on_ hon 10 n0
   have t5 := on_ hon 10 n1
   have v2 := on_ hon 10 n2
   have t6 := on_ hon 10 n3
   obtain ⟨G9, H0, H1⟩ := Kd.R_slice d5.out
   (first | subst H1 | (injection H1 with g3 p9 g4; have q0 := g3.symm; have q1 := g4.symm; clear g3 p9 g4; subst q0; subst q1))
   have X4 : w'.cell? ⟨l3, 0, none⟩ = some (.int .i64 0) := bl_ y 0
   have M2 := blk_frozen y.out 0
   have cS := v9.out; have cT := y7.out; have cU := w2.out; have cV := x7.out; have cW := v1.out; have cX := z1.out; have cY := r5.out; have cZ := r6.out; have da := r7.out; have db := r8.out; have dc := r9.out; have dd := s0.out
   have X5 : w'.cell? ⟨l3, 1, none⟩ = some (.slice none 0 0) := bl_ y 1
   have M3 := blk_frozen y.out 1
   have de := v9.out; have df := y7.out; have dg := w2.out; have dh := x7.out; have di := v1.out; have dj := z1.out; have dk := r5.out; have dl := r6.out; have dm := r7.out; have dn := r8.out; have dp := r9.out; have dq := s0.out
   refine skip_ (w1 := ?_) (by rfl) rfl ?_ ?_
   rotate_left
   ·go_simp
    rfl
   refine hK.out _ _ ⟨.slice G9 d3.length H0, l3, b4, c1, m, j, c2, m10_, (by rw [ha.out]; exact putSel_none (v := undef) rfl), (by (with_reducible repeat (first | apply Kd.R_alloc | apply Kd.R_drewN | apply Kd.R_drew)); exact Kd.R_mono (Kd.R_far (p := ⟨l3, 1, none⟩) (Kd.R_far (p := ⟨l3, 0, none⟩) (Kd.R_types a5.out y.out (by decide)) (fun _ hk => by first | exact hk.2 | trivial | exact qw_ hk) (.int .i64 e6)) (fun _ hk => by first | exact hk.2 | trivial | exact qw_ hk) (.slice G9 d3.length H0)) (fun _ hk => by first | exact ⟨hk.1.1, ⟨hk.1.2.1, hk.1.2.2⟩⟩ | trivial | exact qw_ hk)), (by (with_reducible repeat (first | apply Kd.R_alloc | apply Kd.R_drewN | apply Kd.R_drew)); exact Kd.R_mono (Kd.R_far (p := ⟨l3, 1, none⟩) (Kd.R_far (p := ⟨l3, 0, none⟩) (Kd.R_types Y.out y.out (by decide)) (fun _ hk => by first | exact hk.2 | trivial | exact qw_ hk) (.int .i64 e6)) (fun _ hk => by first | exact hk.2 | trivial | exact qw_ hk) (.slice G9 d3.length H0)) (fun _ hk => by first | exact ⟨hk.1.1, ⟨hk.1.2.1, hk.1.2.2⟩⟩ | trivial | exact qw_ hk)), (by (with_reducible repeat (first | apply Kd.R_alloc | apply Kd.R_drewN | apply Kd.R_drew)); exact Kd.R_mono (Kd.R_far (p := ⟨l3, 1, none⟩) (Kd.R_far (p := ⟨l3, 0, none⟩) (Kd.R_types c4.out y.out (by decide)) (fun _ hk => by first | exact hk.2 | trivial | exact qw_ hk) (.int .i64 e6)) (fun _ hk => by first | exact hk.2 | trivial | exact qw_ hk) (.slice G9 d3.length H0)) (fun _ hk => by first | exact ⟨hk.1.1, ⟨hk.1.2.1, hk.1.2.2⟩⟩ | trivial | exact qw_ hk)), (qf_ g), (qf_ l), (qf_ q), (qf_ s), (qf_ u), qB_, fun _ _ => z1.out, fun _ _ => s0.out, fun _ => (by (with_reducible repeat (first | apply Kd.R_alloc | apply Kd.R_drewN | apply Kd.R_drew)); exact Kd.R_mono (Kd.R_far (p := ⟨l3, 1, none⟩) (Kd.R_far (p := ⟨l3, 0, none⟩) (Kd.R_types d5.out y.out (by decide)) (fun _ hk => by first | exact hk.2 | trivial | exact qw_ hk) (.int .i64 e6)) (fun _ hk => by first | exact hk.2 | trivial | exact qw_ hk) (.slice G9 d3.length H0)) (fun _ hk => by first | exact ⟨hk.1.1, ⟨hk.1.2.1, hk.1.2.2⟩⟩ | trivial | exact qw_ hk)), fun _ o => absurd ((up_self b 11).symm.trans o) (by decide), fun _ => C8.out, fun _ => B3.out, fun _ => v9.out, fun _ => r5.out, fun _ => y7.out, fun _ => r6.out, fun _ => w2.out, fun _ => r7.out, fun _ => x7.out, fun _ => r8.out, fun _ => v1.out, fun _ => r9.out, fun _ _ => (qf_ z), fun _ => C9.out, fun _ => B4.out, fun _ => y8.out, fun _ => t3.out, fun _ => y9.out, fun _ => t4.out, fun _ => r0.out, fun _ => z0.out, fun _ => x8.out, fun _ => t5.out, fun _ => v2.out, fun _ => t6.out, fun _ => (qp_ y), fun d => absurd ((hoff 12 (by kernel_rfl)).symm.trans d) (by decide), u8, a3, a4, u4, X⟩
  refine steps_cons ?_ ?_
  ·rintro b a w' ⟨d1, l3, b4, c1, m, j, c2, m10_, ha, b0, b1, e2, I, J, U, T, a9, L, n4, n5, e8, c0, k8, k9, l4, l5, l6, l7, l8, l9, m0, m1, m2, m3, b5, m4, m5, m6, m7, m8, j3, j4, m9, n0, n1, n2, n3, p4, q2, u8, a3, a4, u4, X⟩ hb_ hon hoff
   refine ⟨_, rfl, fun K hK => ?_⟩
   have M4 : a.tmps[12]? = some (m10_) := by rw [ha]; exact putSel_on (e := (10, 12, m10_)) 10 rfl rfl (hon 10 (by kernel_rfl)) rfl
   rw [X (hon 10 (by kernel_rfl))] at M4
   have dr : a.tmps[45]? = some (.agg #[.int .i64 p0, .int .i64 p1]) := by rw [ha]; exact putSel_on (e := (6, 45, .agg #[.int .i64 p0, .int .i64 p1])) 6 rfl rfl (hon 6 (by kernel_rfl)) rfl
   replace ha := am_ ha
   have a5 := am_ b0
   have Y := am_ b1
   have c4 := am_ e2
   have g := am_ I
   have l := am_ J
   have q := am_ U
   have s := am_ T
   have u := am_ a9
   have HB := am_ L
   have z1 := am_ (n4 (hon 9 (by kernel_rfl)) (hon 10 (by kernel_rfl)))
   have s0 := am_ (n5 (hon 9 (by kernel_rfl)) (hon 10 (by kernel_rfl)))
   have d5 := on_ hon 3 e8
   have C8 := on_ hon 9 k8
   have B3 := on_ hon 9 k9
   have v9 := on_ hon 9 l4
   have r5 := on_ hon 9 l5
   have y7 := on_ hon 9 l6
   have r6 := on_ hon 9 l7
   have w2 := on_ hon 9 l8
   have r7 := on_ hon 9 l9
   have x7 := on_ hon 9 m0
   have r8 := on_ hon 9 m1
   have v1 := on_ hon 9 m2
   have r9 := on_ hon 9 m3
   have z := am_ (b5 (hon 10 (by kernel_rfl)) hb_)
   have C9 := on_ hon 10 m4
   have B4 := on_ hon 10 m5
   have y8 := on_ hon 10 m6
   have t3 := on_ hon 10 m7
   have y9 := on_ hon 10 m8
   have t4 := on_ hon 10 j3
   have r0 := on_ hon 10 j4
   have z0 := on_ hon 10 m9
   have x8 := on_ hon 10 n0
   have t5 := on_ hon 10 n1
   have v2 := on_ hon 10 n2
   have t6 := on_ hon 10 n3
   have y := on_ hon 11 p4
   have X6 : w'.cell? ⟨b4, 0, none⟩ = some (.int .i64 0) := bl_ z 0
   have M5 := blk_frozen z.out 0
   have dt := y8.out; have du := y9.out; have dv := r0.out; have dw := x8.out; have dx := v2.out; have dy := s0.out; have dz := t3.out; have dA := t4.out; have dB := z0.out; have dC := t5.out; have dD := t6.out; have dE := z1.out
   have X7 : w'.cell? ⟨b4, 1, none⟩ = some (.int .i64 0) := bl_ z 1
   have M6 := blk_frozen z.out 1
   have dF := y8.out; have dG := y9.out; have dH := r0.out; have dI := x8.out; have dJ := v2.out; have dK := s0.out; have dL := t3.out; have dM := t4.out; have dN := z0.out; have dO := t5.out; have dP := t6.out; have dQ := z1.out
   refine skip_ (w1 := ?_) (by rfl) rfl ?_ ?_
   rotate_left
   ·go_simp
    rfl
   refine hK.out _ _ ⟨d1, l3, b4, c1, m, j, c2, m10_, (by rw [ha.out]; exact putSel_none (v := undef) rfl), (by (with_reducible repeat (first | apply Kd.R_alloc | apply Kd.R_drewN | apply Kd.R_drew)); exact Kd.R_mono (Kd.R_far (p := ⟨b4, 1, none⟩) (Kd.R_far (p := ⟨b4, 0, none⟩) (Kd.R_types a5.out z.out (by decide)) (fun _ hk => by first | exact hk.2 | trivial | exact qw_ hk) (.int .i64 p0)) (fun _ hk => by first | exact hk.2 | trivial | exact qw_ hk) (.int .i64 p1)) (fun _ hk => by first | exact ⟨hk.1.1, ⟨hk.1.2.1, hk.1.2.2⟩⟩ | trivial | exact qw_ hk)), (by (with_reducible repeat (first | apply Kd.R_alloc | apply Kd.R_drewN | apply Kd.R_drew)); exact Kd.R_mono (Kd.R_far (p := ⟨b4, 1, none⟩) (Kd.R_far (p := ⟨b4, 0, none⟩) (Kd.R_types Y.out z.out (by decide)) (fun _ hk => by first | exact hk.2 | trivial | exact qw_ hk) (.int .i64 p0)) (fun _ hk => by first | exact hk.2 | trivial | exact qw_ hk) (.int .i64 p1)) (fun _ hk => by first | exact ⟨hk.1.1, ⟨hk.1.2.1, hk.1.2.2⟩⟩ | trivial | exact qw_ hk)), (by (with_reducible repeat (first | apply Kd.R_alloc | apply Kd.R_drewN | apply Kd.R_drew)); exact Kd.R_mono (Kd.R_far (p := ⟨b4, 1, none⟩) (Kd.R_far (p := ⟨b4, 0, none⟩) (Kd.R_types c4.out z.out (by decide)) (fun _ hk => by first | exact hk.2 | trivial | exact qw_ hk) (.int .i64 p0)) (fun _ hk => by first | exact hk.2 | trivial | exact qw_ hk) (.int .i64 p1)) (fun _ hk => by first | exact ⟨hk.1.1, ⟨hk.1.2.1, hk.1.2.2⟩⟩ | trivial | exact qw_ hk)), (qf_ g), (qf_ l), (qf_ q), (qf_ s), (qf_ u), qB_, fun _ _ => z1.out, fun _ _ => s0.out, fun _ => (by (with_reducible repeat (first | apply Kd.R_alloc | apply Kd.R_drewN | apply Kd.R_drew)); exact Kd.R_mono (Kd.R_far (p := ⟨b4, 1, none⟩) (Kd.R_far (p := ⟨b4, 0, none⟩) (Kd.R_types d5.out z.out (by decide)) (fun _ hk => by first | exact hk.2 | trivial | exact qw_ hk) (.int .i64 p0)) (fun _ hk => by first | exact hk.2 | trivial | exact qw_ hk) (.int .i64 p1)) (fun _ hk => by first | exact ⟨hk.1.1, ⟨hk.1.2.1, hk.1.2.2⟩⟩ | trivial | exact qw_ hk)), fun _ o => absurd ((hon 11 (by kernel_rfl)).symm.trans o) (by decide), fun _ => C8.out, fun _ => B3.out, fun _ => v9.out, fun _ => r5.out, fun _ => y7.out, fun _ => r6.out, fun _ => w2.out, fun _ => r7.out, fun _ => x7.out, fun _ => r8.out, fun _ => v1.out, fun _ => r9.out, fun _ o => absurd ((up_self b 12).symm.trans o) (by decide), fun _ => C9.out, fun _ => B4.out, fun _ => y8.out, fun _ => t3.out, fun _ => y9.out, fun _ => t4.out, fun _ => r0.out, fun _ => z0.out, fun _ => x8.out, fun _ => t5.out, fun _ => v2.out, fun _ => t6.out, fun _ => (qf_ y), fun _ => (qp_ z), u8, a3, a4, u4, X⟩
  refine steps_cons ?_ ?_
  ·rintro b a w' ⟨d1, l3, b4, c1, m, j, c2, m10_, ha, b0, b1, e2, I, J, U, T, a9, L, n4, n5, e8, c0, k8, k9, l4, l5, l6, l7, l8, l9, m0, m1, m2, m3, b5, m4, m5, m6, m7, m8, j3, j4, m9, n0, n1, n2, n3, p4, q2, u8, a3, a4, u4, X⟩ hb_ hon hoff
   refine ⟨_, rfl, fun K hK => ?_⟩
   have dR : a.tmps[46]? = some (.bool o8) := by rw [ha]; exact putSel_on (e := (7, 46, .bool o8)) 7 rfl rfl (hon 7 (by kernel_rfl)) rfl
   replace ha := am_ ha
   have a5 := am_ b0
   have Y := am_ b1
   have c4 := am_ e2
   have g := am_ I
   have l := am_ J
   have q := am_ U
   have s := am_ T
   have u := am_ a9
   have HB := am_ L
   have z1 := am_ (n4 (hon 9 (by kernel_rfl)) (hon 10 (by kernel_rfl)))
   have s0 := am_ (n5 (hon 9 (by kernel_rfl)) (hon 10 (by kernel_rfl)))
   have d5 := on_ hon 3 e8
   have C8 := on_ hon 9 k8
   have B3 := on_ hon 9 k9
   have v9 := on_ hon 9 l4
   have r5 := on_ hon 9 l5
   have y7 := on_ hon 9 l6
   have r6 := on_ hon 9 l7
   have w2 := on_ hon 9 l8
   have r7 := on_ hon 9 l9
   have x7 := on_ hon 9 m0
   have r8 := on_ hon 9 m1
   have v1 := on_ hon 9 m2
   have r9 := on_ hon 9 m3
   have C9 := on_ hon 10 m4
   have B4 := on_ hon 10 m5
   have y8 := on_ hon 10 m6
   have t3 := on_ hon 10 m7
   have y9 := on_ hon 10 m8
   have t4 := on_ hon 10 j3
   have r0 := on_ hon 10 j4
   have z0 := on_ hon 10 m9
   have x8 := on_ hon 10 n0
   have t5 := on_ hon 10 n1
   have v2 := on_ hon 10 n2
   have t6 := on_ hon 10 n3
   have y := on_ hon 11 p4
   have z := on_ hon 12 q2
   refine value_ (w1 := w') (v := .bool o8) (by rfl) rfl ?_ ?_
   ·go_simp
    (try simp only [i64_w])
    try rfl
   refine hK.out _ _ ⟨d1, l3, b4, c1, m, j, c2, m10_, (by rw [ha.out]; exact putSel_upk 11 hb_ rfl rfl rfl), b0, b1, e2, I, J, U, T, a9, L, n4, n5, e8, fun _ o => absurd ((hon 11 (by kernel_rfl)).symm.trans o) (by decide), k8, k9, l4, l5, l6, l7, l8, l9, m0, m1, m2, m3, fun _ o => absurd ((hon 12 (by kernel_rfl)).symm.trans o) (by decide), m4, m5, m6, m7, m8, j3, j4, m9, n0, n1, n2, n3, p4, q2, u8, a3, a4, u4, X⟩
  refine steps_cons ?_ ?_
  ·rintro b a w' ⟨d1, l3, b4, c1, m, j, c2, m10_, ha, b0, b1, e2, I, J, U, T, a9, L, n4, n5, e8, c0, k8, k9, l4, l5, l6, l7, l8, l9, m0, m1, m2, m3, b5, m4, m5, m6, m7, m8, j3, j4, m9, n0, n1, n2, n3, p4, q2, u8, a3, a4, u4, X⟩ hb_ hon hoff
   refine ⟨_, rfl, fun K hK => ?_⟩
   have dS : a.tmps[47]? = some (.bool t7) := by rw [ha]; exact putSel_on (e := (8, 47, .bool t7)) 8 rfl rfl (hon 8 (by kernel_rfl)) rfl
   replace ha := am_ ha
   have a5 := am_ b0
   have Y := am_ b1
   have c4 := am_ e2
   have g := am_ I
   have l := am_ J
   have q := am_ U
   have s := am_ T
   have u := am_ a9
   have HB := am_ L
   have z1 := am_ (n4 (hon 9 (by kernel_rfl)) (hon 10 (by kernel_rfl)))
   have s0 := am_ (n5 (hon 9 (by kernel_rfl)) (hon 10 (by kernel_rfl)))
   have d5 := on_ hon 3 e8
   have C8 := on_ hon 9 k8
   have B3 := on_ hon 9 k9
   have v9 := on_ hon 9 l4
   have r5 := on_ hon 9 l5
   have y7 := on_ hon 9 l6
   have r6 := on_ hon 9 l7
   have w2 := on_ hon 9 l8
   have r7 := on_ hon 9 l9
   have x7 := on_ hon 9 m0
   have r8 := on_ hon 9 m1
   have v1 := on_ hon 9 m2
   have r9 := on_ hon 9 m3
   have C9 := on_ hon 10 m4
   have B4 := on_ hon 10 m5
   have y8 := on_ hon 10 m6
   have t3 := on_ hon 10 m7
   have y9 := on_ hon 10 m8
   have t4 := on_ hon 10 j3
   have r0 := on_ hon 10 j4
   have z0 := on_ hon 10 m9
   have x8 := on_ hon 10 n0
   have t5 := on_ hon 10 n1
   have v2 := on_ hon 10 n2
   have t6 := on_ hon 10 n3
   have y := on_ hon 11 p4
   have z := on_ hon 12 q2
   refine value_ (w1 := w') (v := .bool t7) (by rfl) rfl ?_ ?_
   ·go_simp
    (try simp only [i64_w])
    try rfl
   refine hK.out _ _ ⟨d1, l3, b4, c1, m, j, c2, m10_, (by rw [ha.out]; exact putSel_upk 12 hb_ rfl rfl rfl), b0, b1, e2, I, J, U, T, a9, L, n4, n5, e8, fun _ o => absurd ((hon 11 (by kernel_rfl)).symm.trans o) (by decide), k8, k9, l4, l5, l6, l7, l8, l9, m0, m1, m2, m3, fun _ o => absurd ((hon 12 (by kernel_rfl)).symm.trans o) (by decide), m4, m5, m6, m7, m8, j3, j4, m9, n0, n1, n2, n3, p4, q2, u8, a3, a4, u4, X⟩
  exact steps_nil
 rintro b a dT hall ⟨d1, l3, b4, c1, m, j, c2, m10_, ha, b0, b1, e2, I, J, U, T, a9, L, n4, n5, e8, c0, k8, k9, l4, l5, l6, l7, l8, l9, m0, m1, m2, m3, b5, m4, m5, m6, m7, m8, j3, j4, m9, n0, n1, n2, n3, p4, q2, u8, a3, a4, u4, X⟩
 clear g l q s u HB a5 Y c4
 have hb0_ := hall 0 (by kernel_rfl)
 have hb1_ := hall 1 (by kernel_rfl)
 have hb2_ := hall 2 (by kernel_rfl)
 have hb3_ := hall 3 (by kernel_rfl)
 have hb4_ := hall 4 (by kernel_rfl)
 have hb5_ := hall 5 (by kernel_rfl)
 have hb6_ := hall 6 (by kernel_rfl)
 have hb7_ := hall 7 (by kernel_rfl)
 have hb8_ := hall 8 (by kernel_rfl)
 have hb9_ := hall 9 (by kernel_rfl)
 have hb10_ := hall 10 (by kernel_rfl)
 have hb11_ := hall 11 (by kernel_rfl)
 have hb12_ := hall 12 (by kernel_rfl)
 have hb13_ := hall 13 (by kernel_rfl)
 have hb14_ := hall 14 (by kernel_rfl)
 subst ha
 obtain rfl := u8 hb3_
 obtain rfl := a3 hb4_
 obtain rfl := a4 hb5_
 obtain rfl := u4 hb9_
 obtain rfl := X hb10_
 simp only [putSel, hb0_, hb1_, hb2_, hb3_, hb4_, hb5_, hb6_, hb7_, hb8_, hb9_, hb10_, hb11_, hb12_, hb13_, hb14_, if_true, Act.put, sA_, sB_, sC_]
 have a5 := am_ b0
 clear b0
 have Y := am_ b1
 clear b1
 have c4 := am_ e2
 clear e2
 have g := am_ I
 clear I
 have l := am_ J
 clear J
 have q := am_ U
 clear U
 have s := am_ T
 clear T
 have u := am_ a9
 clear a9
 have HB := am_ L
 clear L
 have z1 := am_ (n4 hb9_ hb10_)
 clear n4
 have s0 := am_ (n5 hb9_ hb10_)
 clear n5
 have d5 := am_ (e8 hb3_)
 clear e8; clear c0
 have C8 := am_ (k8 hb9_)
 clear k8
 have B3 := am_ (k9 hb9_)
 clear k9
 have v9 := am_ (l4 hb9_)
 clear l4
 have r5 := am_ (l5 hb9_)
 clear l5
 have y7 := am_ (l6 hb9_)
 clear l6
 have r6 := am_ (l7 hb9_)
 clear l7
 have w2 := am_ (l8 hb9_)
 clear l8
 have r7 := am_ (l9 hb9_)
 clear l9
 have x7 := am_ (m0 hb9_)
 clear m0
 have r8 := am_ (m1 hb9_)
 clear m1
 have v1 := am_ (m2 hb9_)
 clear m2
 have r9 := am_ (m3 hb9_)
 clear m3; clear b5
 have C9 := am_ (m4 hb10_)
 clear m4
 have B4 := am_ (m5 hb10_)
 clear m5
 have y8 := am_ (m6 hb10_)
 clear m6
 have t3 := am_ (m7 hb10_)
 clear m7
 have y9 := am_ (m8 hb10_)
 clear m8
 have t4 := am_ (j3 hb10_)
 clear j3
 have r0 := am_ (j4 hb10_)
 clear j4
 have z0 := am_ (m9 hb10_)
 clear m9
 have x8 := am_ (n0 hb10_)
 clear n0
 have t5 := am_ (n1 hb10_)
 clear n1
 have v2 := am_ (n2 hb10_)
 clear n2
 have t6 := am_ (n3 hb10_)
 clear n3
 have y := am_ (p4 hb11_)
 clear p4
 have z := am_ (q2 hb12_)
 clear q2; clear hall hb0_ hb1_ hb2_ hb3_ hb4_ hb5_ hb6_ hb7_ hb8_ hb9_ hb10_ hb11_ hb12_ hb13_ hb14_
 replace Y := am_ (qsw_ Y.out d5.out (fun _ hk => hk.2.1)); replace c4 := am_ (qsw_ c4.out d5.out (fun _ hk => hk.2.2))
 go_upto_region 8 with (fail)
 go_cut [67] (fun v67 wc => ∃ (kq : Nat) (s7 : Bool), v67 = .bool s7 ∧ Aside0 (laws_FnExactWebTake.j0 kq f0 t0 o8 t7 s7 F D M O e5 e9 o3 o4 k7 d0 e6 d3 p0 p1 = some true) ∧ Aside0 (kq ≤ k) ∧ Aside0 (Kd.R k72 72 wc w.heap.size (fun k_ => some k_ ≠ ((.slice c6 d0.length c7) : Value).ownBlock ∧ some k_ ≠ (d1 : Value).ownBlock) a8 e9) ∧ Aside0 (Kd.R k72 72 wc w.heap.size (fun k_ => some k_ ≠ (a8 : Value).ownBlock ∧ some k_ ≠ (d1 : Value).ownBlock) (.slice c6 d0.length c7) d0) ∧ Aside0 (Kd.R k72 72 wc w.heap.size (fun k_ => some k_ ≠ (a8 : Value).ownBlock ∧ some k_ ≠ ((.slice c6 d0.length c7) : Value).ownBlock) d1 d3) ∧ Aside0 (wc.heap[u7]? = some (.cells #[.int .i64 F, (.slice a6 D.length a7)] 24 (0, 0))) ∧ Aside0 (wc.heap[u6]? = some (.cells #[.int .i64 M, .int .i64 O] 37 (0, 0))) ∧ Aside0 (wc.heap[l1]? = some (.cells #[.int .i64 e5, a8] 29 (0, 0))) ∧ Aside0 (wc.heap[l2]? = some (.cells #[.int .i64 o3, .int .i64 o4] 43 (0, 0))) ∧ Aside0 (wc.heap[d4]? = some (.cells #[.int .i64 k7, (.slice c6 d0.length c7)] 29 (0, 0))) ∧ Aside0 (wc.heap[l3]? = some (.cells #[.int .i64 e6, d1] 29 (0, 0))) ∧ Aside0 (wc.heap[b4]? = some (.cells #[.int .i64 p0, .int .i64 p1] 43 (0, 0))) ∧ Aside0 (Below w.heap.size w wc))
 case first =>
  have H := D7.out; clear D7
  obtain ⟨B5, B0, H⟩ := bs_ H
  refine id_ H ?_ ?_ <;> clear H <;> rintro rfl H
  ·have H' := am_ H; clear H; obtain ⟨dU, dV⟩ := nn_ r5; obtain ⟨dW, dX⟩ := nn_ r6; obtain ⟨dY, dZ⟩ := nn_ r7; obtain ⟨ea, eb⟩ := nn_ r8; obtain ⟨ec, ed⟩ := nn_ r9; obtain ⟨ee, ef⟩ := nn_ s0
   obtain ⟨X8, X9, Y0, Y1⟩ := bc2_ y
   obtain ⟨eg, eh⟩ := nn_ q7; obtain ⟨ei, ej⟩ := nn_ q8; obtain ⟨ek, el⟩ := nn_ q9; obtain ⟨em, en⟩ := nn_ u5; obtain ⟨eo, ep⟩ := nn_ r0
   obtain ⟨Y2, Y3, Y4, Y5⟩ := bc2_ q
   obtain ⟨M7, M8, M9⟩ := Kd.R_slice d5.out
   subst M9
   obtain ⟨N0, N1, N2⟩ := Kd.R_slice Y.out
   subst N2
   go_wp2_with (first | ((with_reducible refine gc_ 17 ?_); refine gl_ (some 50) Try.func17 #[.agg #[.int .i64 e6, .slice M7 d3.length M8], .agg #[.int .i64 e5, .slice N0 e9.length N1]] ?_; (with_reducible refine (laws_eqWeb.calls k e6 _ _ d3 e5 _ _ e9 false _ ?_ ?_ ?_ ?_ B0.out).mono ?_); exact qD_ (Kd.R_reads' d5.out).2.2; exact (Kd.R_reads' d5.out).2.1; exact qD_ (Kd.R_reads' Y.out).2.2; exact (Kd.R_reads' Y.out).2.1; rintro e Y6 ⟨rfl, hb⟩; refine ⟨_, rfl, ?_⟩; replace a5 := kb_ a5 hb; replace Y := kb_ Y hb; replace c4 := kb_ c4 hb; replace d5 := kb_ d5 hb; replace g := qbl_ g hb; replace l := qbl_ l hb; replace q := qbl_ q hb; replace s := qbl_ s hb; replace u := qbl_ u hb; replace y := qbl_ y hb; replace z := qbl_ z hb; replace HB := hs_ hb; (try clear hb); (try clear hk)))
   go_meet
   case rel => exact ⟨_, (true), qe_, H', ⟨qo_⟩, ⟨by (with_reducible repeat (first | apply Kd.R_alloc | apply Kd.R_drewN | apply Kd.R_drew)); exact Kd.R_mono Y.out (fun _ hk => by first | exact ⟨hk.2.1, hk.2.2⟩ | trivial | exact qw_ hk)⟩, ⟨by (with_reducible repeat (first | apply Kd.R_alloc | apply Kd.R_drewN | apply Kd.R_drew)); exact Kd.R_mono c4.out (fun _ hk => by first | exact ⟨hk.2.1, hk.2.2⟩ | trivial | exact qw_ hk)⟩, ⟨by (with_reducible repeat (first | apply Kd.R_alloc | apply Kd.R_drewN | apply Kd.R_drew)); exact Kd.R_mono d5.out (fun _ hk => by first | exact ⟨hk.2.1, hk.2.2⟩ | trivial | exact qw_ hk)⟩, ⟨qk_ g⟩, ⟨qk_ l⟩, ⟨qk_ q⟩, ⟨qk_ s⟩, ⟨qk_ u⟩, ⟨qk_ y⟩, ⟨qk_ z⟩, ⟨qB_⟩⟩
  obtain ⟨B6, E3, H⟩ := bs_ H
  refine id_ H ?_ ?_ <;> clear H <;> rintro rfl H
  ·have H' := am_ H; clear H; obtain ⟨eq, er⟩ := nn_ r5; obtain ⟨es, et⟩ := nn_ r6; obtain ⟨eu, ev⟩ := nn_ r7; obtain ⟨ew, ex⟩ := nn_ r8; obtain ⟨ey, ez⟩ := nn_ r9; obtain ⟨eA, eB⟩ := nn_ s0
   obtain ⟨Y7, Y8, Y9, Z0⟩ := bc2_ y
   obtain ⟨eC, eD⟩ := nn_ q7; obtain ⟨eE, eF⟩ := nn_ q8; obtain ⟨eG, eH⟩ := nn_ q9; obtain ⟨eI, eJ⟩ := nn_ u5; obtain ⟨eK, eL⟩ := nn_ r0
   obtain ⟨Z1, Z2, Z3, Z4⟩ := bc2_ q
   obtain ⟨N3, N4, N5⟩ := Kd.R_slice d5.out
   subst N5
   obtain ⟨N6, N7, N8⟩ := Kd.R_slice Y.out
   subst N8
   go_wp2_with (first | ((with_reducible refine gc_ 17 ?_); refine gl_ (some 50) Try.func17 #[.agg #[.int .i64 e6, .slice N3 d3.length N4], .agg #[.int .i64 e5, .slice N6 e9.length N7]] ?_; (with_reducible refine (laws_eqWeb.calls k e6 _ _ d3 e5 _ _ e9 true _ ?_ ?_ ?_ ?_ B0.out).mono ?_); exact qD_ (Kd.R_reads' d5.out).2.2; exact (Kd.R_reads' d5.out).2.1; exact qD_ (Kd.R_reads' Y.out).2.2; exact (Kd.R_reads' Y.out).2.1; rintro e Z5 ⟨rfl, hb⟩; refine ⟨_, rfl, ?_⟩; replace a5 := kb_ a5 hb; replace Y := kb_ Y hb; replace c4 := kb_ c4 hb; replace d5 := kb_ d5 hb; replace g := qbl_ g hb; replace l := qbl_ l hb; replace q := qbl_ q hb; replace s := qbl_ s hb; replace u := qbl_ u hb; replace y := qbl_ y hb; replace z := qbl_ z hb; replace HB := hs_ hb; (try clear hb); (try clear hk); obtain ⟨eM, eN⟩ := nn_ t3; obtain ⟨eO, eP⟩ := nn_ t4; obtain ⟨eQ, eR⟩ := nn_ t5; obtain ⟨eS, eT⟩ := nn_ t6; obtain ⟨Z6, Z7, Z8, Z9⟩ := bc2_ z; obtain ⟨eU, eV⟩ := nn_ s5; obtain ⟨eW, eX⟩ := nn_ s6; obtain ⟨eY, eZ⟩ := nn_ A8; obtain ⟨aa, ab, ac, ad⟩ := bc2_ s) | (go_at_call 43; (with_reducible refine (laws_eqEdge.calls p0 p1 o3 o4 false _ E3.out).mono ?_); rintro e ae ⟨rfl, hb⟩; replace a5 := kb_ a5 hb; replace Y := kb_ Y hb; replace c4 := kb_ c4 hb; replace d5 := kb_ d5 hb; replace g := qbl_ g hb; replace l := qbl_ l hb; replace q := qbl_ q hb; replace s := qbl_ s hb; replace u := qbl_ u hb; replace y := qbl_ y hb; replace z := qbl_ z hb; replace HB := hs_ hb; (try clear hb); (try clear hk)))
   go_meet
   case rel => exact ⟨_, (true), qe_, H', ⟨qo_⟩, ⟨by (with_reducible repeat (first | apply Kd.R_alloc | apply Kd.R_drewN | apply Kd.R_drew)); exact Kd.R_mono Y.out (fun _ hk => by first | exact ⟨hk.2.1, hk.2.2⟩ | trivial | exact qw_ hk)⟩, ⟨by (with_reducible repeat (first | apply Kd.R_alloc | apply Kd.R_drewN | apply Kd.R_drew)); exact Kd.R_mono c4.out (fun _ hk => by first | exact ⟨hk.2.1, hk.2.2⟩ | trivial | exact qw_ hk)⟩, ⟨by (with_reducible repeat (first | apply Kd.R_alloc | apply Kd.R_drewN | apply Kd.R_drew)); exact Kd.R_mono d5.out (fun _ hk => by first | exact ⟨hk.2.1, hk.2.2⟩ | trivial | exact qw_ hk)⟩, ⟨qk_ g⟩, ⟨qk_ l⟩, ⟨qk_ q⟩, ⟨qk_ s⟩, ⟨qk_ u⟩, ⟨qk_ y⟩, ⟨qk_ z⟩, ⟨qB_⟩⟩
  refine jc_ H ?_ ?_ <;> clear H <;> intro q3 H
  ·have n9 : (o8 != f0) = true := q3
   (try (have q4 : decide (o8 = f0) = false := by simpa using q3))
   (try (have w0 : (o8 == f0) = false := by simpa using q3))
   (try (have N9 : ¬ (o8 = f0) := by simpa using q3))
   clear q3
   (first | rw [n9] | rw [q4] | (simp only [i64_w, i32_w]; rw [n9]) | skip)
   have H' := am_ H; clear H; obtain ⟨fa, fb⟩ := nn_ r5; obtain ⟨fc, fd⟩ := nn_ r6; obtain ⟨fe, ff⟩ := nn_ r7; obtain ⟨fg, fh⟩ := nn_ r8; obtain ⟨fi, fj⟩ := nn_ r9; obtain ⟨fk, fl⟩ := nn_ s0
   obtain ⟨af, ag, ah, ai⟩ := bc2_ y
   obtain ⟨fm, fn⟩ := nn_ q7; obtain ⟨fo, fp⟩ := nn_ q8; obtain ⟨fq, fr⟩ := nn_ q9; obtain ⟨fs, ft⟩ := nn_ u5; obtain ⟨fu, fv⟩ := nn_ r0
   obtain ⟨aj, ak, al, am⟩ := bc2_ q
   obtain ⟨O0, O1, O2⟩ := Kd.R_slice d5.out
   subst O2
   obtain ⟨O3, O4, O5⟩ := Kd.R_slice Y.out
   subst O5
   go_wp2_with (first | ((with_reducible refine gc_ 17 ?_); refine gl_ (some 50) Try.func17 #[.agg #[.int .i64 e6, .slice O0 d3.length O1], .agg #[.int .i64 e5, .slice O3 e9.length O4]] ?_; (with_reducible refine (laws_eqWeb.calls k e6 _ _ d3 e5 _ _ e9 true _ ?_ ?_ ?_ ?_ B0.out).mono ?_); exact qD_ (Kd.R_reads' d5.out).2.2; exact (Kd.R_reads' d5.out).2.1; exact qD_ (Kd.R_reads' Y.out).2.2; exact (Kd.R_reads' Y.out).2.1; rintro e fw ⟨rfl, hb⟩; refine ⟨_, rfl, ?_⟩; replace a5 := kb_ a5 hb; replace Y := kb_ Y hb; replace c4 := kb_ c4 hb; replace d5 := kb_ d5 hb; replace g := qbl_ g hb; replace l := qbl_ l hb; replace q := qbl_ q hb; replace s := qbl_ s hb; replace u := qbl_ u hb; replace y := qbl_ y hb; replace z := qbl_ z hb; replace HB := hs_ hb; (try clear hb); (try clear hk); obtain ⟨fx, fy⟩ := nn_ t3; obtain ⟨fz, fA⟩ := nn_ t4; obtain ⟨fB, fC⟩ := nn_ t5; obtain ⟨fD, fE⟩ := nn_ t6; obtain ⟨an, ao, ap, aq⟩ := bc2_ z; obtain ⟨fF, fG⟩ := nn_ s5; obtain ⟨fH, fI⟩ := nn_ s6; obtain ⟨fJ, fK⟩ := nn_ A8; obtain ⟨ar, au, av, aw⟩ := bc2_ s) | (go_at_call 43; (with_reducible refine (laws_eqEdge.calls p0 p1 o3 o4 true _ E3.out).mono ?_); rintro e fL ⟨rfl, hb⟩; replace a5 := kb_ a5 hb; replace Y := kb_ Y hb; replace c4 := kb_ c4 hb; replace d5 := kb_ d5 hb; replace g := qbl_ g hb; replace l := qbl_ l hb; replace q := qbl_ q hb; replace s := qbl_ s hb; replace u := qbl_ u hb; replace y := qbl_ y hb; replace z := qbl_ z hb; replace HB := hs_ hb; (try clear hb); (try clear hk)))
   go_meet
   case rel => exact ⟨_, (true), qe_, H', ⟨qo_⟩, ⟨by (with_reducible repeat (first | apply Kd.R_alloc | apply Kd.R_drewN | apply Kd.R_drew)); exact Kd.R_mono Y.out (fun _ hk => by first | exact ⟨hk.2.1, hk.2.2⟩ | trivial | exact qw_ hk)⟩, ⟨by (with_reducible repeat (first | apply Kd.R_alloc | apply Kd.R_drewN | apply Kd.R_drew)); exact Kd.R_mono c4.out (fun _ hk => by first | exact ⟨hk.2.1, hk.2.2⟩ | trivial | exact qw_ hk)⟩, ⟨by (with_reducible repeat (first | apply Kd.R_alloc | apply Kd.R_drewN | apply Kd.R_drew)); exact Kd.R_mono d5.out (fun _ hk => by first | exact ⟨hk.2.1, hk.2.2⟩ | trivial | exact qw_ hk)⟩, ⟨qk_ g⟩, ⟨qk_ l⟩, ⟨qk_ q⟩, ⟨qk_ s⟩, ⟨qk_ u⟩, ⟨qk_ y⟩, ⟨qk_ z⟩, ⟨qB_⟩⟩
  have n9 : (o8 != f0) = false := by simpa using q3
  (try (have q4 : decide (o8 = f0) = true := by simpa using q3))
  (try (have w0 : (o8 == f0) = true := by simpa using q3))
  clear q3
  (first | rw [n9] | rw [q4] | (simp only [i64_w, i32_w]; rw [n9]) | skip)
  have H' := am_ H; clear H; obtain ⟨fM, fN⟩ := nn_ r5; obtain ⟨fO, fP⟩ := nn_ r6; obtain ⟨fQ, fR⟩ := nn_ r7; obtain ⟨fS, fT⟩ := nn_ r8; obtain ⟨fU, fV⟩ := nn_ r9; obtain ⟨fW, fX⟩ := nn_ s0
  obtain ⟨ax, ay, az, aA⟩ := bc2_ y
  obtain ⟨fY, fZ⟩ := nn_ q7; obtain ⟨ga, gb⟩ := nn_ q8; obtain ⟨gc, gd⟩ := nn_ q9; obtain ⟨ge, gf⟩ := nn_ u5; obtain ⟨gg, gh⟩ := nn_ r0
  obtain ⟨aB, aC, aD, aE⟩ := bc2_ q
  obtain ⟨O6, O7, O8⟩ := Kd.R_slice d5.out
  subst O8
  obtain ⟨O9, P0, P1⟩ := Kd.R_slice Y.out
  subst P1
  go_wp2_with (first | ((with_reducible refine gc_ 17 ?_); refine gl_ (some 50) Try.func17 #[.agg #[.int .i64 e6, .slice O6 d3.length O7], .agg #[.int .i64 e5, .slice O9 e9.length P0]] ?_; (with_reducible refine (laws_eqWeb.calls k e6 _ _ d3 e5 _ _ e9 true _ ?_ ?_ ?_ ?_ B0.out).mono ?_); exact qD_ (Kd.R_reads' d5.out).2.2; exact (Kd.R_reads' d5.out).2.1; exact qD_ (Kd.R_reads' Y.out).2.2; exact (Kd.R_reads' Y.out).2.1; rintro e aF ⟨rfl, hb⟩; refine ⟨_, rfl, ?_⟩; replace a5 := kb_ a5 hb; replace Y := kb_ Y hb; replace c4 := kb_ c4 hb; replace d5 := kb_ d5 hb; replace g := qbl_ g hb; replace l := qbl_ l hb; replace q := qbl_ q hb; replace s := qbl_ s hb; replace u := qbl_ u hb; replace y := qbl_ y hb; replace z := qbl_ z hb; replace HB := hs_ hb; (try clear hb); (try clear hk); obtain ⟨gi, gj⟩ := nn_ t3; obtain ⟨gl, gm⟩ := nn_ t4; obtain ⟨gn, go⟩ := nn_ t5; obtain ⟨gp, gq⟩ := nn_ t6; obtain ⟨aG, aH, aI, aJ⟩ := bc2_ z; obtain ⟨gr, gs⟩ := nn_ s5; obtain ⟨gt, gu⟩ := nn_ s6; obtain ⟨gv, gw⟩ := nn_ A8; obtain ⟨aK, aL, aM, aN⟩ := bc2_ s) | (go_at_call 43; (with_reducible refine (laws_eqEdge.calls p0 p1 o3 o4 true _ E3.out).mono ?_); rintro e aO ⟨rfl, hb⟩; replace a5 := kb_ a5 hb; replace Y := kb_ Y hb; replace c4 := kb_ c4 hb; replace d5 := kb_ d5 hb; replace g := qbl_ g hb; replace l := qbl_ l hb; replace q := qbl_ q hb; replace s := qbl_ s hb; replace u := qbl_ u hb; replace y := qbl_ y hb; replace z := qbl_ z hb; replace HB := hs_ hb; (try clear hb); (try clear hk)))
  go_meet
  case rel => exact ⟨_, ((t7 != t0)), qe_, H', ⟨qo_⟩, ⟨by (with_reducible repeat (first | apply Kd.R_alloc | apply Kd.R_drewN | apply Kd.R_drew)); exact Kd.R_mono Y.out (fun _ hk => by first | exact ⟨hk.2.1, hk.2.2⟩ | trivial | exact qw_ hk)⟩, ⟨by (with_reducible repeat (first | apply Kd.R_alloc | apply Kd.R_drewN | apply Kd.R_drew)); exact Kd.R_mono c4.out (fun _ hk => by first | exact ⟨hk.2.1, hk.2.2⟩ | trivial | exact qw_ hk)⟩, ⟨by (with_reducible repeat (first | apply Kd.R_alloc | apply Kd.R_drewN | apply Kd.R_drew)); exact Kd.R_mono d5.out (fun _ hk => by first | exact ⟨hk.2.1, hk.2.2⟩ | trivial | exact qw_ hk)⟩, ⟨qk_ g⟩, ⟨qk_ l⟩, ⟨qk_ q⟩, ⟨qk_ s⟩, ⟨qk_ u⟩, ⟨qk_ y⟩, ⟨qk_ z⟩, ⟨qB_⟩⟩
 case rest =>
  clear D7; (try clear q3); (try clear n9); (try clear q4); (try clear w0); (try clear aB aC); (try clear aG aH); (try clear aK aL); (try clear Y7 Y8); (try clear Z1 Z2); (try clear Z6 Z7); (try clear aa ab); (try clear X8 X9); (try clear Y2 Y3); (try clear af ag); (try clear aj ak); (try clear an ao); (try clear ar au); (try clear ax ay); (try clear aD aE); (try clear aI aJ); (try clear aM aN); (try clear Y9 Z0); (try clear Z3 Z4); (try clear Z8 Z9); (try clear ac ad); (try clear Y0 Y1); (try clear Y4 Y5); (try clear ah ai); (try clear al am); (try clear ap aq); (try clear av aw); (try clear az aA)
  obtain ⟨kq, s7, rfl, HA, B2, G, V, E, g, l, q, s, u, y, z, HB⟩ := hcut
  cases kq with
  | zero => exact absurd HA.out (by simp [laws_FnExactWebTake.j0])
  | succ kj15 =>
   have H := HA.out; clear HA
   simp only [laws_FnExactWebTake.j0] at H
   refine ie_ H ?_ ?_ <;> clear H <;> rintro rfl H
   ·exact absurd (oi_ H) (by decide)
   obtain ⟨⟨P2, H2⟩, P3, H⟩ := bs_ H; dsimp only at H
   obtain ⟨gx, P4, H⟩ := bs_ H
   refine id_ H ?_ ?_ <;> clear H <;> rintro rfl H
   ·exact absurd (oi_ H) (by decide)
   obtain ⟨⟨P5, s1⟩, P6, H⟩ := bs_ H; dsimp only at H
   have P7 := am_ H
   clear H
   try go_wp2
   replace G := rd_ G; replace V := rd_ V; replace E := rd_ E; replace g := bd_ g; replace l := bd_ l; replace q := bd_ q; replace s := bd_ s; replace u := bd_ u; replace y := bd_ y; replace z := bd_ z; replace HB := hd_ HB
   refine start_ (n := 5) (S := fun w' => w'.cell? ⟨d4, 0, none⟩ = some (.int .i64 k7) ∧ w'.cell? ⟨d4, 1, none⟩ = some (.slice c6 d0.length c7) ∧ w'.cell? ⟨u7, 0, none⟩ = some (.int .i64 F) ∧ w'.cell? ⟨u7, 1, none⟩ = some (.slice a6 D.length a7)) (ds := []) (bm 5 0) (by kernel_rfl) rfl (by kernel_rfl) ⟨bl_ u 0, bl_ u 1, bl_ g 0, bl_ g 1⟩ (fun hHeld => ?_)
   generalize wc.drew = aP at G V E g l q s u y z HB hHeld ⊢
   refine take_ (i := 0) (N := some 68) (v := ?_) (a' := ?_) (bm 5 1) rfl rfl (by kernel_rfl) (fun _ _ _ h => h) (Or.inl ⟨by rfl, ?_⟩) hHeld ?_ ?_
   rotate_left
   ·rintro w' ⟨gy, gz, gA, gB⟩
    go_simp
    with_reducible rfl
   rotate_left
   ·simp only [Act.put, sA_, sB_, sC_, i64_w, i32_w]
    rfl
   refine take_ (i := 1) (N := some 69) (v := ?_) (a' := ?_) (bm 5 3) rfl rfl (by kernel_rfl) (fun _ _ _ h => h) (Or.inl ⟨by rfl, ?_⟩) hHeld ?_ ?_
   rotate_left
   ·rintro w' ⟨gy, gz, gA, gB⟩
    go_simp
    with_reducible rfl
   rotate_left
   ·simp only [Act.put, sA_, sB_, sC_, i64_w, i32_w]
    rfl
   refine one_ (i := 2) (N := some 70) (bm 5 7) rfl rfl (by kernel_rfl) (by decide) (fun K hK => ?_)
   refine gs_ Try.func15 #[.agg #[.int .i64 F, .slice a6 D.length a7]] ?_
   with_reducible refine (laws_toWeb.calls kj15 F _ _ D P2 H2 _ ?side1 ?side2 P3.out).mono ?_
   (case side1 => exact qC_ o6 HB)
   (case side2 => exact o7.out)
   rintro e aQ ⟨gC, rfl, ho0, hb⟩
   refine ⟨_, rfl, ?_⟩
   have r1 := am_ (Kd.R_lower (Kd.R_new' (Kd.R_new' (Kd.R_new' ho0 (Kd.R_lt (qR_ G))) (Kd.R_lt (qR_ V))) (Kd.R_lt (qR_ E))) (below_size qB_)); replace G := ke_ G ho0 hb; replace V := ke_ V ho0 hb; replace E := ke_ E ho0 hb; replace g := qbl_ g hb; replace l := qbl_ l hb; replace q := qbl_ q hb; replace s := qbl_ s hb; replace u := qbl_ u hb; replace y := qbl_ y hb; replace z := qbl_ z hb; replace HB := hs_ hb; (try clear hb); (try clear hk); (try clear ho0)
   obtain ⟨P8, P9, aR⟩ := Kd.R_slice r1.out
   (first | subst aR | (injection aR with g3 p9 g4; have q0 := g3.symm; have q1 := g4.symm; clear g3 p9 g4; subst q0; subst q1))
   refine hK.out _ _ ⟨bl_ u 0, bl_ u 1, bl_ g 0, bl_ g 1⟩ (fun hHeld => ?_)
   clear hK K
   refine nm_ 70 ?_
   refine one_ (i := 3) (N := some 71) (bm 5 15) rfl rfl (by kernel_rfl) (by decide) (fun K hK => ?_)
   refine gs_ Try.func17 #[.agg #[.int .i64 k7, .slice c6 d0.length c7], .agg #[.int .i64 P2, .slice P8 H2.length P9]] ?_
   with_reducible refine (laws_eqWeb.calls kj15 k7 _ _ d0 P2 _ _ H2 true _ ?side1 ?side2 ?side3 ?side4 P4.out).mono ?_
   (case side1 => exact qD_ (Kd.R_reads' V.out).2.2)
   (case side2 => exact (Kd.R_reads' V.out).2.1)
   (case side3 => exact qD_ (Kd.R_reads' r1.out).2.2)
   (case side4 => exact (Kd.R_reads' r1.out).2.1)
   rintro e aS ⟨rfl, hb⟩
   refine ⟨_, rfl, ?_⟩
   replace G := kb_ G hb; replace V := kb_ V hb; replace E := kb_ E hb; replace r1 := kb_ r1 hb; replace g := qbl_ g hb; replace l := qbl_ l hb; replace q := qbl_ q hb; replace s := qbl_ s hb; replace u := qbl_ u hb; replace y := qbl_ y hb; replace z := qbl_ z hb; replace HB := hs_ hb; (try clear hb); (try clear hk)
   refine hK.out _ _ ⟨bl_ u 0, bl_ u 1, bl_ g 0, bl_ g 1⟩ (fun hHeld => ?_)
   clear hK K
   refine nm_ 71 ?_
   refine pure_ (i := 4) (N := some 72) (v := ?_) (a' := ?_) (bm 5 31) rfl rfl (by kernel_rfl) (fun _ _ _ h => h) (Or.inl ⟨by rfl, ?_⟩) ?_ ?_
   rotate_left
   ·intro w'
    go_simp
    with_reducible rfl
   rotate_left
   ·simp only [Act.put, sA_, sB_, sC_, i64_w, i32_w]
    rfl
   refine done_ (by kernel_rfl) ?_
   obtain ⟨gD, gE⟩ := nn_ X0; obtain ⟨gF, gG⟩ := nn_ X1; obtain ⟨gH, gI⟩ := nn_ X2; obtain ⟨gJ, gK⟩ := nn_ X3; obtain ⟨gL, gM⟩ := nn_ v1; obtain ⟨gN, gO⟩ := nn_ v2
   obtain ⟨gP, gQ, gR, gS⟩ := bc2_ u
   go_upto_region 14 with (first | ((with_reducible refine gc_ 35 ?_); refine gl_ (some 75) Try.func35 #[.agg #[.int .i64 k7, .slice c6 d0.length c7], .int .i64 1] ?_; (with_reducible refine (laws_markWeb.calls kj15 k7 (fun k_ => some k_ = (.slice c6 d0.length c7 : Value).ownBlock) (.slice c6 d0.length c7) d0 1 P5 s1 w _ ?side1 ?side2 P6.out).mono ?_); (case side1 => repeat (first | (with_reducible first | exact HB.out | apply below_alloc | apply pw_below_drewN | apply below_drew1 | refine below_set ?_ J3.out | refine below_set ?_ J4.out | refine below_set ?_ B1.out | refine below_set ?_ y6.out | refine below_set ?_ G5.out | refine below_set ?_ B3.out | refine below_set ?_ B4.out) | exact HB.out)); (case side2 => exact Kd.R_tight rfl V.out); rintro e aT ⟨rfl, y3, hb, hkp⟩; refine ⟨_, rfl, ?_⟩; refine dn12_ (am_ (Kd.R_mono (ok' := fun k_ => some k_ ≠ (.slice c6 d0.length c7 : Value).ownBlock ∧ some k_ ≠ (d1 : Value).ownBlock ∧ some k_ ≠ (.slice P8 H2.length P9 : Value).ownBlock) (Kd.R_keptB (G.out) hkp (fun k_ hk_ hs_ => by first | exact (hk_.1.1) hs_ | exact qv_ hk_ hs_)) (fun k_ hk_ => by first | exact ⟨hk_.1.1.1, hk_.1.1.2, hk_.1.2⟩ | exact qw_ hk_))) (am_ (Kd.R_reok rfl y3 (fun k_ e_ => V.out.1 k_ e_))) (am_ (Kd.R_mono (ok' := fun k_ => some k_ ≠ (a8 : Value).ownBlock ∧ some k_ ≠ (.slice c6 d0.length c7 : Value).ownBlock ∧ some k_ ≠ (.slice P8 H2.length P9 : Value).ownBlock) (Kd.R_keptB (E.out) hkp (fun k_ hk_ hs_ => by first | exact (hk_.1.2) hs_ | exact qv_ hk_ hs_)) (fun k_ hk_ => by first | exact ⟨hk_.1.1.1, hk_.1.1.2, hk_.1.2⟩ | exact qw_ hk_))) (qkp_ g hkp (fun hs_ => (fun e_ => (Kd.R_ne V.out g.out (by decide)) e_) hs_)) (qkp_ l hkp (fun hs_ => (fun e_ => (Kd.R_ne V.out l.out (by decide)) e_) hs_)) (qkp_ q hkp (fun hs_ => (fun e_ => (Kd.R_ne V.out q.out (by decide)) e_) hs_)) (qkp_ s hkp (fun hs_ => (fun e_ => (Kd.R_ne V.out s.out (by decide)) e_) hs_)) (qkp_ u hkp (fun hs_ => (fun e_ => (Kd.R_ne V.out u.out (by decide)) e_) hs_)) (qkp_ y hkp (fun hs_ => (fun e_ => (Kd.R_ne V.out y.out (by decide)) e_) hs_)) (qkp_ z hkp (fun hs_ => (fun e_ => (Kd.R_ne V.out z.out (by decide)) e_) hs_)) (am_ (Kd.R_mono (ok' := fun k_ => some k_ ≠ (a8 : Value).ownBlock ∧ some k_ ≠ (.slice c6 d0.length c7 : Value).ownBlock ∧ some k_ ≠ (d1 : Value).ownBlock) (Kd.R_keptB (r1.out) hkp (fun k_ hk_ hs_ => by first | exact (hk_.1.2) hs_ | exact qv_ hk_ hs_)) (fun k_ hk_ => by first | exact ⟨hk_.1.1.1.2, hk_.1.1.2, hk_.1.2⟩ | exact qw_ hk_))) (am_ (hb)) ?_; clear G V E g l q s u y z r1 HB; intro G V E g l q s u y z r1 HB; (try clear hb); (try clear hkp); (try clear y3)))
   (try simp only [Act.put, sA_, sB_, sC_])
   go_cut [99] (fun v99 wc => ∃ (kq : Nat) (q5 : Bool), v99 = .bool q5 ∧ Aside0 (laws_FnExactWebTake.j1 kq f0 t0 q5 F D M O e5 e9 o3 o4 e6 d3 = some true) ∧ Aside0 (kq ≤ kj15) ∧ Aside0 (Kd.R k72 72 wc w.heap.size (fun k_ => some k_ ≠ ((.slice c6 d0.length c7) : Value).ownBlock ∧ some k_ ≠ (d1 : Value).ownBlock) a8 e9) ∧ Aside0 (Kd.R k72 72 wc w.heap.size (fun k_ => some k_ ≠ (a8 : Value).ownBlock ∧ some k_ ≠ (d1 : Value).ownBlock) (.slice c6 d0.length c7) s1) ∧ Aside0 (Kd.R k72 72 wc w.heap.size (fun k_ => some k_ ≠ (a8 : Value).ownBlock ∧ some k_ ≠ ((.slice c6 d0.length c7) : Value).ownBlock) d1 d3) ∧ Aside0 (wc.heap[u7]? = some (.cells #[.int .i64 F, (.slice a6 D.length a7)] 24 (0, 0))) ∧ Aside0 (wc.heap[u6]? = some (.cells #[.int .i64 M, .int .i64 O] 37 (0, 0))) ∧ Aside0 (wc.heap[l1]? = some (.cells #[.int .i64 e5, a8] 29 (0, 0))) ∧ Aside0 (wc.heap[l2]? = some (.cells #[.int .i64 o3, .int .i64 o4] 43 (0, 0))) ∧ Aside0 (wc.heap[d4]? = some (.cells #[.int .i64 k7, (.slice c6 d0.length c7)] 29 (0, 0))) ∧ Aside0 (wc.heap[l3]? = some (.cells #[.int .i64 e6, d1] 29 (0, 0))) ∧ Aside0 (wc.heap[b4]? = some (.cells #[.int .i64 p0, .int .i64 p1] 43 (0, 0))) ∧ Aside0 (Below w.heap.size w wc))
   case first =>
    have H := P7.out; clear P7
    refine ic_ H ?_ ?_ <;> clear H <;> intro o5 H
    ·(first | rw [o5] | (simp only [i64_w, i32_w]; rw [o5]) | skip)
     have H' := am_ H; clear H
     go_wp2
     go_meet
     case rel => exact ⟨_, (true), qe_, H', ⟨by have := B2.out; first | omega | exact Nat.le_refl _⟩, ⟨by (with_reducible repeat (first | apply Kd.R_alloc | apply Kd.R_drewN | apply Kd.R_drew)); exact Kd.R_mono G.out (fun _ hk => by first | exact ⟨hk.1, hk.2.1⟩ | trivial | exact qw_ hk)⟩, ⟨by (with_reducible repeat (first | apply Kd.R_alloc | apply Kd.R_drewN | apply Kd.R_drew)); exact Kd.R_mono V.out (fun _ hk => by first | exact ⟨hk.1.1, hk.1.2⟩ | trivial | exact qw_ hk)⟩, ⟨by (with_reducible repeat (first | apply Kd.R_alloc | apply Kd.R_drewN | apply Kd.R_drew)); exact Kd.R_mono E.out (fun _ hk => by first | exact ⟨hk.1, hk.2.1⟩ | trivial | exact qw_ hk)⟩, ⟨qk_ g⟩, ⟨qk_ l⟩, ⟨qk_ q⟩, ⟨qk_ s⟩, ⟨qk_ u⟩, ⟨qk_ y⟩, ⟨qk_ z⟩, ⟨qB_⟩⟩
    (first | rw [o5] | (simp only [i64_w, i32_w]; rw [o5]) | skip)
    obtain ⟨rE, I4, H⟩ := bs_ H
    refine id_ H ?_ ?_ <;> clear H <;> rintro rfl H
    ·have H' := am_ H; clear H; obtain ⟨gT, gU⟩ := nn_ r5; obtain ⟨gV, gW⟩ := nn_ r6; obtain ⟨gX, gY⟩ := nn_ r7; obtain ⟨gZ, hc⟩ := nn_ r8; obtain ⟨he, hf⟩ := nn_ r9; obtain ⟨hh, hi⟩ := nn_ s0
     obtain ⟨hj, hl, hm, hn⟩ := bc2_ y
     obtain ⟨ho, hp⟩ := nn_ q7; obtain ⟨hq, hs⟩ := nn_ q8; obtain ⟨ht, hu⟩ := nn_ q9; obtain ⟨hv, hx⟩ := nn_ u5; obtain ⟨hy, hz⟩ := nn_ r0
     obtain ⟨hA, hB, hC, hD⟩ := bc2_ q
     obtain ⟨hE, hF, Q0⟩ := Kd.R_slice E.out
     subst Q0
     obtain ⟨hG, hH, Q1⟩ := Kd.R_slice G.out
     subst Q1
     go_wp2_with (first | (go_at_call 17; (with_reducible refine (laws_eqWeb.calls kj15 e6 _ _ d3 e5 _ _ e9 false _ ?_ ?_ ?_ ?_ I4.out).mono ?_); exact qD_ (Kd.R_reads' E.out).2.2; exact (Kd.R_reads' E.out).2.1; exact qD_ (Kd.R_reads' G.out).2.2; exact (Kd.R_reads' G.out).2.1; rintro e aU ⟨rfl, hb⟩; replace G := kb_ G hb; replace V := kb_ V hb; replace E := kb_ E hb; replace r1 := kb_ r1 hb; replace g := qbl_ g hb; replace l := qbl_ l hb; replace q := qbl_ q hb; replace s := qbl_ s hb; replace u := qbl_ u hb; replace y := qbl_ y hb; replace z := qbl_ z hb; replace HB := hs_ hb; (try clear hb); (try clear hk)))
     go_meet
     case rel => exact ⟨_, (true), qe_, H', ⟨by have := B2.out; first | omega | exact Nat.le_refl _⟩, ⟨by (with_reducible repeat (first | apply Kd.R_alloc | apply Kd.R_drewN | apply Kd.R_drew)); exact Kd.R_mono G.out (fun _ hk => by first | exact ⟨hk.1, hk.2.1⟩ | trivial | exact qw_ hk)⟩, ⟨by (with_reducible repeat (first | apply Kd.R_alloc | apply Kd.R_drewN | apply Kd.R_drew)); exact Kd.R_mono V.out (fun _ hk => by first | exact ⟨hk.1.1, hk.1.2⟩ | trivial | exact qw_ hk)⟩, ⟨by (with_reducible repeat (first | apply Kd.R_alloc | apply Kd.R_drewN | apply Kd.R_drew)); exact Kd.R_mono E.out (fun _ hk => by first | exact ⟨hk.1, hk.2.1⟩ | trivial | exact qw_ hk)⟩, ⟨qk_ g⟩, ⟨qk_ l⟩, ⟨qk_ q⟩, ⟨qk_ s⟩, ⟨qk_ u⟩, ⟨qk_ y⟩, ⟨qk_ z⟩, ⟨qB_⟩⟩
    obtain ⟨rF, E4, H⟩ := bs_ H
    refine id_ H ?_ ?_ <;> clear H <;> rintro rfl H
    ·have H' := am_ H; clear H; obtain ⟨hI, hJ⟩ := nn_ r5; obtain ⟨hL, hM⟩ := nn_ r6; obtain ⟨hN, hO⟩ := nn_ r7; obtain ⟨hP, hQ⟩ := nn_ r8; obtain ⟨hR, hS⟩ := nn_ r9; obtain ⟨hT, hU⟩ := nn_ s0
     obtain ⟨hV, hW, hX, hY⟩ := bc2_ y
     obtain ⟨hZ, ia⟩ := nn_ q7; obtain ⟨ib, ic⟩ := nn_ q8; obtain ⟨id, ie⟩ := nn_ q9; obtain ⟨ig, ih⟩ := nn_ u5; obtain ⟨ii, ij⟩ := nn_ r0
     obtain ⟨ik, il, im, io⟩ := bc2_ q
     obtain ⟨ip, iq, Q2⟩ := Kd.R_slice E.out
     subst Q2
     obtain ⟨ir, is, Q3⟩ := Kd.R_slice G.out
     subst Q3
     go_wp2_with (first | (go_at_call 17; (with_reducible refine (laws_eqWeb.calls kj15 e6 _ _ d3 e5 _ _ e9 true _ ?_ ?_ ?_ ?_ I4.out).mono ?_); exact qD_ (Kd.R_reads' E.out).2.2; exact (Kd.R_reads' E.out).2.1; exact qD_ (Kd.R_reads' G.out).2.2; exact (Kd.R_reads' G.out).2.1; rintro e aV ⟨rfl, hb⟩; replace G := kb_ G hb; replace V := kb_ V hb; replace E := kb_ E hb; replace r1 := kb_ r1 hb; replace g := qbl_ g hb; replace l := qbl_ l hb; replace q := qbl_ q hb; replace s := qbl_ s hb; replace u := qbl_ u hb; replace y := qbl_ y hb; replace z := qbl_ z hb; replace HB := hs_ hb; (try clear hb); (try clear hk); obtain ⟨it, iu⟩ := nn_ t3; obtain ⟨iv, iw⟩ := nn_ t4; obtain ⟨ix, iy⟩ := nn_ t5; obtain ⟨iz, iA⟩ := nn_ t6; obtain ⟨iB, iC, iD, iE⟩ := bc2_ z; obtain ⟨iF, iG⟩ := nn_ s5; obtain ⟨iH, iI⟩ := nn_ s6; obtain ⟨iJ, iK⟩ := nn_ A8; obtain ⟨iL, iM, iN, iO⟩ := bc2_ s) | (go_at_call 43; (with_reducible refine (laws_eqEdge.calls p0 p1 o3 o4 false _ E4.out).mono ?_); rintro e aW ⟨rfl, hb⟩; replace G := kb_ G hb; replace V := kb_ V hb; replace E := kb_ E hb; replace r1 := kb_ r1 hb; replace g := qbl_ g hb; replace l := qbl_ l hb; replace q := qbl_ q hb; replace s := qbl_ s hb; replace u := qbl_ u hb; replace y := qbl_ y hb; replace z := qbl_ z hb; replace HB := hs_ hb; (try clear hb); (try clear hk)))
     go_meet
     case rel => exact ⟨_, (true), qe_, H', ⟨by have := B2.out; first | omega | exact Nat.le_refl _⟩, ⟨by (with_reducible repeat (first | apply Kd.R_alloc | apply Kd.R_drewN | apply Kd.R_drew)); exact Kd.R_mono G.out (fun _ hk => by first | exact ⟨hk.1, hk.2.1⟩ | trivial | exact qw_ hk)⟩, ⟨by (with_reducible repeat (first | apply Kd.R_alloc | apply Kd.R_drewN | apply Kd.R_drew)); exact Kd.R_mono V.out (fun _ hk => by first | exact ⟨hk.1.1, hk.1.2⟩ | trivial | exact qw_ hk)⟩, ⟨by (with_reducible repeat (first | apply Kd.R_alloc | apply Kd.R_drewN | apply Kd.R_drew)); exact Kd.R_mono E.out (fun _ hk => by first | exact ⟨hk.1, hk.2.1⟩ | trivial | exact qw_ hk)⟩, ⟨qk_ g⟩, ⟨qk_ l⟩, ⟨qk_ q⟩, ⟨qk_ s⟩, ⟨qk_ u⟩, ⟨qk_ y⟩, ⟨qk_ z⟩, ⟨qB_⟩⟩
    refine jc_ H ?_ ?_ <;> clear H <;> intro n6 H
    ·have w3 : (o8 != f0) = true := n6
     (try (have w4 : decide (o8 = f0) = false := by simpa using n6))
     (try (have w5 : (o8 == f0) = false := by simpa using n6))
     (try (have I5 : ¬ (o8 = f0) := by simpa using n6))
     clear n6; have H' := am_ H; clear H; obtain ⟨iP, iQ⟩ := nn_ r5; obtain ⟨iR, iS⟩ := nn_ r6; obtain ⟨iT, iU⟩ := nn_ r7; obtain ⟨iV, iW⟩ := nn_ r8; obtain ⟨iX, iY⟩ := nn_ r9; obtain ⟨iZ, ja⟩ := nn_ s0
     obtain ⟨jb, jc, jd, je⟩ := bc2_ y
     obtain ⟨jf, jg⟩ := nn_ q7; obtain ⟨jh, ji⟩ := nn_ q8; obtain ⟨jj, jk⟩ := nn_ q9; obtain ⟨jl, jm⟩ := nn_ u5; obtain ⟨jn, jo⟩ := nn_ r0
     obtain ⟨jp, jq, jr, js⟩ := bc2_ q
     obtain ⟨jt, ju, Q4⟩ := Kd.R_slice E.out
     subst Q4
     obtain ⟨jv, jw, Q5⟩ := Kd.R_slice G.out
     subst Q5
     go_wp2_with (first | (go_at_call 17; (with_reducible refine (laws_eqWeb.calls kj15 e6 _ _ d3 e5 _ _ e9 true _ ?_ ?_ ?_ ?_ I4.out).mono ?_); exact qD_ (Kd.R_reads' E.out).2.2; exact (Kd.R_reads' E.out).2.1; exact qD_ (Kd.R_reads' G.out).2.2; exact (Kd.R_reads' G.out).2.1; rintro e aX ⟨rfl, hb⟩; replace G := kb_ G hb; replace V := kb_ V hb; replace E := kb_ E hb; replace r1 := kb_ r1 hb; replace g := qbl_ g hb; replace l := qbl_ l hb; replace q := qbl_ q hb; replace s := qbl_ s hb; replace u := qbl_ u hb; replace y := qbl_ y hb; replace z := qbl_ z hb; replace HB := hs_ hb; (try clear hb); (try clear hk); obtain ⟨jx, jy⟩ := nn_ t3; obtain ⟨jz, jA⟩ := nn_ t4; obtain ⟨jB, jC⟩ := nn_ t5; obtain ⟨jD, jE⟩ := nn_ t6; obtain ⟨jF, jG, jH, jI⟩ := bc2_ z; obtain ⟨jJ, jK⟩ := nn_ s5; obtain ⟨jL, jM⟩ := nn_ s6; obtain ⟨jN, jO⟩ := nn_ A8; obtain ⟨jP, jQ, jR, jS⟩ := bc2_ s) | (go_at_call 43; (with_reducible refine (laws_eqEdge.calls p0 p1 o3 o4 true _ E4.out).mono ?_); rintro e aY ⟨rfl, hb⟩; replace G := kb_ G hb; replace V := kb_ V hb; replace E := kb_ E hb; replace r1 := kb_ r1 hb; replace g := qbl_ g hb; replace l := qbl_ l hb; replace q := qbl_ q hb; replace s := qbl_ s hb; replace u := qbl_ u hb; replace y := qbl_ y hb; replace z := qbl_ z hb; replace HB := hs_ hb; (try clear hb); (try clear hk)))
     go_meet
     case rel => exact ⟨_, (true), qe_, H', ⟨by have := B2.out; first | omega | exact Nat.le_refl _⟩, ⟨by (with_reducible repeat (first | apply Kd.R_alloc | apply Kd.R_drewN | apply Kd.R_drew)); exact Kd.R_mono G.out (fun _ hk => by first | exact ⟨hk.1, hk.2.1⟩ | trivial | exact qw_ hk)⟩, ⟨by (with_reducible repeat (first | apply Kd.R_alloc | apply Kd.R_drewN | apply Kd.R_drew)); exact Kd.R_mono V.out (fun _ hk => by first | exact ⟨hk.1.1, hk.1.2⟩ | trivial | exact qw_ hk)⟩, ⟨by (with_reducible repeat (first | apply Kd.R_alloc | apply Kd.R_drewN | apply Kd.R_drew)); exact Kd.R_mono E.out (fun _ hk => by first | exact ⟨hk.1, hk.2.1⟩ | trivial | exact qw_ hk)⟩, ⟨qk_ g⟩, ⟨qk_ l⟩, ⟨qk_ q⟩, ⟨qk_ s⟩, ⟨qk_ u⟩, ⟨qk_ y⟩, ⟨qk_ z⟩, ⟨qB_⟩⟩
    have w3 : (o8 != f0) = false := by simpa using n6
    (try (have w4 : decide (o8 = f0) = true := by simpa using n6))
    (try (have w5 : (o8 == f0) = true := by simpa using n6))
    clear n6; have H' := am_ H; clear H; obtain ⟨jT, jU⟩ := nn_ r5; obtain ⟨jV, jW⟩ := nn_ r6; obtain ⟨jX, jY⟩ := nn_ r7; obtain ⟨jZ, ka⟩ := nn_ r8; obtain ⟨kb, kc⟩ := nn_ r9; obtain ⟨kd, ke⟩ := nn_ s0
    obtain ⟨kf, kg, kh, ki⟩ := bc2_ y
    obtain ⟨kj, kk⟩ := nn_ q7; obtain ⟨kl, km⟩ := nn_ q8; obtain ⟨kn, ko⟩ := nn_ q9; obtain ⟨kp, kr⟩ := nn_ u5; obtain ⟨ks, kt⟩ := nn_ r0
    obtain ⟨ku, kv, kw, kx⟩ := bc2_ q
    obtain ⟨ky, kz, Q6⟩ := Kd.R_slice E.out
    subst Q6
    obtain ⟨kA, kB, Q7⟩ := Kd.R_slice G.out
    subst Q7
    go_wp2_with (first | (go_at_call 17; (with_reducible refine (laws_eqWeb.calls kj15 e6 _ _ d3 e5 _ _ e9 true _ ?_ ?_ ?_ ?_ I4.out).mono ?_); exact qD_ (Kd.R_reads' E.out).2.2; exact (Kd.R_reads' E.out).2.1; exact qD_ (Kd.R_reads' G.out).2.2; exact (Kd.R_reads' G.out).2.1; rintro e aZ ⟨rfl, hb⟩; replace G := kb_ G hb; replace V := kb_ V hb; replace E := kb_ E hb; replace r1 := kb_ r1 hb; replace g := qbl_ g hb; replace l := qbl_ l hb; replace q := qbl_ q hb; replace s := qbl_ s hb; replace u := qbl_ u hb; replace y := qbl_ y hb; replace z := qbl_ z hb; replace HB := hs_ hb; (try clear hb); (try clear hk); obtain ⟨kC, kD⟩ := nn_ t3; obtain ⟨kE, kF⟩ := nn_ t4; obtain ⟨kG, kH⟩ := nn_ t5; obtain ⟨kI, kJ⟩ := nn_ t6; obtain ⟨kK, kL, kM, kN⟩ := bc2_ z; obtain ⟨kO, kP⟩ := nn_ s5; obtain ⟨kQ, kR⟩ := nn_ s6; obtain ⟨kS, kT⟩ := nn_ A8; obtain ⟨kU, kV, kW, kX⟩ := bc2_ s) | (go_at_call 43; (with_reducible refine (laws_eqEdge.calls p0 p1 o3 o4 true _ E4.out).mono ?_); rintro e ba ⟨rfl, hb⟩; replace G := kb_ G hb; replace V := kb_ V hb; replace E := kb_ E hb; replace r1 := kb_ r1 hb; replace g := qbl_ g hb; replace l := qbl_ l hb; replace q := qbl_ q hb; replace s := qbl_ s hb; replace u := qbl_ u hb; replace y := qbl_ y hb; replace z := qbl_ z hb; replace HB := hs_ hb; (try clear hb); (try clear hk)))
    go_meet
    case rel => exact ⟨_, ((t7 != t0)), qe_, H', ⟨by have := B2.out; first | omega | exact Nat.le_refl _⟩, ⟨by (with_reducible repeat (first | apply Kd.R_alloc | apply Kd.R_drewN | apply Kd.R_drew)); exact Kd.R_mono G.out (fun _ hk => by first | exact ⟨hk.1, hk.2.1⟩ | trivial | exact qw_ hk)⟩, ⟨by (with_reducible repeat (first | apply Kd.R_alloc | apply Kd.R_drewN | apply Kd.R_drew)); exact Kd.R_mono V.out (fun _ hk => by first | exact ⟨hk.1.1, hk.1.2⟩ | trivial | exact qw_ hk)⟩, ⟨by (with_reducible repeat (first | apply Kd.R_alloc | apply Kd.R_drewN | apply Kd.R_drew)); exact Kd.R_mono E.out (fun _ hk => by first | exact ⟨hk.1, hk.2.1⟩ | trivial | exact qw_ hk)⟩, ⟨qk_ g⟩, ⟨qk_ l⟩, ⟨qk_ q⟩, ⟨qk_ s⟩, ⟨qk_ u⟩, ⟨qk_ y⟩, ⟨qk_ z⟩, ⟨qB_⟩⟩
   case rest =>
    clear P7; (try clear q3); (try clear n9); (try clear q4); (try clear w0); (try clear o5); (try clear n6); (try clear w3); (try clear w4); (try clear w5); (try clear aB aC); (try clear aG aH); (try clear aK aL); (try clear Y7 Y8); (try clear Z1 Z2); (try clear Z6 Z7); (try clear aa ab); (try clear X8 X9); (try clear Y2 Y3); (try clear gP gQ); (try clear jb jc); (try clear jp jq); (try clear jF jG); (try clear jP jQ); (try clear kf kg); (try clear ku kv); (try clear kK kL); (try clear kU kV); (try clear hV hW); (try clear ik il); (try clear iB iC); (try clear iL iM); (try clear hj hl); (try clear hA hB); (try clear af ag); (try clear aj ak); (try clear an ao); (try clear ar au); (try clear ax ay); (try clear aD aE); (try clear aI aJ); (try clear aM aN); (try clear Y9 Z0); (try clear Z3 Z4); (try clear Z8 Z9); (try clear ac ad); (try clear Y0 Y1); (try clear Y4 Y5); (try clear gR gS); (try clear jd je); (try clear jr js); (try clear jH jI); (try clear jR jS); (try clear kh ki); (try clear kw kx); (try clear kM kN); (try clear kW kX); (try clear hX hY); (try clear im io); (try clear iD iE); (try clear iN iO); (try clear hm hn); (try clear hC hD); (try clear ah ai); (try clear al am); (try clear ap aq); (try clear av aw); (try clear az aA)
    obtain ⟨kq, q5, rfl, HA, I6, G, V, E, g, l, q, s, u, y, z, HB⟩ := hcut
    have c := (Kd.R_reads' V.out).1
    rw [c] at V
    (try simp only [c])
    (try simp only [c] at g)
    (try simp only [c] at l)
    (try simp only [c] at q)
    (try simp only [c] at s)
    (try simp only [c] at u)
    (try simp only [c] at y)
    (try simp only [c] at z)
    (try simp only [c] at G)
    (try simp only [c] at E)
    cases kq with
    | zero => exact absurd HA.out (by simp [laws_FnExactWebTake.j1])
    | succ kj161 =>
     have H := HA.out; clear HA
     simp only [laws_FnExactWebTake.j1] at H
     refine ie_ H ?_ ?_ <;> clear H <;> rintro rfl H
     ·exact absurd (oi_ H) (by decide)
     obtain ⟨⟨z2, z3⟩, Q8, H⟩ := bs_ H; dsimp only at H
     obtain ⟨H3, Q9, H⟩ := bs_ H
     refine ic_ H ?_ ?_ <;> clear H <;> intro C0 H <;> (try simp only [c] at C0)
     ·exact absurd (oi_ H) (by decide)
     refine jb_ H ?_ ?_ <;> clear H <;> intro t1 H
     ·have C1 : (H3 == z2) = false := beq_eq_false_iff_ne.mpr t1
      have C2 : (H3 != z2) = true := bne_iff_ne.mpr t1
      exact absurd (oi_ H) (by decide)
     have C1 : (H3 == z2) = true := beq_iff_eq.mpr t1
     have C2 : (H3 != z2) = false := bne_eq_false_iff_eq.mpr t1
     clear t1
     obtain ⟨⟨H4, E5⟩, R0, H⟩ := bs_ H; dsimp only at H
     obtain ⟨⟨F3, F4⟩, R1, H⟩ := bs_ H; dsimp only at H
     obtain ⟨⟨p6, s8, s2, s3, s9, B9⟩, R2, H⟩ := bs_ H; dsimp only at H
     have R3 := am_ H
     clear H; obtain ⟨kY, kZ⟩ := nn_ r5; obtain ⟨la, lb⟩ := nn_ r6; obtain ⟨lc, ld⟩ := nn_ r7; obtain ⟨le, lf⟩ := nn_ r8; obtain ⟨lg, lh⟩ := nn_ r9; obtain ⟨li, lj⟩ := nn_ s0
     obtain ⟨lk, ll, lm, ln⟩ := bc2_ y
     obtain ⟨r2, r3, R4⟩ := Kd.R_slice E.out
     subst R4
     try go_wp2_with (first | ((with_reducible refine gc_ 35 ?_); refine gl_ (some 102) Try.func35 #[.agg #[.int .i64 e6, .slice r2 d3.length r3], .int .i64 1] ?_; (with_reducible refine (laws_markWeb.calls kj161 e6 (fun k_ => some k_ = (.slice r2 d3.length r3 : Value).ownBlock) (.slice r2 d3.length r3) d3 1 z2 z3 w _ ?side1 ?side2 Q8.out).mono ?_); (case side1 => repeat (first | (with_reducible first | exact HB.out | apply below_alloc | apply pw_below_drewN | apply below_drew1 | refine below_set ?_ J3.out | refine below_set ?_ J4.out | refine below_set ?_ B1.out | refine below_set ?_ y6.out | refine below_set ?_ G5.out | refine below_set ?_ B3.out | refine below_set ?_ B4.out) | exact HB.out)); (case side2 => exact Kd.R_tight rfl E.out); rintro e bb ⟨rfl, y3, hb, hkp⟩; refine ⟨_, rfl, ?_⟩; refine dn11_ (am_ (Kd.R_mono (ok' := fun k_ => some k_ ≠ (.slice c6 s1.length c7 : Value).ownBlock ∧ some k_ ≠ (.slice r2 d3.length r3 : Value).ownBlock) (Kd.R_keptB (G.out) hkp (fun k_ hk_ hs_ => by first | exact (hk_.2) hs_ | exact qv_ hk_ hs_)) (fun k_ hk_ => by first | exact ⟨hk_.1.1, hk_.1.2⟩ | exact qw_ hk_))) (am_ (Kd.R_mono (ok' := fun k_ => some k_ ≠ (a8 : Value).ownBlock ∧ some k_ ≠ (.slice r2 d3.length r3 : Value).ownBlock) (Kd.R_keptB (V.out) hkp (fun k_ hk_ hs_ => by first | exact (hk_.2) hs_ | exact qv_ hk_ hs_)) (fun k_ hk_ => by first | exact ⟨hk_.1.1, hk_.1.2⟩ | exact qw_ hk_))) (am_ (Kd.R_reok rfl y3 (fun k_ e_ => E.out.1 k_ e_))) (qkp_ g hkp (fun hs_ => (fun e_ => (Kd.R_ne E.out g.out (by decide)) e_) hs_)) (qkp_ l hkp (fun hs_ => (fun e_ => (Kd.R_ne E.out l.out (by decide)) e_) hs_)) (qkp_ q hkp (fun hs_ => (fun e_ => (Kd.R_ne E.out q.out (by decide)) e_) hs_)) (qkp_ s hkp (fun hs_ => (fun e_ => (Kd.R_ne E.out s.out (by decide)) e_) hs_)) (qkp_ u hkp (fun hs_ => (fun e_ => (Kd.R_ne E.out u.out (by decide)) e_) hs_)) (qkp_ y hkp (fun hs_ => (fun e_ => (Kd.R_ne E.out y.out (by decide)) e_) hs_)) (qkp_ z hkp (fun hs_ => (fun e_ => (Kd.R_ne E.out z.out (by decide)) e_) hs_)) (am_ (hb)) ?_; clear G V E g l q s u y z HB; intro G V E g l q s u y z HB; (try clear hb); (try clear hkp); (try clear y3); obtain ⟨lo, lp, lq, lr⟩ := bc2_ y) | ((with_reducible refine gc_ 40 ?_); refine goesL_ (some 105) rfl rfl Try.func40 (by kernel_rfl) rfl #[.agg #[.int .i64 e6, .slice r2 z3.length r3], .int .i64 1] rfl (by (try simp only [List.map_toArray, List.map_cons, List.map_nil]); first | done | (rw [show z3.length = d3.length from (Kd.R_reads' E.out).1.symm] <;> rfl) | rfl | (simp only [List.length_drop, List.length_take]; rfl)) ?_; (with_reducible refine (laws_heldWeb.calls kj161 e6 _ _ z3 1 H3 _ ?side1 ?side2 Q9.out).mono ?_); (case side1 => exact qD_ (Kd.R_reads' E.out).2.2); (case side2 => rw [show z3.length = d3.length from (Kd.R_reads' E.out).1.symm]; exact (Kd.R_reads' E.out).2.1); rintro e H5 ⟨rfl, hb⟩; refine ⟨_, rfl, ?_⟩; replace G := kb_ G hb; replace V := kb_ V hb; replace E := kb_ E hb; replace g := qbl_ g hb; replace l := qbl_ l hb; replace q := qbl_ q hb; replace s := qbl_ s hb; replace u := qbl_ u hb; replace y := qbl_ y hb; replace z := qbl_ z hb; replace HB := hs_ hb; (try clear hb); (try clear hk)))
     replace G := rd_ G; replace V := rd_ V; replace E := rd_ E; replace g := bd_ g; replace l := bd_ l; replace q := bd_ q; replace s := bd_ s; replace u := bd_ u; replace y := bd_ y; replace z := bd_ z; replace HB := hd_ HB
     refine start_ (n := 16) (S := fun w' => True) (ds := []) (bm 16 0) (by kernel_rfl) rfl (by kernel_rfl) trivial (fun hHeld => ?_); refine with_tabW laws_FnExactWebTake.tab24 laws_FnExactWebTake.bits24 (fun HT_ HW_ => ?_)
     generalize H5.drew = bc at G V E g l q s u y z HB hHeld ⊢
     refine inv_at [0, 1, 2, 3, 4, 5, 6, 7, 8, 9, 10, 11, 12, 13, 14, 15] (fun y2 b a w' => ∃ (v5 : Value) (d2 : Value) (b3 : Nat) (l0 : Nat) (A : Value) (m : Value) (j : Value) (B : Value) (m10_ : Value) (m11_ : Value), a = putSel y2 b [(0, 112, .agg #[.int .i64 F, .slice a6 D.length a7]), (1, 113, A), (2, 114, .agg #[.int .i64 M, .int .i64 O]), (3, 115, .agg #[.int .i64 F3, .int .i64 F4]), (4, 116, m), (5, 111, j), (6, 117, B), (7, 118, .agg #[.int .i64 s2, .int .i64 s3]), (8, 119, .bool s9), (9, 120, .bool B9), (10, 18, m10_), (11, 19, m11_), (14, 20, .bool s9), (15, 21, .bool B9)] ∧ (Kd.R k72 72 w' w.heap.size (fun k_ => some k_ ≠ (.slice c6 s1.length c7 : Value).ownBlock ∧ some k_ ≠ (.slice r2 d3.length r3 : Value).ownBlock) a8 e9) ∧ (Kd.R k72 72 w' w.heap.size (fun k_ => some k_ ≠ (a8 : Value).ownBlock ∧ some k_ ≠ (.slice r2 d3.length r3 : Value).ownBlock) (.slice c6 s1.length c7) s1) ∧ (Kd.R k72 72 w' w.heap.size (fun k_ => some k_ ≠ (a8 : Value).ownBlock ∧ some k_ ≠ (.slice c6 s1.length c7 : Value).ownBlock) (.slice r2 d3.length r3) z3) ∧ (w'.heap[u7]? = some (.cells #[.int .i64 F, .slice a6 D.length a7] 24 (0, 0))) ∧ (w'.heap[u6]? = some (.cells #[.int .i64 M, .int .i64 O] 37 (0, 0))) ∧ (w'.heap[l1]? = some (.cells #[.int .i64 e5, a8] 29 (0, 0))) ∧ (w'.heap[l2]? = some (.cells #[.int .i64 o3, .int .i64 o4] 43 (0, 0))) ∧ (w'.heap[d4]? = some (.cells #[.int .i64 k7, .slice c6 s1.length c7] 29 (0, 0))) ∧ (w'.heap[l3]? = some (.cells #[.int .i64 e6, .slice r2 d3.length r3] 29 (0, 0))) ∧ (w'.heap[b4]? = some (.cells #[.int .i64 p0, .int .i64 p1] 43 (0, 0))) ∧ (Below w.heap.size w w') ∧ (b 10 = true → b 11 = true → l0 ≠ b3) ∧ (b 10 = true → b 11 = true → b3 ≠ l0) ∧ (b 1 = true → Kd.R k72 72 w' w.heap.size (fun k_ => some k_ ≠ (a8 : Value).ownBlock ∧ some k_ ≠ (.slice c6 s1.length c7 : Value).ownBlock ∧ some k_ ≠ (.slice r2 d3.length r3 : Value).ownBlock) v5 E5) ∧ (b 4 = true → Kd.R k72 72 w' w.heap.size (fun k_ => some k_ ≠ (a8 : Value).ownBlock ∧ some k_ ≠ (.slice c6 s1.length c7 : Value).ownBlock ∧ some k_ ≠ (.slice r2 d3.length r3 : Value).ownBlock) d2 s8) ∧ (b 10 = true → b 12 = false → w'.heap[b3]? = some (.cells #[.int .i64 0, .slice none 0 0] 29 (0, 0))) ∧ (b 10 = true → w.heap.size ≤ b3) ∧ (b 10 = true → w.heap.size ≤ b3) ∧ (b 10 = true → u7 ≠ b3) ∧ (b 10 = true → b3 ≠ u7) ∧ (b 10 = true → u6 ≠ b3) ∧ (b 10 = true → b3 ≠ u6) ∧ (b 10 = true → l1 ≠ b3) ∧ (b 10 = true → b3 ≠ l1) ∧ (b 10 = true → l2 ≠ b3) ∧ (b 10 = true → b3 ≠ l2) ∧ (b 10 = true → d4 ≠ b3) ∧ (b 10 = true → b3 ≠ d4) ∧ (b 10 = true → l3 ≠ b3) ∧ (b 10 = true → b3 ≠ l3) ∧ (b 10 = true → b4 ≠ b3) ∧ (b 10 = true → b3 ≠ b4) ∧ (b 11 = true → b 13 = false → w'.heap[l0]? = some (.cells #[.int .i64 0, .int .i64 0] 43 (0, 0))) ∧ (b 11 = true → w.heap.size ≤ l0) ∧ (b 11 = true → w.heap.size ≤ l0) ∧ (b 11 = true → u7 ≠ l0) ∧ (b 11 = true → l0 ≠ u7) ∧ (b 11 = true → u6 ≠ l0) ∧ (b 11 = true → l0 ≠ u6) ∧ (b 11 = true → l1 ≠ l0) ∧ (b 11 = true → l0 ≠ l1) ∧ (b 11 = true → l2 ≠ l0) ∧ (b 11 = true → l0 ≠ l2) ∧ (b 11 = true → d4 ≠ l0) ∧ (b 11 = true → l0 ≠ d4) ∧ (b 11 = true → l3 ≠ l0) ∧ (b 11 = true → l0 ≠ l3) ∧ (b 11 = true → b4 ≠ l0) ∧ (b 11 = true → l0 ≠ b4) ∧ (b 12 = true → w'.heap[b3]? = some (.cells #[.int .i64 p6, d2] 29 (0, 0))) ∧ (b 13 = true → w'.heap[l0]? = some (.cells #[.int .i64 s2, .int .i64 s3] 43 (0, 0))) ∧ (b 1 = true → (A : Value) = .agg #[.int .i64 H4, v5]) ∧ (b 4 = true → (m : Value) = .tuple #[.agg #[.int .i64 p6, d2], .agg #[.int .i64 s2, .int .i64 s3], .bool s9, .bool B9]) ∧ (b 5 = true → (j : Value) = .tuple #[.agg #[.int .i64 p6, d2], .agg #[.int .i64 s2, .int .i64 s3], .bool s9, .bool B9]) ∧ (b 6 = true → (B : Value) = .agg #[.int .i64 p6, d2]) ∧ (b 10 = true → (m10_ : Value) = .pointer (some ⟨b3, 0, none⟩)) ∧ (b 11 = true → (m11_ : Value) = .pointer (some ⟨l0, 0, none⟩))) HT_.out HW_.out (by kernel_rfl) (by kernel_rfl) ?_ ?_ ?_
     ·exact ⟨.bool false, .bool false, 0, 0, .bool false, .bool false, .bool false, .bool false, .bool false, .bool false, by simp only [putSel, Bool.false_eq_true, if_false], G.out, V.out, E.out, g.out, l.out, q.out, s.out, u.out, y.out, z.out, HB.out, fun h_ => absurd h_ (by decide), fun h_ => absurd h_ (by decide), fun h_ => absurd h_ (by decide), fun h_ => absurd h_ (by decide), fun h_ => absurd h_ (by decide), fun h_ => absurd h_ (by decide), fun h_ => absurd h_ (by decide), fun h_ => absurd h_ (by decide), fun h_ => absurd h_ (by decide), fun h_ => absurd h_ (by decide), fun h_ => absurd h_ (by decide), fun h_ => absurd h_ (by decide), fun h_ => absurd h_ (by decide), fun h_ => absurd h_ (by decide), fun h_ => absurd h_ (by decide), fun h_ => absurd h_ (by decide), fun h_ => absurd h_ (by decide), fun h_ => absurd h_ (by decide), fun h_ => absurd h_ (by decide), fun h_ => absurd h_ (by decide), fun h_ => absurd h_ (by decide), fun h_ => absurd h_ (by decide), fun h_ => absurd h_ (by decide), fun h_ => absurd h_ (by decide), fun h_ => absurd h_ (by decide), fun h_ => absurd h_ (by decide), fun h_ => absurd h_ (by decide), fun h_ => absurd h_ (by decide), fun h_ => absurd h_ (by decide), fun h_ => absurd h_ (by decide), fun h_ => absurd h_ (by decide), fun h_ => absurd h_ (by decide), fun h_ => absurd h_ (by decide), fun h_ => absurd h_ (by decide), fun h_ => absurd h_ (by decide), fun h_ => absurd h_ (by decide), fun h_ => absurd h_ (by decide), fun h_ => absurd h_ (by decide), fun h_ => absurd h_ (by decide), fun h_ => absurd h_ (by decide), fun h_ => absurd h_ (by decide), fun h_ => absurd h_ (by decide), fun h_ => absurd h_ (by decide), fun h_ => absurd h_ (by decide), fun h_ => absurd h_ (by decide), fun h_ => absurd h_ (by decide)⟩
     ·skip
      clear g l q s u y z HB G V E
      refine steps_cons ?_ ?_
      ·rintro b a w' ⟨v5, d2, b3, l0, A, m, j, B, m10_, m11_, ha, d7, d8, d9, I, J, U, T, a9, c0, b5, L, k4, k5, e3, e7, o0, g5, g6, g7, g8, g9, h0, h1, h2, h3, h4, h5, h6, h7, h8, h9, i0, n7, i1, i2, i3, i4, i5, i6, i7, i8, i9, j5, j6, j7, j8, j9, k0, k1, p3, p7, c5, a3, a4, c9, X, c3⟩ hb_ hon hoff
       refine ⟨_, rfl, fun K hK => ?_⟩
       have bJ : a.tmps[2]? = some (.pointer (some ⟨u7, 0, none⟩)) := by rw [ha]; exact (putSel_off rfl).trans rfl
       replace ha := am_ ha
       have G := am_ d7
       have V := am_ d8
       have E := am_ d9
       have g := am_ I
       have l := am_ J
       have q := am_ U
       have s := am_ T
       have u := am_ a9
       have y := am_ c0
       have z := am_ b5
       have HB := am_ L
       have hc0_ : w'.cell? ⟨u7, 0, none⟩ = some (.int .i64 F) := bl_ g 0
       have hc1_ : w'.cell? ⟨u7, 1, none⟩ = some (.slice a6 D.length a7) := bl_ g 1
       refine value_ (w1 := w') (v := .agg #[.int .i64 F, .slice a6 D.length a7]) (by rfl) rfl ?_ ?_
       ·go_simp
        (try simp only [i64_w])
        try rfl
       refine hK.out _ _ ⟨v5, d2, b3, l0, A, m, j, B, m10_, m11_, (by rw [ha.out]; exact putSel_upk 0 hb_ rfl rfl rfl), d7, d8, d9, I, J, U, T, a9, c0, b5, L, k4, k5, fun d => absurd ((hoff 1 (by kernel_rfl)).symm.trans d) (by decide), fun d => absurd ((hoff 4 (by kernel_rfl)).symm.trans d) (by decide), o0, g5, g6, g7, g8, g9, h0, h1, h2, h3, h4, h5, h6, h7, h8, h9, i0, n7, i1, i2, i3, i4, i5, i6, i7, i8, i9, j5, j6, j7, j8, j9, k0, k1, fun d => absurd ((hoff 12 (by kernel_rfl)).symm.trans d) (by decide), fun d => absurd ((hoff 13 (by kernel_rfl)).symm.trans d) (by decide), fun d => absurd ((hoff 1 (by kernel_rfl)).symm.trans d) (by decide), fun d => absurd ((hoff 4 (by kernel_rfl)).symm.trans d) (by decide), fun d => absurd ((hoff 5 (by kernel_rfl)).symm.trans d) (by decide), fun d => absurd ((hoff 6 (by kernel_rfl)).symm.trans d) (by decide), X, c3⟩
      refine steps_cons ?_ ?_
      ·rintro b a w' ⟨v5, d2, b3, l0, A, m, j, B, m10_, m11_, ha, d7, d8, d9, I, J, U, T, a9, c0, b5, L, k4, k5, e3, e7, o0, g5, g6, g7, g8, g9, h0, h1, h2, h3, h4, h5, h6, h7, h8, h9, i0, n7, i1, i2, i3, i4, i5, i6, i7, i8, i9, j5, j6, j7, j8, j9, k0, k1, p3, p7, c5, a3, a4, c9, X, c3⟩ hb_ hon hoff
       refine ⟨_, rfl, fun K hK => ?_⟩
       have D0 : a.tmps[112]? = some (.agg #[.int .i64 F, .slice a6 D.length a7]) := by rw [ha]; exact putSel_on (e := (0, 112, .agg #[.int .i64 F, .slice a6 D.length a7])) 0 rfl rfl (hon 0 (by kernel_rfl)) rfl
       replace ha := am_ ha
       have G := am_ d7
       have V := am_ d8
       have E := am_ d9
       have g := am_ I
       have l := am_ J
       have q := am_ U
       have s := am_ T
       have u := am_ a9
       have y := am_ c0
       have z := am_ b5
       have HB := am_ L
       refine goes_ Try.func15 (by kernel_rfl) rfl #[.agg #[.int .i64 F, .slice a6 D.length a7]] (by rfl) rfl rfl (by first | (simp only [List.map_toArray, List.map_cons, List.map_nil, Act.eval, Array.getD_eq_getD_getElem?, Option.getD_some, D0]; done) | (simp only [List.map_toArray, List.map_cons, List.map_nil, Act.eval, Array.getD_eq_getD_getElem?, Option.getD_some, D0]; rfl)) ?_
       with_reducible refine (laws_toWeb.calls kj161 F _ _ D H4 E5 _ ?side1 ?side2 R0.out).mono ?_
       (case side1 => exact qC_ o6 HB)
       (case side2 => exact o7.out)
       rintro e s4 ⟨v5, rfl, ho0, hb⟩
       refine ⟨_, rfl, ?_⟩
       have Z := ke_ G ho0 hb
       have a0 := ke_ V ho0 hb
       have a1 := ke_ E ho0 hb
       have a2 := am_ (Kd.R_lower (Kd.R_new' (Kd.R_new' (Kd.R_new' ho0 (Kd.R_lt (qR_ G))) (Kd.R_lt (qR_ V))) (Kd.R_lt (qR_ E))) (below_size qB_))
       have b2 := qbl_ g hb
       have b6 := qbl_ l hb
       have b7 := qbl_ q hb
       have b8 := qbl_ s hb
       have b9 := qbl_ u hb
       have c8 := qbl_ y hb
       have n10_ := qbl_ z hb
       have n11_ := am_ (below_step qB_ hb)
       have E6 := fun (d : b 10 = true) (o : b 12 = false) => (qbl_ (am_ (o0 d o)) hb).out
       have E7 := fun (d : b 11 = true) (o : b 13 = false) => (qbl_ (am_ (n7 d o)) hb).out
       clear G; clear V; clear E; clear g; clear l; clear q; clear s; clear u; clear y; clear z; clear HB; have G := Z; have V := a0; have E := a1; have e4 := a2; have g := b2; have l := b6; have q := b7; have s := b8; have u := b9; have y := c8; have z := n10_; have HB := n11_; clear Z a0 a1 a2 b2 b6 b7 b8 b9 c8 n10_ n11_; (try clear hb); (try clear hk); (try clear ho0)
       refine hK.out _ _ ⟨v5, d2, b3, l0, (.agg #[.int .i64 H4, v5]), m, j, B, m10_, m11_, (by rw [ha.out]; exact putSel_upk 1 hb_ rfl rfl rfl), (by (with_reducible repeat (first | apply Kd.R_alloc | apply Kd.R_drewN | apply Kd.R_drew)); exact Kd.R_mono G.out (fun _ hk => by first | exact ⟨hk.2, ⟨hk.1.1, hk.1.2⟩⟩ | trivial | exact qw_ hk)), (by (with_reducible repeat (first | apply Kd.R_alloc | apply Kd.R_drewN | apply Kd.R_drew)); exact Kd.R_mono V.out (fun _ hk => by first | exact ⟨hk.2, ⟨hk.1.1, hk.1.2⟩⟩ | trivial | exact qw_ hk)), (by (with_reducible repeat (first | apply Kd.R_alloc | apply Kd.R_drewN | apply Kd.R_drew)); exact Kd.R_mono E.out (fun _ hk => by first | exact ⟨hk.2, ⟨hk.1.1, hk.1.2⟩⟩ | trivial | exact qw_ hk)), (qk_ g), (qk_ l), (qk_ q), (qk_ s), (qk_ u), (qk_ y), (qk_ z), qB_, k4, k5, fun _ => (by (with_reducible repeat (first | apply Kd.R_alloc | apply Kd.R_drewN | apply Kd.R_drew)); exact Kd.R_mono e4.out (fun _ hk => by first | exact ⟨hk.1.1.2, ⟨hk.1.2, hk.2⟩⟩ | trivial | exact qw_ hk)), fun d => absurd ((hoff 4 (by kernel_rfl)).symm.trans d) (by decide), E6, g5, g6, g7, g8, g9, h0, h1, h2, h3, h4, h5, h6, h7, h8, h9, i0, E7, i1, i2, i3, i4, i5, i6, i7, i8, i9, j5, j6, j7, j8, j9, k0, k1, fun d => absurd ((hoff 12 (by kernel_rfl)).symm.trans d) (by decide), fun d => absurd ((hoff 13 (by kernel_rfl)).symm.trans d) (by decide), fun _ => rfl, fun d => absurd ((hoff 4 (by kernel_rfl)).symm.trans d) (by decide), fun d => absurd ((hoff 5 (by kernel_rfl)).symm.trans d) (by decide), fun d => absurd ((hoff 6 (by kernel_rfl)).symm.trans d) (by decide), X, c3⟩
      refine steps_cons ?_ ?_
      ·rintro b a w' ⟨v5, d2, b3, l0, A, m, j, B, m10_, m11_, ha, d7, d8, d9, I, J, U, T, a9, c0, b5, L, k4, k5, e3, e7, o0, g5, g6, g7, g8, g9, h0, h1, h2, h3, h4, h5, h6, h7, h8, h9, i0, n7, i1, i2, i3, i4, i5, i6, i7, i8, i9, j5, j6, j7, j8, j9, k0, k1, p3, p7, c5, a3, a4, c9, X, c3⟩ hb_ hon hoff
       refine ⟨_, rfl, fun K hK => ?_⟩
       have W5 : a.tmps[3]? = some (.pointer (some ⟨u6, 0, none⟩)) := by rw [ha]; exact (putSel_off rfl).trans rfl
       replace ha := am_ ha
       have G := am_ d7
       have V := am_ d8
       have E := am_ d9
       have g := am_ I
       have l := am_ J
       have q := am_ U
       have s := am_ T
       have u := am_ a9
       have y := am_ c0
       have z := am_ b5
       have HB := am_ L
       have hc0_ : w'.cell? ⟨u6, 0, none⟩ = some (.int .i64 M) := bl_ l 0
       have hc1_ : w'.cell? ⟨u6, 1, none⟩ = some (.int .i64 O) := bl_ l 1
       refine value_ (w1 := w') (v := .agg #[.int .i64 M, .int .i64 O]) (by rfl) rfl ?_ ?_
       ·go_simp
        (try simp only [i64_w])
        try rfl
       refine hK.out _ _ ⟨v5, d2, b3, l0, A, m, j, B, m10_, m11_, (by rw [ha.out]; exact putSel_upk 2 hb_ rfl rfl rfl), d7, d8, d9, I, J, U, T, a9, c0, b5, L, k4, k5, e3, fun d => absurd ((hoff 4 (by kernel_rfl)).symm.trans d) (by decide), o0, g5, g6, g7, g8, g9, h0, h1, h2, h3, h4, h5, h6, h7, h8, h9, i0, n7, i1, i2, i3, i4, i5, i6, i7, i8, i9, j5, j6, j7, j8, j9, k0, k1, fun d => absurd ((hoff 12 (by kernel_rfl)).symm.trans d) (by decide), fun d => absurd ((hoff 13 (by kernel_rfl)).symm.trans d) (by decide), c5, fun d => absurd ((hoff 4 (by kernel_rfl)).symm.trans d) (by decide), fun d => absurd ((hoff 5 (by kernel_rfl)).symm.trans d) (by decide), fun d => absurd ((hoff 6 (by kernel_rfl)).symm.trans d) (by decide), X, c3⟩
      refine steps_cons ?_ ?_
      ·rintro b a w' ⟨v5, d2, b3, l0, A, m, j, B, m10_, m11_, ha, d7, d8, d9, I, J, U, T, a9, c0, b5, L, k4, k5, e3, e7, o0, g5, g6, g7, g8, g9, h0, h1, h2, h3, h4, h5, h6, h7, h8, h9, i0, n7, i1, i2, i3, i4, i5, i6, i7, i8, i9, j5, j6, j7, j8, j9, k0, k1, p3, p7, c5, a3, a4, c9, X, c3⟩ hb_ hon hoff
       refine ⟨_, rfl, fun K hK => ?_⟩
       have D1 : a.tmps[114]? = some (.agg #[.int .i64 M, .int .i64 O]) := by rw [ha]; exact putSel_on (e := (2, 114, .agg #[.int .i64 M, .int .i64 O])) 2 rfl rfl (hon 2 (by kernel_rfl)) rfl
       replace ha := am_ ha
       have G := am_ d7
       have V := am_ d8
       have E := am_ d9
       have g := am_ I
       have l := am_ J
       have q := am_ U
       have s := am_ T
       have u := am_ a9
       have y := am_ c0
       have z := am_ b5
       have HB := am_ L
       have e4 := on_ hon 1 e3
       refine goes_ Try.func21 (by kernel_rfl) rfl #[.agg #[.int .i64 M, .int .i64 O]] (by rfl) rfl rfl (by first | (simp only [List.map_toArray, List.map_cons, List.map_nil, Act.eval, Array.getD_eq_getD_getElem?, Option.getD_some, D1]; done) | (simp only [List.map_toArray, List.map_cons, List.map_nil, Act.eval, Array.getD_eq_getD_getElem?, Option.getD_some, D1]; rfl)) ?_
       with_reducible refine (laws_toEdge.calls M O F3 F4 _ R1.out).mono ?_
       rintro e bd ⟨rfl, hb⟩
       refine ⟨_, rfl, ?_⟩
       have Z := kb_ G hb
       have a0 := kb_ V hb
       have a1 := kb_ E hb
       have a2 := kb_ e4 hb
       have b2 := qbl_ g hb
       have b6 := qbl_ l hb
       have b7 := qbl_ q hb
       have b8 := qbl_ s hb
       have b9 := qbl_ u hb
       have c8 := qbl_ y hb
       have n10_ := qbl_ z hb
       have n11_ := am_ (below_step qB_ hb)
       have E6 := fun (d : b 10 = true) (o : b 12 = false) => (qbl_ (am_ (o0 d o)) hb).out
       have E7 := fun (d : b 11 = true) (o : b 13 = false) => (qbl_ (am_ (n7 d o)) hb).out
       clear G; clear V; clear E; clear e4; clear g; clear l; clear q; clear s; clear u; clear y; clear z; clear HB; have G := Z; have V := a0; have E := a1; have e4 := a2; have g := b2; have l := b6; have q := b7; have s := b8; have u := b9; have y := c8; have z := n10_; have HB := n11_; clear Z a0 a1 a2 b2 b6 b7 b8 b9 c8 n10_ n11_; (try clear hb); (try clear hk)
       refine hK.out _ _ ⟨v5, d2, b3, l0, A, m, j, B, m10_, m11_, (by rw [ha.out]; exact putSel_upk 3 hb_ rfl rfl rfl), (qR_ G), (qR_ V), (qR_ E), (qk_ g), (qk_ l), (qk_ q), (qk_ s), (qk_ u), (qk_ y), (qk_ z), qB_, k4, k5, fun _ => (qR_ e4), fun d => absurd ((hoff 4 (by kernel_rfl)).symm.trans d) (by decide), E6, g5, g6, g7, g8, g9, h0, h1, h2, h3, h4, h5, h6, h7, h8, h9, i0, E7, i1, i2, i3, i4, i5, i6, i7, i8, i9, j5, j6, j7, j8, j9, k0, k1, fun d => absurd ((hoff 12 (by kernel_rfl)).symm.trans d) (by decide), fun d => absurd ((hoff 13 (by kernel_rfl)).symm.trans d) (by decide), c5, fun d => absurd ((hoff 4 (by kernel_rfl)).symm.trans d) (by decide), fun d => absurd ((hoff 5 (by kernel_rfl)).symm.trans d) (by decide), fun d => absurd ((hoff 6 (by kernel_rfl)).symm.trans d) (by decide), X, c3⟩
      refine steps_cons ?_ ?_
      ·rintro b a w' ⟨v5, d2, b3, l0, A, m, j, B, m10_, m11_, ha, d7, d8, d9, I, J, U, T, a9, c0, b5, L, k4, k5, e3, e7, o0, g5, g6, g7, g8, g9, h0, h1, h2, h3, h4, h5, h6, h7, h8, h9, i0, n7, i1, i2, i3, i4, i5, i6, i7, i8, i9, j5, j6, j7, j8, j9, k0, k1, p3, p7, c5, a3, a4, c9, X, c3⟩ hb_ hon hoff
       refine ⟨_, rfl, fun K hK => ?_⟩
       have y4 : a.tmps[113]? = some (A) := by rw [ha]; exact putSel_on (e := (1, 113, A)) 1 rfl rfl (hon 1 (by kernel_rfl)) rfl
       rw [c5 (hon 1 (by kernel_rfl))] at y4
       have D2 : a.tmps[115]? = some (.agg #[.int .i64 F3, .int .i64 F4]) := by rw [ha]; exact putSel_on (e := (3, 115, .agg #[.int .i64 F3, .int .i64 F4])) 3 rfl rfl (hon 3 (by kernel_rfl)) rfl
       replace ha := am_ ha
       have G := am_ d7
       have V := am_ d8
       have E := am_ d9
       have g := am_ I
       have l := am_ J
       have q := am_ U
       have s := am_ T
       have u := am_ a9
       have y := am_ c0
       have z := am_ b5
       have HB := am_ L
       have e4 := on_ hon 1 e3
       obtain ⟨H6, H7, H8⟩ := Kd.R_slice e4.out
       (first | subst H8 | (injection H8 with g3 p9 g4; have q0 := g3.symm; have q1 := g4.symm; clear g3 p9 g4; subst q0; subst q1))
       refine goes_ Try.func42 (by kernel_rfl) rfl #[.agg #[.int .i64 H4, .slice H6 E5.length H7], .agg #[.int .i64 F3, .int .i64 F4]] (by rfl) rfl rfl (by first | (simp only [List.map_toArray, List.map_cons, List.map_nil, Act.eval, Array.getD_eq_getD_getElem?, Option.getD_some, y4, D2]; done) | (simp only [List.map_toArray, List.map_cons, List.map_nil, Act.eval, Array.getD_eq_getD_getElem?, Option.getD_some, y4, D2]; rfl)) ?_
       with_reducible refine (impl_WebTake.calls kj161 H4 _ _ E5 F3 F4 p6 s8 s2 s3 s9 B9 _ ?side1 ?side2 R2.out).mono ?_
       (case side1 => exact qD_ (Kd.R_reads' e4.out).2.2)
       (case side2 => exact (Kd.R_reads' e4.out).2.1)
       rintro e be ⟨d2, rfl, ho0, hb⟩
       refine ⟨_, rfl, ?_⟩
       have Z := ke_ G ho0 hb
       have a0 := ke_ V ho0 hb
       have a1 := ke_ E ho0 hb
       have a2 := ke_ e4 ho0 hb
       have b2 := am_ (Kd.R_lower (Kd.R_new' (Kd.R_new' (Kd.R_new' (Kd.R_new' ho0 (Kd.R_lt (qR_ G))) (Kd.R_lt (qR_ V))) (Kd.R_lt (qR_ E))) (Kd.R_lt (qR_ e4))) (below_size qB_))
       have b6 := qbl_ g hb
       have b7 := qbl_ l hb
       have b8 := qbl_ q hb
       have b9 := qbl_ s hb
       have c8 := qbl_ u hb
       have n10_ := qbl_ y hb
       have n11_ := qbl_ z hb
       have n12_ := am_ (below_step qB_ hb)
       have E6 := fun (d : b 10 = true) (o : b 12 = false) => (qbl_ (am_ (o0 d o)) hb).out
       have E7 := fun (d : b 11 = true) (o : b 13 = false) => (qbl_ (am_ (n7 d o)) hb).out
       clear G; clear V; clear E; clear e4; clear g; clear l; clear q; clear s; clear u; clear y; clear z; clear HB; have G := Z; have V := a0; have E := a1; have e4 := a2; have d6 := b2; have g := b6; have l := b7; have q := b8; have s := b9; have u := c8; have y := n10_; have z := n11_; have HB := n12_; clear Z a0 a1 a2 b2 b6 b7 b8 b9 c8 n10_ n11_ n12_; (try clear hb); (try clear hk); (try clear ho0)
       refine hK.out _ _ ⟨.slice H6 E5.length H7, d2, b3, l0, A, (.tuple #[.agg #[.int .i64 p6, d2], .agg #[.int .i64 s2, .int .i64 s3], .bool s9, .bool B9]), j, B, m10_, m11_, (by rw [ha.out]; exact putSel_upk 4 hb_ rfl rfl rfl), (by (with_reducible repeat (first | apply Kd.R_alloc | apply Kd.R_drewN | apply Kd.R_drew)); exact Kd.R_mono G.out (fun _ hk => by first | exact ⟨hk.1.1, ⟨hk.2, ⟨hk.1.2.1, hk.1.2.2⟩⟩⟩ | trivial | exact qw_ hk)), (by (with_reducible repeat (first | apply Kd.R_alloc | apply Kd.R_drewN | apply Kd.R_drew)); exact Kd.R_mono V.out (fun _ hk => by first | exact ⟨hk.1.1, ⟨hk.2, ⟨hk.1.2.1, hk.1.2.2⟩⟩⟩ | trivial | exact qw_ hk)), (by (with_reducible repeat (first | apply Kd.R_alloc | apply Kd.R_drewN | apply Kd.R_drew)); exact Kd.R_mono E.out (fun _ hk => by first | exact ⟨hk.1.1, ⟨hk.2, ⟨hk.1.2.1, hk.1.2.2⟩⟩⟩ | trivial | exact qw_ hk)), (qk_ g), (qk_ l), (qk_ q), (qk_ s), (qk_ u), (qk_ y), (qk_ z), qB_, k4, k5, fun _ => (by (with_reducible repeat (first | apply Kd.R_alloc | apply Kd.R_drewN | apply Kd.R_drew)); exact Kd.R_mono e4.out (fun _ hk => by first | exact ⟨hk.2, ⟨hk.1.1, ⟨hk.1.2.1, hk.1.2.2⟩⟩⟩ | trivial | exact qw_ hk)), fun _ => (by (with_reducible repeat (first | apply Kd.R_alloc | apply Kd.R_drewN | apply Kd.R_drew)); exact Kd.R_mono d6.out (fun _ hk => by first | exact ⟨hk.2, ⟨hk.1.1.1.2, ⟨hk.1.1.2, hk.1.2⟩⟩⟩ | trivial | exact qw_ hk)), E6, g5, g6, g7, g8, g9, h0, h1, h2, h3, h4, h5, h6, h7, h8, h9, i0, E7, i1, i2, i3, i4, i5, i6, i7, i8, i9, j5, j6, j7, j8, j9, k0, k1, fun d => absurd ((hoff 12 (by kernel_rfl)).symm.trans d) (by decide), fun d => absurd ((hoff 13 (by kernel_rfl)).symm.trans d) (by decide), c5, fun _ => rfl, fun d => absurd ((hoff 5 (by kernel_rfl)).symm.trans d) (by decide), fun d => absurd ((hoff 6 (by kernel_rfl)).symm.trans d) (by decide), X, c3⟩
      refine steps_cons ?_ ?_
      ·rintro b a w' ⟨v5, d2, b3, l0, A, m, j, B, m10_, m11_, ha, d7, d8, d9, I, J, U, T, a9, c0, b5, L, k4, k5, e3, e7, o0, g5, g6, g7, g8, g9, h0, h1, h2, h3, h4, h5, h6, h7, h8, h9, i0, n7, i1, i2, i3, i4, i5, i6, i7, i8, i9, j5, j6, j7, j8, j9, k0, k1, p3, p7, c5, a3, a4, c9, X, c3⟩ hb_ hon hoff
       refine ⟨_, rfl, fun K hK => ?_⟩
       have H9 : a.tmps[116]? = some (m) := by rw [ha]; exact putSel_on (e := (4, 116, m)) 4 rfl rfl (hon 4 (by kernel_rfl)) rfl
       rw [a3 (hon 4 (by kernel_rfl))] at H9
       replace ha := am_ ha
       have G := am_ d7
       have V := am_ d8
       have E := am_ d9
       have g := am_ I
       have l := am_ J
       have q := am_ U
       have s := am_ T
       have u := am_ a9
       have y := am_ c0
       have z := am_ b5
       have HB := am_ L
       have e4 := on_ hon 1 e3
       have d6 := on_ hon 4 e7
       refine value_ (w1 := w') (v := .tuple #[.agg #[.int .i64 p6, d2], .agg #[.int .i64 s2, .int .i64 s3], .bool s9, .bool B9]) (by rfl) rfl ?_ ?_
       ·go_simp
        (try simp only [i64_w])
        try rfl
       refine hK.out _ _ ⟨v5, d2, b3, l0, A, m, (.tuple #[.agg #[.int .i64 p6, d2], .agg #[.int .i64 s2, .int .i64 s3], .bool s9, .bool B9]), B, m10_, m11_, (by rw [ha.out]; exact putSel_upk 5 hb_ rfl rfl rfl), d7, d8, d9, I, J, U, T, a9, c0, b5, L, k4, k5, e3, e7, o0, g5, g6, g7, g8, g9, h0, h1, h2, h3, h4, h5, h6, h7, h8, h9, i0, n7, i1, i2, i3, i4, i5, i6, i7, i8, i9, j5, j6, j7, j8, j9, k0, k1, fun d => absurd ((hoff 12 (by kernel_rfl)).symm.trans d) (by decide), fun d => absurd ((hoff 13 (by kernel_rfl)).symm.trans d) (by decide), c5, a3, fun _ => rfl, fun d => absurd ((hoff 6 (by kernel_rfl)).symm.trans d) (by decide), X, c3⟩
      refine steps_cons ?_ ?_
      ·rintro b a w' ⟨v5, d2, b3, l0, A, m, j, B, m10_, m11_, ha, d7, d8, d9, I, J, U, T, a9, c0, b5, L, k4, k5, e3, e7, o0, g5, g6, g7, g8, g9, h0, h1, h2, h3, h4, h5, h6, h7, h8, h9, i0, n7, i1, i2, i3, i4, i5, i6, i7, i8, i9, j5, j6, j7, j8, j9, k0, k1, p3, p7, c5, a3, a4, c9, X, c3⟩ hb_ hon hoff
       refine ⟨_, rfl, fun K hK => ?_⟩
       have q6 : a.tmps[111]? = some (j) := by rw [ha]; exact putSel_on (e := (5, 111, j)) 5 rfl rfl (hon 5 (by kernel_rfl)) rfl
       rw [a4 (hon 5 (by kernel_rfl))] at q6
       replace ha := am_ ha
       have G := am_ d7
       have V := am_ d8
       have E := am_ d9
       have g := am_ I
       have l := am_ J
       have q := am_ U
       have s := am_ T
       have u := am_ a9
       have y := am_ c0
       have z := am_ b5
       have HB := am_ L
       have e4 := on_ hon 1 e3
       have d6 := on_ hon 4 e7
       refine value_ (w1 := w') (v := .agg #[.int .i64 p6, d2]) (by rfl) rfl ?_ ?_
       ·go_simp
        (try simp only [i64_w])
        try rfl
       refine hK.out _ _ ⟨v5, d2, b3, l0, A, m, j, (.agg #[.int .i64 p6, d2]), m10_, m11_, (by rw [ha.out]; exact putSel_upk 6 hb_ rfl rfl rfl), d7, d8, d9, I, J, U, T, a9, c0, b5, L, k4, k5, e3, e7, o0, g5, g6, g7, g8, g9, h0, h1, h2, h3, h4, h5, h6, h7, h8, h9, i0, n7, i1, i2, i3, i4, i5, i6, i7, i8, i9, j5, j6, j7, j8, j9, k0, k1, fun d => absurd ((hoff 12 (by kernel_rfl)).symm.trans d) (by decide), fun d => absurd ((hoff 13 (by kernel_rfl)).symm.trans d) (by decide), c5, a3, a4, fun _ => rfl, X, c3⟩
      refine steps_cons ?_ ?_
      ·rintro b a w' ⟨v5, d2, b3, l0, A, m, j, B, m10_, m11_, ha, d7, d8, d9, I, J, U, T, a9, c0, b5, L, k4, k5, e3, e7, o0, g5, g6, g7, g8, g9, h0, h1, h2, h3, h4, h5, h6, h7, h8, h9, i0, n7, i1, i2, i3, i4, i5, i6, i7, i8, i9, j5, j6, j7, j8, j9, k0, k1, p3, p7, c5, a3, a4, c9, X, c3⟩ hb_ hon hoff
       refine ⟨_, rfl, fun K hK => ?_⟩
       have q6 : a.tmps[111]? = some (j) := by rw [ha]; exact putSel_on (e := (5, 111, j)) 5 rfl rfl (hon 5 (by kernel_rfl)) rfl
       rw [a4 (hon 5 (by kernel_rfl))] at q6
       replace ha := am_ ha
       have G := am_ d7
       have V := am_ d8
       have E := am_ d9
       have g := am_ I
       have l := am_ J
       have q := am_ U
       have s := am_ T
       have u := am_ a9
       have y := am_ c0
       have z := am_ b5
       have HB := am_ L
       have e4 := on_ hon 1 e3
       have d6 := on_ hon 4 e7
       refine value_ (w1 := w') (v := .agg #[.int .i64 s2, .int .i64 s3]) (by rfl) rfl ?_ ?_
       ·go_simp
        (try simp only [i64_w])
        try rfl
       refine hK.out _ _ ⟨v5, d2, b3, l0, A, m, j, B, m10_, m11_, (by rw [ha.out]; exact putSel_upk 7 hb_ rfl rfl rfl), d7, d8, d9, I, J, U, T, a9, c0, b5, L, k4, k5, e3, e7, o0, g5, g6, g7, g8, g9, h0, h1, h2, h3, h4, h5, h6, h7, h8, h9, i0, n7, i1, i2, i3, i4, i5, i6, i7, i8, i9, j5, j6, j7, j8, j9, k0, k1, p3, fun d => absurd ((hoff 13 (by kernel_rfl)).symm.trans d) (by decide), c5, a3, a4, c9, X, c3⟩
      refine steps_cons ?_ ?_
      ·rintro b a w' ⟨v5, d2, b3, l0, A, m, j, B, m10_, m11_, ha, d7, d8, d9, I, J, U, T, a9, c0, b5, L, k4, k5, e3, e7, o0, g5, g6, g7, g8, g9, h0, h1, h2, h3, h4, h5, h6, h7, h8, h9, i0, n7, i1, i2, i3, i4, i5, i6, i7, i8, i9, j5, j6, j7, j8, j9, k0, k1, p3, p7, c5, a3, a4, c9, X, c3⟩ hb_ hon hoff
       refine ⟨_, rfl, fun K hK => ?_⟩
       have q6 : a.tmps[111]? = some (j) := by rw [ha]; exact putSel_on (e := (5, 111, j)) 5 rfl rfl (hon 5 (by kernel_rfl)) rfl
       rw [a4 (hon 5 (by kernel_rfl))] at q6
       replace ha := am_ ha
       have G := am_ d7
       have V := am_ d8
       have E := am_ d9
       have g := am_ I
       have l := am_ J
       have q := am_ U
       have s := am_ T
       have u := am_ a9
       have y := am_ c0
       have z := am_ b5
       have HB := am_ L
       have e4 := on_ hon 1 e3
       have d6 := on_ hon 4 e7
       refine value_ (w1 := w') (v := .bool s9) (by rfl) rfl ?_ ?_
       ·go_simp
        (try simp only [i64_w])
        try rfl
       refine hK.out _ _ ⟨v5, d2, b3, l0, A, m, j, B, m10_, m11_, (by rw [ha.out]; exact putSel_upk 8 hb_ rfl rfl rfl), d7, d8, d9, I, J, U, T, a9, c0, b5, L, k4, k5, e3, e7, o0, g5, g6, g7, g8, g9, h0, h1, h2, h3, h4, h5, h6, h7, h8, h9, i0, n7, i1, i2, i3, i4, i5, i6, i7, i8, i9, j5, j6, j7, j8, j9, k0, k1, p3, p7, c5, a3, a4, c9, X, c3⟩
      refine steps_cons ?_ ?_
      ·rintro b a w' ⟨v5, d2, b3, l0, A, m, j, B, m10_, m11_, ha, d7, d8, d9, I, J, U, T, a9, c0, b5, L, k4, k5, e3, e7, o0, g5, g6, g7, g8, g9, h0, h1, h2, h3, h4, h5, h6, h7, h8, h9, i0, n7, i1, i2, i3, i4, i5, i6, i7, i8, i9, j5, j6, j7, j8, j9, k0, k1, p3, p7, c5, a3, a4, c9, X, c3⟩ hb_ hon hoff
       refine ⟨_, rfl, fun K hK => ?_⟩
       have q6 : a.tmps[111]? = some (j) := by rw [ha]; exact putSel_on (e := (5, 111, j)) 5 rfl rfl (hon 5 (by kernel_rfl)) rfl
       rw [a4 (hon 5 (by kernel_rfl))] at q6
       replace ha := am_ ha
       have G := am_ d7
       have V := am_ d8
       have E := am_ d9
       have g := am_ I
       have l := am_ J
       have q := am_ U
       have s := am_ T
       have u := am_ a9
       have y := am_ c0
       have z := am_ b5
       have HB := am_ L
       have e4 := on_ hon 1 e3
       have d6 := on_ hon 4 e7
       refine value_ (w1 := w') (v := .bool B9) (by rfl) rfl ?_ ?_
       ·go_simp
        (try simp only [i64_w])
        try rfl
       refine hK.out _ _ ⟨v5, d2, b3, l0, A, m, j, B, m10_, m11_, (by rw [ha.out]; exact putSel_upk 9 hb_ rfl rfl rfl), d7, d8, d9, I, J, U, T, a9, c0, b5, L, k4, k5, e3, e7, o0, g5, g6, g7, g8, g9, h0, h1, h2, h3, h4, h5, h6, h7, h8, h9, i0, n7, i1, i2, i3, i4, i5, i6, i7, i8, i9, j5, j6, j7, j8, j9, k0, k1, p3, p7, c5, a3, a4, c9, X, c3⟩
      refine steps_cons ?_ ?_
      ·rintro b a w' ⟨v5, d2, b3, l0, A, m, j, B, m10_, m11_, ha, d7, d8, d9, I, J, U, T, a9, c0, b5, L, k4, k5, e3, e7, o0, g5, g6, g7, g8, g9, h0, h1, h2, h3, h4, h5, h6, h7, h8, h9, i0, n7, i1, i2, i3, i4, i5, i6, i7, i8, i9, j5, j6, j7, j8, j9, k0, k1, p3, p7, c5, a3, a4, c9, X, c3⟩ hb_ hon hoff
       refine ⟨_, rfl, fun K hK => ?_⟩
       replace ha := am_ ha
       have G := am_ d7
       have V := am_ d8
       have E := am_ d9
       have g := am_ I
       have l := am_ J
       have q := am_ U
       have s := am_ T
       have u := am_ a9
       have y := am_ c0
       have z := am_ b5
       have HB := am_ L
       refine box_step ?hg (N := 18) ?hd (cs := #[.int .i64 0, .slice none 0 0]) (t := 29) ?hr ?_; (case hd => rfl); (case hg => rfl); (case hr => first | (go_simp; done) | (go_simp; rfl))
       intro b3 hg s4 hbox hb
       have Z := kb_ G hb
       have a0 := kb_ V hb
       have a1 := kb_ E hb
       have a2 := qbl_ g hb
       have b2 := qbl_ l hb
       have b6 := qbl_ q hb
       have b7 := qbl_ s hb
       have b8 := qbl_ u hb
       have b9 := qbl_ y hb
       have c8 := qbl_ z hb
       have n10_ := am_ (below_step qB_ hb)
       have n11_ := am_ (hbox)
       have n12_ := gw_ hg
       have n13_ := gw_ hg
       have n14_ := (qn_ g hg).1
       have n15_ := (qn_ g hg).2
       have n16_ := (qn_ l hg).1
       have n17_ := (qn_ l hg).2
       have n18_ := (qn_ q hg).1
       have n19_ := (qn_ q hg).2
       have n20_ := (qn_ s hg).1
       have n21_ := (qn_ s hg).2
       have n22_ := (qn_ u hg).1
       have n23_ := (qn_ u hg).2
       have n24_ := (qn_ y hg).1
       have n25_ := (qn_ y hg).2
       have n26_ := (qn_ z hg).1
       have n27_ := (qn_ z hg).2
       have R5 := fun (d : up b 10 10 = true) (o : up b 10 11 = true) => (show l0 ≠ b3 from ((by rw [hg]; exact Nat.ne_of_lt (blk_lt (qk_ (am_ (n7 o (hoff 13 (by kernel_rfl)))))) : l0 ≠ b3)))
       have R6 := fun (d : up b 10 10 = true) (o : up b 10 11 = true) => (show b3 ≠ l0 from ((by rw [hg]; exact Nat.ne_of_gt (blk_lt (qk_ (am_ (n7 o (hoff 13 (by kernel_rfl)))))) : b3 ≠ l0)))
       have R7 := fun (d : b 1 = true) => (show Kd.R k72 72 s4 w.heap.size (fun k_ => some k_ ≠ (a8 : Value).ownBlock ∧ some k_ ≠ (.slice c6 s1.length c7 : Value).ownBlock ∧ some k_ ≠ (.slice r2 d3.length r3 : Value).ownBlock) v5 E5 from by first | exact (Kd.R_below (by (with_reducible repeat (first | apply Kd.R_alloc | apply Kd.R_drewN | apply Kd.R_drew)); exact (e3 d)) hb) | exact Kd.R_mono (Kd.R_below (by (with_reducible repeat (first | apply Kd.R_alloc | apply Kd.R_drewN | apply Kd.R_drew)); exact (e3 d)) hb) (fun _ h_ => by first | trivial | exact h_ | exact h_.1))
       have R8 := fun (d : b 4 = true) => (show Kd.R k72 72 s4 w.heap.size (fun k_ => some k_ ≠ (a8 : Value).ownBlock ∧ some k_ ≠ (.slice c6 s1.length c7 : Value).ownBlock ∧ some k_ ≠ (.slice r2 d3.length r3 : Value).ownBlock) d2 s8 from by first | exact (Kd.R_below (by (with_reducible repeat (first | apply Kd.R_alloc | apply Kd.R_drewN | apply Kd.R_drew)); exact (e7 d)) hb) | exact Kd.R_mono (Kd.R_below (by (with_reducible repeat (first | apply Kd.R_alloc | apply Kd.R_drewN | apply Kd.R_drew)); exact (e7 d)) hb) (fun _ h_ => by first | trivial | exact h_ | exact h_.1))
       have E7 := fun (d : b 11 = true) (o : b 13 = false) => (qbl_ (am_ (n7 d o)) hb).out
       clear G; clear V; clear E; clear g; clear l; clear q; clear s; clear u; clear y; clear z; clear HB; have G := Z; have V := a0; have E := a1; have g := a2; have l := b2; have q := b6; have s := b7; have u := b8; have y := b9; have z := c8; have HB := n10_; have e0 := n11_; have D3 := n12_; have D4 := n13_; have z4 := n14_; have w6 := n15_; have z5 := n16_; have w7 := n17_; have z6 := n18_; have w8 := n19_; have z7 := n20_; have w9 := n21_; have z8 := n22_; have x0 := n23_; have v3 := n24_; have x1 := n25_; have z9 := n26_; have x2 := n27_; clear Z a0 a1 a2 b2 b6 b7 b8 b9 c8 n10_ n11_ n12_ n13_ n14_ n15_ n16_ n17_ n18_ n19_ n20_ n21_ n22_ n23_ n24_ n25_ n26_ n27_; clear hb hbox hg
       refine hK.out _ _ ⟨v5, d2, b3, l0, A, m, j, B, (.pointer (some ⟨b3, 0, none⟩)), m11_, (by rw [ha.out]; exact putSel_upk 10 hb_ rfl rfl rfl), (qR_ G), (qR_ V), (qR_ E), (qk_ g), (qk_ l), (qk_ q), (qk_ s), (qk_ u), (qk_ y), (qk_ z), qB_, R5, R6, R7, R8, fun _ _ => (qk_ e0), fun _ => D3.out, fun _ => D4.out, fun _ => z4.out, fun _ => w6.out, fun _ => z5.out, fun _ => w7.out, fun _ => z6.out, fun _ => w8.out, fun _ => z7.out, fun _ => w9.out, fun _ => z8.out, fun _ => x0.out, fun _ => v3.out, fun _ => x1.out, fun _ => z9.out, fun _ => x2.out, E7, i1, i2, i3, i4, i5, i6, i7, i8, i9, j5, j6, j7, j8, j9, k0, k1, fun d => absurd ((hoff 12 (by kernel_rfl)).symm.trans d) (by decide), fun d => absurd ((hoff 13 (by kernel_rfl)).symm.trans d) (by decide), c5, a3, a4, c9, fun _ => rfl, c3⟩
      refine steps_cons ?_ ?_
      ·rintro b a w' ⟨v5, d2, b3, l0, A, m, j, B, m10_, m11_, ha, d7, d8, d9, I, J, U, T, a9, c0, b5, L, k4, k5, e3, e7, o0, g5, g6, g7, g8, g9, h0, h1, h2, h3, h4, h5, h6, h7, h8, h9, i0, n7, i1, i2, i3, i4, i5, i6, i7, i8, i9, j5, j6, j7, j8, j9, k0, k1, p3, p7, c5, a3, a4, c9, X, c3⟩ hb_ hon hoff
       refine ⟨_, rfl, fun K hK => ?_⟩
       replace ha := am_ ha
       have G := am_ d7
       have V := am_ d8
       have E := am_ d9
       have g := am_ I
       have l := am_ J
       have q := am_ U
       have s := am_ T
       have u := am_ a9
       have y := am_ c0
       have z := am_ b5
       have HB := am_ L
       refine box_step ?hg (N := 19) ?hd (cs := #[.int .i64 0, .int .i64 0]) (t := 43) ?hr ?_; (case hd => rfl); (case hg => rfl); (case hr => first | (go_simp; done) | (go_simp; rfl))
       intro l0 hg s4 hbox hb
       have Z := kb_ G hb
       have a0 := kb_ V hb
       have a1 := kb_ E hb
       have a2 := qbl_ g hb
       have b2 := qbl_ l hb
       have b6 := qbl_ q hb
       have b7 := qbl_ s hb
       have b8 := qbl_ u hb
       have b9 := qbl_ y hb
       have c8 := qbl_ z hb
       have n10_ := am_ (below_step qB_ hb)
       have n11_ := am_ (hbox)
       have n12_ := gw_ hg
       have n13_ := gw_ hg
       have n14_ := (qn_ g hg).1
       have n15_ := (qn_ g hg).2
       have n16_ := (qn_ l hg).1
       have n17_ := (qn_ l hg).2
       have n18_ := (qn_ q hg).1
       have n19_ := (qn_ q hg).2
       have n20_ := (qn_ s hg).1
       have n21_ := (qn_ s hg).2
       have n22_ := (qn_ u hg).1
       have n23_ := (qn_ u hg).2
       have n24_ := (qn_ y hg).1
       have n25_ := (qn_ y hg).2
       have n26_ := (qn_ z hg).1
       have n27_ := (qn_ z hg).2
       have R5 := fun (d : up b 11 10 = true) (o : up b 11 11 = true) => (show l0 ≠ b3 from ((by rw [hg]; exact Nat.ne_of_gt (blk_lt (qk_ (am_ (o0 d (hoff 12 (by kernel_rfl)))))) : l0 ≠ b3)))
       have R6 := fun (d : up b 11 10 = true) (o : up b 11 11 = true) => (show b3 ≠ l0 from ((by rw [hg]; exact Nat.ne_of_lt (blk_lt (qk_ (am_ (o0 d (hoff 12 (by kernel_rfl)))))) : b3 ≠ l0)))
       have R7 := fun (d : b 1 = true) => (show Kd.R k72 72 s4 w.heap.size (fun k_ => some k_ ≠ (a8 : Value).ownBlock ∧ some k_ ≠ (.slice c6 s1.length c7 : Value).ownBlock ∧ some k_ ≠ (.slice r2 d3.length r3 : Value).ownBlock) v5 E5 from by first | exact (Kd.R_below (by (with_reducible repeat (first | apply Kd.R_alloc | apply Kd.R_drewN | apply Kd.R_drew)); exact (e3 d)) hb) | exact Kd.R_mono (Kd.R_below (by (with_reducible repeat (first | apply Kd.R_alloc | apply Kd.R_drewN | apply Kd.R_drew)); exact (e3 d)) hb) (fun _ h_ => by first | trivial | exact h_ | exact h_.1))
       have R8 := fun (d : b 4 = true) => (show Kd.R k72 72 s4 w.heap.size (fun k_ => some k_ ≠ (a8 : Value).ownBlock ∧ some k_ ≠ (.slice c6 s1.length c7 : Value).ownBlock ∧ some k_ ≠ (.slice r2 d3.length r3 : Value).ownBlock) d2 s8 from by first | exact (Kd.R_below (by (with_reducible repeat (first | apply Kd.R_alloc | apply Kd.R_drewN | apply Kd.R_drew)); exact (e7 d)) hb) | exact Kd.R_mono (Kd.R_below (by (with_reducible repeat (first | apply Kd.R_alloc | apply Kd.R_drewN | apply Kd.R_drew)); exact (e7 d)) hb) (fun _ h_ => by first | trivial | exact h_ | exact h_.1))
       have E6 := fun (d : b 10 = true) (o : b 12 = false) => (qbl_ (am_ (o0 d o)) hb).out
       clear G; clear V; clear E; clear g; clear l; clear q; clear s; clear u; clear y; clear z; clear HB; have G := Z; have V := a0; have E := a1; have g := a2; have l := b2; have q := b6; have s := b7; have u := b8; have y := b9; have z := c8; have HB := n10_; have e1 := n11_; have D5 := n12_; have D6 := n13_; have A0 := n14_; have x9 := n15_; have A1 := n16_; have y0 := n17_; have x3 := n18_; have A2 := n19_; have A3 := n20_; have y1 := n21_; have A4 := n22_; have u0 := n23_; have v4 := n24_; have u1 := n25_; have A5 := n26_; have u2 := n27_; clear Z a0 a1 a2 b2 b6 b7 b8 b9 c8 n10_ n11_ n12_ n13_ n14_ n15_ n16_ n17_ n18_ n19_ n20_ n21_ n22_ n23_ n24_ n25_ n26_ n27_; clear hb hbox hg
       refine hK.out _ _ ⟨v5, d2, b3, l0, A, m, j, B, m10_, (.pointer (some ⟨l0, 0, none⟩)), (by rw [ha.out]; exact putSel_upk 11 hb_ rfl rfl rfl), (qR_ G), (qR_ V), (qR_ E), (qk_ g), (qk_ l), (qk_ q), (qk_ s), (qk_ u), (qk_ y), (qk_ z), qB_, R5, R6, R7, R8, E6, g5, g6, g7, g8, g9, h0, h1, h2, h3, h4, h5, h6, h7, h8, h9, i0, fun _ _ => (qk_ e1), fun _ => D5.out, fun _ => D6.out, fun _ => A0.out, fun _ => x9.out, fun _ => A1.out, fun _ => y0.out, fun _ => x3.out, fun _ => A2.out, fun _ => A3.out, fun _ => y1.out, fun _ => A4.out, fun _ => u0.out, fun _ => v4.out, fun _ => u1.out, fun _ => A5.out, fun _ => u2.out, fun d => absurd ((hoff 12 (by kernel_rfl)).symm.trans d) (by decide), fun d => absurd ((hoff 13 (by kernel_rfl)).symm.trans d) (by decide), c5, a3, a4, c9, X, fun _ => rfl⟩
      refine steps_cons ?_ ?_
      ·rintro b a w' ⟨v5, d2, b3, l0, A, m, j, B, m10_, m11_, ha, d7, d8, d9, I, J, U, T, a9, c0, b5, L, k4, k5, e3, e7, o0, g5, g6, g7, g8, g9, h0, h1, h2, h3, h4, h5, h6, h7, h8, h9, i0, n7, i1, i2, i3, i4, i5, i6, i7, i8, i9, j5, j6, j7, j8, j9, k0, k1, p3, p7, c5, a3, a4, c9, X, c3⟩ hb_ hon hoff
       refine ⟨_, rfl, fun K hK => ?_⟩
       have R9 : a.tmps[18]? = some (m10_) := by rw [ha]; exact putSel_on (e := (10, 18, m10_)) 10 rfl rfl (hon 10 (by kernel_rfl)) rfl
       rw [X (hon 10 (by kernel_rfl))] at R9
       have I0 : a.tmps[117]? = some (B) := by rw [ha]; exact putSel_on (e := (6, 117, B)) 6 rfl rfl (hon 6 (by kernel_rfl)) rfl
       rw [c9 (hon 6 (by kernel_rfl))] at I0
       replace ha := am_ ha
       have G := am_ d7
       have V := am_ d8
       have E := am_ d9
       have g := am_ I
       have l := am_ J
       have q := am_ U
       have s := am_ T
       have u := am_ a9
       have y := am_ c0
       have z := am_ b5
       have HB := am_ L
       have A6 := am_ (k4 (hon 10 (by kernel_rfl)) (hon 11 (by kernel_rfl)))
       have x4 := am_ (k5 (hon 10 (by kernel_rfl)) (hon 11 (by kernel_rfl)))
       have e4 := on_ hon 1 e3
       have d6 := on_ hon 4 e7
       have e0 := am_ (o0 (hon 10 (by kernel_rfl)) hb_)
       have D3 := on_ hon 10 g5
       have D4 := on_ hon 10 g6
       have z4 := on_ hon 10 g7
       have w6 := on_ hon 10 g8
       have z5 := on_ hon 10 g9
       have w7 := on_ hon 10 h0
       have z6 := on_ hon 10 h1
       have w8 := on_ hon 10 h2
       have z7 := on_ hon 10 h3
       have w9 := on_ hon 10 h4
       have z8 := on_ hon 10 h5
       have x0 := on_ hon 10 h6
       have v3 := on_ hon 10 h7
       have x1 := on_ hon 10 h8
       have z9 := on_ hon 10 h9
       have x2 := on_ hon 10 i0
       have e1 := am_ (n7 (hon 11 (by kernel_rfl)) (hoff 13 (by kernel_rfl)))
       have D5 := on_ hon 11 i1
       have D6 := on_ hon 11 i2
       have A0 := on_ hon 11 i3
       have x9 := on_ hon 11 i4
       have A1 := on_ hon 11 i5
       have y0 := on_ hon 11 i6
       have x3 := on_ hon 11 i7
       have A2 := on_ hon 11 i8
       have A3 := on_ hon 11 i9
       have y1 := on_ hon 11 j5
       have A4 := on_ hon 11 j6
       have u0 := on_ hon 11 j7
       have v4 := on_ hon 11 j8
       have u1 := on_ hon 11 j9
       have A5 := on_ hon 11 k0
       have u2 := on_ hon 11 k1
       obtain ⟨F5, F6, I1⟩ := Kd.R_slice d6.out
       (first | subst I1 | (injection I1 with g3 p9 g4; have q0 := g3.symm; have q1 := g4.symm; clear g3 p9 g4; subst q0; subst q1))
       have S0 : w'.cell? ⟨b3, 0, none⟩ = some (.int .i64 0) := bl_ e0 0
       have I7 := blk_frozen e0.out 0
       have ls := z4.out; have lt := z5.out; have lu := z6.out; have lv := z7.out; have lw := z8.out; have lx := v3.out; have ly := z9.out; have lz := A6.out; have lA := w6.out; have lB := w7.out; have lC := w8.out; have lD := w9.out; have lE := x0.out; have lF := x1.out; have lG := x2.out; have lH := x4.out
       have S1 : w'.cell? ⟨b3, 1, none⟩ = some (.slice none 0 0) := bl_ e0 1
       have I8 := blk_frozen e0.out 1
       have lI := z4.out; have lJ := z5.out; have lK := z6.out; have lL := z7.out; have lM := z8.out; have lN := v3.out; have lO := z9.out; have lP := A6.out; have lQ := w6.out; have lR := w7.out; have lS := w8.out; have lT := w9.out; have lU := x0.out; have lV := x1.out; have lW := x2.out; have lX := x4.out
       refine skip_ (w1 := ?_) (by rfl) rfl ?_ ?_
       rotate_left
       ·go_simp
        rfl
       refine hK.out _ _ ⟨v5, .slice F5 s8.length F6, b3, l0, A, m, j, B, m10_, m11_, (by rw [ha.out]; exact putSel_none (v := undef) rfl), (by (with_reducible repeat (first | apply Kd.R_alloc | apply Kd.R_drewN | apply Kd.R_drew)); exact Kd.R_mono (Kd.R_far (p := ⟨b3, 1, none⟩) (Kd.R_far (p := ⟨b3, 0, none⟩) (Kd.R_types G.out e0.out (by decide)) (fun _ hk => by first | exact hk.2 | trivial | exact qw_ hk) (.int .i64 p6)) (fun _ hk => by first | exact hk.2 | trivial | exact qw_ hk) (.slice F5 s8.length F6)) (fun _ hk => by first | exact ⟨hk.1.1, ⟨hk.1.2.1, ⟨hk.1.2.2.1, hk.1.2.2.2⟩⟩⟩ | trivial | exact qw_ hk)), (by (with_reducible repeat (first | apply Kd.R_alloc | apply Kd.R_drewN | apply Kd.R_drew)); exact Kd.R_mono (Kd.R_far (p := ⟨b3, 1, none⟩) (Kd.R_far (p := ⟨b3, 0, none⟩) (Kd.R_types V.out e0.out (by decide)) (fun _ hk => by first | exact hk.2 | trivial | exact qw_ hk) (.int .i64 p6)) (fun _ hk => by first | exact hk.2 | trivial | exact qw_ hk) (.slice F5 s8.length F6)) (fun _ hk => by first | exact ⟨hk.1.1, ⟨hk.1.2.1, ⟨hk.1.2.2.1, hk.1.2.2.2⟩⟩⟩ | trivial | exact qw_ hk)), (by (with_reducible repeat (first | apply Kd.R_alloc | apply Kd.R_drewN | apply Kd.R_drew)); exact Kd.R_mono (Kd.R_far (p := ⟨b3, 1, none⟩) (Kd.R_far (p := ⟨b3, 0, none⟩) (Kd.R_types E.out e0.out (by decide)) (fun _ hk => by first | exact hk.2 | trivial | exact qw_ hk) (.int .i64 p6)) (fun _ hk => by first | exact hk.2 | trivial | exact qw_ hk) (.slice F5 s8.length F6)) (fun _ hk => by first | exact ⟨hk.1.1, ⟨hk.1.2.1, ⟨hk.1.2.2.1, hk.1.2.2.2⟩⟩⟩ | trivial | exact qw_ hk)), (qf_ g), (qf_ l), (qf_ q), (qf_ s), (qf_ u), (qf_ y), (qf_ z), qB_, fun _ _ => A6.out, fun _ _ => x4.out, fun _ => (by (with_reducible repeat (first | apply Kd.R_alloc | apply Kd.R_drewN | apply Kd.R_drew)); exact Kd.R_mono (Kd.R_far (p := ⟨b3, 1, none⟩) (Kd.R_far (p := ⟨b3, 0, none⟩) (Kd.R_types e4.out e0.out (by decide)) (fun _ hk => by first | exact hk.2 | trivial | exact qw_ hk) (.int .i64 p6)) (fun _ hk => by first | exact hk.2 | trivial | exact qw_ hk) (.slice F5 s8.length F6)) (fun _ hk => by first | exact ⟨hk.1.1, ⟨hk.1.2.1, ⟨hk.1.2.2.1, hk.1.2.2.2⟩⟩⟩ | trivial | exact qw_ hk)), fun _ => (by (with_reducible repeat (first | apply Kd.R_alloc | apply Kd.R_drewN | apply Kd.R_drew)); exact Kd.R_mono (Kd.R_far (p := ⟨b3, 1, none⟩) (Kd.R_far (p := ⟨b3, 0, none⟩) (Kd.R_types d6.out e0.out (by decide)) (fun _ hk => by first | exact hk.2 | trivial | exact qw_ hk) (.int .i64 p6)) (fun _ hk => by first | exact hk.2 | trivial | exact qw_ hk) (.slice F5 s8.length F6)) (fun _ hk => by first | exact ⟨hk.1.1, ⟨hk.1.2.1, ⟨hk.1.2.2.1, hk.1.2.2.2⟩⟩⟩ | trivial | exact qw_ hk)), fun _ o => absurd ((up_self b 12).symm.trans o) (by decide), fun _ => D3.out, fun _ => D4.out, fun _ => z4.out, fun _ => w6.out, fun _ => z5.out, fun _ => w7.out, fun _ => z6.out, fun _ => w8.out, fun _ => z7.out, fun _ => w9.out, fun _ => z8.out, fun _ => x0.out, fun _ => v3.out, fun _ => x1.out, fun _ => z9.out, fun _ => x2.out, fun _ _ => (qf_ e1), fun _ => D5.out, fun _ => D6.out, fun _ => A0.out, fun _ => x9.out, fun _ => A1.out, fun _ => y0.out, fun _ => x3.out, fun _ => A2.out, fun _ => A3.out, fun _ => y1.out, fun _ => A4.out, fun _ => u0.out, fun _ => v4.out, fun _ => u1.out, fun _ => A5.out, fun _ => u2.out, fun _ => (qp_ e0), fun d => absurd ((hoff 13 (by kernel_rfl)).symm.trans d) (by decide), c5, a3, a4, c9, X, c3⟩
      refine steps_cons ?_ ?_
      ·rintro b a w' ⟨v5, d2, b3, l0, A, m, j, B, m10_, m11_, ha, d7, d8, d9, I, J, U, T, a9, c0, b5, L, k4, k5, e3, e7, o0, g5, g6, g7, g8, g9, h0, h1, h2, h3, h4, h5, h6, h7, h8, h9, i0, n7, i1, i2, i3, i4, i5, i6, i7, i8, i9, j5, j6, j7, j8, j9, k0, k1, p3, p7, c5, a3, a4, c9, X, c3⟩ hb_ hon hoff
       refine ⟨_, rfl, fun K hK => ?_⟩
       have S2 : a.tmps[19]? = some (m11_) := by rw [ha]; exact putSel_on (e := (11, 19, m11_)) 11 rfl rfl (hon 11 (by kernel_rfl)) rfl
       rw [c3 (hon 11 (by kernel_rfl))] at S2
       have bf : a.tmps[118]? = some (.agg #[.int .i64 s2, .int .i64 s3]) := by rw [ha]; exact putSel_on (e := (7, 118, .agg #[.int .i64 s2, .int .i64 s3])) 7 rfl rfl (hon 7 (by kernel_rfl)) rfl
       replace ha := am_ ha
       have G := am_ d7
       have V := am_ d8
       have E := am_ d9
       have g := am_ I
       have l := am_ J
       have q := am_ U
       have s := am_ T
       have u := am_ a9
       have y := am_ c0
       have z := am_ b5
       have HB := am_ L
       have A6 := am_ (k4 (hon 10 (by kernel_rfl)) (hon 11 (by kernel_rfl)))
       have x4 := am_ (k5 (hon 10 (by kernel_rfl)) (hon 11 (by kernel_rfl)))
       have e4 := on_ hon 1 e3
       have d6 := on_ hon 4 e7
       have D3 := on_ hon 10 g5
       have D4 := on_ hon 10 g6
       have z4 := on_ hon 10 g7
       have w6 := on_ hon 10 g8
       have z5 := on_ hon 10 g9
       have w7 := on_ hon 10 h0
       have z6 := on_ hon 10 h1
       have w8 := on_ hon 10 h2
       have z7 := on_ hon 10 h3
       have w9 := on_ hon 10 h4
       have z8 := on_ hon 10 h5
       have x0 := on_ hon 10 h6
       have v3 := on_ hon 10 h7
       have x1 := on_ hon 10 h8
       have z9 := on_ hon 10 h9
       have x2 := on_ hon 10 i0
       have e1 := am_ (n7 (hon 11 (by kernel_rfl)) hb_)
       have D5 := on_ hon 11 i1
       have D6 := on_ hon 11 i2
       have A0 := on_ hon 11 i3
       have x9 := on_ hon 11 i4
       have A1 := on_ hon 11 i5
       have y0 := on_ hon 11 i6
       have x3 := on_ hon 11 i7
       have A2 := on_ hon 11 i8
       have A3 := on_ hon 11 i9
       have y1 := on_ hon 11 j5
       have A4 := on_ hon 11 j6
       have u0 := on_ hon 11 j7
       have v4 := on_ hon 11 j8
       have u1 := on_ hon 11 j9
       have A5 := on_ hon 11 k0
       have u2 := on_ hon 11 k1
       have e0 := on_ hon 12 p3
       have S3 : w'.cell? ⟨l0, 0, none⟩ = some (.int .i64 0) := bl_ e1 0
       have I9 := blk_frozen e1.out 0
       have lY := A0.out; have lZ := A1.out; have ma := x3.out; have mb := A3.out; have mc := A4.out; have md := v4.out; have me := A5.out; have mf := x4.out; have mg := x9.out; have mh := y0.out; have mi := A2.out; have mj := y1.out; have mk := u0.out; have ml := u1.out; have mm := u2.out; have mn := A6.out
       have S4 : w'.cell? ⟨l0, 1, none⟩ = some (.int .i64 0) := bl_ e1 1
       have J0 := blk_frozen e1.out 1
       have mo := A0.out; have mp := A1.out; have mq := x3.out; have mr := A3.out; have ms := A4.out; have mt := v4.out; have mu := A5.out; have mv := x4.out; have mw := x9.out; have mx := y0.out; have my := A2.out; have mz := y1.out; have mA := u0.out; have mB := u1.out; have mC := u2.out; have mD := A6.out
       refine skip_ (w1 := ?_) (by rfl) rfl ?_ ?_
       rotate_left
       ·go_simp
        rfl
       refine hK.out _ _ ⟨v5, d2, b3, l0, A, m, j, B, m10_, m11_, (by rw [ha.out]; exact putSel_none (v := undef) rfl), (by (with_reducible repeat (first | apply Kd.R_alloc | apply Kd.R_drewN | apply Kd.R_drew)); exact Kd.R_mono (Kd.R_far (p := ⟨l0, 1, none⟩) (Kd.R_far (p := ⟨l0, 0, none⟩) (Kd.R_types G.out e1.out (by decide)) (fun _ hk => by first | exact hk.2 | trivial | exact qw_ hk) (.int .i64 s2)) (fun _ hk => by first | exact hk.2 | trivial | exact qw_ hk) (.int .i64 s3)) (fun _ hk => by first | exact ⟨hk.1.1, ⟨hk.1.2.1, ⟨hk.1.2.2.1, hk.1.2.2.2⟩⟩⟩ | trivial | exact qw_ hk)), (by (with_reducible repeat (first | apply Kd.R_alloc | apply Kd.R_drewN | apply Kd.R_drew)); exact Kd.R_mono (Kd.R_far (p := ⟨l0, 1, none⟩) (Kd.R_far (p := ⟨l0, 0, none⟩) (Kd.R_types V.out e1.out (by decide)) (fun _ hk => by first | exact hk.2 | trivial | exact qw_ hk) (.int .i64 s2)) (fun _ hk => by first | exact hk.2 | trivial | exact qw_ hk) (.int .i64 s3)) (fun _ hk => by first | exact ⟨hk.1.1, ⟨hk.1.2.1, ⟨hk.1.2.2.1, hk.1.2.2.2⟩⟩⟩ | trivial | exact qw_ hk)), (by (with_reducible repeat (first | apply Kd.R_alloc | apply Kd.R_drewN | apply Kd.R_drew)); exact Kd.R_mono (Kd.R_far (p := ⟨l0, 1, none⟩) (Kd.R_far (p := ⟨l0, 0, none⟩) (Kd.R_types E.out e1.out (by decide)) (fun _ hk => by first | exact hk.2 | trivial | exact qw_ hk) (.int .i64 s2)) (fun _ hk => by first | exact hk.2 | trivial | exact qw_ hk) (.int .i64 s3)) (fun _ hk => by first | exact ⟨hk.1.1, ⟨hk.1.2.1, ⟨hk.1.2.2.1, hk.1.2.2.2⟩⟩⟩ | trivial | exact qw_ hk)), (qf_ g), (qf_ l), (qf_ q), (qf_ s), (qf_ u), (qf_ y), (qf_ z), qB_, fun _ _ => A6.out, fun _ _ => x4.out, fun _ => (by (with_reducible repeat (first | apply Kd.R_alloc | apply Kd.R_drewN | apply Kd.R_drew)); exact Kd.R_mono (Kd.R_far (p := ⟨l0, 1, none⟩) (Kd.R_far (p := ⟨l0, 0, none⟩) (Kd.R_types e4.out e1.out (by decide)) (fun _ hk => by first | exact hk.2 | trivial | exact qw_ hk) (.int .i64 s2)) (fun _ hk => by first | exact hk.2 | trivial | exact qw_ hk) (.int .i64 s3)) (fun _ hk => by first | exact ⟨hk.1.1, ⟨hk.1.2.1, ⟨hk.1.2.2.1, hk.1.2.2.2⟩⟩⟩ | trivial | exact qw_ hk)), fun _ => (by (with_reducible repeat (first | apply Kd.R_alloc | apply Kd.R_drewN | apply Kd.R_drew)); exact Kd.R_mono (Kd.R_far (p := ⟨l0, 1, none⟩) (Kd.R_far (p := ⟨l0, 0, none⟩) (Kd.R_types d6.out e1.out (by decide)) (fun _ hk => by first | exact hk.2 | trivial | exact qw_ hk) (.int .i64 s2)) (fun _ hk => by first | exact hk.2 | trivial | exact qw_ hk) (.int .i64 s3)) (fun _ hk => by first | exact ⟨hk.1.1, ⟨hk.1.2.1, ⟨hk.1.2.2.1, hk.1.2.2.2⟩⟩⟩ | trivial | exact qw_ hk)), fun _ o => absurd ((hon 12 (by kernel_rfl)).symm.trans o) (by decide), fun _ => D3.out, fun _ => D4.out, fun _ => z4.out, fun _ => w6.out, fun _ => z5.out, fun _ => w7.out, fun _ => z6.out, fun _ => w8.out, fun _ => z7.out, fun _ => w9.out, fun _ => z8.out, fun _ => x0.out, fun _ => v3.out, fun _ => x1.out, fun _ => z9.out, fun _ => x2.out, fun _ o => absurd ((up_self b 13).symm.trans o) (by decide), fun _ => D5.out, fun _ => D6.out, fun _ => A0.out, fun _ => x9.out, fun _ => A1.out, fun _ => y0.out, fun _ => x3.out, fun _ => A2.out, fun _ => A3.out, fun _ => y1.out, fun _ => A4.out, fun _ => u0.out, fun _ => v4.out, fun _ => u1.out, fun _ => A5.out, fun _ => u2.out, fun _ => (qf_ e0), fun _ => (qp_ e1), c5, a3, a4, c9, X, c3⟩
      refine steps_cons ?_ ?_
      ·rintro b a w' ⟨v5, d2, b3, l0, A, m, j, B, m10_, m11_, ha, d7, d8, d9, I, J, U, T, a9, c0, b5, L, k4, k5, e3, e7, o0, g5, g6, g7, g8, g9, h0, h1, h2, h3, h4, h5, h6, h7, h8, h9, i0, n7, i1, i2, i3, i4, i5, i6, i7, i8, i9, j5, j6, j7, j8, j9, k0, k1, p3, p7, c5, a3, a4, c9, X, c3⟩ hb_ hon hoff
       refine ⟨_, rfl, fun K hK => ?_⟩
       have bg : a.tmps[119]? = some (.bool s9) := by rw [ha]; exact putSel_on (e := (8, 119, .bool s9)) 8 rfl rfl (hon 8 (by kernel_rfl)) rfl
       replace ha := am_ ha
       have G := am_ d7
       have V := am_ d8
       have E := am_ d9
       have g := am_ I
       have l := am_ J
       have q := am_ U
       have s := am_ T
       have u := am_ a9
       have y := am_ c0
       have z := am_ b5
       have HB := am_ L
       have A6 := am_ (k4 (hon 10 (by kernel_rfl)) (hon 11 (by kernel_rfl)))
       have x4 := am_ (k5 (hon 10 (by kernel_rfl)) (hon 11 (by kernel_rfl)))
       have e4 := on_ hon 1 e3
       have d6 := on_ hon 4 e7
       have D3 := on_ hon 10 g5
       have D4 := on_ hon 10 g6
       have z4 := on_ hon 10 g7
       have w6 := on_ hon 10 g8
       have z5 := on_ hon 10 g9
       have w7 := on_ hon 10 h0
       have z6 := on_ hon 10 h1
       have w8 := on_ hon 10 h2
       have z7 := on_ hon 10 h3
       have w9 := on_ hon 10 h4
       have z8 := on_ hon 10 h5
       have x0 := on_ hon 10 h6
       have v3 := on_ hon 10 h7
       have x1 := on_ hon 10 h8
       have z9 := on_ hon 10 h9
       have x2 := on_ hon 10 i0
       have D5 := on_ hon 11 i1
       have D6 := on_ hon 11 i2
       have A0 := on_ hon 11 i3
       have x9 := on_ hon 11 i4
       have A1 := on_ hon 11 i5
       have y0 := on_ hon 11 i6
       have x3 := on_ hon 11 i7
       have A2 := on_ hon 11 i8
       have A3 := on_ hon 11 i9
       have y1 := on_ hon 11 j5
       have A4 := on_ hon 11 j6
       have u0 := on_ hon 11 j7
       have v4 := on_ hon 11 j8
       have u1 := on_ hon 11 j9
       have A5 := on_ hon 11 k0
       have u2 := on_ hon 11 k1
       have e0 := on_ hon 12 p3
       have e1 := on_ hon 13 p7
       refine value_ (w1 := w') (v := .bool s9) (by rfl) rfl ?_ ?_
       ·go_simp
        (try simp only [i64_w])
        try rfl
       refine hK.out _ _ ⟨v5, d2, b3, l0, A, m, j, B, m10_, m11_, (by rw [ha.out]; exact putSel_upk 12 hb_ rfl rfl rfl), d7, d8, d9, I, J, U, T, a9, c0, b5, L, k4, k5, e3, e7, fun _ o => absurd ((hon 12 (by kernel_rfl)).symm.trans o) (by decide), g5, g6, g7, g8, g9, h0, h1, h2, h3, h4, h5, h6, h7, h8, h9, i0, fun _ o => absurd ((hon 13 (by kernel_rfl)).symm.trans o) (by decide), i1, i2, i3, i4, i5, i6, i7, i8, i9, j5, j6, j7, j8, j9, k0, k1, p3, p7, c5, a3, a4, c9, X, c3⟩
      refine steps_cons ?_ ?_
      ·rintro b a w' ⟨v5, d2, b3, l0, A, m, j, B, m10_, m11_, ha, d7, d8, d9, I, J, U, T, a9, c0, b5, L, k4, k5, e3, e7, o0, g5, g6, g7, g8, g9, h0, h1, h2, h3, h4, h5, h6, h7, h8, h9, i0, n7, i1, i2, i3, i4, i5, i6, i7, i8, i9, j5, j6, j7, j8, j9, k0, k1, p3, p7, c5, a3, a4, c9, X, c3⟩ hb_ hon hoff
       refine ⟨_, rfl, fun K hK => ?_⟩
       have bh : a.tmps[120]? = some (.bool B9) := by rw [ha]; exact putSel_on (e := (9, 120, .bool B9)) 9 rfl rfl (hon 9 (by kernel_rfl)) rfl
       replace ha := am_ ha
       have G := am_ d7
       have V := am_ d8
       have E := am_ d9
       have g := am_ I
       have l := am_ J
       have q := am_ U
       have s := am_ T
       have u := am_ a9
       have y := am_ c0
       have z := am_ b5
       have HB := am_ L
       have A6 := am_ (k4 (hon 10 (by kernel_rfl)) (hon 11 (by kernel_rfl)))
       have x4 := am_ (k5 (hon 10 (by kernel_rfl)) (hon 11 (by kernel_rfl)))
       have e4 := on_ hon 1 e3
       have d6 := on_ hon 4 e7
       have D3 := on_ hon 10 g5
       have D4 := on_ hon 10 g6
       have z4 := on_ hon 10 g7
       have w6 := on_ hon 10 g8
       have z5 := on_ hon 10 g9
       have w7 := on_ hon 10 h0
       have z6 := on_ hon 10 h1
       have w8 := on_ hon 10 h2
       have z7 := on_ hon 10 h3
       have w9 := on_ hon 10 h4
       have z8 := on_ hon 10 h5
       have x0 := on_ hon 10 h6
       have v3 := on_ hon 10 h7
       have x1 := on_ hon 10 h8
       have z9 := on_ hon 10 h9
       have x2 := on_ hon 10 i0
       have D5 := on_ hon 11 i1
       have D6 := on_ hon 11 i2
       have A0 := on_ hon 11 i3
       have x9 := on_ hon 11 i4
       have A1 := on_ hon 11 i5
       have y0 := on_ hon 11 i6
       have x3 := on_ hon 11 i7
       have A2 := on_ hon 11 i8
       have A3 := on_ hon 11 i9
       have y1 := on_ hon 11 j5
       have A4 := on_ hon 11 j6
       have u0 := on_ hon 11 j7
       have v4 := on_ hon 11 j8
       have u1 := on_ hon 11 j9
       have A5 := on_ hon 11 k0
       have u2 := on_ hon 11 k1
       have e0 := on_ hon 12 p3
       have e1 := on_ hon 13 p7
       refine value_ (w1 := w') (v := .bool B9) (by rfl) rfl ?_ ?_
       ·go_simp
        (try simp only [i64_w])
        try rfl
       refine hK.out _ _ ⟨v5, d2, b3, l0, A, m, j, B, m10_, m11_, (by rw [ha.out]; exact putSel_upk 13 hb_ rfl rfl rfl), d7, d8, d9, I, J, U, T, a9, c0, b5, L, k4, k5, e3, e7, fun _ o => absurd ((hon 12 (by kernel_rfl)).symm.trans o) (by decide), g5, g6, g7, g8, g9, h0, h1, h2, h3, h4, h5, h6, h7, h8, h9, i0, fun _ o => absurd ((hon 13 (by kernel_rfl)).symm.trans o) (by decide), i1, i2, i3, i4, i5, i6, i7, i8, i9, j5, j6, j7, j8, j9, k0, k1, p3, p7, c5, a3, a4, c9, X, c3⟩
      exact steps_nil
     rintro b a bi hall ⟨v5, d2, b3, l0, A, m, j, B, m10_, m11_, ha, d7, d8, d9, I, J, U, T, a9, c0, b5, L, k4, k5, e3, e7, o0, g5, g6, g7, g8, g9, h0, h1, h2, h3, h4, h5, h6, h7, h8, h9, i0, n7, i1, i2, i3, i4, i5, i6, i7, i8, i9, j5, j6, j7, j8, j9, k0, k1, p3, p7, c5, a3, a4, c9, X, c3⟩
     clear g l q s u y z HB G V E
     have hb0_ := hall 0 (by kernel_rfl)
     have hb1_ := hall 1 (by kernel_rfl)
     have hb2_ := hall 2 (by kernel_rfl)
     have hb3_ := hall 3 (by kernel_rfl)
     have hb4_ := hall 4 (by kernel_rfl)
     have hb5_ := hall 5 (by kernel_rfl)
     have hb6_ := hall 6 (by kernel_rfl)
     have hb7_ := hall 7 (by kernel_rfl)
     have hb8_ := hall 8 (by kernel_rfl)
     have hb9_ := hall 9 (by kernel_rfl)
     have hb10_ := hall 10 (by kernel_rfl)
     have hb11_ := hall 11 (by kernel_rfl)
     have hb12_ := hall 12 (by kernel_rfl)
     have hb13_ := hall 13 (by kernel_rfl)
     have hb14_ := hall 14 (by kernel_rfl)
     have hb15_ := hall 15 (by kernel_rfl)
     subst ha
     obtain rfl := c5 hb1_
     obtain rfl := a3 hb4_
     obtain rfl := a4 hb5_
     obtain rfl := c9 hb6_
     obtain rfl := X hb10_
     obtain rfl := c3 hb11_
     simp only [putSel, hb0_, hb1_, hb2_, hb3_, hb4_, hb5_, hb6_, hb7_, hb8_, hb9_, hb10_, hb11_, hb12_, hb13_, hb14_, hb15_, if_true, Act.put, sA_, sB_, sC_]
     have G := am_ d7
     clear d7
     have V := am_ d8
     clear d8
     have E := am_ d9
     clear d9
     have g := am_ I
     clear I
     have l := am_ J
     clear J
     have q := am_ U
     clear U
     have s := am_ T
     clear T
     have u := am_ a9
     clear a9
     have y := am_ c0
     clear c0
     have z := am_ b5
     clear b5
     have HB := am_ L
     clear L
     have A6 := am_ (k4 hb10_ hb11_)
     clear k4
     have x4 := am_ (k5 hb10_ hb11_)
     clear k5
     have e4 := am_ (e3 hb1_)
     clear e3
     have d6 := am_ (e7 hb4_)
     clear e7; clear o0
     have D3 := am_ (g5 hb10_)
     clear g5
     have D4 := am_ (g6 hb10_)
     clear g6
     have z4 := am_ (g7 hb10_)
     clear g7
     have w6 := am_ (g8 hb10_)
     clear g8
     have z5 := am_ (g9 hb10_)
     clear g9
     have w7 := am_ (h0 hb10_)
     clear h0
     have z6 := am_ (h1 hb10_)
     clear h1
     have w8 := am_ (h2 hb10_)
     clear h2
     have z7 := am_ (h3 hb10_)
     clear h3
     have w9 := am_ (h4 hb10_)
     clear h4
     have z8 := am_ (h5 hb10_)
     clear h5
     have x0 := am_ (h6 hb10_)
     clear h6
     have v3 := am_ (h7 hb10_)
     clear h7
     have x1 := am_ (h8 hb10_)
     clear h8
     have z9 := am_ (h9 hb10_)
     clear h9
     have x2 := am_ (i0 hb10_)
     clear i0; clear n7
     have D5 := am_ (i1 hb11_)
     clear i1
     have D6 := am_ (i2 hb11_)
     clear i2
     have A0 := am_ (i3 hb11_)
     clear i3
     have x9 := am_ (i4 hb11_)
     clear i4
     have A1 := am_ (i5 hb11_)
     clear i5
     have y0 := am_ (i6 hb11_)
     clear i6
     have x3 := am_ (i7 hb11_)
     clear i7
     have A2 := am_ (i8 hb11_)
     clear i8
     have A3 := am_ (i9 hb11_)
     clear i9
     have y1 := am_ (j5 hb11_)
     clear j5
     have A4 := am_ (j6 hb11_)
     clear j6
     have u0 := am_ (j7 hb11_)
     clear j7
     have v4 := am_ (j8 hb11_)
     clear j8
     have u1 := am_ (j9 hb11_)
     clear j9
     have A5 := am_ (k0 hb11_)
     clear k0
     have u2 := am_ (k1 hb11_)
     clear k1
     have e0 := am_ (p3 hb12_)
     clear p3
     have e1 := am_ (p7 hb13_)
     clear p7; clear hall hb0_ hb1_ hb2_ hb3_ hb4_ hb5_ hb6_ hb7_ hb8_ hb9_ hb10_ hb11_ hb12_ hb13_ hb14_ hb15_
     replace G := am_ (qsw_ G.out d6.out (fun _ hk => hk.1)); replace V := am_ (qsw_ V.out d6.out (fun _ hk => hk.2.1)); replace E := am_ (qsw_ E.out d6.out (fun _ hk => hk.2.2))
     go_upto_region 25 with (fail)
     go_cut [140] (fun S5 wc => ∃ (kq : Nat) (o9 : Bool), S5 = .bool o9 ∧ Aside0 (laws_FnExactWebTake.j2 kq z2 o9 e6 z3 = some true) ∧ Aside0 (kq ≤ kj161) ∧ Aside0 (Kd.R k72 72 wc w.heap.size (fun k_ => some k_ ≠ ((.slice c6 s1.length c7) : Value).ownBlock ∧ some k_ ≠ ((.slice r2 d3.length r3) : Value).ownBlock ∧ some k_ ≠ (d2 : Value).ownBlock) a8 e9) ∧ Aside0 (Kd.R k72 72 wc w.heap.size (fun k_ => some k_ ≠ (a8 : Value).ownBlock ∧ some k_ ≠ ((.slice r2 d3.length r3) : Value).ownBlock ∧ some k_ ≠ (d2 : Value).ownBlock) (.slice c6 s1.length c7) s1) ∧ Aside0 (Kd.R k72 72 wc w.heap.size (fun k_ => some k_ ≠ (a8 : Value).ownBlock ∧ some k_ ≠ ((.slice c6 s1.length c7) : Value).ownBlock ∧ some k_ ≠ (d2 : Value).ownBlock) (.slice r2 d3.length r3) z3) ∧ Aside0 (Kd.R k72 72 wc w.heap.size (fun k_ => some k_ ≠ (a8 : Value).ownBlock ∧ some k_ ≠ ((.slice c6 s1.length c7) : Value).ownBlock ∧ some k_ ≠ ((.slice r2 d3.length r3) : Value).ownBlock) d2 s8) ∧ Aside0 (wc.heap[u7]? = some (.cells #[.int .i64 F, (.slice a6 D.length a7)] 24 (0, 0))) ∧ Aside0 (wc.heap[u6]? = some (.cells #[.int .i64 M, .int .i64 O] 37 (0, 0))) ∧ Aside0 (wc.heap[l1]? = some (.cells #[.int .i64 e5, a8] 29 (0, 0))) ∧ Aside0 (wc.heap[l2]? = some (.cells #[.int .i64 o3, .int .i64 o4] 43 (0, 0))) ∧ Aside0 (wc.heap[d4]? = some (.cells #[.int .i64 k7, (.slice c6 s1.length c7)] 29 (0, 0))) ∧ Aside0 (wc.heap[l3]? = some (.cells #[.int .i64 e6, (.slice r2 d3.length r3)] 29 (0, 0))) ∧ Aside0 (wc.heap[b4]? = some (.cells #[.int .i64 p0, .int .i64 p1] 43 (0, 0))) ∧ Aside0 (wc.heap[b3]? = some (.cells #[.int .i64 p6, d2] 29 (0, 0))) ∧ Aside0 (wc.heap[l0]? = some (.cells #[.int .i64 s2, .int .i64 s3] 43 (0, 0))) ∧ Aside0 (Below w.heap.size w wc))
     case first =>
      have H := R3.out; clear R3
      obtain ⟨rG, J1, H⟩ := bs_ H
      refine id_ H ?_ ?_ <;> clear H <;> rintro rfl H
      ·have H' := am_ H; clear H; obtain ⟨mE, mF⟩ := nn_ w6; obtain ⟨mG, mH⟩ := nn_ w7; obtain ⟨mI, mJ⟩ := nn_ w8; obtain ⟨mK, mL⟩ := nn_ w9; obtain ⟨mM, mN⟩ := nn_ x0; obtain ⟨mO, mP⟩ := nn_ x1; obtain ⟨mQ, mR⟩ := nn_ x2; obtain ⟨mS, mT⟩ := nn_ x4
       obtain ⟨mU, T1, mV, T3⟩ := bc2_ e0
       obtain ⟨mW, mX⟩ := nn_ q7; obtain ⟨mY, mZ⟩ := nn_ q8; obtain ⟨na, nb⟩ := nn_ q9; obtain ⟨nc, nd⟩ := nn_ u5; obtain ⟨ne, nf⟩ := nn_ w2; obtain ⟨ng, nh⟩ := nn_ r0; obtain ⟨ni, nj⟩ := nn_ x3
       obtain ⟨T4, T5, T6, T7⟩ := bc2_ q
       obtain ⟨S6, S7, S8⟩ := Kd.R_slice d6.out
       subst S8
       obtain ⟨S9, T0, T2⟩ := Kd.R_slice G.out
       subst T2
       go_wp2_with (first | ((with_reducible refine gc_ 17 ?_); refine gl_ (some 123) Try.func17 #[.agg #[.int .i64 p6, .slice S6 s8.length S7], .agg #[.int .i64 e5, .slice S9 e9.length T0]] ?_; (with_reducible refine (laws_eqWeb.calls kj161 p6 _ _ s8 e5 _ _ e9 false _ ?_ ?_ ?_ ?_ J1.out).mono ?_); exact qD_ (Kd.R_reads' d6.out).2.2; exact (Kd.R_reads' d6.out).2.1; exact qD_ (Kd.R_reads' G.out).2.2; exact (Kd.R_reads' G.out).2.1; rintro e bj ⟨rfl, hb⟩; refine ⟨_, rfl, ?_⟩; replace G := kb_ G hb; replace V := kb_ V hb; replace E := kb_ E hb; replace e4 := kb_ e4 hb; replace d6 := kb_ d6 hb; replace g := qbl_ g hb; replace l := qbl_ l hb; replace q := qbl_ q hb; replace s := qbl_ s hb; replace u := qbl_ u hb; replace y := qbl_ y hb; replace z := qbl_ z hb; replace e0 := qbl_ e0 hb; replace e1 := qbl_ e1 hb; replace HB := hs_ hb; (try clear hb); (try clear hk)))
       go_meet
       case rel => exact ⟨_, (true), qe_, H', ⟨by have := B2.out; have := I6.out; first | omega | exact Nat.le_refl _⟩, ⟨by (try simp only [c]); (with_reducible repeat (first | apply Kd.R_alloc | apply Kd.R_drewN | apply Kd.R_drew)); exact Kd.R_mono G.out (fun _ hk => by first | exact ⟨hk.2.2.1, ⟨hk.2.2.2, hk.2.1⟩⟩ | trivial | exact qw_ hk)⟩, ⟨by (try simp only [c]); (with_reducible repeat (first | apply Kd.R_alloc | apply Kd.R_drewN | apply Kd.R_drew)); exact Kd.R_mono V.out (fun _ hk => by first | exact ⟨hk.2.2.1, ⟨hk.2.2.2, hk.2.1⟩⟩ | trivial | exact qw_ hk)⟩, ⟨by (try simp only [c]); (with_reducible repeat (first | apply Kd.R_alloc | apply Kd.R_drewN | apply Kd.R_drew)); exact Kd.R_mono E.out (fun _ hk => by first | exact ⟨hk.2.2.1, ⟨hk.2.2.2, hk.2.1⟩⟩ | trivial | exact qw_ hk)⟩, ⟨by (try simp only [c]); (with_reducible repeat (first | apply Kd.R_alloc | apply Kd.R_drewN | apply Kd.R_drew)); exact Kd.R_mono d6.out (fun _ hk => by first | exact ⟨hk.2.1, ⟨hk.2.2.1, hk.2.2.2⟩⟩ | trivial | exact qw_ hk)⟩, ⟨by (try simp only [c]); exact qf_ g⟩, ⟨by (try simp only [c]); exact qf_ l⟩, ⟨by (try simp only [c]); exact qf_ q⟩, ⟨by (try simp only [c]); exact qf_ s⟩, ⟨by (try simp only [c]); exact qf_ u⟩, ⟨by (try simp only [c]); exact qf_ y⟩, ⟨by (try simp only [c]); exact qf_ z⟩, ⟨by (try simp only [c]); exact qf_ e0⟩, ⟨by (try simp only [c]); exact qf_ e1⟩, ⟨qB_⟩⟩
      obtain ⟨rH, E8, H⟩ := bs_ H
      refine id_ H ?_ ?_ <;> clear H <;> rintro rfl H
      ·have H' := am_ H; clear H; obtain ⟨nk, nl⟩ := nn_ w6; obtain ⟨nm, nn⟩ := nn_ w7; obtain ⟨no, np⟩ := nn_ w8; obtain ⟨nq, nr⟩ := nn_ w9; obtain ⟨ns, nt⟩ := nn_ x0; obtain ⟨nu, nv⟩ := nn_ x1; obtain ⟨nw, nx⟩ := nn_ x2; obtain ⟨ny, nz⟩ := nn_ x4
       obtain ⟨T8, T9, nA, nB⟩ := bc2_ e0
       obtain ⟨nC, nD⟩ := nn_ q7; obtain ⟨nE, nF⟩ := nn_ q8; obtain ⟨nG, nH⟩ := nn_ q9; obtain ⟨nI, nJ⟩ := nn_ u5; obtain ⟨nK, nL⟩ := nn_ w2; obtain ⟨nM, nN⟩ := nn_ r0; obtain ⟨nO, nP⟩ := nn_ x3
       obtain ⟨nQ, nR, nS, nT⟩ := bc2_ q
       obtain ⟨U0, U1, U2⟩ := Kd.R_slice d6.out
       subst U2
       obtain ⟨U3, U4, U5⟩ := Kd.R_slice G.out
       subst U5
       go_wp2_with (first | ((with_reducible refine gc_ 17 ?_); refine gl_ (some 123) Try.func17 #[.agg #[.int .i64 p6, .slice U0 s8.length U1], .agg #[.int .i64 e5, .slice U3 e9.length U4]] ?_; (with_reducible refine (laws_eqWeb.calls kj161 p6 _ _ s8 e5 _ _ e9 true _ ?_ ?_ ?_ ?_ J1.out).mono ?_); exact qD_ (Kd.R_reads' d6.out).2.2; exact (Kd.R_reads' d6.out).2.1; exact qD_ (Kd.R_reads' G.out).2.2; exact (Kd.R_reads' G.out).2.1; rintro e bk ⟨rfl, hb⟩; refine ⟨_, rfl, ?_⟩; replace G := kb_ G hb; replace V := kb_ V hb; replace E := kb_ E hb; replace e4 := kb_ e4 hb; replace d6 := kb_ d6 hb; replace g := qbl_ g hb; replace l := qbl_ l hb; replace q := qbl_ q hb; replace s := qbl_ s hb; replace u := qbl_ u hb; replace y := qbl_ y hb; replace z := qbl_ z hb; replace e0 := qbl_ e0 hb; replace e1 := qbl_ e1 hb; replace HB := hs_ hb; (try clear hb); (try clear hk); obtain ⟨nU, nV⟩ := nn_ x9; obtain ⟨nW, nX⟩ := nn_ y0; obtain ⟨nY, nZ⟩ := nn_ y1; obtain ⟨oa, ob⟩ := nn_ u0; obtain ⟨oc, od⟩ := nn_ u1; obtain ⟨oe, of⟩ := nn_ u2; obtain ⟨og, oh, oi, oj⟩ := bc2_ e1; obtain ⟨ok, ol⟩ := nn_ s5; obtain ⟨om, on⟩ := nn_ s6; obtain ⟨oo, op⟩ := nn_ A8; obtain ⟨oq, os⟩ := nn_ x7; obtain ⟨ot, ou⟩ := nn_ x8; obtain ⟨ov, ow, ox, oy⟩ := bc2_ s) | (go_at_call 43; (with_reducible refine (laws_eqEdge.calls s2 s3 o3 o4 false _ E8.out).mono ?_); rintro e bl ⟨rfl, hb⟩; replace G := kb_ G hb; replace V := kb_ V hb; replace E := kb_ E hb; replace e4 := kb_ e4 hb; replace d6 := kb_ d6 hb; replace g := qbl_ g hb; replace l := qbl_ l hb; replace q := qbl_ q hb; replace s := qbl_ s hb; replace u := qbl_ u hb; replace y := qbl_ y hb; replace z := qbl_ z hb; replace e0 := qbl_ e0 hb; replace e1 := qbl_ e1 hb; replace HB := hs_ hb; (try clear hb); (try clear hk)))
       go_meet
       case rel => exact ⟨_, (true), qe_, H', ⟨by have := B2.out; have := I6.out; first | omega | exact Nat.le_refl _⟩, ⟨by (try simp only [c]); (with_reducible repeat (first | apply Kd.R_alloc | apply Kd.R_drewN | apply Kd.R_drew)); exact Kd.R_mono G.out (fun _ hk => by first | exact ⟨hk.2.2.1, ⟨hk.2.2.2, hk.2.1⟩⟩ | trivial | exact qw_ hk)⟩, ⟨by (try simp only [c]); (with_reducible repeat (first | apply Kd.R_alloc | apply Kd.R_drewN | apply Kd.R_drew)); exact Kd.R_mono V.out (fun _ hk => by first | exact ⟨hk.2.2.1, ⟨hk.2.2.2, hk.2.1⟩⟩ | trivial | exact qw_ hk)⟩, ⟨by (try simp only [c]); (with_reducible repeat (first | apply Kd.R_alloc | apply Kd.R_drewN | apply Kd.R_drew)); exact Kd.R_mono E.out (fun _ hk => by first | exact ⟨hk.2.2.1, ⟨hk.2.2.2, hk.2.1⟩⟩ | trivial | exact qw_ hk)⟩, ⟨by (try simp only [c]); (with_reducible repeat (first | apply Kd.R_alloc | apply Kd.R_drewN | apply Kd.R_drew)); exact Kd.R_mono d6.out (fun _ hk => by first | exact ⟨hk.2.1, ⟨hk.2.2.1, hk.2.2.2⟩⟩ | trivial | exact qw_ hk)⟩, ⟨by (try simp only [c]); exact qf_ g⟩, ⟨by (try simp only [c]); exact qf_ l⟩, ⟨by (try simp only [c]); exact qf_ q⟩, ⟨by (try simp only [c]); exact qf_ s⟩, ⟨by (try simp only [c]); exact qf_ u⟩, ⟨by (try simp only [c]); exact qf_ y⟩, ⟨by (try simp only [c]); exact qf_ z⟩, ⟨by (try simp only [c]); exact qf_ e0⟩, ⟨by (try simp only [c]); exact qf_ e1⟩, ⟨qB_⟩⟩
      refine jc_ H ?_ ?_ <;> clear H <;> intro n8 H
      ·have k6 : (s9 != f0) = true := n8
       (try (have p8 : decide (s9 = f0) = false := by simpa using n8))
       (try (have x5 : (s9 == f0) = false := by simpa using n8))
       (try (have J2 : ¬ (s9 = f0) := by simpa using n8))
       clear n8
       (first | rw [k6] | rw [p8] | (simp only [i64_w, i32_w]; rw [k6]) | skip)
       have H' := am_ H; clear H; obtain ⟨oz, oA⟩ := nn_ w6; obtain ⟨oB, oC⟩ := nn_ w7; obtain ⟨oD, oE⟩ := nn_ w8; obtain ⟨oF, oG⟩ := nn_ w9; obtain ⟨oH, oI⟩ := nn_ x0; obtain ⟨oJ, oK⟩ := nn_ x1; obtain ⟨oL, oM⟩ := nn_ x2; obtain ⟨oN, oO⟩ := nn_ x4
       obtain ⟨oP, oQ, oR, oS⟩ := bc2_ e0
       obtain ⟨oT, oU⟩ := nn_ q7; obtain ⟨oV, oW⟩ := nn_ q8; obtain ⟨oX, oY⟩ := nn_ q9; obtain ⟨oZ, pa⟩ := nn_ u5; obtain ⟨pb, pc⟩ := nn_ w2; obtain ⟨pd, pe⟩ := nn_ r0; obtain ⟨pf, pg⟩ := nn_ x3
       obtain ⟨ph, pi, pj, pk⟩ := bc2_ q
       obtain ⟨U6, U7, U8⟩ := Kd.R_slice d6.out
       subst U8
       obtain ⟨U9, V0, V1⟩ := Kd.R_slice G.out
       subst V1
       go_wp2_with (first | ((with_reducible refine gc_ 17 ?_); refine gl_ (some 123) Try.func17 #[.agg #[.int .i64 p6, .slice U6 s8.length U7], .agg #[.int .i64 e5, .slice U9 e9.length V0]] ?_; (with_reducible refine (laws_eqWeb.calls kj161 p6 _ _ s8 e5 _ _ e9 true _ ?_ ?_ ?_ ?_ J1.out).mono ?_); exact qD_ (Kd.R_reads' d6.out).2.2; exact (Kd.R_reads' d6.out).2.1; exact qD_ (Kd.R_reads' G.out).2.2; exact (Kd.R_reads' G.out).2.1; rintro e bn ⟨rfl, hb⟩; refine ⟨_, rfl, ?_⟩; replace G := kb_ G hb; replace V := kb_ V hb; replace E := kb_ E hb; replace e4 := kb_ e4 hb; replace d6 := kb_ d6 hb; replace g := qbl_ g hb; replace l := qbl_ l hb; replace q := qbl_ q hb; replace s := qbl_ s hb; replace u := qbl_ u hb; replace y := qbl_ y hb; replace z := qbl_ z hb; replace e0 := qbl_ e0 hb; replace e1 := qbl_ e1 hb; replace HB := hs_ hb; (try clear hb); (try clear hk); obtain ⟨pl, pm⟩ := nn_ x9; obtain ⟨pn, po⟩ := nn_ y0; obtain ⟨pp, pq⟩ := nn_ y1; obtain ⟨pr, ps⟩ := nn_ u0; obtain ⟨pt, pu⟩ := nn_ u1; obtain ⟨pv, pw⟩ := nn_ u2; obtain ⟨px, py, pz, pA⟩ := bc2_ e1; obtain ⟨pB, pC⟩ := nn_ s5; obtain ⟨pD, pE⟩ := nn_ s6; obtain ⟨pF, pG⟩ := nn_ A8; obtain ⟨pH, pI⟩ := nn_ x7; obtain ⟨pJ, pK⟩ := nn_ x8; obtain ⟨pL, pM, pN, pO⟩ := bc2_ s) | (go_at_call 43; (with_reducible refine (laws_eqEdge.calls s2 s3 o3 o4 true _ E8.out).mono ?_); rintro e bo ⟨rfl, hb⟩; replace G := kb_ G hb; replace V := kb_ V hb; replace E := kb_ E hb; replace e4 := kb_ e4 hb; replace d6 := kb_ d6 hb; replace g := qbl_ g hb; replace l := qbl_ l hb; replace q := qbl_ q hb; replace s := qbl_ s hb; replace u := qbl_ u hb; replace y := qbl_ y hb; replace z := qbl_ z hb; replace e0 := qbl_ e0 hb; replace e1 := qbl_ e1 hb; replace HB := hs_ hb; (try clear hb); (try clear hk)))
       go_meet
       case rel => exact ⟨_, (true), qe_, H', ⟨by have := B2.out; have := I6.out; first | omega | exact Nat.le_refl _⟩, ⟨by (try simp only [c]); (with_reducible repeat (first | apply Kd.R_alloc | apply Kd.R_drewN | apply Kd.R_drew)); exact Kd.R_mono G.out (fun _ hk => by first | exact ⟨hk.2.2.1, ⟨hk.2.2.2, hk.2.1⟩⟩ | trivial | exact qw_ hk)⟩, ⟨by (try simp only [c]); (with_reducible repeat (first | apply Kd.R_alloc | apply Kd.R_drewN | apply Kd.R_drew)); exact Kd.R_mono V.out (fun _ hk => by first | exact ⟨hk.2.2.1, ⟨hk.2.2.2, hk.2.1⟩⟩ | trivial | exact qw_ hk)⟩, ⟨by (try simp only [c]); (with_reducible repeat (first | apply Kd.R_alloc | apply Kd.R_drewN | apply Kd.R_drew)); exact Kd.R_mono E.out (fun _ hk => by first | exact ⟨hk.2.2.1, ⟨hk.2.2.2, hk.2.1⟩⟩ | trivial | exact qw_ hk)⟩, ⟨by (try simp only [c]); (with_reducible repeat (first | apply Kd.R_alloc | apply Kd.R_drewN | apply Kd.R_drew)); exact Kd.R_mono d6.out (fun _ hk => by first | exact ⟨hk.2.1, ⟨hk.2.2.1, hk.2.2.2⟩⟩ | trivial | exact qw_ hk)⟩, ⟨by (try simp only [c]); exact qf_ g⟩, ⟨by (try simp only [c]); exact qf_ l⟩, ⟨by (try simp only [c]); exact qf_ q⟩, ⟨by (try simp only [c]); exact qf_ s⟩, ⟨by (try simp only [c]); exact qf_ u⟩, ⟨by (try simp only [c]); exact qf_ y⟩, ⟨by (try simp only [c]); exact qf_ z⟩, ⟨by (try simp only [c]); exact qf_ e0⟩, ⟨by (try simp only [c]); exact qf_ e1⟩, ⟨qB_⟩⟩
      have k6 : (s9 != f0) = false := by simpa using n8
      (try (have p8 : decide (s9 = f0) = true := by simpa using n8))
      (try (have x5 : (s9 == f0) = true := by simpa using n8))
      clear n8
      (first | rw [k6] | rw [p8] | (simp only [i64_w, i32_w]; rw [k6]) | skip)
      have H' := am_ H; clear H; obtain ⟨pP, pQ⟩ := nn_ w6; obtain ⟨pR, pS⟩ := nn_ w7; obtain ⟨pT, pU⟩ := nn_ w8; obtain ⟨pV, pW⟩ := nn_ w9; obtain ⟨pX, pY⟩ := nn_ x0; obtain ⟨pZ, qa⟩ := nn_ x1; obtain ⟨qb, qc⟩ := nn_ x2; obtain ⟨qd, qe⟩ := nn_ x4
      obtain ⟨qf, qg, qh, qi⟩ := bc2_ e0
      obtain ⟨qj, qk⟩ := nn_ q7; obtain ⟨ql, qm⟩ := nn_ q8; obtain ⟨qn, qo⟩ := nn_ q9; obtain ⟨qp, qq⟩ := nn_ u5; obtain ⟨qr, qs⟩ := nn_ w2; obtain ⟨qt, qu⟩ := nn_ r0; obtain ⟨qv, qw⟩ := nn_ x3
      obtain ⟨qx, qy, qz, qA⟩ := bc2_ q
      obtain ⟨V2, V3, V4⟩ := Kd.R_slice d6.out
      subst V4
      obtain ⟨V5, V6, V7⟩ := Kd.R_slice G.out
      subst V7
      go_wp2_with (first | ((with_reducible refine gc_ 17 ?_); refine gl_ (some 123) Try.func17 #[.agg #[.int .i64 p6, .slice V2 s8.length V3], .agg #[.int .i64 e5, .slice V5 e9.length V6]] ?_; (with_reducible refine (laws_eqWeb.calls kj161 p6 _ _ s8 e5 _ _ e9 true _ ?_ ?_ ?_ ?_ J1.out).mono ?_); exact qD_ (Kd.R_reads' d6.out).2.2; exact (Kd.R_reads' d6.out).2.1; exact qD_ (Kd.R_reads' G.out).2.2; exact (Kd.R_reads' G.out).2.1; rintro e bp ⟨rfl, hb⟩; refine ⟨_, rfl, ?_⟩; replace G := kb_ G hb; replace V := kb_ V hb; replace E := kb_ E hb; replace e4 := kb_ e4 hb; replace d6 := kb_ d6 hb; replace g := qbl_ g hb; replace l := qbl_ l hb; replace q := qbl_ q hb; replace s := qbl_ s hb; replace u := qbl_ u hb; replace y := qbl_ y hb; replace z := qbl_ z hb; replace e0 := qbl_ e0 hb; replace e1 := qbl_ e1 hb; replace HB := hs_ hb; (try clear hb); (try clear hk); obtain ⟨qB, qC⟩ := nn_ x9; obtain ⟨qD, qE⟩ := nn_ y0; obtain ⟨qF, qG⟩ := nn_ y1; obtain ⟨qH, qI⟩ := nn_ u0; obtain ⟨qJ, qK⟩ := nn_ u1; obtain ⟨qL, qM⟩ := nn_ u2; obtain ⟨qN, qO, qP, qQ⟩ := bc2_ e1; obtain ⟨qR, qS⟩ := nn_ s5; obtain ⟨qT, qU⟩ := nn_ s6; obtain ⟨qV, qW⟩ := nn_ A8; obtain ⟨qX, qY⟩ := nn_ x7; obtain ⟨qZ, ra⟩ := nn_ x8; obtain ⟨rb, rc, rd, re⟩ := bc2_ s) | (go_at_call 43; (with_reducible refine (laws_eqEdge.calls s2 s3 o3 o4 true _ E8.out).mono ?_); rintro e bq ⟨rfl, hb⟩; replace G := kb_ G hb; replace V := kb_ V hb; replace E := kb_ E hb; replace e4 := kb_ e4 hb; replace d6 := kb_ d6 hb; replace g := qbl_ g hb; replace l := qbl_ l hb; replace q := qbl_ q hb; replace s := qbl_ s hb; replace u := qbl_ u hb; replace y := qbl_ y hb; replace z := qbl_ z hb; replace e0 := qbl_ e0 hb; replace e1 := qbl_ e1 hb; replace HB := hs_ hb; (try clear hb); (try clear hk)))
      go_meet
      case rel => exact ⟨_, ((B9 != t0)), qe_, H', ⟨by have := B2.out; have := I6.out; first | omega | exact Nat.le_refl _⟩, ⟨by (try simp only [c]); (with_reducible repeat (first | apply Kd.R_alloc | apply Kd.R_drewN | apply Kd.R_drew)); exact Kd.R_mono G.out (fun _ hk => by first | exact ⟨hk.2.2.1, ⟨hk.2.2.2, hk.2.1⟩⟩ | trivial | exact qw_ hk)⟩, ⟨by (try simp only [c]); (with_reducible repeat (first | apply Kd.R_alloc | apply Kd.R_drewN | apply Kd.R_drew)); exact Kd.R_mono V.out (fun _ hk => by first | exact ⟨hk.2.2.1, ⟨hk.2.2.2, hk.2.1⟩⟩ | trivial | exact qw_ hk)⟩, ⟨by (try simp only [c]); (with_reducible repeat (first | apply Kd.R_alloc | apply Kd.R_drewN | apply Kd.R_drew)); exact Kd.R_mono E.out (fun _ hk => by first | exact ⟨hk.2.2.1, ⟨hk.2.2.2, hk.2.1⟩⟩ | trivial | exact qw_ hk)⟩, ⟨by (try simp only [c]); (with_reducible repeat (first | apply Kd.R_alloc | apply Kd.R_drewN | apply Kd.R_drew)); exact Kd.R_mono d6.out (fun _ hk => by first | exact ⟨hk.2.1, ⟨hk.2.2.1, hk.2.2.2⟩⟩ | trivial | exact qw_ hk)⟩, ⟨by (try simp only [c]); exact qf_ g⟩, ⟨by (try simp only [c]); exact qf_ l⟩, ⟨by (try simp only [c]); exact qf_ q⟩, ⟨by (try simp only [c]); exact qf_ s⟩, ⟨by (try simp only [c]); exact qf_ u⟩, ⟨by (try simp only [c]); exact qf_ y⟩, ⟨by (try simp only [c]); exact qf_ z⟩, ⟨by (try simp only [c]); exact qf_ e0⟩, ⟨by (try simp only [c]); exact qf_ e1⟩, ⟨qB_⟩⟩
     case rest =>
      clear R3; (try clear n8); (try clear k6); (try clear p8); (try clear x5); (try clear oP oQ); (try clear ph pi); (try clear px py); (try clear pL pM); (try clear qf qg); (try clear qx qy); (try clear qN qO); (try clear rb rc); (try clear T8 T9); (try clear nQ nR); (try clear og oh); (try clear ov ow); (try clear mU T1); (try clear T4 T5); (try clear oR oS); (try clear pj pk); (try clear pz pA); (try clear pN pO); (try clear qh qi); (try clear qz qA); (try clear qP qQ); (try clear rd re); (try clear nA nB); (try clear nS nT); (try clear oi oj); (try clear ox oy); (try clear mV T3); (try clear T6 T7)
      obtain ⟨kq, o9, rfl, HA, rf, G, V, E, V8, g, l, q, s, u, y, z, e0, e1, HB⟩ := hcut
      have x := (Kd.R_reads' E.out).1
      rw [x] at E
      (try simp only [x])
      (try simp only [x] at g)
      (try simp only [x] at l)
      (try simp only [x] at q)
      (try simp only [x] at s)
      (try simp only [x] at u)
      (try simp only [x] at y)
      (try simp only [x] at z)
      (try simp only [x] at e0)
      (try simp only [x] at e1)
      (try simp only [x] at G)
      (try simp only [x] at V)
      (try simp only [x] at V8)
      cases kq with
      | zero => exact absurd HA.out (by simp [laws_FnExactWebTake.j2])
      | succ kj293 =>
       have H := HA.out; clear HA
       simp only [laws_FnExactWebTake.j2] at H
       refine ie_ H ?_ ?_ <;> clear H <;> rintro rfl H
       ·exact absurd (oi_ H) (by decide)
       obtain ⟨I2, V9, H⟩ := bs_ H
       refine ic_ H ?_ ?_ <;> clear H <;> intro C3 H <;> (try simp only [x] at C3)
       ·exact absurd (oi_ H) (by decide)
       refine jb_ H ?_ ?_ <;> clear H <;> intro t2 H
       ·have C4 : (I2 == z2) = false := beq_eq_false_iff_ne.mpr t2
        have C5 : (I2 != z2) = true := bne_iff_ne.mpr t2
        exact absurd (oi_ H) (by decide)
       have C4 : (I2 == z2) = true := beq_iff_eq.mpr t2
       have C5 : (I2 != z2) = false := bne_eq_false_iff_eq.mpr t2
       clear t2; clear H; obtain ⟨rg, rh⟩ := nn_ r5; obtain ⟨ri, rj⟩ := nn_ r6; obtain ⟨rk, rl⟩ := nn_ r7; obtain ⟨rm, rn⟩ := nn_ r8; obtain ⟨ro, rp⟩ := nn_ r9; obtain ⟨rq, rr⟩ := nn_ s0; obtain ⟨rs, rt⟩ := nn_ v3; obtain ⟨ru, rv⟩ := nn_ v4
       obtain ⟨rx, ry, rz, rA⟩ := bc2_ y
       go_wp2_with (first | ((with_reducible refine gc_ 40 ?_); refine gl_ (some 143) Try.func40 #[.agg #[.int .i64 e6, .slice r2 z3.length r3], .int .i64 1] ?_; (with_reducible refine (laws_heldWeb.calls kj293 e6 _ _ z3 1 I2 _ ?_ ?_ V9.out).mono ?_); exact qD_ (Kd.R_reads' E.out).2.2; exact (Kd.R_reads' E.out).2.1; rintro e br ⟨rfl, hb⟩; refine ⟨_, rfl, ?_⟩; replace G := kb_ G hb; replace V := kb_ V hb; replace E := kb_ E hb; replace V8 := kb_ V8 hb; replace g := qbl_ g hb; replace l := qbl_ l hb; replace q := qbl_ q hb; replace s := qbl_ s hb; replace u := qbl_ u hb; replace y := qbl_ y hb; replace z := qbl_ z hb; replace e0 := qbl_ e0 hb; replace e1 := qbl_ e1 hb; replace HB := hs_ hb; (try clear hb); (try clear hk)))
       go_ret
       exact ⟨qr_, qB_⟩
end Go.Proofs.Ytbkklafkoegdpaa.QFnExactWebTake
