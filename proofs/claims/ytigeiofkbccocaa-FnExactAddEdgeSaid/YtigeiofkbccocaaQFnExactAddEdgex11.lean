-- printed for this claim by a program of the session's own (no text of the kit's print)
import Derived.Test.YtigeiofkbccocaaQFnExactAddEdgex0
import Derived.Test.YtigeiofkbccocaaQFnExactAddEdgex2
import Derived.Test.YtigeiofkbccocaaQFnExactAddEdgex3
import Derived.Test.YtigeiofkbccocaaQFnExactAddEdgex6
import Derived.Test.YtigeiofkbccocaaQFnExactAddEdgex10
namespace Go.Proofs.Ytigeiofkbccocaa.QFnExactAddEdge
open Go.RowKit Go.Proofs.YtigeiofkbccocaaW.PrintWords Go.Proofs.YtigeiofkbccocaaW.PrintLast Go.Proofs.YtigeiofkbccocaaW.PrintMore
attribute [local go_sem] max2_int min2_int max_two min_two max_three min_three max_four min_four   -- for this text's walks alone
set_option linter.unusedVariables false
set_option linter.unusedSimpArgs false

/-! ### laws_FnExactAddEdge: function 11 -/
mutual
def laws_FnExactAddEdge.j0 : Nat → Bool → Bool → Bool → Int → List (S76) → Int → Int → Int → List (S79) → Int → List (S79) → Int → List (S79) → Option (Bool)
  | 0, _, _, _, _, _, _, _, _, _, _, _, _, _ => none
  | k + 1, x7, x10, x46, x256000, x256001, x257000, x257001, x270000, x270001, x275000, x275001, x283000, x283001 => if x46 = true then (some false) else ((laws_toGraph.f k x256000 x256001).bind fun bt284 => ((laws_eqGraph.f k x275000 x275001 bt284.1 bt284.2).bind fun t288 => (if t288 = true then ((laws_markGraph.f k x275000 x275001 1).bind fun bt289 => (if bt289.1 < 0 then (laws_FnExactAddEdge.j1 k x7 true x256000 x256001 x257000 x257001 x270000 x270001 x283000 x283001) else ((laws_eqGraph.f k x283000 x283001 x270000 x270001).bind fun t291 => (if t291 = true then (laws_FnExactAddEdge.j1 k x7 (x10 != x7) x256000 x256001 x257000 x257001 x270000 x270001 x283000 x283001) else (laws_FnExactAddEdge.j1 k x7 true x256000 x256001 x257000 x257001 x270000 x270001 x283000 x283001))))) else (some false))))
def laws_FnExactAddEdge.j1 : Nat → Bool → Bool → Int → List (S76) → Int → Int → Int → List (S79) → Int → List (S79) → Option (Bool)
  | 0, _, _, _, _, _, _, _, _, _, _ => none
  | k + 1, x7, x67, x256000, x256001, x257000, x257001, x270000, x270001, x283000, x283001 => if x67 = true then (some false) else ((laws_markGraph.f k x283000 x283001 1).bind fun bt292 => ((laws_heldGraph.f k x283000 bt292.2 1).bind fun t294 => (if t294 < 0 then (some false) else (if t294 = bt292.1 then ((laws_toGraph.f k x256000 x256001).bind fun bt295 => ((laws_toEdge.f x257000 x257001).bind fun bt299 => ((impl_AddEdge.f k bt295.1 bt295.2 bt299.1 bt299.2).bind fun bt301 => ((laws_eqGraph.f k bt301.1 bt301.2.1 x270000 x270001).bind fun t307 => (if t307 = true then (laws_FnExactAddEdge.j2 k bt292.1 (bt301.2.2 != x7) x283000 bt292.2) else (laws_FnExactAddEdge.j2 k bt292.1 true x283000 bt292.2)))))) else (some false)))))
def laws_FnExactAddEdge.j2 : Nat → Int → Bool → Int → List (S79) → Option (Bool)
  | 0, _, _, _, _ => none
  | k + 1, x12, x95, x283000, x283001 => if x95 = true then (some false) else ((laws_heldGraph.f k x283000 x283001 1).bind fun t308 => (if t308 < 0 then (some false) else (if t308 = x12 then (some true) else (some false))))
end
def laws_FnExactAddEdge.f (k : Nat) (a0_0 : Int) (l0_1 : List (S76)) (a1_0 : Int) (a1_1 : Int) : Option (Bool) := (laws_szGraph.f a0_0 l0_1 1048576).bind fun t257 => (if t257 < 0 then (some true) else ((laws_toGraph.f k a0_0 l0_1).bind fun bt258 => ((laws_toEdge.f a1_0 a1_1).bind fun bt262 => ((spec_AddEdge.f k bt258.1 bt258.2 bt262.1 bt262.2).bind fun bt264 => ((laws_toGraph.f k a0_0 l0_1).bind fun bt270 => ((laws_toEdge.f a1_0 a1_1).bind fun bt275 => ((impl_AddEdge.f k bt270.1 bt270.2 bt275.1 bt275.2).bind fun bt277 => ((laws_eqGraph.f k bt277.1 bt277.2.1 bt264.1 bt264.2.1).bind fun t283 => (if t283 = true then (laws_FnExactAddEdge.j0 k bt264.2.2 bt277.2.2 (bt277.2.2 != bt264.2.2) a0_0 l0_1 a1_0 a1_1 bt264.1 bt264.2.1 bt270.1 bt270.2 bt277.1 bt277.2.1) else (laws_FnExactAddEdge.j0 k bt264.2.2 bt277.2.2 true a0_0 l0_1 a1_0 a1_1 bt264.1 bt264.2.1 bt270.1 bt270.2 bt277.1 bt277.2.1))))))))))
theorem laws_FnExactAddEdge.mono_l : ∀ k, (∀ y0 y1 y2 y3 y4 y5 y6 y7 y8 y9 y10 y11 y12, LeO (laws_FnExactAddEdge.j0 k y0 y1 y2 y3 y4 y5 y6 y7 y8 y9 y10 y11 y12) (laws_FnExactAddEdge.j0 (k + 1) y0 y1 y2 y3 y4 y5 y6 y7 y8 y9 y10 y11 y12)) ∧ (∀ y0 y1 y2 y3 y4 y5 y6 y7 y8 y9, LeO (laws_FnExactAddEdge.j1 k y0 y1 y2 y3 y4 y5 y6 y7 y8 y9) (laws_FnExactAddEdge.j1 (k + 1) y0 y1 y2 y3 y4 y5 y6 y7 y8 y9)) ∧ (∀ y0 y1 y2 y3, LeO (laws_FnExactAddEdge.j2 k y0 y1 y2 y3) (laws_FnExactAddEdge.j2 (k + 1) y0 y1 y2 y3))
  | 0 => ⟨fun _ _ _ _ _ _ _ _ _ _ _ _ _ r h => by simp [laws_FnExactAddEdge.j0] at h, fun _ _ _ _ _ _ _ _ _ _ r h => by simp [laws_FnExactAddEdge.j1] at h, fun _ _ _ _ r h => by simp [laws_FnExactAddEdge.j2] at h⟩
  | k + 1 => by
    obtain ⟨ih0, ih1, ih2⟩ := laws_FnExactAddEdge.mono_l k
    refine ⟨?_, ?_, ?_⟩ <;> (intros; first | unfold laws_FnExactAddEdge.j0 | unfold laws_FnExactAddEdge.j1 | unfold laws_FnExactAddEdge.j2) <;> repeat' first
    | (with_reducible exact ih0 _ _ _ _ _ _ _ _ _ _ _ _ _)
    | (with_reducible exact ih1 _ _ _ _ _ _ _ _ _ _)
    | (with_reducible exact ih2 _ _ _ _)
    | (with_reducible exact impl_AddEdge.mono _ _ _ _ _)
    | (with_reducible exact laws_eqGraph.mono _ _ _ _ _)
    | (with_reducible exact laws_heldGraph.mono _ _ _ _)
    | (with_reducible exact laws_markGraph.mono _ _ _ _)
    | (with_reducible exact laws_toGraph.mono _ _ _)
    | (with_reducible exact spec_AddEdge.mono _ _ _ _ _)
    | (with_reducible exact LeO.refl _)
    | (with_reducible exact LeO.none _)
    | (with_reducible refine LeO.ite ?_ ?_)
    | (with_reducible refine LeO.bind ?_ (fun _ => ?_))
    | exact ih0 _ _ _ _ _ _ _ _ _ _ _ _ _
    | exact ih1 _ _ _ _ _ _ _ _ _ _
    | exact ih2 _ _ _ _
    | exact impl_AddEdge.mono _ _ _ _ _
    | exact laws_eqGraph.mono _ _ _ _ _
    | exact laws_heldGraph.mono _ _ _ _
    | exact laws_markGraph.mono _ _ _ _
    | exact laws_toGraph.mono _ _ _
    | exact spec_AddEdge.mono _ _ _ _ _
    | exact LeO.none _
    | refine LeO.ite ?_ ?_
    | refine LeO.bind ?_ (fun _ => ?_)
theorem laws_FnExactAddEdge.mono : ∀ a0 a1 a2 a3 k, LeO (laws_FnExactAddEdge.f k a0 a1 a2 a3) (laws_FnExactAddEdge.f (k + 1) a0 a1 a2 a3) := by
  intro a0 a1 a2 a3 k
  obtain ⟨ih0, ih1, ih2⟩ := laws_FnExactAddEdge.mono_l k
  unfold laws_FnExactAddEdge.f
  repeat' first
      | (with_reducible exact ih0 _ _ _ _ _ _ _ _ _ _ _ _ _)
      | (with_reducible exact ih1 _ _ _ _ _ _ _ _ _ _)
      | (with_reducible exact ih2 _ _ _ _)
      | (with_reducible exact impl_AddEdge.mono _ _ _ _ _)
      | (with_reducible exact laws_eqGraph.mono _ _ _ _ _)
      | (with_reducible exact laws_heldGraph.mono _ _ _ _)
      | (with_reducible exact laws_markGraph.mono _ _ _ _)
      | (with_reducible exact laws_toGraph.mono _ _ _)
      | (with_reducible exact spec_AddEdge.mono _ _ _ _ _)
      | (with_reducible exact LeO.refl _)
      | (with_reducible exact LeO.none _)
      | (with_reducible refine LeO.ite ?_ ?_)
      | (with_reducible refine LeO.bind ?_ (fun _ => ?_))
      | exact ih0 _ _ _ _ _ _ _ _ _ _ _ _ _
      | exact ih1 _ _ _ _ _ _ _ _ _ _
      | exact ih2 _ _ _ _
      | exact impl_AddEdge.mono _ _ _ _ _
      | exact laws_eqGraph.mono _ _ _ _ _
      | exact laws_heldGraph.mono _ _ _ _
      | exact laws_markGraph.mono _ _ _ _
      | exact laws_toGraph.mono _ _ _
      | exact spec_AddEdge.mono _ _ _ _ _
      | exact LeO.none _
      | refine LeO.ite ?_ ?_
      | refine LeO.bind ?_ (fun _ => ?_)
def laws_FnExactAddEdge.T5 : Bool × List (List Nat × List Nat) := (true, [([], []), ([0], [0]), ([], []), ([2, 1], [2]), ([1, 3, 3], [1, 3]), ([4], [4]), ([5], [5]), ([5], [5]), ([], []), ([8, 6, 4, 0, 1, 2, 3, 4, 5, 6, 8], [6, 8]), ([7, 9, 0, 1, 2, 3, 4, 5, 6, 7, 8, 9], [7])])
def laws_FnExactAddEdge.B5 : List Nat := [0, 1, 0, 7, 15, 31, 63, 63, 0, 383, 1023]
theorem laws_FnExactAddEdge.tab5 : rtab .any (opsOf Try.f11 5) = laws_FnExactAddEdge.T5 := by kernel_rfl
theorem laws_FnExactAddEdge.bits5 : waitsOk laws_FnExactAddEdge.T5.2 laws_FnExactAddEdge.B5 = true := by kernel_rfl
def laws_FnExactAddEdge.T7 : Bool × List (List Nat × List Nat) := (true, [([], []), ([], []), ([1], [1]), ([0, 2, 2], [0, 2]), ([3], [3]), ([4], [4]), ([4], [4]), ([], []), ([7, 5, 3, 0, 1, 2, 3, 4, 5, 7], [5, 7]), ([6, 8, 0, 1, 2, 3, 4, 5, 6, 7, 8], [6])])
def laws_FnExactAddEdge.B7 : List Nat := [0, 0, 2, 7, 15, 31, 31, 0, 191, 511]
theorem laws_FnExactAddEdge.tab7 : rtab .any (opsOf Try.f11 7) = laws_FnExactAddEdge.T7 := by kernel_rfl
theorem laws_FnExactAddEdge.bits7 : waitsOk laws_FnExactAddEdge.T7.2 laws_FnExactAddEdge.B7 = true := by kernel_rfl
def laws_FnExactAddEdge.T24 : Bool × List (List Nat × List Nat) := (true, [([], []), ([0], [0]), ([], []), ([2, 1], [2]), ([1, 3, 3], [1, 3]), ([4], [4]), ([5], [5]), ([5], [5]), ([], []), ([8, 6, 4, 0, 1, 2, 3, 4, 5, 6, 8], [6, 8]), ([7, 9, 0, 1, 2, 3, 4, 5, 6, 7, 8, 9], [7])])
def laws_FnExactAddEdge.B24 : List Nat := [0, 1, 0, 7, 15, 31, 63, 63, 0, 383, 1023]
theorem laws_FnExactAddEdge.tab24 : rtab .any (opsOf Try.f11 24) = laws_FnExactAddEdge.T24 := by kernel_rfl
theorem laws_FnExactAddEdge.bits24 : waitsOk laws_FnExactAddEdge.T24.2 laws_FnExactAddEdge.B24 = true := by kernel_rfl
set_option maxHeartbeats 8000000 in
set_option maxRecDepth 100000 in
theorem laws_FnExactAddEdge.calls (k : Nat) (a0_0 : Int) (A0_1 : Option Addr) (c0_1 : Nat) (l0_1 : List (S76)) (a1_0 : Int) (a1_1 : Int) (w : World) (hr0_1 : Kd.C k76 w A0_1 l0_1.length l0_1) (hc0_1 : l0_1.length ≤ c0_1) (h : laws_FnExactAddEdge.f k a0_0 l0_1 a1_0 a1_1 = some true) :
  Calls Try.prog 11 #[.agg #[.int .i64 a0_0, .slice A0_1 l0_1.length c0_1], .agg #[.int .i64 a1_0, .int .i64 a1_1]] w fun e w' => e = .returned (.bool true) ∧ Below w.heap.size w w' := by
 have hu54 := Try.underlying54; have hu76 := Try.underlying76; have hu58 := Try.underlying58
 have HR0_1 := Aside0.mk hr0_1
 have HC0_1 := Aside0.mk hc0_1
 clear hr0_1 hc0_1
 have HB := Aside0.mk (Below.refl w.heap.size w)
 have H : ((laws_szGraph.f a0_0 l0_1 1048576).bind fun t257 => (if t257 < 0 then (some true) else ((laws_toGraph.f k a0_0 l0_1).bind fun bt258 => ((laws_toEdge.f a1_0 a1_1).bind fun bt262 => ((spec_AddEdge.f k bt258.1 bt258.2 bt262.1 bt262.2).bind fun bt264 => ((laws_toGraph.f k a0_0 l0_1).bind fun bt270 => ((laws_toEdge.f a1_0 a1_1).bind fun bt275 => ((impl_AddEdge.f k bt270.1 bt270.2 bt275.1 bt275.2).bind fun bt277 => ((laws_eqGraph.f k bt277.1 bt277.2.1 bt264.1 bt264.2.1).bind fun t283 => (if t283 = true then (laws_FnExactAddEdge.j0 k bt264.2.2 bt277.2.2 (bt277.2.2 != bt264.2.2) a0_0 l0_1 a1_0 a1_1 bt264.1 bt264.2.1 bt270.1 bt270.2 bt277.1 bt277.2.1) else (laws_FnExactAddEdge.j0 k bt264.2.2 bt277.2.2 true a0_0 l0_1 a1_0 a1_1 bt264.1 bt264.2.1 bt270.1 bt270.2 bt277.1 bt277.2.1))))))))))) = some true := h
 clear h
 obtain ⟨t257, A30, H⟩ := Option.bind_eq_some_iff.mp H; have A3 := Aside0.mk A30; clear A30
 by_cases c4 : t257 < 0
 ·rw [if_pos c4] at H
  have c4b0 : decide (t257 < 0) = true := decide_eq_true c4
  clear c4; clear H
  go_enter Try.func11, Try.ntmps11
  go_wp2_with (first | ((with_reducible refine gate_dst (N := 2) rfl ?_); refine bx_ 2 (cs := #[.int .i64 a0_0, .slice A0_1 l0_1.length c0_1]) (t := 54) ?_; intro gb255 hg w5 hbox hb; have BK255 := Aside0.mk (hbox); have GW255 := Aside0.mk ((qs_ : w.heap.size ≤ gb255)); have GE255 := Aside0.mk ((qs_ : w.heap.size ≤ gb255)); replace HB := Aside0.mk (below_step qB_ hb); clear hb hbox hg) | ((with_reducible refine gate_dst (N := 3) rfl ?_); refine bx_ 3 (cs := #[.int .i64 a1_0, .int .i64 a1_1]) (t := 76) ?_; intro gb256 hg w6 hbox hb; have BK256 := Aside0.mk (hbox); have GW256 := Aside0.mk ((qs_ : w.heap.size ≤ gb256)); have GE256 := Aside0.mk ((qs_ : w.heap.size ≤ gb256)); have NB255_256 := Aside0.mk ((by rw [hg]; exact Nat.ne_of_lt (blk_lt (qk_ BK255)) : gb255 ≠ gb256)); have NB256_255 := Aside0.mk ((by rw [hg]; exact Nat.ne_of_gt (blk_lt (qk_ BK255)) : gb256 ≠ gb255)); replace BK255 := Aside0.mk (blk_below (qk_ BK255) hb); replace HB := Aside0.mk (below_step qB_ hb); clear hb hbox hg; have hnb7 := NB255_256.out; have hnc7 := NB256_255.out; obtain ⟨hcz8_0, hcz8_1, hfz8_0, hfz8_1⟩ := bc2_ BK255) | ((with_reducible refine gate_callee (f := 34) rfl ?_); refine gl_ (some 18) Try.func34 #[.agg #[.int .i64 a0_0, .slice A0_1 l0_1.length c0_1], .int .i64 1048576] ?_; (with_reducible refine (laws_szGraph.calls a0_0 _ _ l0_1 1048576 t257 _ ?side1 ?side2 A3.out).mono ?_); (case side1 => exact qC_ HR0_1 HB); (case side2 => exact HC0_1.out); rintro e w9 ⟨rfl, hb⟩; refine ⟨_, rfl, ?_⟩; replace BK255 := Aside0.mk (blk_below (qk_ BK255) hb); replace BK256 := Aside0.mk (blk_below (qk_ BK256) hb); replace HB := Aside0.mk (below_step qB_ hb); (try clear hb); (try clear hb2); (try clear hk); (try clear hi)))
  go_ret
  exact ⟨qr_, qB_⟩
 ·rw [if_neg c4] at H
  have c4b0 : decide (t257 < 0) = false := decide_eq_false c4
  clear c4
  replace H := Option.bind_eq_some_iff.mp H
  obtain ⟨⟨t258, t259⟩, A100, H⟩ := H
  replace H : ((laws_toEdge.f a1_0 a1_1).bind fun bt262 => ((spec_AddEdge.f k t258 t259 bt262.1 bt262.2).bind fun bt264 => ((laws_toGraph.f k a0_0 l0_1).bind fun bt270 => ((laws_toEdge.f a1_0 a1_1).bind fun bt275 => ((impl_AddEdge.f k bt270.1 bt270.2 bt275.1 bt275.2).bind fun bt277 => ((laws_eqGraph.f k bt277.1 bt277.2.1 bt264.1 bt264.2.1).bind fun t283 => (if t283 = true then (laws_FnExactAddEdge.j0 k bt264.2.2 bt277.2.2 (bt277.2.2 != bt264.2.2) a0_0 l0_1 a1_0 a1_1 bt264.1 bt264.2.1 bt270.1 bt270.2 bt277.1 bt277.2.1) else (laws_FnExactAddEdge.j0 k bt264.2.2 bt277.2.2 true a0_0 l0_1 a1_0 a1_1 bt264.1 bt264.2.1 bt270.1 bt270.2 bt277.1 bt277.2.1)))))))) = some true := H
  have A10 := Aside0.mk A100
  clear A100
  replace H := Option.bind_eq_some_iff.mp H
  obtain ⟨⟨t262, t263⟩, A110, H⟩ := H
  replace H : ((spec_AddEdge.f k t258 t259 t262 t263).bind fun bt264 => ((laws_toGraph.f k a0_0 l0_1).bind fun bt270 => ((laws_toEdge.f a1_0 a1_1).bind fun bt275 => ((impl_AddEdge.f k bt270.1 bt270.2 bt275.1 bt275.2).bind fun bt277 => ((laws_eqGraph.f k bt277.1 bt277.2.1 bt264.1 bt264.2.1).bind fun t283 => (if t283 = true then (laws_FnExactAddEdge.j0 k bt264.2.2 bt277.2.2 (bt277.2.2 != bt264.2.2) a0_0 l0_1 a1_0 a1_1 bt264.1 bt264.2.1 bt270.1 bt270.2 bt277.1 bt277.2.1) else (laws_FnExactAddEdge.j0 k bt264.2.2 bt277.2.2 true a0_0 l0_1 a1_0 a1_1 bt264.1 bt264.2.1 bt270.1 bt270.2 bt277.1 bt277.2.1))))))) = some true := H
  have A11 := Aside0.mk A110
  clear A110
  replace H := Option.bind_eq_some_iff.mp H
  obtain ⟨⟨t264, t265, t268⟩, A120, H⟩ := H
  replace H : ((laws_toGraph.f k a0_0 l0_1).bind fun bt270 => ((laws_toEdge.f a1_0 a1_1).bind fun bt275 => ((impl_AddEdge.f k bt270.1 bt270.2 bt275.1 bt275.2).bind fun bt277 => ((laws_eqGraph.f k bt277.1 bt277.2.1 t264 t265).bind fun t283 => (if t283 = true then (laws_FnExactAddEdge.j0 k t268 bt277.2.2 (bt277.2.2 != t268) a0_0 l0_1 a1_0 a1_1 t264 t265 bt270.1 bt270.2 bt277.1 bt277.2.1) else (laws_FnExactAddEdge.j0 k t268 bt277.2.2 true a0_0 l0_1 a1_0 a1_1 t264 t265 bt270.1 bt270.2 bt277.1 bt277.2.1)))))) = some true := H
  have A12 := Aside0.mk A120
  clear A120
  replace H := Option.bind_eq_some_iff.mp H
  obtain ⟨⟨t270, t271⟩, A130, H⟩ := H
  replace H : ((laws_toEdge.f a1_0 a1_1).bind fun bt275 => ((impl_AddEdge.f k t270 t271 bt275.1 bt275.2).bind fun bt277 => ((laws_eqGraph.f k bt277.1 bt277.2.1 t264 t265).bind fun t283 => (if t283 = true then (laws_FnExactAddEdge.j0 k t268 bt277.2.2 (bt277.2.2 != t268) a0_0 l0_1 a1_0 a1_1 t264 t265 t270 t271 bt277.1 bt277.2.1) else (laws_FnExactAddEdge.j0 k t268 bt277.2.2 true a0_0 l0_1 a1_0 a1_1 t264 t265 t270 t271 bt277.1 bt277.2.1))))) = some true := H
  have A13 := Aside0.mk A130
  clear A130
  replace H := Option.bind_eq_some_iff.mp H
  obtain ⟨⟨t275, t276⟩, A140, H⟩ := H
  replace H : ((impl_AddEdge.f k t270 t271 t275 t276).bind fun bt277 => ((laws_eqGraph.f k bt277.1 bt277.2.1 t264 t265).bind fun t283 => (if t283 = true then (laws_FnExactAddEdge.j0 k t268 bt277.2.2 (bt277.2.2 != t268) a0_0 l0_1 a1_0 a1_1 t264 t265 t270 t271 bt277.1 bt277.2.1) else (laws_FnExactAddEdge.j0 k t268 bt277.2.2 true a0_0 l0_1 a1_0 a1_1 t264 t265 t270 t271 bt277.1 bt277.2.1)))) = some true := H
  have A14 := Aside0.mk A140
  clear A140
  replace H := Option.bind_eq_some_iff.mp H
  obtain ⟨⟨t277, t278, t281⟩, A150, H⟩ := H
  replace H : ((laws_eqGraph.f k t277 t278 t264 t265).bind fun t283 => (if t283 = true then (laws_FnExactAddEdge.j0 k t268 t281 (t281 != t268) a0_0 l0_1 a1_0 a1_1 t264 t265 t270 t271 t277 t278) else (laws_FnExactAddEdge.j0 k t268 t281 true a0_0 l0_1 a1_0 a1_1 t264 t265 t270 t271 t277 t278))) = some true := H
  have A15 := Aside0.mk A150
  clear A150
  have HC16 := Aside0.mk H
  clear H
  go_enter Try.func11, Try.ntmps11
  try go_wp2_with (first | ((with_reducible refine gate_dst (N := 2) rfl ?_); refine bx_ 2 (cs := #[.int .i64 a0_0, .slice A0_1 l0_1.length c0_1]) (t := 54) ?_; intro gb255 hg w17 hbox hb; have BK255 := Aside0.mk (hbox); have GW255 := Aside0.mk ((qs_ : w.heap.size ≤ gb255)); have GE255 := Aside0.mk ((qs_ : w.heap.size ≤ gb255)); replace HB := Aside0.mk (below_step qB_ hb); clear hb hbox hg) | ((with_reducible refine gate_dst (N := 3) rfl ?_); refine bx_ 3 (cs := #[.int .i64 a1_0, .int .i64 a1_1]) (t := 76) ?_; intro gb256 hg w18 hbox hb; have BK256 := Aside0.mk (hbox); have GW256 := Aside0.mk ((qs_ : w.heap.size ≤ gb256)); have GE256 := Aside0.mk ((qs_ : w.heap.size ≤ gb256)); have NB255_256 := Aside0.mk ((by rw [hg]; exact Nat.ne_of_lt (blk_lt (qk_ BK255)) : gb255 ≠ gb256)); have NB256_255 := Aside0.mk ((by rw [hg]; exact Nat.ne_of_gt (blk_lt (qk_ BK255)) : gb256 ≠ gb255)); replace BK255 := Aside0.mk (blk_below (qk_ BK255) hb); replace HB := Aside0.mk (below_step qB_ hb); clear hb hbox hg; have hnb19 := NB255_256.out; have hnc19 := NB256_255.out; obtain ⟨hcz20_0, hcz20_1, hfz20_0, hfz20_1⟩ := bc2_ BK255) | ((with_reducible refine gate_callee (f := 34) rfl ?_); refine gl_ (some 18) Try.func34 #[.agg #[.int .i64 a0_0, .slice A0_1 l0_1.length c0_1], .int .i64 1048576] ?_; (with_reducible refine (laws_szGraph.calls a0_0 _ _ l0_1 1048576 t257 _ ?side1 ?side2 A3.out).mono ?_); (case side1 => exact qC_ HR0_1 HB); (case side2 => exact HC0_1.out); rintro e w21 ⟨rfl, hb⟩; refine ⟨_, rfl, ?_⟩; replace BK255 := Aside0.mk (blk_below (qk_ BK255) hb); replace BK256 := Aside0.mk (blk_below (qk_ BK256) hb); replace HB := Aside0.mk (below_step qB_ hb); (try clear hb); (try clear hb2); (try clear hk); (try clear hi)))
  have n0_ := Aside0.mk (blk_drew BK255.out)
  have n1_ := Aside0.mk (blk_drew BK256.out)
  have n2_ := Aside0.mk (below_drew1 HB.out)
  clear BK255; clear BK256; clear HB; have BK255 := n0_; have BK256 := n1_; have HB := n2_; clear n0_ n1_ n2_
  refine start_ (n := 11) (S := fun w' => w'.cell? ⟨gb255, 0, none⟩ = some (.int .i64 a0_0) ∧ w'.cell? ⟨gb255, 1, none⟩ = some (.slice A0_1 l0_1.length c0_1) ∧ w'.cell? ⟨gb256, 0, none⟩ = some (.int .i64 a1_0) ∧ w'.cell? ⟨gb256, 1, none⟩ = some (.int .i64 a1_1)) (ds := []) (bm 11 0) (by kernel_rfl) rfl (by kernel_rfl) ⟨(blk_cell BK255.out 0).trans rfl, (blk_cell BK255.out 1).trans rfl, (blk_cell BK256.out 0).trans rfl, (blk_cell BK256.out 1).trans rfl⟩ (fun hHeld => ?_); refine with_tabW laws_FnExactAddEdge.tab5 laws_FnExactAddEdge.bits5 (fun HT_ HW_ => ?_)
  generalize w21.drew = w22 at BK255 BK256 HB hHeld ⊢
  refine tz4_ 0 22 (bm 11 1) ?_; refine tz4_ 2 24 (bm 11 5) ?_
  refine join_ (σ := Value × Value × Nat) 2 #[true, true, true, true, true, true, true, true, true, false, false] (fun s_ => [(23, .agg #[.int .i64 t258, s_.1]), (25, .agg #[.int .i64 t262, .int .i64 t263]), (26, .tuple #[.agg #[.int .i64 t264, s_.2.1], .bool t268]), (6, .pointer (some ⟨s_.2.2, 0, none⟩)), (21, .tuple #[.agg #[.int .i64 t264, s_.2.1], .bool t268]), (27, .agg #[.int .i64 t264, s_.2.1]), (28, .bool t268)]) (fun s_ w' => (w'.cell? ⟨gb255, 0, none⟩ = some (.int .i64 a0_0) ∧ w'.cell? ⟨gb255, 1, none⟩ = some (.slice A0_1 l0_1.length c0_1) ∧ w'.cell? ⟨gb256, 0, none⟩ = some (.int .i64 a1_0) ∧ w'.cell? ⟨gb256, 1, none⟩ = some (.int .i64 a1_1)) ∧ (Kd.R k79 79 w' w.heap.size (fun k_ => some k_ ≠ (s_.2.1 : Value).ownBlock) s_.1 t259) ∧ (Kd.R k79 79 w' w.heap.size (fun k_ => some k_ ≠ (s_.1 : Value).ownBlock) s_.2.1 t265) ∧ (w'.heap[gb255]? = some (.cells #[.int .i64 a0_0, .slice A0_1 l0_1.length c0_1] 54 (0, 0))) ∧ (w'.heap[gb256]? = some (.cells #[.int .i64 a1_0, .int .i64 a1_1] 76 (0, 0))) ∧ (w'.heap[s_.2.2]? = some (.cells #[.int .i64 0, .slice none 0 0] 58 (0, 0))) ∧ (w.heap.size ≤ s_.2.2) ∧ (w.heap.size ≤ s_.2.2) ∧ (gb255 ≠ s_.2.2) ∧ (s_.2.2 ≠ gb255) ∧ (gb256 ≠ s_.2.2) ∧ (s_.2.2 ≠ gb256) ∧ (Below w.heap.size w w')) ?_ ?_
  rotate_left
  ·intro hCont
   refine two_ (i := 1) (j := 8) (Ni := some 23) (Nj := some 6) (bm 11 7) #[true, false, true, false, false, false, false, false, true, false, false] rfl rfl rfl rfl (two_of HT_.out (by kernel_rfl)) (by decide) (by decide) (fun K hK => ?_) (fun K hK => ?_)
   ·skip
    refine goes_ Try.func36 (by kernel_rfl) rfl #[.agg #[.int .i64 a0_0, .slice A0_1 l0_1.length c0_1]] (by rfl) rfl rfl (by (try simp only [List.map_toArray, List.map_cons, List.map_nil]); first | done | rfl | (simp only [List.length_drop, List.length_take]; rfl)) ?_
    with_reducible refine (laws_toGraph.calls k a0_0 _ _ l0_1 t258 t259 _ ?side1 ?side2 A10.out).mono ?_
    (case side1 => exact qC_ HR0_1 HB)
    (case side2 => exact HC0_1.out)
    rintro e w23 ⟨v260, rfl, ho0, hb⟩
    refine ⟨_, rfl, ?_⟩
    have n0_ := Aside0.mk (Kd.R_lower ho0 (below_size qB_))
    have n1_ := Aside0.mk (blk_below (qk_ BK255) hb)
    have n2_ := Aside0.mk (blk_below (qk_ BK256) hb)
    have n3_ := Aside0.mk (below_step qB_ hb)
    clear BK255; clear BK256; clear HB; have HO261 := n0_; have BK255 := n1_; have BK256 := n2_; have HB := n3_; clear n0_ n1_ n2_ n3_; (try clear hb); (try clear hb2); (try clear hk); (try clear hi); (try clear ho0)
    refine hK.out _ _ ⟨(blk_cell BK255.out 0).trans rfl, (blk_cell BK255.out 1).trans rfl, (blk_cell BK256.out 0).trans rfl, (blk_cell BK256.out 1).trans rfl⟩ (fun hHeld => ?_)
    clear hK K
    refine norm_ (a' := ?_) ?_ ?_
    rotate_left
    ·show Act.put _ (some 23) _ = _
     simp only [Act.put, List.setIfInBounds_toArray, List.set_cons_zero, List.set_cons_succ, i64_w, i32_w]
     rfl
    refine two_ (i := 3) (j := 8) (Ni := some 25) (Nj := some 6) (bm 11 15) #[true, true, true, false, false, false, false, false, true, false, false] rfl rfl rfl rfl (two_of HT_.out (by kernel_rfl)) (by decide) (by decide) (fun K hK => ?_) (fun K hK => ?_)
    ·skip
     refine goes_ Try.func48 (by kernel_rfl) rfl #[.agg #[.int .i64 a1_0, .int .i64 a1_1]] (by rfl) rfl rfl (by (try simp only [List.map_toArray, List.map_cons, List.map_nil]); first | done | rfl | (simp only [List.length_drop, List.length_take]; rfl)) ?_
     with_reducible refine (laws_toEdge.calls a1_0 a1_1 t262 t263 _ A11.out).mono ?_
     rintro e w24 ⟨rfl, hb⟩
     refine ⟨_, rfl, ?_⟩
     have n0_ := Aside0.mk (Kd.R_below (qR_ HO261) hb)
     have n1_ := Aside0.mk (blk_below (qk_ BK255) hb)
     have n2_ := Aside0.mk (blk_below (qk_ BK256) hb)
     have n3_ := Aside0.mk (below_step qB_ hb)
     clear HO261; clear BK255; clear BK256; clear HB; have HO261 := n0_; have BK255 := n1_; have BK256 := n2_; have HB := n3_; clear n0_ n1_ n2_ n3_; (try clear hb); (try clear hb2); (try clear hk); (try clear hi)
     obtain ⟨Ao25, co25, eo25⟩ := Kd.R_slice HO261.out
     (first | subst eo25 | (injection eo25 with f1_ f2_ f3_; have f4_ := f1_.symm; have f5_ := f3_.symm; clear f1_ f2_ f3_; subst f4_; subst f5_))
     refine hK.out _ _ ⟨(blk_cell BK255.out 0).trans rfl, (blk_cell BK255.out 1).trans rfl, (blk_cell BK256.out 0).trans rfl, (blk_cell BK256.out 1).trans rfl⟩ (fun hHeld => ?_)
     clear hK K
     refine norm_ (a' := ?_) ?_ ?_
     rotate_left
     ·show Act.put _ (some 25) _ = _
      simp only [Act.put, List.setIfInBounds_toArray, List.set_cons_zero, List.set_cons_succ, i64_w, i32_w]
      rfl
     refine two_ (i := 4) (j := 8) (Ni := some 26) (Nj := some 6) (bm 11 31) #[true, true, true, true, false, false, false, false, true, false, false] rfl rfl rfl rfl (two_of HT_.out (by kernel_rfl)) (by decide) (by decide) (fun K hK => ?_) (fun K hK => ?_)
     ·skip
      refine goes_ Try.func52 (by kernel_rfl) rfl #[.agg #[.int .i64 t258, .slice Ao25 t259.length co25], .agg #[.int .i64 t262, .int .i64 t263]] (by rfl) rfl rfl (by (try simp only [List.map_toArray, List.map_cons, List.map_nil]); first | done | rfl | (simp only [List.length_drop, List.length_take]; rfl)) ?_
      with_reducible refine (spec_AddEdge.calls k t258 _ _ t259 t262 t263 t264 t265 t268 _ ?side1 ?side2 A12.out).mono ?_
      (case side1 => exact qD_ (Kd.R_reads' HO261.out).2.2)
      (case side2 => exact (Kd.R_reads' HO261.out).2.1)
      rintro e w26 ⟨v266, rfl, ho0, hb⟩
      refine ⟨_, rfl, ?_⟩
      have n0_ := Aside0.mk (Kd.R_elder' (qR_ HO261) (Kd.R_base ho0) hb)
      have n1_ := Aside0.mk (Kd.R_lower (Kd.R_new' ho0 (Kd.R_lt (qR_ HO261))) (below_size qB_))
      have n2_ := Aside0.mk (blk_below (qk_ BK255) hb)
      have n3_ := Aside0.mk (blk_below (qk_ BK256) hb)
      have n4_ := Aside0.mk (below_step qB_ hb)
      clear HO261; clear BK255; clear BK256; clear HB; have HO261 := n0_; have HO267 := n1_; have BK255 := n2_; have BK256 := n3_; have HB := n4_; clear n0_ n1_ n2_ n3_ n4_; (try clear hb); (try clear hb2); (try clear hk); (try clear hi); (try clear ho0)
      refine hK.out _ _ ⟨(blk_cell BK255.out 0).trans rfl, (blk_cell BK255.out 1).trans rfl, (blk_cell BK256.out 0).trans rfl, (blk_cell BK256.out 1).trans rfl⟩ (fun hHeld => ?_)
      clear hK K
      refine norm_ (a' := ?_) ?_ ?_
      rotate_left
      ·show Act.put _ (some 26) _ = _
       simp only [Act.put, List.setIfInBounds_toArray, List.set_cons_zero, List.set_cons_succ, i64_w, i32_w]
       rfl
      refine pz_ 5 21 (bm 11 63) ?_; refine pz_ 6 27 (bm 11 127) ?_; refine pz_ 7 28 (bm 11 255) ?_
      refine one_ (i := 8) (N := some 6) (bm 11 511) rfl rfl (one_of HT_.out (by kernel_rfl)) (by decide) (fun K hK => ?_)
      refine box_step ?hg (N := 6) ?hd (cs := #[.int .i64 0, .slice none 0 0]) (t := 58) ?hr ?_; (case hd => rfl); (case hg => rfl); (case hr => first | (go_simp; done) | (go_simp; rfl))
      intro gb269 hg w27 hbox hb
      have n0_ := Aside0.mk (Kd.R_below (qR_ HO261) hb)
      have n1_ := Aside0.mk (Kd.R_below (qR_ HO267) hb)
      have n2_ := Aside0.mk (blk_below (qk_ BK255) hb)
      have n3_ := Aside0.mk (blk_below (qk_ BK256) hb)
      have n4_ := Aside0.mk (below_step qB_ hb)
      have n5_ := Aside0.mk (hbox)
      have n6_ := Aside0.mk ((qs_ : w.heap.size ≤ gb269))
      have n7_ := Aside0.mk ((qs_ : w.heap.size ≤ gb269))
      have n8_ := Aside0.mk ((by rw [hg]; exact Nat.ne_of_lt (blk_lt (qk_ BK255)) : gb255 ≠ gb269))
      have n9_ := Aside0.mk ((by rw [hg]; exact Nat.ne_of_gt (blk_lt (qk_ BK255)) : gb269 ≠ gb255))
      have n10_ := Aside0.mk ((by rw [hg]; exact Nat.ne_of_lt (blk_lt (qk_ BK256)) : gb256 ≠ gb269))
      have n11_ := Aside0.mk ((by rw [hg]; exact Nat.ne_of_gt (blk_lt (qk_ BK256)) : gb269 ≠ gb256))
      clear HO261; clear HO267; clear BK255; clear BK256; clear HB; have HO261 := n0_; have HO267 := n1_; have BK255 := n2_; have BK256 := n3_; have HB := n4_; have BK269 := n5_; have GW269 := n6_; have GE269 := n7_; have NB255_269 := n8_; have NB269_255 := n9_; have NB256_269 := n10_; have NB269_256 := n11_; clear n0_ n1_ n2_ n3_ n4_ n5_ n6_ n7_ n8_ n9_ n10_ n11_; clear hb hbox hg
      refine hK.out _ _ ⟨(blk_cell BK255.out 0).trans rfl, (blk_cell BK255.out 1).trans rfl, (blk_cell BK256.out 0).trans rfl, (blk_cell BK256.out 1).trans rfl⟩ (fun hHeld => ?_)
      clear hK K
      refine norm_ (a' := ?_) ?_ ?_
      rotate_left
      ·show Act.put _ (some 6) _ = _
       simp only [Act.put, List.setIfInBounds_toArray, List.set_cons_zero, List.set_cons_succ, i64_w, i32_w]
       rfl
      exact norm_ (by simp only [putAll, Act.put, List.setIfInBounds_toArray, List.set_cons_zero, List.set_cons_succ]) (hCont (.slice Ao25 t259.length co25, v266, gb269) _ ⟨hHeld, (by (with_reducible repeat (first | apply Kd.R_alloc | apply Kd.R_drewN | apply Kd.R_drew)); exact Kd.R_mono HO261.out (fun _ hk => hk.2)), (by (with_reducible repeat (first | apply Kd.R_alloc | apply Kd.R_drewN | apply Kd.R_drew)); exact Kd.R_mono HO267.out (fun _ hk => hk.2)), (qk_ BK255), (qk_ BK256), (qk_ BK269), GW269.out, GE269.out, NB255_269.out, NB269_255.out, NB256_269.out, NB269_256.out, qB_⟩)
     ·skip
      refine box_step ?hg (N := 6) ?hd (cs := #[.int .i64 0, .slice none 0 0]) (t := 58) ?hr ?_; (case hd => rfl); (case hg => rfl); (case hr => first | (go_simp; done) | (go_simp; rfl))
      intro gb269 hg w25 hbox hb
      have n0_ := Aside0.mk (Kd.R_below (qR_ HO261) hb)
      have n1_ := Aside0.mk (blk_below (qk_ BK255) hb)
      have n2_ := Aside0.mk (blk_below (qk_ BK256) hb)
      have n3_ := Aside0.mk (below_step qB_ hb)
      have n4_ := Aside0.mk (hbox)
      have n5_ := Aside0.mk ((qs_ : w.heap.size ≤ gb269))
      have n6_ := Aside0.mk ((qs_ : w.heap.size ≤ gb269))
      have n7_ := Aside0.mk ((by rw [hg]; exact Nat.ne_of_lt (blk_lt (qk_ BK255)) : gb255 ≠ gb269))
      have n8_ := Aside0.mk ((by rw [hg]; exact Nat.ne_of_gt (blk_lt (qk_ BK255)) : gb269 ≠ gb255))
      have n9_ := Aside0.mk ((by rw [hg]; exact Nat.ne_of_lt (blk_lt (qk_ BK256)) : gb256 ≠ gb269))
      have n10_ := Aside0.mk ((by rw [hg]; exact Nat.ne_of_gt (blk_lt (qk_ BK256)) : gb269 ≠ gb256))
      clear HO261; clear BK255; clear BK256; clear HB; have HO261 := n0_; have BK255 := n1_; have BK256 := n2_; have HB := n3_; have BK269 := n4_; have GW269 := n5_; have GE269 := n6_; have NB255_269 := n7_; have NB269_255 := n8_; have NB256_269 := n9_; have NB269_256 := n10_; clear n0_ n1_ n2_ n3_ n4_ n5_ n6_ n7_ n8_ n9_ n10_; clear hb hbox hg
      obtain ⟨Ao26, co26, eo26⟩ := Kd.R_slice HO261.out
      (first | subst eo26 | (injection eo26 with f1_ f2_ f3_; have f4_ := f1_.symm; have f5_ := f3_.symm; clear f1_ f2_ f3_; subst f4_; subst f5_))
      refine hK.out _ _ ⟨(blk_cell BK255.out 0).trans rfl, (blk_cell BK255.out 1).trans rfl, (blk_cell BK256.out 0).trans rfl, (blk_cell BK256.out 1).trans rfl⟩ (fun hHeld => ?_)
      clear hK K
      refine norm_ (a' := ?_) ?_ ?_
      rotate_left
      ·show Act.put _ (some 6) _ = _
       simp only [Act.put, List.setIfInBounds_toArray, List.set_cons_zero, List.set_cons_succ, i64_w, i32_w]
       rfl
      refine one_ (i := 4) (N := some 26) (bm 11 287) rfl rfl (one_of HT_.out (by kernel_rfl)) (by decide) (fun K hK => ?_)
      refine goes_ Try.func52 (by kernel_rfl) rfl #[.agg #[.int .i64 t258, .slice Ao26 t259.length co26], .agg #[.int .i64 t262, .int .i64 t263]] (by rfl) rfl rfl (by (try simp only [List.map_toArray, List.map_cons, List.map_nil]); first | done | rfl | (simp only [List.length_drop, List.length_take]; rfl)) ?_
      with_reducible refine (spec_AddEdge.calls k t258 _ _ t259 t262 t263 t264 t265 t268 _ ?side1 ?side2 A12.out).mono ?_
      (case side1 => exact qD_ (Kd.R_reads' HO261.out).2.2)
      (case side2 => exact (Kd.R_reads' HO261.out).2.1)
      rintro e w27 ⟨v266, rfl, ho0, hb⟩
      refine ⟨_, rfl, ?_⟩
      have n0_ := Aside0.mk (Kd.R_elder' (qR_ HO261) (Kd.R_base ho0) hb)
      have n1_ := Aside0.mk (Kd.R_lower (Kd.R_new' ho0 (Kd.R_lt (qR_ HO261))) (below_size qB_))
      have n2_ := Aside0.mk (blk_below (qk_ BK255) hb)
      have n3_ := Aside0.mk (blk_below (qk_ BK256) hb)
      have n4_ := Aside0.mk (blk_below (qk_ BK269) hb)
      have n5_ := Aside0.mk (below_step qB_ hb)
      clear HO261; clear BK255; clear BK256; clear BK269; clear HB; have HO261 := n0_; have HO267 := n1_; have BK255 := n2_; have BK256 := n3_; have BK269 := n4_; have HB := n5_; clear n0_ n1_ n2_ n3_ n4_ n5_; (try clear hb); (try clear hb2); (try clear hk); (try clear hi); (try clear ho0)
      refine hK.out _ _ ⟨(blk_cell BK255.out 0).trans rfl, (blk_cell BK255.out 1).trans rfl, (blk_cell BK256.out 0).trans rfl, (blk_cell BK256.out 1).trans rfl⟩ (fun hHeld => ?_)
      clear hK K
      refine norm_ (a' := ?_) ?_ ?_
      rotate_left
      ·show Act.put _ (some 26) _ = _
       simp only [Act.put, List.setIfInBounds_toArray, List.set_cons_zero, List.set_cons_succ, i64_w, i32_w]
       rfl
      refine pz_ 5 21 (bm 11 319) ?_; refine pz_ 6 27 (bm 11 383) ?_; refine pz_ 7 28 (bm 11 511) ?_
      exact norm_ (by simp only [putAll, Act.put, List.setIfInBounds_toArray, List.set_cons_zero, List.set_cons_succ]) (hCont (.slice Ao26 t259.length co26, v266, gb269) _ ⟨hHeld, (by (with_reducible repeat (first | apply Kd.R_alloc | apply Kd.R_drewN | apply Kd.R_drew)); exact Kd.R_mono HO261.out (fun _ hk => hk.2)), (by (with_reducible repeat (first | apply Kd.R_alloc | apply Kd.R_drewN | apply Kd.R_drew)); exact Kd.R_mono HO267.out (fun _ hk => hk.2)), (qk_ BK255), (qk_ BK256), (qk_ BK269), GW269.out, GE269.out, NB255_269.out, NB269_255.out, NB256_269.out, NB269_256.out, qB_⟩)
    ·skip
     refine box_step ?hg (N := 6) ?hd (cs := #[.int .i64 0, .slice none 0 0]) (t := 58) ?hr ?_; (case hd => rfl); (case hg => rfl); (case hr => first | (go_simp; done) | (go_simp; rfl))
     intro gb269 hg w24 hbox hb
     have n0_ := Aside0.mk (Kd.R_below (qR_ HO261) hb)
     have n1_ := Aside0.mk (blk_below (qk_ BK255) hb)
     have n2_ := Aside0.mk (blk_below (qk_ BK256) hb)
     have n3_ := Aside0.mk (below_step qB_ hb)
     have n4_ := Aside0.mk (hbox)
     have n5_ := Aside0.mk ((qs_ : w.heap.size ≤ gb269))
     have n6_ := Aside0.mk ((qs_ : w.heap.size ≤ gb269))
     have n7_ := Aside0.mk ((by rw [hg]; exact Nat.ne_of_lt (blk_lt (qk_ BK255)) : gb255 ≠ gb269))
     have n8_ := Aside0.mk ((by rw [hg]; exact Nat.ne_of_gt (blk_lt (qk_ BK255)) : gb269 ≠ gb255))
     have n9_ := Aside0.mk ((by rw [hg]; exact Nat.ne_of_lt (blk_lt (qk_ BK256)) : gb256 ≠ gb269))
     have n10_ := Aside0.mk ((by rw [hg]; exact Nat.ne_of_gt (blk_lt (qk_ BK256)) : gb269 ≠ gb256))
     clear HO261; clear BK255; clear BK256; clear HB; have HO261 := n0_; have BK255 := n1_; have BK256 := n2_; have HB := n3_; have BK269 := n4_; have GW269 := n5_; have GE269 := n6_; have NB255_269 := n7_; have NB269_255 := n8_; have NB256_269 := n9_; have NB269_256 := n10_; clear n0_ n1_ n2_ n3_ n4_ n5_ n6_ n7_ n8_ n9_ n10_; clear hb hbox hg
     refine hK.out _ _ ⟨(blk_cell BK255.out 0).trans rfl, (blk_cell BK255.out 1).trans rfl, (blk_cell BK256.out 0).trans rfl, (blk_cell BK256.out 1).trans rfl⟩ (fun hHeld => ?_)
     clear hK K
     refine norm_ (a' := ?_) ?_ ?_
     rotate_left
     ·show Act.put _ (some 6) _ = _
      simp only [Act.put, List.setIfInBounds_toArray, List.set_cons_zero, List.set_cons_succ, i64_w, i32_w]
      rfl
     refine one_ (i := 3) (N := some 25) (bm 11 271) rfl rfl (one_of HT_.out (by kernel_rfl)) (by decide) (fun K hK => ?_)
     refine goes_ Try.func48 (by kernel_rfl) rfl #[.agg #[.int .i64 a1_0, .int .i64 a1_1]] (by rfl) rfl rfl (by (try simp only [List.map_toArray, List.map_cons, List.map_nil]); first | done | rfl | (simp only [List.length_drop, List.length_take]; rfl)) ?_
     with_reducible refine (laws_toEdge.calls a1_0 a1_1 t262 t263 _ A11.out).mono ?_
     rintro e w25 ⟨rfl, hb⟩
     refine ⟨_, rfl, ?_⟩
     have n0_ := Aside0.mk (Kd.R_below (qR_ HO261) hb)
     have n1_ := Aside0.mk (blk_below (qk_ BK255) hb)
     have n2_ := Aside0.mk (blk_below (qk_ BK256) hb)
     have n3_ := Aside0.mk (blk_below (qk_ BK269) hb)
     have n4_ := Aside0.mk (below_step qB_ hb)
     clear HO261; clear BK255; clear BK256; clear BK269; clear HB; have HO261 := n0_; have BK255 := n1_; have BK256 := n2_; have BK269 := n3_; have HB := n4_; clear n0_ n1_ n2_ n3_ n4_; (try clear hb); (try clear hb2); (try clear hk); (try clear hi)
     obtain ⟨Ao26, co26, eo26⟩ := Kd.R_slice HO261.out
     (first | subst eo26 | (injection eo26 with f1_ f2_ f3_; have f4_ := f1_.symm; have f5_ := f3_.symm; clear f1_ f2_ f3_; subst f4_; subst f5_))
     refine hK.out _ _ ⟨(blk_cell BK255.out 0).trans rfl, (blk_cell BK255.out 1).trans rfl, (blk_cell BK256.out 0).trans rfl, (blk_cell BK256.out 1).trans rfl⟩ (fun hHeld => ?_)
     clear hK K
     refine norm_ (a' := ?_) ?_ ?_
     rotate_left
     ·show Act.put _ (some 25) _ = _
      simp only [Act.put, List.setIfInBounds_toArray, List.set_cons_zero, List.set_cons_succ, i64_w, i32_w]
      rfl
     refine one_ (i := 4) (N := some 26) (bm 11 287) rfl rfl (one_of HT_.out (by kernel_rfl)) (by decide) (fun K hK => ?_)
     refine goes_ Try.func52 (by kernel_rfl) rfl #[.agg #[.int .i64 t258, .slice Ao26 t259.length co26], .agg #[.int .i64 t262, .int .i64 t263]] (by rfl) rfl rfl (by (try simp only [List.map_toArray, List.map_cons, List.map_nil]); first | done | rfl | (simp only [List.length_drop, List.length_take]; rfl)) ?_
     with_reducible refine (spec_AddEdge.calls k t258 _ _ t259 t262 t263 t264 t265 t268 _ ?side1 ?side2 A12.out).mono ?_
     (case side1 => exact qD_ (Kd.R_reads' HO261.out).2.2)
     (case side2 => exact (Kd.R_reads' HO261.out).2.1)
     rintro e w27 ⟨v266, rfl, ho0, hb⟩
     refine ⟨_, rfl, ?_⟩
     have n0_ := Aside0.mk (Kd.R_elder' (qR_ HO261) (Kd.R_base ho0) hb)
     have n1_ := Aside0.mk (Kd.R_lower (Kd.R_new' ho0 (Kd.R_lt (qR_ HO261))) (below_size qB_))
     have n2_ := Aside0.mk (blk_below (qk_ BK255) hb)
     have n3_ := Aside0.mk (blk_below (qk_ BK256) hb)
     have n4_ := Aside0.mk (blk_below (qk_ BK269) hb)
     have n5_ := Aside0.mk (below_step qB_ hb)
     clear HO261; clear BK255; clear BK256; clear BK269; clear HB; have HO261 := n0_; have HO267 := n1_; have BK255 := n2_; have BK256 := n3_; have BK269 := n4_; have HB := n5_; clear n0_ n1_ n2_ n3_ n4_ n5_; (try clear hb); (try clear hb2); (try clear hk); (try clear hi); (try clear ho0)
     refine hK.out _ _ ⟨(blk_cell BK255.out 0).trans rfl, (blk_cell BK255.out 1).trans rfl, (blk_cell BK256.out 0).trans rfl, (blk_cell BK256.out 1).trans rfl⟩ (fun hHeld => ?_)
     clear hK K
     refine norm_ (a' := ?_) ?_ ?_
     rotate_left
     ·show Act.put _ (some 26) _ = _
      simp only [Act.put, List.setIfInBounds_toArray, List.set_cons_zero, List.set_cons_succ, i64_w, i32_w]
      rfl
     refine pz_ 5 21 (bm 11 319) ?_; refine pz_ 6 27 (bm 11 383) ?_; refine pz_ 7 28 (bm 11 511) ?_
     exact norm_ (by simp only [putAll, Act.put, List.setIfInBounds_toArray, List.set_cons_zero, List.set_cons_succ]) (hCont (.slice Ao26 t259.length co26, v266, gb269) _ ⟨hHeld, (by (with_reducible repeat (first | apply Kd.R_alloc | apply Kd.R_drewN | apply Kd.R_drew)); exact Kd.R_mono HO261.out (fun _ hk => hk.2)), (by (with_reducible repeat (first | apply Kd.R_alloc | apply Kd.R_drewN | apply Kd.R_drew)); exact Kd.R_mono HO267.out (fun _ hk => hk.2)), (qk_ BK255), (qk_ BK256), (qk_ BK269), GW269.out, GE269.out, NB255_269.out, NB269_255.out, NB256_269.out, NB269_256.out, qB_⟩)
   ·skip
    refine box_step ?hg (N := 6) ?hd (cs := #[.int .i64 0, .slice none 0 0]) (t := 58) ?hr ?_; (case hd => rfl); (case hg => rfl); (case hr => first | (go_simp; done) | (go_simp; rfl))
    intro gb269 hg w23 hbox hb
    have n0_ := Aside0.mk (blk_below (qk_ BK255) hb)
    have n1_ := Aside0.mk (blk_below (qk_ BK256) hb)
    have n2_ := Aside0.mk (below_step qB_ hb)
    have n3_ := Aside0.mk (hbox)
    have n4_ := Aside0.mk ((qs_ : w.heap.size ≤ gb269))
    have n5_ := Aside0.mk ((qs_ : w.heap.size ≤ gb269))
    have n6_ := Aside0.mk ((by rw [hg]; exact Nat.ne_of_lt (blk_lt (qk_ BK255)) : gb255 ≠ gb269))
    have n7_ := Aside0.mk ((by rw [hg]; exact Nat.ne_of_gt (blk_lt (qk_ BK255)) : gb269 ≠ gb255))
    have n8_ := Aside0.mk ((by rw [hg]; exact Nat.ne_of_lt (blk_lt (qk_ BK256)) : gb256 ≠ gb269))
    have n9_ := Aside0.mk ((by rw [hg]; exact Nat.ne_of_gt (blk_lt (qk_ BK256)) : gb269 ≠ gb256))
    clear BK255; clear BK256; clear HB; have BK255 := n0_; have BK256 := n1_; have HB := n2_; have BK269 := n3_; have GW269 := n4_; have GE269 := n5_; have NB255_269 := n6_; have NB269_255 := n7_; have NB256_269 := n8_; have NB269_256 := n9_; clear n0_ n1_ n2_ n3_ n4_ n5_ n6_ n7_ n8_ n9_; clear hb hbox hg
    refine hK.out _ _ ⟨(blk_cell BK255.out 0).trans rfl, (blk_cell BK255.out 1).trans rfl, (blk_cell BK256.out 0).trans rfl, (blk_cell BK256.out 1).trans rfl⟩ (fun hHeld => ?_)
    clear hK K
    refine norm_ (a' := ?_) ?_ ?_
    rotate_left
    ·show Act.put _ (some 6) _ = _
     simp only [Act.put, List.setIfInBounds_toArray, List.set_cons_zero, List.set_cons_succ, i64_w, i32_w]
     rfl
    refine one_ (i := 1) (N := some 23) (bm 11 263) rfl rfl (one_of HT_.out (by kernel_rfl)) (by decide) (fun K hK => ?_)
    refine goes_ Try.func36 (by kernel_rfl) rfl #[.agg #[.int .i64 a0_0, .slice A0_1 l0_1.length c0_1]] (by rfl) rfl rfl (by (try simp only [List.map_toArray, List.map_cons, List.map_nil]); first | done | rfl | (simp only [List.length_drop, List.length_take]; rfl)) ?_
    with_reducible refine (laws_toGraph.calls k a0_0 _ _ l0_1 t258 t259 _ ?side1 ?side2 A10.out).mono ?_
    (case side1 => exact qC_ HR0_1 HB)
    (case side2 => exact HC0_1.out)
    rintro e w24 ⟨v260, rfl, ho0, hb⟩
    refine ⟨_, rfl, ?_⟩
    have n0_ := Aside0.mk (Kd.R_lower ho0 (below_size qB_))
    have n1_ := Aside0.mk (blk_below (qk_ BK255) hb)
    have n2_ := Aside0.mk (blk_below (qk_ BK256) hb)
    have n3_ := Aside0.mk (blk_below (qk_ BK269) hb)
    have n4_ := Aside0.mk (below_step qB_ hb)
    clear BK255; clear BK256; clear BK269; clear HB; have HO261 := n0_; have BK255 := n1_; have BK256 := n2_; have BK269 := n3_; have HB := n4_; clear n0_ n1_ n2_ n3_ n4_; (try clear hb); (try clear hb2); (try clear hk); (try clear hi); (try clear ho0)
    refine hK.out _ _ ⟨(blk_cell BK255.out 0).trans rfl, (blk_cell BK255.out 1).trans rfl, (blk_cell BK256.out 0).trans rfl, (blk_cell BK256.out 1).trans rfl⟩ (fun hHeld => ?_)
    clear hK K
    refine norm_ (a' := ?_) ?_ ?_
    rotate_left
    ·show Act.put _ (some 23) _ = _
     simp only [Act.put, List.setIfInBounds_toArray, List.set_cons_zero, List.set_cons_succ, i64_w, i32_w]
     rfl
    refine one_ (i := 3) (N := some 25) (bm 11 271) rfl rfl (one_of HT_.out (by kernel_rfl)) (by decide) (fun K hK => ?_)
    refine goes_ Try.func48 (by kernel_rfl) rfl #[.agg #[.int .i64 a1_0, .int .i64 a1_1]] (by rfl) rfl rfl (by (try simp only [List.map_toArray, List.map_cons, List.map_nil]); first | done | rfl | (simp only [List.length_drop, List.length_take]; rfl)) ?_
    with_reducible refine (laws_toEdge.calls a1_0 a1_1 t262 t263 _ A11.out).mono ?_
    rintro e w25 ⟨rfl, hb⟩
    refine ⟨_, rfl, ?_⟩
    have n0_ := Aside0.mk (Kd.R_below (qR_ HO261) hb)
    have n1_ := Aside0.mk (blk_below (qk_ BK255) hb)
    have n2_ := Aside0.mk (blk_below (qk_ BK256) hb)
    have n3_ := Aside0.mk (blk_below (qk_ BK269) hb)
    have n4_ := Aside0.mk (below_step qB_ hb)
    clear HO261; clear BK255; clear BK256; clear BK269; clear HB; have HO261 := n0_; have BK255 := n1_; have BK256 := n2_; have BK269 := n3_; have HB := n4_; clear n0_ n1_ n2_ n3_ n4_; (try clear hb); (try clear hb2); (try clear hk); (try clear hi)
    obtain ⟨Ao26, co26, eo26⟩ := Kd.R_slice HO261.out
    (first | subst eo26 | (injection eo26 with f1_ f2_ f3_; have f4_ := f1_.symm; have f5_ := f3_.symm; clear f1_ f2_ f3_; subst f4_; subst f5_))
    refine hK.out _ _ ⟨(blk_cell BK255.out 0).trans rfl, (blk_cell BK255.out 1).trans rfl, (blk_cell BK256.out 0).trans rfl, (blk_cell BK256.out 1).trans rfl⟩ (fun hHeld => ?_)
    clear hK K
    refine norm_ (a' := ?_) ?_ ?_
    rotate_left
    ·show Act.put _ (some 25) _ = _
     simp only [Act.put, List.setIfInBounds_toArray, List.set_cons_zero, List.set_cons_succ, i64_w, i32_w]
     rfl
    refine one_ (i := 4) (N := some 26) (bm 11 287) rfl rfl (one_of HT_.out (by kernel_rfl)) (by decide) (fun K hK => ?_)
    refine goes_ Try.func52 (by kernel_rfl) rfl #[.agg #[.int .i64 t258, .slice Ao26 t259.length co26], .agg #[.int .i64 t262, .int .i64 t263]] (by rfl) rfl rfl (by (try simp only [List.map_toArray, List.map_cons, List.map_nil]); first | done | rfl | (simp only [List.length_drop, List.length_take]; rfl)) ?_
    with_reducible refine (spec_AddEdge.calls k t258 _ _ t259 t262 t263 t264 t265 t268 _ ?side1 ?side2 A12.out).mono ?_
    (case side1 => exact qD_ (Kd.R_reads' HO261.out).2.2)
    (case side2 => exact (Kd.R_reads' HO261.out).2.1)
    rintro e w27 ⟨v266, rfl, ho0, hb⟩
    refine ⟨_, rfl, ?_⟩
    have n0_ := Aside0.mk (Kd.R_elder' (qR_ HO261) (Kd.R_base ho0) hb)
    have n1_ := Aside0.mk (Kd.R_lower (Kd.R_new' ho0 (Kd.R_lt (qR_ HO261))) (below_size qB_))
    have n2_ := Aside0.mk (blk_below (qk_ BK255) hb)
    have n3_ := Aside0.mk (blk_below (qk_ BK256) hb)
    have n4_ := Aside0.mk (blk_below (qk_ BK269) hb)
    have n5_ := Aside0.mk (below_step qB_ hb)
    clear HO261; clear BK255; clear BK256; clear BK269; clear HB; have HO261 := n0_; have HO267 := n1_; have BK255 := n2_; have BK256 := n3_; have BK269 := n4_; have HB := n5_; clear n0_ n1_ n2_ n3_ n4_ n5_; (try clear hb); (try clear hb2); (try clear hk); (try clear hi); (try clear ho0)
    refine hK.out _ _ ⟨(blk_cell BK255.out 0).trans rfl, (blk_cell BK255.out 1).trans rfl, (blk_cell BK256.out 0).trans rfl, (blk_cell BK256.out 1).trans rfl⟩ (fun hHeld => ?_)
    clear hK K
    refine norm_ (a' := ?_) ?_ ?_
    rotate_left
    ·show Act.put _ (some 26) _ = _
     simp only [Act.put, List.setIfInBounds_toArray, List.set_cons_zero, List.set_cons_succ, i64_w, i32_w]
     rfl
    refine pz_ 5 21 (bm 11 319) ?_; refine pz_ 6 27 (bm 11 383) ?_; refine pz_ 7 28 (bm 11 511) ?_
    exact norm_ (by simp only [putAll, Act.put, List.setIfInBounds_toArray, List.set_cons_zero, List.set_cons_succ]) (hCont (.slice Ao26 t259.length co26, v266, gb269) _ ⟨hHeld, (by (with_reducible repeat (first | apply Kd.R_alloc | apply Kd.R_drewN | apply Kd.R_drew)); exact Kd.R_mono HO261.out (fun _ hk => hk.2)), (by (with_reducible repeat (first | apply Kd.R_alloc | apply Kd.R_drewN | apply Kd.R_drew)); exact Kd.R_mono HO267.out (fun _ hk => hk.2)), (qk_ BK255), (qk_ BK256), (qk_ BK269), GW269.out, GE269.out, NB255_269.out, NB269_255.out, NB256_269.out, NB269_256.out, qB_⟩)
  rintro ⟨v260, v266, gb269⟩ w28 ⟨hS_, h0_, h1_, h2_, h3_, h4_, h5_, h6_, h7_, h8_, h9_, h10_, h11_⟩
  have n0_ : Aside0 (Kd.R k79 79 w28 w.heap.size (fun k_ => some k_ ≠ (v266 : Value).ownBlock) v260 t259) := ⟨h0_⟩
  have n1_ : Aside0 (Kd.R k79 79 w28 w.heap.size (fun k_ => some k_ ≠ (v260 : Value).ownBlock) v266 t265) := ⟨h1_⟩
  have n2_ : Aside0 (w28.heap[gb255]? = some (.cells #[.int .i64 a0_0, .slice A0_1 l0_1.length c0_1] 54 (0, 0))) := ⟨h2_⟩
  have n3_ : Aside0 (w28.heap[gb256]? = some (.cells #[.int .i64 a1_0, .int .i64 a1_1] 76 (0, 0))) := ⟨h3_⟩
  have n4_ : Aside0 (w28.heap[gb269]? = some (.cells #[.int .i64 0, .slice none 0 0] 58 (0, 0))) := ⟨h4_⟩
  have n5_ : Aside0 (w.heap.size ≤ gb269) := ⟨h5_⟩
  have n6_ : Aside0 (w.heap.size ≤ gb269) := ⟨h6_⟩
  have n7_ : Aside0 (gb255 ≠ gb269) := ⟨h7_⟩
  have n8_ : Aside0 (gb269 ≠ gb255) := ⟨h8_⟩
  have n9_ : Aside0 (gb256 ≠ gb269) := ⟨h9_⟩
  have n10_ : Aside0 (gb269 ≠ gb256) := ⟨h10_⟩
  have n11_ : Aside0 (Below w.heap.size w w28) := ⟨h11_⟩
  clear BK255; clear BK256; clear HB; clear h0_ h1_ h2_ h3_ h4_ h5_ h6_ h7_ h8_ h9_ h10_ h11_; have HO261 := n0_; have HO267 := n1_; have BK255 := n2_; have BK256 := n3_; have BK269 := n4_; have GW269 := n5_; have GE269 := n6_; have NB255_269 := n7_; have NB269_255 := n8_; have NB256_269 := n9_; have NB269_256 := n10_; have HB := n11_; clear n0_ n1_ n2_ n3_ n4_ n5_ n6_ n7_ n8_ n9_ n10_ n11_
  have hHeld : w28.cell? ⟨gb255, 0, none⟩ = some (.int .i64 a0_0) ∧ w28.cell? ⟨gb255, 1, none⟩ = some (.slice A0_1 l0_1.length c0_1) ∧ w28.cell? ⟨gb256, 0, none⟩ = some (.int .i64 a1_0) ∧ w28.cell? ⟨gb256, 1, none⟩ = some (.int .i64 a1_1) := hS_
  obtain ⟨Ao30, co30, eo30⟩ := Kd.R_slice HO267.out
  (first | subst eo30 | (injection eo30 with f1_ f2_ f3_; have f4_ := f1_.symm; have f5_ := f3_.symm; clear f1_ f2_ f3_; subst f4_; subst f5_))
  refine norm_ (a' := ?_) ?_ ?_
  rotate_left
  ·simp only [putAll, Act.put, List.setIfInBounds_toArray, List.set_cons_zero, List.set_cons_succ]
   rfl
  refine one_ (i := 9) (N := none) (bm 11 1023) rfl rfl (one_of HT_.out (by kernel_rfl)) (by decide) (fun K hK => ?_)
  have hs29 : w28.cell? ⟨gb269, 0, none⟩ = some (.int .i64 0) := (blk_cell BK269.out 0).trans rfl
  have hfs29 := blk_frozen BK269.out 0
  have hns29_0 := NB255_269.out; have hns29_1 := NB256_269.out; have hms29_0 := NB269_255.out; have hms29_1 := NB269_256.out
  have hs31 : w28.cell? ⟨gb269, 1, none⟩ = some (.slice none 0 0) := (blk_cell BK269.out 1).trans rfl
  have hfs31 := blk_frozen BK269.out 1
  have hns31_0 := NB255_269.out; have hns31_1 := NB256_269.out; have hms31_0 := NB269_255.out; have hms31_1 := NB269_256.out
  refine skip_ (w1 := ?_) (by rfl) rfl ?_ ?_
  rotate_left
  ·go_simp
   rfl
  refine hK.out _ _ ⟨((cell_far (p := ⟨gb269, _, none⟩) NB255_269.out _).trans (((cell_far (p := ⟨gb269, _, none⟩) NB255_269.out _).trans (hHeld.1)))), ((cell_far (p := ⟨gb269, _, none⟩) NB255_269.out _).trans (((cell_far (p := ⟨gb269, _, none⟩) NB255_269.out _).trans (hHeld.2.1)))), ((cell_far (p := ⟨gb269, _, none⟩) NB256_269.out _).trans (((cell_far (p := ⟨gb269, _, none⟩) NB256_269.out _).trans (hHeld.2.2.1)))), ((cell_far (p := ⟨gb269, _, none⟩) NB256_269.out _).trans (((cell_far (p := ⟨gb269, _, none⟩) NB256_269.out _).trans (hHeld.2.2.2))))⟩ (fun hHeld => ?_)
  clear hK K; refine pz_ 10 7 (bm 11 2047) ?_
  refine done_ (done_of HT_.out (by kernel_rfl)) ?_
  have hnb32 := NB255_269.out; have hnc32 := NB269_255.out
  obtain ⟨hcz33_0, hcz33_1, hfz33_0, hfz33_1⟩ := bc2_ BK255
  try go_wp2_with (first | ((with_reducible refine gate_callee (f := 36) rfl ?_); refine gl_ (some 30) Try.func36 #[.agg #[.int .i64 a0_0, .slice A0_1 l0_1.length c0_1]] ?_; (with_reducible refine (laws_toGraph.calls k a0_0 _ _ l0_1 t270 t271 _ ?side1 ?side2 A13.out).mono ?_); (case side1 => exact Kd.C_below HR0_1.out qB_); (case side2 => exact HC0_1.out); rintro e w34 ⟨v272, rfl, ho0, hb⟩; refine ⟨_, rfl, ?_⟩; have HO273 := Aside0.mk (Kd.R_lower (Kd.R_new' (Kd.R_new' ho0 (Kd.R_lt (by (with_reducible repeat (first | apply Kd.R_alloc | apply Kd.R_drewN | apply Kd.R_drew)); exact (Kd.R_mono (Kd.R_far (p := ⟨gb269, 1, none⟩) (Kd.R_far (p := ⟨gb269, 0, none⟩) (Kd.R_types HO261.out BK269.out (by decide)) (fun _ hk => hk.2) (.int .i64 t264)) (fun _ hk => hk.2) (.slice Ao30 t265.length co30)) (fun _ h_ => h_.1))))) (Kd.R_lt (by (with_reducible repeat (first | apply Kd.R_alloc | apply Kd.R_drewN | apply Kd.R_drew)); exact (Kd.R_mono (Kd.R_far (p := ⟨gb269, 1, none⟩) (Kd.R_far (p := ⟨gb269, 0, none⟩) (Kd.R_types HO267.out BK269.out (by decide)) (fun _ hk => hk.2) (.int .i64 t264)) (fun _ hk => hk.2) (.slice Ao30 t265.length co30)) (fun _ h_ => h_.1))))) (below_size qB_)); replace HO261 := Aside0.mk (Kd.R_elder' (by (with_reducible repeat (first | apply Kd.R_alloc | apply Kd.R_drewN | apply Kd.R_drew)); exact (Kd.R_mono (Kd.R_far (p := ⟨gb269, 1, none⟩) (Kd.R_far (p := ⟨gb269, 0, none⟩) (Kd.R_types HO261.out BK269.out (by decide)) (fun _ hk => hk.2) (.int .i64 t264)) (fun _ hk => hk.2) (.slice Ao30 t265.length co30)) (fun _ h_ => h_.1))) (Kd.R_base ho0) hb); replace HO267 := Aside0.mk (Kd.R_elder' (by (with_reducible repeat (first | apply Kd.R_alloc | apply Kd.R_drewN | apply Kd.R_drew)); exact (Kd.R_mono (Kd.R_far (p := ⟨gb269, 1, none⟩) (Kd.R_far (p := ⟨gb269, 0, none⟩) (Kd.R_types HO267.out BK269.out (by decide)) (fun _ hk => hk.2) (.int .i64 t264)) (fun _ hk => hk.2) (.slice Ao30 t265.length co30)) (fun _ h_ => h_.1))) (Kd.R_base ho0) hb); replace BK255 := Aside0.mk (blk_below (g := gb255) (o := .cells #[.int .i64 a0_0, .slice A0_1 l0_1.length c0_1] 54 (0, 0)) (by (with_reducible repeat (first | refine blk_drewN ?_ _ | refine blk_drew ?_ | refine blk_alloc ?_ _)); refine blk_far ?_ NB255_269.out _; (with_reducible repeat (first | refine blk_drewN ?_ _ | refine blk_drew ?_ | refine blk_alloc ?_ _)); refine blk_far ?_ NB255_269.out _; (with_reducible repeat (first | refine blk_drewN ?_ _ | refine blk_drew ?_ | refine blk_alloc ?_ _)); exact BK255.out) hb); replace BK256 := Aside0.mk (blk_below (g := gb256) (o := .cells #[.int .i64 a1_0, .int .i64 a1_1] 76 (0, 0)) (by (with_reducible repeat (first | refine blk_drewN ?_ _ | refine blk_drew ?_ | refine blk_alloc ?_ _)); refine blk_far ?_ NB256_269.out _; (with_reducible repeat (first | refine blk_drewN ?_ _ | refine blk_drew ?_ | refine blk_alloc ?_ _)); refine blk_far ?_ NB256_269.out _; (with_reducible repeat (first | refine blk_drewN ?_ _ | refine blk_drew ?_ | refine blk_alloc ?_ _)); exact BK256.out) hb); replace BK269 := Aside0.mk (blk_below (g := gb269) (o := .cells #[.int .i64 t264, .slice Ao30 t265.length co30] 58 (0, 0)) (by (with_reducible repeat (first | refine blk_drewN ?_ _ | refine blk_drew ?_ | refine blk_alloc ?_ _)); refine blk_put (cs := #[.int .i64 t264, .slice none 0 0]) ?_ 1 _ rfl; (with_reducible repeat (first | refine blk_drewN ?_ _ | refine blk_drew ?_ | refine blk_alloc ?_ _)); refine blk_put (cs := #[.int .i64 0, .slice none 0 0]) ?_ 0 _ rfl; (with_reducible repeat (first | refine blk_drewN ?_ _ | refine blk_drew ?_ | refine blk_alloc ?_ _)); exact BK269.out) hb); replace HB := Aside0.mk (below_step qB_ hb); (try clear hb); (try clear hb2); (try clear hk); (try clear hi); (try clear ho0)) | ((with_reducible refine gate_dst (N := 8) rfl ?_); refine bx_ 8 (cs := #[.int .i64 0, .slice none 0 0]) (t := 58) ?_; intro gb274 hg w35 hbox hb; have BK274 := Aside0.mk (hbox); have GW274 := Aside0.mk ((qs_ : w.heap.size ≤ gb274)); have GE274 := Aside0.mk ((qs_ : w.heap.size ≤ gb274)); have NB255_274 := Aside0.mk ((by rw [hg]; exact Nat.ne_of_lt (blk_lt (qk_ BK255)) : gb255 ≠ gb274)); have NB274_255 := Aside0.mk ((by rw [hg]; exact Nat.ne_of_gt (blk_lt (qk_ BK255)) : gb274 ≠ gb255)); have NB256_274 := Aside0.mk ((by rw [hg]; exact Nat.ne_of_lt (blk_lt (qk_ BK256)) : gb256 ≠ gb274)); have NB274_256 := Aside0.mk ((by rw [hg]; exact Nat.ne_of_gt (blk_lt (qk_ BK256)) : gb274 ≠ gb256)); have NB269_274 := Aside0.mk ((by rw [hg]; exact Nat.ne_of_lt (blk_lt (qk_ BK269)) : gb269 ≠ gb274)); have NB274_269 := Aside0.mk ((by rw [hg]; exact Nat.ne_of_gt (blk_lt (qk_ BK269)) : gb274 ≠ gb269)); replace HO261 := Aside0.mk (Kd.R_below (qR_ HO261) hb); replace HO267 := Aside0.mk (Kd.R_below (qR_ HO267) hb); replace HO273 := Aside0.mk (Kd.R_below (qR_ HO273) hb); replace BK255 := Aside0.mk (blk_below (qk_ BK255) hb); replace BK256 := Aside0.mk (blk_below (qk_ BK256) hb); replace BK269 := Aside0.mk (blk_below (qk_ BK269) hb); replace HB := Aside0.mk (below_step qB_ hb); clear hb hbox hg; have hnb36 := NB274_255.out; have hnc36 := NB255_274.out; have hnb37 := NB274_256.out; have hnc37 := NB256_274.out; have hnb38 := NB274_269.out; have hnc38 := NB269_274.out; obtain ⟨hcz39_0, hcz39_1, hfz39_0, hfz39_1⟩ := bc2_ BK274; obtain ⟨Ao40, co40, eo40⟩ := Kd.R_slice HO273.out; subst eo40))
  have n0_ : Aside0 (Kd.R k79 79 ((w35.setCell ⟨gb274, 0, none⟩ (.int .i64 t270)).setCell ⟨gb274, 1, none⟩ (.slice Ao40 t271.length co40)) w.heap.size (fun k_ => some k_ ≠ (.slice Ao30 t265.length co30 : Value).ownBlock ∧ some k_ ≠ (.slice Ao40 t271.length co40 : Value).ownBlock) v260 t259) := ⟨by (with_reducible repeat (first | apply Kd.R_alloc | apply Kd.R_drewN | apply Kd.R_drew)); exact Kd.R_mono (Kd.R_far (p := ⟨gb274, 1, none⟩) (Kd.R_far (p := ⟨gb274, 0, none⟩) (Kd.R_types HO261.out BK274.out (by decide)) (fun _ hk => hk.2) (.int .i64 t270)) (fun _ hk => hk.2) (.slice Ao40 t271.length co40)) (fun _ hk => ⟨hk.1.1, hk.1.2⟩)⟩
  have n1_ : Aside0 (Kd.R k79 79 ((w35.setCell ⟨gb274, 0, none⟩ (.int .i64 t270)).setCell ⟨gb274, 1, none⟩ (.slice Ao40 t271.length co40)) w.heap.size (fun k_ => some k_ ≠ (v260 : Value).ownBlock ∧ some k_ ≠ (.slice Ao40 t271.length co40 : Value).ownBlock) (.slice Ao30 t265.length co30) t265) := ⟨by (with_reducible repeat (first | apply Kd.R_alloc | apply Kd.R_drewN | apply Kd.R_drew)); exact Kd.R_mono (Kd.R_far (p := ⟨gb274, 1, none⟩) (Kd.R_far (p := ⟨gb274, 0, none⟩) (Kd.R_types HO267.out BK274.out (by decide)) (fun _ hk => hk.2) (.int .i64 t270)) (fun _ hk => hk.2) (.slice Ao40 t271.length co40)) (fun _ hk => ⟨hk.1.1, hk.1.2⟩)⟩
  have n2_ : Aside0 (Kd.R k79 79 ((w35.setCell ⟨gb274, 0, none⟩ (.int .i64 t270)).setCell ⟨gb274, 1, none⟩ (.slice Ao40 t271.length co40)) w.heap.size (fun k_ => some k_ ≠ (v260 : Value).ownBlock ∧ some k_ ≠ (.slice Ao30 t265.length co30 : Value).ownBlock) (.slice Ao40 t271.length co40) t271) := ⟨by (with_reducible repeat (first | apply Kd.R_alloc | apply Kd.R_drewN | apply Kd.R_drew)); exact Kd.R_mono (Kd.R_far (p := ⟨gb274, 1, none⟩) (Kd.R_far (p := ⟨gb274, 0, none⟩) (Kd.R_types HO273.out BK274.out (by decide)) (fun _ hk => hk.2) (.int .i64 t270)) (fun _ hk => hk.2) (.slice Ao40 t271.length co40)) (fun _ hk => ⟨hk.1.1.2, hk.1.2⟩)⟩
  have n3_ : Aside0 (((w35.setCell ⟨gb274, 0, none⟩ (.int .i64 t270)).setCell ⟨gb274, 1, none⟩ (.slice Ao40 t271.length co40)).heap[gb255]? = some (.cells #[.int .i64 a0_0, .slice A0_1 l0_1.length c0_1] 54 (0, 0))) := ⟨by (with_reducible repeat (first | refine blk_drewN ?_ _ | refine blk_drew ?_ | refine blk_alloc ?_ _)); refine blk_far ?_ NB255_274.out _; (with_reducible repeat (first | refine blk_drewN ?_ _ | refine blk_drew ?_ | refine blk_alloc ?_ _)); refine blk_far ?_ NB255_274.out _; (with_reducible repeat (first | refine blk_drewN ?_ _ | refine blk_drew ?_ | refine blk_alloc ?_ _)); exact BK255.out⟩
  have n4_ : Aside0 (((w35.setCell ⟨gb274, 0, none⟩ (.int .i64 t270)).setCell ⟨gb274, 1, none⟩ (.slice Ao40 t271.length co40)).heap[gb256]? = some (.cells #[.int .i64 a1_0, .int .i64 a1_1] 76 (0, 0))) := ⟨by (with_reducible repeat (first | refine blk_drewN ?_ _ | refine blk_drew ?_ | refine blk_alloc ?_ _)); refine blk_far ?_ NB256_274.out _; (with_reducible repeat (first | refine blk_drewN ?_ _ | refine blk_drew ?_ | refine blk_alloc ?_ _)); refine blk_far ?_ NB256_274.out _; (with_reducible repeat (first | refine blk_drewN ?_ _ | refine blk_drew ?_ | refine blk_alloc ?_ _)); exact BK256.out⟩
  have n5_ : Aside0 (((w35.setCell ⟨gb274, 0, none⟩ (.int .i64 t270)).setCell ⟨gb274, 1, none⟩ (.slice Ao40 t271.length co40)).heap[gb269]? = some (.cells #[.int .i64 t264, .slice Ao30 t265.length co30] 58 (0, 0))) := ⟨by (with_reducible repeat (first | refine blk_drewN ?_ _ | refine blk_drew ?_ | refine blk_alloc ?_ _)); refine blk_far ?_ NB269_274.out _; (with_reducible repeat (first | refine blk_drewN ?_ _ | refine blk_drew ?_ | refine blk_alloc ?_ _)); refine blk_far ?_ NB269_274.out _; (with_reducible repeat (first | refine blk_drewN ?_ _ | refine blk_drew ?_ | refine blk_alloc ?_ _)); exact BK269.out⟩
  have n6_ : Aside0 (((w35.setCell ⟨gb274, 0, none⟩ (.int .i64 t270)).setCell ⟨gb274, 1, none⟩ (.slice Ao40 t271.length co40)).heap[gb274]? = some (.cells #[.int .i64 t270, .slice Ao40 t271.length co40] 58 (0, 0))) := ⟨by (with_reducible repeat (first | refine blk_drewN ?_ _ | refine blk_drew ?_ | refine blk_alloc ?_ _)); refine blk_put (cs := #[.int .i64 t270, .slice none 0 0]) ?_ 1 _ rfl; (with_reducible repeat (first | refine blk_drewN ?_ _ | refine blk_drew ?_ | refine blk_alloc ?_ _)); refine blk_put (cs := #[.int .i64 0, .slice none 0 0]) ?_ 0 _ rfl; (with_reducible repeat (first | refine blk_drewN ?_ _ | refine blk_drew ?_ | refine blk_alloc ?_ _)); exact BK274.out⟩
  have n7_ : Aside0 (Below w.heap.size w ((w35.setCell ⟨gb274, 0, none⟩ (.int .i64 t270)).setCell ⟨gb274, 1, none⟩ (.slice Ao40 t271.length co40))) := ⟨qB_⟩
  (try clear HO261); (try clear HO267); (try clear HO273); (try clear BK255); (try clear BK256); (try clear BK269); (try clear BK274); (try clear HB)
  generalize ((w35.setCell ⟨gb274, 0, none⟩ (.int .i64 t270)).setCell ⟨gb274, 1, none⟩ (.slice Ao40 t271.length co40)) = w41 at n0_ n1_ n2_ n3_ n4_ n5_ n6_ n7_ ⊢
  have HO261 := n0_; have HO267 := n1_; have HO273 := n2_; have BK255 := n3_; have BK256 := n4_; have BK269 := n5_; have BK274 := n6_; have HB := n7_; clear n0_ n1_ n2_ n3_ n4_ n5_ n6_ n7_
  have n0_ := Aside0.mk (Kd.R_drew HO261.out)
  have n1_ := Aside0.mk (Kd.R_drew HO267.out)
  have n2_ := Aside0.mk (Kd.R_drew HO273.out)
  have n3_ := Aside0.mk (blk_drew BK255.out)
  have n4_ := Aside0.mk (blk_drew BK256.out)
  have n5_ := Aside0.mk (blk_drew BK269.out)
  have n6_ := Aside0.mk (blk_drew BK274.out)
  have n7_ := Aside0.mk (below_drew1 HB.out)
  clear HO261; clear HO267; clear HO273; clear BK255; clear BK256; clear BK269; clear BK274; clear HB; have HO261 := n0_; have HO267 := n1_; have HO273 := n2_; have BK255 := n3_; have BK256 := n4_; have BK269 := n5_; have BK274 := n6_; have HB := n7_; clear n0_ n1_ n2_ n3_ n4_ n5_ n6_ n7_
  refine start_ (n := 10) (S := fun w' => w'.cell? ⟨gb274, 0, none⟩ = some (.int .i64 t270) ∧ w'.cell? ⟨gb274, 1, none⟩ = some (.slice Ao40 t271.length co40) ∧ w'.cell? ⟨gb256, 0, none⟩ = some (.int .i64 a1_0) ∧ w'.cell? ⟨gb256, 1, none⟩ = some (.int .i64 a1_1)) (ds := []) (bm 10 0) (by kernel_rfl) rfl (by kernel_rfl) ⟨(blk_cell BK274.out 0).trans rfl, (blk_cell BK274.out 1).trans rfl, (blk_cell BK256.out 0).trans rfl, (blk_cell BK256.out 1).trans rfl⟩ (fun hHeld => ?_); refine with_tabW laws_FnExactAddEdge.tab7 laws_FnExactAddEdge.bits7 (fun HT_ HW_ => ?_)
  generalize w41.drew = w42 at HO261 HO267 HO273 BK255 BK256 BK269 BK274 HB hHeld ⊢
  refine tz4_ 0 32 (bm 10 1) ?_; refine tz4_ 1 33 (bm 10 3) ?_
  refine join_ (σ := Value × Nat) 2 #[true, true, true, true, true, true, true, true, false, false] (fun s_ => [(34, .agg #[.int .i64 t275, .int .i64 t276]), (35, .tuple #[.agg #[.int .i64 t277, s_.1], .bool t281]), (9, .pointer (some ⟨s_.2, 0, none⟩)), (31, .tuple #[.agg #[.int .i64 t277, s_.1], .bool t281]), (36, .agg #[.int .i64 t277, s_.1]), (37, .bool t281)]) (fun s_ w' => (w'.cell? ⟨gb274, 0, none⟩ = some (.int .i64 t270) ∧ w'.cell? ⟨gb274, 1, none⟩ = some (.slice Ao40 t271.length co40) ∧ w'.cell? ⟨gb256, 0, none⟩ = some (.int .i64 a1_0) ∧ w'.cell? ⟨gb256, 1, none⟩ = some (.int .i64 a1_1)) ∧ (Kd.R k79 79 w' w.heap.size (fun k_ => some k_ ≠ (.slice Ao30 t265.length co30 : Value).ownBlock ∧ some k_ ≠ (.slice Ao40 t271.length co40 : Value).ownBlock ∧ some k_ ≠ (s_.1 : Value).ownBlock) v260 t259) ∧ (Kd.R k79 79 w' w.heap.size (fun k_ => some k_ ≠ (v260 : Value).ownBlock ∧ some k_ ≠ (.slice Ao40 t271.length co40 : Value).ownBlock ∧ some k_ ≠ (s_.1 : Value).ownBlock) (.slice Ao30 t265.length co30) t265) ∧ (Kd.R k79 79 w' w.heap.size (fun k_ => some k_ ≠ (v260 : Value).ownBlock ∧ some k_ ≠ (.slice Ao30 t265.length co30 : Value).ownBlock ∧ some k_ ≠ (s_.1 : Value).ownBlock) (.slice Ao40 t271.length co40) t271) ∧ (Kd.R k79 79 w' w.heap.size (fun k_ => some k_ ≠ (v260 : Value).ownBlock ∧ some k_ ≠ (.slice Ao30 t265.length co30 : Value).ownBlock ∧ some k_ ≠ (.slice Ao40 t271.length co40 : Value).ownBlock) s_.1 t278) ∧ (w'.heap[gb255]? = some (.cells #[.int .i64 a0_0, .slice A0_1 l0_1.length c0_1] 54 (0, 0))) ∧ (w'.heap[gb256]? = some (.cells #[.int .i64 a1_0, .int .i64 a1_1] 76 (0, 0))) ∧ (w'.heap[gb269]? = some (.cells #[.int .i64 t264, .slice Ao30 t265.length co30] 58 (0, 0))) ∧ (w'.heap[gb274]? = some (.cells #[.int .i64 t270, .slice Ao40 t271.length co40] 58 (0, 0))) ∧ (w'.heap[s_.2]? = some (.cells #[.int .i64 0, .slice none 0 0] 58 (0, 0))) ∧ (w.heap.size ≤ s_.2) ∧ (w.heap.size ≤ s_.2) ∧ (gb255 ≠ s_.2) ∧ (s_.2 ≠ gb255) ∧ (gb256 ≠ s_.2) ∧ (s_.2 ≠ gb256) ∧ (gb269 ≠ s_.2) ∧ (s_.2 ≠ gb269) ∧ (gb274 ≠ s_.2) ∧ (s_.2 ≠ gb274) ∧ (Below w.heap.size w w')) ?_ ?_
  rotate_left
  ·intro hCont
   refine two_ (i := 2) (j := 7) (Ni := some 34) (Nj := some 9) (bm 10 7) #[true, true, false, false, false, false, false, true, false, false] rfl rfl rfl rfl (two_of HT_.out (by kernel_rfl)) (by decide) (by decide) (fun K hK => ?_) (fun K hK => ?_)
   ·skip
    refine goes_ Try.func48 (by kernel_rfl) rfl #[.agg #[.int .i64 a1_0, .int .i64 a1_1]] (by rfl) rfl rfl (by (try simp only [List.map_toArray, List.map_cons, List.map_nil]); first | done | rfl | (simp only [List.length_drop, List.length_take]; rfl)) ?_
    with_reducible refine (laws_toEdge.calls a1_0 a1_1 t275 t276 _ A14.out).mono ?_
    rintro e w43 ⟨rfl, hb⟩
    refine ⟨_, rfl, ?_⟩
    have n0_ := Aside0.mk (Kd.R_below (qR_ HO261) hb)
    have n1_ := Aside0.mk (Kd.R_below (qR_ HO267) hb)
    have n2_ := Aside0.mk (Kd.R_below (qR_ HO273) hb)
    have n3_ := Aside0.mk (blk_below (qk_ BK255) hb)
    have n4_ := Aside0.mk (blk_below (qk_ BK256) hb)
    have n5_ := Aside0.mk (blk_below (qk_ BK269) hb)
    have n6_ := Aside0.mk (blk_below (qk_ BK274) hb)
    have n7_ := Aside0.mk (below_step qB_ hb)
    clear HO261; clear HO267; clear HO273; clear BK255; clear BK256; clear BK269; clear BK274; clear HB; have HO261 := n0_; have HO267 := n1_; have HO273 := n2_; have BK255 := n3_; have BK256 := n4_; have BK269 := n5_; have BK274 := n6_; have HB := n7_; clear n0_ n1_ n2_ n3_ n4_ n5_ n6_ n7_; (try clear hb); (try clear hb2); (try clear hk); (try clear hi)
    refine hK.out _ _ ⟨(blk_cell BK274.out 0).trans rfl, (blk_cell BK274.out 1).trans rfl, (blk_cell BK256.out 0).trans rfl, (blk_cell BK256.out 1).trans rfl⟩ (fun hHeld => ?_)
    clear hK K
    refine norm_ (a' := ?_) ?_ ?_
    rotate_left
    ·show Act.put _ (some 34) _ = _
     simp only [Act.put, List.setIfInBounds_toArray, List.set_cons_zero, List.set_cons_succ, i64_w, i32_w]
     rfl
    refine two_ (i := 3) (j := 7) (Ni := some 35) (Nj := some 9) (bm 10 15) #[true, true, true, false, false, false, false, true, false, false] rfl rfl rfl rfl (two_of HT_.out (by kernel_rfl)) (by decide) (by decide) (fun K hK => ?_) (fun K hK => ?_)
    ·skip
     refine goes_ Try.func53 (by kernel_rfl) rfl #[.agg #[.int .i64 t270, .slice Ao40 t271.length co40], .agg #[.int .i64 t275, .int .i64 t276]] (by rfl) rfl rfl (by (try simp only [List.map_toArray, List.map_cons, List.map_nil]); first | done | rfl | (simp only [List.length_drop, List.length_take]; rfl)) ?_
     with_reducible refine (impl_AddEdge.calls k t270 _ _ t271 t275 t276 t277 t278 t281 _ ?side1 ?side2 A15.out).mono ?_
     (case side1 => exact qD_ (Kd.R_reads' HO273.out).2.2)
     (case side2 => exact (Kd.R_reads' HO273.out).2.1)
     rintro e w44 ⟨v279, rfl, ho0, hb⟩
     refine ⟨_, rfl, ?_⟩
     have n0_ := Aside0.mk (Kd.R_elder' (qR_ HO261) (Kd.R_base ho0) hb)
     have n1_ := Aside0.mk (Kd.R_elder' (qR_ HO267) (Kd.R_base ho0) hb)
     have n2_ := Aside0.mk (Kd.R_elder' (qR_ HO273) (Kd.R_base ho0) hb)
     have n3_ := Aside0.mk (Kd.R_lower (Kd.R_new' (Kd.R_new' (Kd.R_new' ho0 (Kd.R_lt (qR_ HO261))) (Kd.R_lt (qR_ HO267))) (Kd.R_lt (qR_ HO273))) (below_size qB_))
     have n4_ := Aside0.mk (blk_below (qk_ BK255) hb)
     have n5_ := Aside0.mk (blk_below (qk_ BK256) hb)
     have n6_ := Aside0.mk (blk_below (qk_ BK269) hb)
     have n7_ := Aside0.mk (blk_below (qk_ BK274) hb)
     have n8_ := Aside0.mk (below_step qB_ hb)
     clear HO261; clear HO267; clear HO273; clear BK255; clear BK256; clear BK269; clear BK274; clear HB; have HO261 := n0_; have HO267 := n1_; have HO273 := n2_; have HO280 := n3_; have BK255 := n4_; have BK256 := n5_; have BK269 := n6_; have BK274 := n7_; have HB := n8_; clear n0_ n1_ n2_ n3_ n4_ n5_ n6_ n7_ n8_; (try clear hb); (try clear hb2); (try clear hk); (try clear hi); (try clear ho0)
     refine hK.out _ _ ⟨(blk_cell BK274.out 0).trans rfl, (blk_cell BK274.out 1).trans rfl, (blk_cell BK256.out 0).trans rfl, (blk_cell BK256.out 1).trans rfl⟩ (fun hHeld => ?_)
     clear hK K
     refine norm_ (a' := ?_) ?_ ?_
     rotate_left
     ·show Act.put _ (some 35) _ = _
      simp only [Act.put, List.setIfInBounds_toArray, List.set_cons_zero, List.set_cons_succ, i64_w, i32_w]
      rfl
     refine pz_ 4 31 (bm 10 31) ?_; refine pz_ 5 36 (bm 10 63) ?_; refine pz_ 6 37 (bm 10 127) ?_
     refine one_ (i := 7) (N := some 9) (bm 10 255) rfl rfl (one_of HT_.out (by kernel_rfl)) (by decide) (fun K hK => ?_)
     refine box_step ?hg (N := 9) ?hd (cs := #[.int .i64 0, .slice none 0 0]) (t := 58) ?hr ?_; (case hd => rfl); (case hg => rfl); (case hr => first | (go_simp; done) | (go_simp; rfl))
     intro gb282 hg w45 hbox hb
     have n0_ := Aside0.mk (Kd.R_below (qR_ HO261) hb)
     have n1_ := Aside0.mk (Kd.R_below (qR_ HO267) hb)
     have n2_ := Aside0.mk (Kd.R_below (qR_ HO273) hb)
     have n3_ := Aside0.mk (Kd.R_below (qR_ HO280) hb)
     have n4_ := Aside0.mk (blk_below (qk_ BK255) hb)
     have n5_ := Aside0.mk (blk_below (qk_ BK256) hb)
     have n6_ := Aside0.mk (blk_below (qk_ BK269) hb)
     have n7_ := Aside0.mk (blk_below (qk_ BK274) hb)
     have n8_ := Aside0.mk (below_step qB_ hb)
     have n9_ := Aside0.mk (hbox)
     have n10_ := Aside0.mk ((qs_ : w.heap.size ≤ gb282))
     have n11_ := Aside0.mk ((qs_ : w.heap.size ≤ gb282))
     have n12_ := Aside0.mk ((by rw [hg]; exact Nat.ne_of_lt (blk_lt (qk_ BK255)) : gb255 ≠ gb282))
     have n13_ := Aside0.mk ((by rw [hg]; exact Nat.ne_of_gt (blk_lt (qk_ BK255)) : gb282 ≠ gb255))
     have n14_ := Aside0.mk ((by rw [hg]; exact Nat.ne_of_lt (blk_lt (qk_ BK256)) : gb256 ≠ gb282))
     have n15_ := Aside0.mk ((by rw [hg]; exact Nat.ne_of_gt (blk_lt (qk_ BK256)) : gb282 ≠ gb256))
     have n16_ := Aside0.mk ((by rw [hg]; exact Nat.ne_of_lt (blk_lt (qk_ BK269)) : gb269 ≠ gb282))
     have n17_ := Aside0.mk ((by rw [hg]; exact Nat.ne_of_gt (blk_lt (qk_ BK269)) : gb282 ≠ gb269))
     have n18_ := Aside0.mk ((by rw [hg]; exact Nat.ne_of_lt (blk_lt (qk_ BK274)) : gb274 ≠ gb282))
     have n19_ := Aside0.mk ((by rw [hg]; exact Nat.ne_of_gt (blk_lt (qk_ BK274)) : gb282 ≠ gb274))
     clear HO261; clear HO267; clear HO273; clear HO280; clear BK255; clear BK256; clear BK269; clear BK274; clear HB; have HO261 := n0_; have HO267 := n1_; have HO273 := n2_; have HO280 := n3_; have BK255 := n4_; have BK256 := n5_; have BK269 := n6_; have BK274 := n7_; have HB := n8_; have BK282 := n9_; have GW282 := n10_; have GE282 := n11_; have NB255_282 := n12_; have NB282_255 := n13_; have NB256_282 := n14_; have NB282_256 := n15_; have NB269_282 := n16_; have NB282_269 := n17_; have NB274_282 := n18_; have NB282_274 := n19_; clear n0_ n1_ n2_ n3_ n4_ n5_ n6_ n7_ n8_ n9_ n10_ n11_ n12_ n13_ n14_ n15_ n16_ n17_ n18_ n19_; clear hb hbox hg
     refine hK.out _ _ ⟨(blk_cell BK274.out 0).trans rfl, (blk_cell BK274.out 1).trans rfl, (blk_cell BK256.out 0).trans rfl, (blk_cell BK256.out 1).trans rfl⟩ (fun hHeld => ?_)
     clear hK K
     refine norm_ (a' := ?_) ?_ ?_
     rotate_left
     ·show Act.put _ (some 9) _ = _
      simp only [Act.put, List.setIfInBounds_toArray, List.set_cons_zero, List.set_cons_succ, i64_w, i32_w]
      rfl
     exact norm_ (by simp only [putAll, Act.put, List.setIfInBounds_toArray, List.set_cons_zero, List.set_cons_succ]) (hCont (v279, gb282) _ ⟨hHeld, (by (with_reducible repeat (first | apply Kd.R_alloc | apply Kd.R_drewN | apply Kd.R_drew)); exact Kd.R_mono HO261.out (fun _ hk => ⟨hk.1.1, ⟨hk.1.2, hk.2⟩⟩)), (by (with_reducible repeat (first | apply Kd.R_alloc | apply Kd.R_drewN | apply Kd.R_drew)); exact Kd.R_mono HO267.out (fun _ hk => ⟨hk.1.1, ⟨hk.1.2, hk.2⟩⟩)), (by (with_reducible repeat (first | apply Kd.R_alloc | apply Kd.R_drewN | apply Kd.R_drew)); exact Kd.R_mono HO273.out (fun _ hk => ⟨hk.1.1, ⟨hk.1.2, hk.2⟩⟩)), (by (with_reducible repeat (first | apply Kd.R_alloc | apply Kd.R_drewN | apply Kd.R_drew)); exact Kd.R_mono HO280.out (fun _ hk => ⟨hk.1.1.2, ⟨hk.1.2, hk.2⟩⟩)), (qk_ BK255), (qk_ BK256), (qk_ BK269), (qk_ BK274), (qk_ BK282), GW282.out, GE282.out, NB255_282.out, NB282_255.out, NB256_282.out, NB282_256.out, NB269_282.out, NB282_269.out, NB274_282.out, NB282_274.out, qB_⟩)
    ·skip
     refine box_step ?hg (N := 9) ?hd (cs := #[.int .i64 0, .slice none 0 0]) (t := 58) ?hr ?_; (case hd => rfl); (case hg => rfl); (case hr => first | (go_simp; done) | (go_simp; rfl))
     intro gb282 hg w44 hbox hb
     have n0_ := Aside0.mk (Kd.R_below (qR_ HO261) hb)
     have n1_ := Aside0.mk (Kd.R_below (qR_ HO267) hb)
     have n2_ := Aside0.mk (Kd.R_below (qR_ HO273) hb)
     have n3_ := Aside0.mk (blk_below (qk_ BK255) hb)
     have n4_ := Aside0.mk (blk_below (qk_ BK256) hb)
     have n5_ := Aside0.mk (blk_below (qk_ BK269) hb)
     have n6_ := Aside0.mk (blk_below (qk_ BK274) hb)
     have n7_ := Aside0.mk (below_step qB_ hb)
     have n8_ := Aside0.mk (hbox)
     have n9_ := Aside0.mk ((qs_ : w.heap.size ≤ gb282))
     have n10_ := Aside0.mk ((qs_ : w.heap.size ≤ gb282))
     have n11_ := Aside0.mk ((by rw [hg]; exact Nat.ne_of_lt (blk_lt (qk_ BK255)) : gb255 ≠ gb282))
     have n12_ := Aside0.mk ((by rw [hg]; exact Nat.ne_of_gt (blk_lt (qk_ BK255)) : gb282 ≠ gb255))
     have n13_ := Aside0.mk ((by rw [hg]; exact Nat.ne_of_lt (blk_lt (qk_ BK256)) : gb256 ≠ gb282))
     have n14_ := Aside0.mk ((by rw [hg]; exact Nat.ne_of_gt (blk_lt (qk_ BK256)) : gb282 ≠ gb256))
     have n15_ := Aside0.mk ((by rw [hg]; exact Nat.ne_of_lt (blk_lt (qk_ BK269)) : gb269 ≠ gb282))
     have n16_ := Aside0.mk ((by rw [hg]; exact Nat.ne_of_gt (blk_lt (qk_ BK269)) : gb282 ≠ gb269))
     have n17_ := Aside0.mk ((by rw [hg]; exact Nat.ne_of_lt (blk_lt (qk_ BK274)) : gb274 ≠ gb282))
     have n18_ := Aside0.mk ((by rw [hg]; exact Nat.ne_of_gt (blk_lt (qk_ BK274)) : gb282 ≠ gb274))
     clear HO261; clear HO267; clear HO273; clear BK255; clear BK256; clear BK269; clear BK274; clear HB; have HO261 := n0_; have HO267 := n1_; have HO273 := n2_; have BK255 := n3_; have BK256 := n4_; have BK269 := n5_; have BK274 := n6_; have HB := n7_; have BK282 := n8_; have GW282 := n9_; have GE282 := n10_; have NB255_282 := n11_; have NB282_255 := n12_; have NB256_282 := n13_; have NB282_256 := n14_; have NB269_282 := n15_; have NB282_269 := n16_; have NB274_282 := n17_; have NB282_274 := n18_; clear n0_ n1_ n2_ n3_ n4_ n5_ n6_ n7_ n8_ n9_ n10_ n11_ n12_ n13_ n14_ n15_ n16_ n17_ n18_; clear hb hbox hg
     refine hK.out _ _ ⟨(blk_cell BK274.out 0).trans rfl, (blk_cell BK274.out 1).trans rfl, (blk_cell BK256.out 0).trans rfl, (blk_cell BK256.out 1).trans rfl⟩ (fun hHeld => ?_)
     clear hK K
     refine norm_ (a' := ?_) ?_ ?_
     rotate_left
     ·show Act.put _ (some 9) _ = _
      simp only [Act.put, List.setIfInBounds_toArray, List.set_cons_zero, List.set_cons_succ, i64_w, i32_w]
      rfl
     refine one_ (i := 3) (N := some 35) (bm 10 143) rfl rfl (one_of HT_.out (by kernel_rfl)) (by decide) (fun K hK => ?_)
     refine goes_ Try.func53 (by kernel_rfl) rfl #[.agg #[.int .i64 t270, .slice Ao40 t271.length co40], .agg #[.int .i64 t275, .int .i64 t276]] (by rfl) rfl rfl (by (try simp only [List.map_toArray, List.map_cons, List.map_nil]); first | done | rfl | (simp only [List.length_drop, List.length_take]; rfl)) ?_
     with_reducible refine (impl_AddEdge.calls k t270 _ _ t271 t275 t276 t277 t278 t281 _ ?side1 ?side2 A15.out).mono ?_
     (case side1 => exact qD_ (Kd.R_reads' HO273.out).2.2)
     (case side2 => exact (Kd.R_reads' HO273.out).2.1)
     rintro e w45 ⟨v279, rfl, ho0, hb⟩
     refine ⟨_, rfl, ?_⟩
     have n0_ := Aside0.mk (Kd.R_elder' (qR_ HO261) (Kd.R_base ho0) hb)
     have n1_ := Aside0.mk (Kd.R_elder' (qR_ HO267) (Kd.R_base ho0) hb)
     have n2_ := Aside0.mk (Kd.R_elder' (qR_ HO273) (Kd.R_base ho0) hb)
     have n3_ := Aside0.mk (Kd.R_lower (Kd.R_new' (Kd.R_new' (Kd.R_new' ho0 (Kd.R_lt (qR_ HO261))) (Kd.R_lt (qR_ HO267))) (Kd.R_lt (qR_ HO273))) (below_size qB_))
     have n4_ := Aside0.mk (blk_below (qk_ BK255) hb)
     have n5_ := Aside0.mk (blk_below (qk_ BK256) hb)
     have n6_ := Aside0.mk (blk_below (qk_ BK269) hb)
     have n7_ := Aside0.mk (blk_below (qk_ BK274) hb)
     have n8_ := Aside0.mk (blk_below (qk_ BK282) hb)
     have n9_ := Aside0.mk (below_step qB_ hb)
     clear HO261; clear HO267; clear HO273; clear BK255; clear BK256; clear BK269; clear BK274; clear BK282; clear HB; have HO261 := n0_; have HO267 := n1_; have HO273 := n2_; have HO280 := n3_; have BK255 := n4_; have BK256 := n5_; have BK269 := n6_; have BK274 := n7_; have BK282 := n8_; have HB := n9_; clear n0_ n1_ n2_ n3_ n4_ n5_ n6_ n7_ n8_ n9_; (try clear hb); (try clear hb2); (try clear hk); (try clear hi); (try clear ho0)
     refine hK.out _ _ ⟨(blk_cell BK274.out 0).trans rfl, (blk_cell BK274.out 1).trans rfl, (blk_cell BK256.out 0).trans rfl, (blk_cell BK256.out 1).trans rfl⟩ (fun hHeld => ?_)
     clear hK K
     refine norm_ (a' := ?_) ?_ ?_
     rotate_left
     ·show Act.put _ (some 35) _ = _
      simp only [Act.put, List.setIfInBounds_toArray, List.set_cons_zero, List.set_cons_succ, i64_w, i32_w]
      rfl
     refine pz_ 4 31 (bm 10 159) ?_; refine pz_ 5 36 (bm 10 191) ?_; refine pz_ 6 37 (bm 10 255) ?_
     exact norm_ (by simp only [putAll, Act.put, List.setIfInBounds_toArray, List.set_cons_zero, List.set_cons_succ]) (hCont (v279, gb282) _ ⟨hHeld, (by (with_reducible repeat (first | apply Kd.R_alloc | apply Kd.R_drewN | apply Kd.R_drew)); exact Kd.R_mono HO261.out (fun _ hk => ⟨hk.1.1, ⟨hk.1.2, hk.2⟩⟩)), (by (with_reducible repeat (first | apply Kd.R_alloc | apply Kd.R_drewN | apply Kd.R_drew)); exact Kd.R_mono HO267.out (fun _ hk => ⟨hk.1.1, ⟨hk.1.2, hk.2⟩⟩)), (by (with_reducible repeat (first | apply Kd.R_alloc | apply Kd.R_drewN | apply Kd.R_drew)); exact Kd.R_mono HO273.out (fun _ hk => ⟨hk.1.1, ⟨hk.1.2, hk.2⟩⟩)), (by (with_reducible repeat (first | apply Kd.R_alloc | apply Kd.R_drewN | apply Kd.R_drew)); exact Kd.R_mono HO280.out (fun _ hk => ⟨hk.1.1.2, ⟨hk.1.2, hk.2⟩⟩)), (qk_ BK255), (qk_ BK256), (qk_ BK269), (qk_ BK274), (qk_ BK282), GW282.out, GE282.out, NB255_282.out, NB282_255.out, NB256_282.out, NB282_256.out, NB269_282.out, NB282_269.out, NB274_282.out, NB282_274.out, qB_⟩)
   ·skip
    refine box_step ?hg (N := 9) ?hd (cs := #[.int .i64 0, .slice none 0 0]) (t := 58) ?hr ?_; (case hd => rfl); (case hg => rfl); (case hr => first | (go_simp; done) | (go_simp; rfl))
    intro gb282 hg w43 hbox hb
    have n0_ := Aside0.mk (Kd.R_below (qR_ HO261) hb)
    have n1_ := Aside0.mk (Kd.R_below (qR_ HO267) hb)
    have n2_ := Aside0.mk (Kd.R_below (qR_ HO273) hb)
    have n3_ := Aside0.mk (blk_below (qk_ BK255) hb)
    have n4_ := Aside0.mk (blk_below (qk_ BK256) hb)
    have n5_ := Aside0.mk (blk_below (qk_ BK269) hb)
    have n6_ := Aside0.mk (blk_below (qk_ BK274) hb)
    have n7_ := Aside0.mk (below_step qB_ hb)
    have n8_ := Aside0.mk (hbox)
    have n9_ := Aside0.mk ((qs_ : w.heap.size ≤ gb282))
    have n10_ := Aside0.mk ((qs_ : w.heap.size ≤ gb282))
    have n11_ := Aside0.mk ((by rw [hg]; exact Nat.ne_of_lt (blk_lt (qk_ BK255)) : gb255 ≠ gb282))
    have n12_ := Aside0.mk ((by rw [hg]; exact Nat.ne_of_gt (blk_lt (qk_ BK255)) : gb282 ≠ gb255))
    have n13_ := Aside0.mk ((by rw [hg]; exact Nat.ne_of_lt (blk_lt (qk_ BK256)) : gb256 ≠ gb282))
    have n14_ := Aside0.mk ((by rw [hg]; exact Nat.ne_of_gt (blk_lt (qk_ BK256)) : gb282 ≠ gb256))
    have n15_ := Aside0.mk ((by rw [hg]; exact Nat.ne_of_lt (blk_lt (qk_ BK269)) : gb269 ≠ gb282))
    have n16_ := Aside0.mk ((by rw [hg]; exact Nat.ne_of_gt (blk_lt (qk_ BK269)) : gb282 ≠ gb269))
    have n17_ := Aside0.mk ((by rw [hg]; exact Nat.ne_of_lt (blk_lt (qk_ BK274)) : gb274 ≠ gb282))
    have n18_ := Aside0.mk ((by rw [hg]; exact Nat.ne_of_gt (blk_lt (qk_ BK274)) : gb282 ≠ gb274))
    clear HO261; clear HO267; clear HO273; clear BK255; clear BK256; clear BK269; clear BK274; clear HB; have HO261 := n0_; have HO267 := n1_; have HO273 := n2_; have BK255 := n3_; have BK256 := n4_; have BK269 := n5_; have BK274 := n6_; have HB := n7_; have BK282 := n8_; have GW282 := n9_; have GE282 := n10_; have NB255_282 := n11_; have NB282_255 := n12_; have NB256_282 := n13_; have NB282_256 := n14_; have NB269_282 := n15_; have NB282_269 := n16_; have NB274_282 := n17_; have NB282_274 := n18_; clear n0_ n1_ n2_ n3_ n4_ n5_ n6_ n7_ n8_ n9_ n10_ n11_ n12_ n13_ n14_ n15_ n16_ n17_ n18_; clear hb hbox hg
    refine hK.out _ _ ⟨(blk_cell BK274.out 0).trans rfl, (blk_cell BK274.out 1).trans rfl, (blk_cell BK256.out 0).trans rfl, (blk_cell BK256.out 1).trans rfl⟩ (fun hHeld => ?_)
    clear hK K
    refine norm_ (a' := ?_) ?_ ?_
    rotate_left
    ·show Act.put _ (some 9) _ = _
     simp only [Act.put, List.setIfInBounds_toArray, List.set_cons_zero, List.set_cons_succ, i64_w, i32_w]
     rfl
    refine one_ (i := 2) (N := some 34) (bm 10 135) rfl rfl (one_of HT_.out (by kernel_rfl)) (by decide) (fun K hK => ?_)
    refine goes_ Try.func48 (by kernel_rfl) rfl #[.agg #[.int .i64 a1_0, .int .i64 a1_1]] (by rfl) rfl rfl (by (try simp only [List.map_toArray, List.map_cons, List.map_nil]); first | done | rfl | (simp only [List.length_drop, List.length_take]; rfl)) ?_
    with_reducible refine (laws_toEdge.calls a1_0 a1_1 t275 t276 _ A14.out).mono ?_
    rintro e w44 ⟨rfl, hb⟩
    refine ⟨_, rfl, ?_⟩
    have n0_ := Aside0.mk (Kd.R_below (qR_ HO261) hb)
    have n1_ := Aside0.mk (Kd.R_below (qR_ HO267) hb)
    have n2_ := Aside0.mk (Kd.R_below (qR_ HO273) hb)
    have n3_ := Aside0.mk (blk_below (qk_ BK255) hb)
    have n4_ := Aside0.mk (blk_below (qk_ BK256) hb)
    have n5_ := Aside0.mk (blk_below (qk_ BK269) hb)
    have n6_ := Aside0.mk (blk_below (qk_ BK274) hb)
    have n7_ := Aside0.mk (blk_below (qk_ BK282) hb)
    have n8_ := Aside0.mk (below_step qB_ hb)
    clear HO261; clear HO267; clear HO273; clear BK255; clear BK256; clear BK269; clear BK274; clear BK282; clear HB; have HO261 := n0_; have HO267 := n1_; have HO273 := n2_; have BK255 := n3_; have BK256 := n4_; have BK269 := n5_; have BK274 := n6_; have BK282 := n7_; have HB := n8_; clear n0_ n1_ n2_ n3_ n4_ n5_ n6_ n7_ n8_; (try clear hb); (try clear hb2); (try clear hk); (try clear hi)
    refine hK.out _ _ ⟨(blk_cell BK274.out 0).trans rfl, (blk_cell BK274.out 1).trans rfl, (blk_cell BK256.out 0).trans rfl, (blk_cell BK256.out 1).trans rfl⟩ (fun hHeld => ?_)
    clear hK K
    refine norm_ (a' := ?_) ?_ ?_
    rotate_left
    ·show Act.put _ (some 34) _ = _
     simp only [Act.put, List.setIfInBounds_toArray, List.set_cons_zero, List.set_cons_succ, i64_w, i32_w]
     rfl
    refine one_ (i := 3) (N := some 35) (bm 10 143) rfl rfl (one_of HT_.out (by kernel_rfl)) (by decide) (fun K hK => ?_)
    refine goes_ Try.func53 (by kernel_rfl) rfl #[.agg #[.int .i64 t270, .slice Ao40 t271.length co40], .agg #[.int .i64 t275, .int .i64 t276]] (by rfl) rfl rfl (by (try simp only [List.map_toArray, List.map_cons, List.map_nil]); first | done | rfl | (simp only [List.length_drop, List.length_take]; rfl)) ?_
    with_reducible refine (impl_AddEdge.calls k t270 _ _ t271 t275 t276 t277 t278 t281 _ ?side1 ?side2 A15.out).mono ?_
    (case side1 => exact qD_ (Kd.R_reads' HO273.out).2.2)
    (case side2 => exact (Kd.R_reads' HO273.out).2.1)
    rintro e w45 ⟨v279, rfl, ho0, hb⟩
    refine ⟨_, rfl, ?_⟩
    have n0_ := Aside0.mk (Kd.R_elder' (qR_ HO261) (Kd.R_base ho0) hb)
    have n1_ := Aside0.mk (Kd.R_elder' (qR_ HO267) (Kd.R_base ho0) hb)
    have n2_ := Aside0.mk (Kd.R_elder' (qR_ HO273) (Kd.R_base ho0) hb)
    have n3_ := Aside0.mk (Kd.R_lower (Kd.R_new' (Kd.R_new' (Kd.R_new' ho0 (Kd.R_lt (qR_ HO261))) (Kd.R_lt (qR_ HO267))) (Kd.R_lt (qR_ HO273))) (below_size qB_))
    have n4_ := Aside0.mk (blk_below (qk_ BK255) hb)
    have n5_ := Aside0.mk (blk_below (qk_ BK256) hb)
    have n6_ := Aside0.mk (blk_below (qk_ BK269) hb)
    have n7_ := Aside0.mk (blk_below (qk_ BK274) hb)
    have n8_ := Aside0.mk (blk_below (qk_ BK282) hb)
    have n9_ := Aside0.mk (below_step qB_ hb)
    clear HO261; clear HO267; clear HO273; clear BK255; clear BK256; clear BK269; clear BK274; clear BK282; clear HB; have HO261 := n0_; have HO267 := n1_; have HO273 := n2_; have HO280 := n3_; have BK255 := n4_; have BK256 := n5_; have BK269 := n6_; have BK274 := n7_; have BK282 := n8_; have HB := n9_; clear n0_ n1_ n2_ n3_ n4_ n5_ n6_ n7_ n8_ n9_; (try clear hb); (try clear hb2); (try clear hk); (try clear hi); (try clear ho0)
    refine hK.out _ _ ⟨(blk_cell BK274.out 0).trans rfl, (blk_cell BK274.out 1).trans rfl, (blk_cell BK256.out 0).trans rfl, (blk_cell BK256.out 1).trans rfl⟩ (fun hHeld => ?_)
    clear hK K
    refine norm_ (a' := ?_) ?_ ?_
    rotate_left
    ·show Act.put _ (some 35) _ = _
     simp only [Act.put, List.setIfInBounds_toArray, List.set_cons_zero, List.set_cons_succ, i64_w, i32_w]
     rfl
    refine pz_ 4 31 (bm 10 159) ?_; refine pz_ 5 36 (bm 10 191) ?_; refine pz_ 6 37 (bm 10 255) ?_
    exact norm_ (by simp only [putAll, Act.put, List.setIfInBounds_toArray, List.set_cons_zero, List.set_cons_succ]) (hCont (v279, gb282) _ ⟨hHeld, (by (with_reducible repeat (first | apply Kd.R_alloc | apply Kd.R_drewN | apply Kd.R_drew)); exact Kd.R_mono HO261.out (fun _ hk => ⟨hk.1.1, ⟨hk.1.2, hk.2⟩⟩)), (by (with_reducible repeat (first | apply Kd.R_alloc | apply Kd.R_drewN | apply Kd.R_drew)); exact Kd.R_mono HO267.out (fun _ hk => ⟨hk.1.1, ⟨hk.1.2, hk.2⟩⟩)), (by (with_reducible repeat (first | apply Kd.R_alloc | apply Kd.R_drewN | apply Kd.R_drew)); exact Kd.R_mono HO273.out (fun _ hk => ⟨hk.1.1, ⟨hk.1.2, hk.2⟩⟩)), (by (with_reducible repeat (first | apply Kd.R_alloc | apply Kd.R_drewN | apply Kd.R_drew)); exact Kd.R_mono HO280.out (fun _ hk => ⟨hk.1.1.2, ⟨hk.1.2, hk.2⟩⟩)), (qk_ BK255), (qk_ BK256), (qk_ BK269), (qk_ BK274), (qk_ BK282), GW282.out, GE282.out, NB255_282.out, NB282_255.out, NB256_282.out, NB282_256.out, NB269_282.out, NB282_269.out, NB274_282.out, NB282_274.out, qB_⟩)
  rintro ⟨v279, gb282⟩ w46 ⟨hS_, h0_, h1_, h2_, h3_, h4_, h5_, h6_, h7_, h8_, h9_, h10_, h11_, h12_, h13_, h14_, h15_, h16_, h17_, h18_, h19_⟩
  have n0_ : Aside0 (Kd.R k79 79 w46 w.heap.size (fun k_ => some k_ ≠ (.slice Ao30 t265.length co30 : Value).ownBlock ∧ some k_ ≠ (.slice Ao40 t271.length co40 : Value).ownBlock ∧ some k_ ≠ (v279 : Value).ownBlock) v260 t259) := ⟨h0_⟩
  have n1_ : Aside0 (Kd.R k79 79 w46 w.heap.size (fun k_ => some k_ ≠ (v260 : Value).ownBlock ∧ some k_ ≠ (.slice Ao40 t271.length co40 : Value).ownBlock ∧ some k_ ≠ (v279 : Value).ownBlock) (.slice Ao30 t265.length co30) t265) := ⟨h1_⟩
  have n2_ : Aside0 (Kd.R k79 79 w46 w.heap.size (fun k_ => some k_ ≠ (v260 : Value).ownBlock ∧ some k_ ≠ (.slice Ao30 t265.length co30 : Value).ownBlock ∧ some k_ ≠ (v279 : Value).ownBlock) (.slice Ao40 t271.length co40) t271) := ⟨h2_⟩
  have n3_ : Aside0 (Kd.R k79 79 w46 w.heap.size (fun k_ => some k_ ≠ (v260 : Value).ownBlock ∧ some k_ ≠ (.slice Ao30 t265.length co30 : Value).ownBlock ∧ some k_ ≠ (.slice Ao40 t271.length co40 : Value).ownBlock) v279 t278) := ⟨h3_⟩
  have n4_ : Aside0 (w46.heap[gb255]? = some (.cells #[.int .i64 a0_0, .slice A0_1 l0_1.length c0_1] 54 (0, 0))) := ⟨h4_⟩
  have n5_ : Aside0 (w46.heap[gb256]? = some (.cells #[.int .i64 a1_0, .int .i64 a1_1] 76 (0, 0))) := ⟨h5_⟩
  have n6_ : Aside0 (w46.heap[gb269]? = some (.cells #[.int .i64 t264, .slice Ao30 t265.length co30] 58 (0, 0))) := ⟨h6_⟩
  have n7_ : Aside0 (w46.heap[gb274]? = some (.cells #[.int .i64 t270, .slice Ao40 t271.length co40] 58 (0, 0))) := ⟨h7_⟩
  have n8_ : Aside0 (w46.heap[gb282]? = some (.cells #[.int .i64 0, .slice none 0 0] 58 (0, 0))) := ⟨h8_⟩
  have n9_ : Aside0 (w.heap.size ≤ gb282) := ⟨h9_⟩
  have n10_ : Aside0 (w.heap.size ≤ gb282) := ⟨h10_⟩
  have n11_ : Aside0 (gb255 ≠ gb282) := ⟨h11_⟩
  have n12_ : Aside0 (gb282 ≠ gb255) := ⟨h12_⟩
  have n13_ : Aside0 (gb256 ≠ gb282) := ⟨h13_⟩
  have n14_ : Aside0 (gb282 ≠ gb256) := ⟨h14_⟩
  have n15_ : Aside0 (gb269 ≠ gb282) := ⟨h15_⟩
  have n16_ : Aside0 (gb282 ≠ gb269) := ⟨h16_⟩
  have n17_ : Aside0 (gb274 ≠ gb282) := ⟨h17_⟩
  have n18_ : Aside0 (gb282 ≠ gb274) := ⟨h18_⟩
  have n19_ : Aside0 (Below w.heap.size w w46) := ⟨h19_⟩
  clear HO261; clear HO267; clear HO273; clear BK255; clear BK256; clear BK269; clear BK274; clear HB; clear h0_ h1_ h2_ h3_ h4_ h5_ h6_ h7_ h8_ h9_ h10_ h11_ h12_ h13_ h14_ h15_ h16_ h17_ h18_ h19_; have HO261 := n0_; have HO267 := n1_; have HO273 := n2_; have HO280 := n3_; have BK255 := n4_; have BK256 := n5_; have BK269 := n6_; have BK274 := n7_; have BK282 := n8_; have GW282 := n9_; have GE282 := n10_; have NB255_282 := n11_; have NB282_255 := n12_; have NB256_282 := n13_; have NB282_256 := n14_; have NB269_282 := n15_; have NB282_269 := n16_; have NB274_282 := n17_; have NB282_274 := n18_; have HB := n19_; clear n0_ n1_ n2_ n3_ n4_ n5_ n6_ n7_ n8_ n9_ n10_ n11_ n12_ n13_ n14_ n15_ n16_ n17_ n18_ n19_
  have hHeld : w46.cell? ⟨gb274, 0, none⟩ = some (.int .i64 t270) ∧ w46.cell? ⟨gb274, 1, none⟩ = some (.slice Ao40 t271.length co40) ∧ w46.cell? ⟨gb256, 0, none⟩ = some (.int .i64 a1_0) ∧ w46.cell? ⟨gb256, 1, none⟩ = some (.int .i64 a1_1) := hS_
  obtain ⟨Ao48, co48, eo48⟩ := Kd.R_slice HO280.out
  (first | subst eo48 | (injection eo48 with f1_ f2_ f3_; have f4_ := f1_.symm; have f5_ := f3_.symm; clear f1_ f2_ f3_; subst f4_; subst f5_))
  refine norm_ (a' := ?_) ?_ ?_
  rotate_left
  ·simp only [putAll, Act.put, List.setIfInBounds_toArray, List.set_cons_zero, List.set_cons_succ]
   rfl
  refine one_ (i := 8) (N := none) (bm 10 511) rfl rfl (one_of HT_.out (by kernel_rfl)) (by decide) (fun K hK => ?_)
  have hs47 : w46.cell? ⟨gb282, 0, none⟩ = some (.int .i64 0) := (blk_cell BK282.out 0).trans rfl
  have hfs47 := blk_frozen BK282.out 0
  have hns47_0 := NB255_282.out; have hns47_1 := NB256_282.out; have hns47_2 := NB269_282.out; have hns47_3 := NB274_282.out; have hms47_0 := NB282_255.out; have hms47_1 := NB282_256.out; have hms47_2 := NB282_269.out; have hms47_3 := NB282_274.out
  have hs49 : w46.cell? ⟨gb282, 1, none⟩ = some (.slice none 0 0) := (blk_cell BK282.out 1).trans rfl
  have hfs49 := blk_frozen BK282.out 1
  have hns49_0 := NB255_282.out; have hns49_1 := NB256_282.out; have hns49_2 := NB269_282.out; have hns49_3 := NB274_282.out; have hms49_0 := NB282_255.out; have hms49_1 := NB282_256.out; have hms49_2 := NB282_269.out; have hms49_3 := NB282_274.out
  refine skip_ (w1 := ?_) (by rfl) rfl ?_ ?_
  rotate_left
  ·go_simp
   rfl
  refine hK.out _ _ ⟨((cell_far (p := ⟨gb282, _, none⟩) NB274_282.out _).trans (((cell_far (p := ⟨gb282, _, none⟩) NB274_282.out _).trans (hHeld.1)))), ((cell_far (p := ⟨gb282, _, none⟩) NB274_282.out _).trans (((cell_far (p := ⟨gb282, _, none⟩) NB274_282.out _).trans (hHeld.2.1)))), ((cell_far (p := ⟨gb282, _, none⟩) NB256_282.out _).trans (((cell_far (p := ⟨gb282, _, none⟩) NB256_282.out _).trans (hHeld.2.2.1)))), ((cell_far (p := ⟨gb282, _, none⟩) NB256_282.out _).trans (((cell_far (p := ⟨gb282, _, none⟩) NB256_282.out _).trans (hHeld.2.2.2))))⟩ (fun hHeld => ?_)
  clear hK K; refine pz_ 9 10 (bm 10 1023) ?_
  refine done_ (done_of HT_.out (by kernel_rfl)) ?_
  go_upto_region 8 with (fail)
  go_cut [46] (fun v46 wc => ∃ (kq : Nat) (x46_15 : Bool), v46 = .bool x46_15 ∧ Aside0 (laws_FnExactAddEdge.j0 kq t268 t281 x46_15 a0_0 l0_1 a1_0 a1_1 t264 t265 t270 t271 t277 t278 = some true) ∧ Aside0 (kq ≤ k) ∧ Aside0 (Kd.R k79 79 wc w.heap.size (fun k_ => some k_ ≠ ((.slice Ao40 t271.length co40) : Value).ownBlock ∧ some k_ ≠ ((.slice Ao48 t278.length co48) : Value).ownBlock) (.slice Ao30 t265.length co30) t265) ∧ Aside0 (Kd.R k79 79 wc w.heap.size (fun k_ => some k_ ≠ ((.slice Ao30 t265.length co30) : Value).ownBlock ∧ some k_ ≠ ((.slice Ao48 t278.length co48) : Value).ownBlock) (.slice Ao40 t271.length co40) t271) ∧ Aside0 (Kd.R k79 79 wc w.heap.size (fun k_ => some k_ ≠ ((.slice Ao30 t265.length co30) : Value).ownBlock ∧ some k_ ≠ ((.slice Ao40 t271.length co40) : Value).ownBlock) (.slice Ao48 t278.length co48) t278) ∧ Aside0 (wc.heap[gb255]? = some (.cells #[.int .i64 a0_0, (.slice A0_1 l0_1.length c0_1)] 54 (0, 0))) ∧ Aside0 (wc.heap[gb256]? = some (.cells #[.int .i64 a1_0, .int .i64 a1_1] 76 (0, 0))) ∧ Aside0 (wc.heap[gb269]? = some (.cells #[.int .i64 t264, (.slice Ao30 t265.length co30)] 58 (0, 0))) ∧ Aside0 (wc.heap[gb274]? = some (.cells #[.int .i64 t270, (.slice Ao40 t271.length co40)] 58 (0, 0))) ∧ Aside0 (wc.heap[gb282]? = some (.cells #[.int .i64 t277, (.slice Ao48 t278.length co48)] 58 (0, 0))) ∧ Aside0 (Below w.heap.size w wc))
  case first =>
   have H := HC16.out; clear HC16
   obtain ⟨t283, A500, H⟩ := Option.bind_eq_some_iff.mp H; have A50 := Aside0.mk A500; clear A500
   by_cases c51 : t283 = true
   ·subst c51
    rw [if_pos rfl] at H; have H' := Aside0.mk H; clear H; have hnb52 := NB282_255.out; have hnc52 := NB255_282.out; have hnb53 := NB282_256.out; have hnc53 := NB256_282.out; have hnb54 := NB282_269.out; have hnc54 := NB269_282.out; have hnb55 := NB282_274.out; have hnc55 := NB274_282.out
    obtain ⟨hcz56_0, hcz56_1, hfz56_0, hfz56_1⟩ := bc2_ BK282
    have hnb57 := NB269_255.out; have hnc57 := NB255_269.out; have hnb58 := NB269_256.out; have hnc58 := NB256_269.out; have hnb59 := NB269_274.out; have hnc59 := NB274_269.out
    obtain ⟨hcz60_0, hcz60_1, hfz60_0, hfz60_1⟩ := bc2_ BK269
    go_wp2_with (first | ((with_reducible refine gate_callee (f := 38) rfl ?_); refine gl_ (some 40) Try.func38 #[.agg #[.int .i64 t277, .slice Ao48 t278.length co48], .agg #[.int .i64 t264, .slice Ao30 t265.length co30]] ?_; (with_reducible refine (laws_eqGraph.calls k t277 _ _ t278 t264 _ _ t265 true _ ?side1 ?side2 ?side3 ?side4 A50.out).mono ?_); (case side1 => refine (Kd.R_reads' (e := 79) (base := w.heap.size) (ok := fun k_ => (some k_ ≠ (v260 : Value).ownBlock ∧ (some k_ ≠ (.slice Ao30 t265.length co30 : Value).ownBlock ∧ some k_ ≠ (.slice Ao40 t271.length co40 : Value).ownBlock))) (n := t278.length) (c := co48) ?_).2.2; exact (by (with_reducible repeat (first | apply Kd.R_alloc | apply Kd.R_drewN | apply Kd.R_drew)); exact (Kd.R_mono (Kd.R_far (p := ⟨gb282, 1, none⟩) (Kd.R_far (p := ⟨gb282, 0, none⟩) (Kd.R_types HO280.out BK282.out (by decide)) (fun _ hk => hk.2) (.int .i64 t277)) (fun _ hk => hk.2) (.slice Ao48 t278.length co48)) (fun _ h_ => h_.1)))); (case side2 => exact (Kd.R_reads' HO280.out).2.1); (case side3 => refine (Kd.R_reads' (e := 79) (base := w.heap.size) (ok := fun k_ => (some k_ ≠ (v260 : Value).ownBlock ∧ (some k_ ≠ (.slice Ao40 t271.length co40 : Value).ownBlock ∧ some k_ ≠ (.slice Ao48 t278.length co48 : Value).ownBlock))) (n := t265.length) (c := co30) ?_).2.2; exact (by (with_reducible repeat (first | apply Kd.R_alloc | apply Kd.R_drewN | apply Kd.R_drew)); exact (Kd.R_mono (Kd.R_far (p := ⟨gb282, 1, none⟩) (Kd.R_far (p := ⟨gb282, 0, none⟩) (Kd.R_types HO267.out BK282.out (by decide)) (fun _ hk => hk.2) (.int .i64 t277)) (fun _ hk => hk.2) (.slice Ao48 t278.length co48)) (fun _ h_ => h_.1)))); (case side4 => exact (Kd.R_reads' HO267.out).2.1); rintro e w61 ⟨rfl, hb⟩; refine ⟨_, rfl, ?_⟩; replace HO261 := Aside0.mk (Kd.R_below (by (with_reducible repeat (first | apply Kd.R_alloc | apply Kd.R_drewN | apply Kd.R_drew)); exact (Kd.R_mono (Kd.R_far (p := ⟨gb282, 1, none⟩) (Kd.R_far (p := ⟨gb282, 0, none⟩) (Kd.R_types HO261.out BK282.out (by decide)) (fun _ hk => hk.2) (.int .i64 t277)) (fun _ hk => hk.2) (.slice Ao48 t278.length co48)) (fun _ h_ => h_.1))) hb); replace HO267 := Aside0.mk (Kd.R_below (by (with_reducible repeat (first | apply Kd.R_alloc | apply Kd.R_drewN | apply Kd.R_drew)); exact (Kd.R_mono (Kd.R_far (p := ⟨gb282, 1, none⟩) (Kd.R_far (p := ⟨gb282, 0, none⟩) (Kd.R_types HO267.out BK282.out (by decide)) (fun _ hk => hk.2) (.int .i64 t277)) (fun _ hk => hk.2) (.slice Ao48 t278.length co48)) (fun _ h_ => h_.1))) hb); replace HO273 := Aside0.mk (Kd.R_below (by (with_reducible repeat (first | apply Kd.R_alloc | apply Kd.R_drewN | apply Kd.R_drew)); exact (Kd.R_mono (Kd.R_far (p := ⟨gb282, 1, none⟩) (Kd.R_far (p := ⟨gb282, 0, none⟩) (Kd.R_types HO273.out BK282.out (by decide)) (fun _ hk => hk.2) (.int .i64 t277)) (fun _ hk => hk.2) (.slice Ao48 t278.length co48)) (fun _ h_ => h_.1))) hb); replace HO280 := Aside0.mk (Kd.R_below (by (with_reducible repeat (first | apply Kd.R_alloc | apply Kd.R_drewN | apply Kd.R_drew)); exact (Kd.R_mono (Kd.R_far (p := ⟨gb282, 1, none⟩) (Kd.R_far (p := ⟨gb282, 0, none⟩) (Kd.R_types HO280.out BK282.out (by decide)) (fun _ hk => hk.2) (.int .i64 t277)) (fun _ hk => hk.2) (.slice Ao48 t278.length co48)) (fun _ h_ => h_.1))) hb); replace BK255 := Aside0.mk (blk_below (g := gb255) (o := .cells #[.int .i64 a0_0, .slice A0_1 l0_1.length c0_1] 54 (0, 0)) (by (with_reducible repeat (first | refine blk_drewN ?_ _ | refine blk_drew ?_ | refine blk_alloc ?_ _)); refine blk_far ?_ NB255_282.out _; (with_reducible repeat (first | refine blk_drewN ?_ _ | refine blk_drew ?_ | refine blk_alloc ?_ _)); refine blk_far ?_ NB255_282.out _; (with_reducible repeat (first | refine blk_drewN ?_ _ | refine blk_drew ?_ | refine blk_alloc ?_ _)); exact BK255.out) hb); replace BK256 := Aside0.mk (blk_below (g := gb256) (o := .cells #[.int .i64 a1_0, .int .i64 a1_1] 76 (0, 0)) (by (with_reducible repeat (first | refine blk_drewN ?_ _ | refine blk_drew ?_ | refine blk_alloc ?_ _)); refine blk_far ?_ NB256_282.out _; (with_reducible repeat (first | refine blk_drewN ?_ _ | refine blk_drew ?_ | refine blk_alloc ?_ _)); refine blk_far ?_ NB256_282.out _; (with_reducible repeat (first | refine blk_drewN ?_ _ | refine blk_drew ?_ | refine blk_alloc ?_ _)); exact BK256.out) hb); replace BK269 := Aside0.mk (blk_below (g := gb269) (o := .cells #[.int .i64 t264, .slice Ao30 t265.length co30] 58 (0, 0)) (by (with_reducible repeat (first | refine blk_drewN ?_ _ | refine blk_drew ?_ | refine blk_alloc ?_ _)); refine blk_far ?_ NB269_282.out _; (with_reducible repeat (first | refine blk_drewN ?_ _ | refine blk_drew ?_ | refine blk_alloc ?_ _)); refine blk_far ?_ NB269_282.out _; (with_reducible repeat (first | refine blk_drewN ?_ _ | refine blk_drew ?_ | refine blk_alloc ?_ _)); exact BK269.out) hb); replace BK274 := Aside0.mk (blk_below (g := gb274) (o := .cells #[.int .i64 t270, .slice Ao40 t271.length co40] 58 (0, 0)) (by (with_reducible repeat (first | refine blk_drewN ?_ _ | refine blk_drew ?_ | refine blk_alloc ?_ _)); refine blk_far ?_ NB274_282.out _; (with_reducible repeat (first | refine blk_drewN ?_ _ | refine blk_drew ?_ | refine blk_alloc ?_ _)); refine blk_far ?_ NB274_282.out _; (with_reducible repeat (first | refine blk_drewN ?_ _ | refine blk_drew ?_ | refine blk_alloc ?_ _)); exact BK274.out) hb); replace BK282 := Aside0.mk (blk_below (g := gb282) (o := .cells #[.int .i64 t277, .slice Ao48 t278.length co48] 58 (0, 0)) (by (with_reducible repeat (first | refine blk_drewN ?_ _ | refine blk_drew ?_ | refine blk_alloc ?_ _)); refine blk_put (cs := #[.int .i64 t277, .slice none 0 0]) ?_ 1 _ rfl; (with_reducible repeat (first | refine blk_drewN ?_ _ | refine blk_drew ?_ | refine blk_alloc ?_ _)); refine blk_put (cs := #[.int .i64 0, .slice none 0 0]) ?_ 0 _ rfl; (with_reducible repeat (first | refine blk_drewN ?_ _ | refine blk_drew ?_ | refine blk_alloc ?_ _)); exact BK282.out) hb); replace HB := Aside0.mk (below_step qB_ hb); (try clear hb); (try clear hb2); (try clear hk); (try clear hi)))
    go_meet
    case rel => exact ⟨_, ((t281 != t268)), qe_, H', ⟨qo_⟩, ⟨by (with_reducible repeat (first | apply Kd.R_alloc | apply Kd.R_drewN | apply Kd.R_drew)); exact Kd.R_mono HO267.out (fun _ hk => ⟨hk.2.1, hk.2.2⟩)⟩, ⟨by (with_reducible repeat (first | apply Kd.R_alloc | apply Kd.R_drewN | apply Kd.R_drew)); exact Kd.R_mono HO273.out (fun _ hk => ⟨hk.2.1, hk.2.2⟩)⟩, ⟨by (with_reducible repeat (first | apply Kd.R_alloc | apply Kd.R_drewN | apply Kd.R_drew)); exact Kd.R_mono HO280.out (fun _ hk => ⟨hk.2.1, hk.2.2⟩)⟩, ⟨qk_ BK255⟩, ⟨qk_ BK256⟩, ⟨qk_ BK269⟩, ⟨qk_ BK274⟩, ⟨qk_ BK282⟩, ⟨qB_⟩⟩
   ·replace c51 := Bool.eq_false_iff.mpr c51
    subst c51
    rw [if_neg (show ¬ (false = true) by decide)] at H; have H' := Aside0.mk H; clear H; have hnb62 := NB282_255.out; have hnc62 := NB255_282.out; have hnb63 := NB282_256.out; have hnc63 := NB256_282.out; have hnb64 := NB282_269.out; have hnc64 := NB269_282.out; have hnb65 := NB282_274.out; have hnc65 := NB274_282.out
    obtain ⟨hcz66_0, hcz66_1, hfz66_0, hfz66_1⟩ := bc2_ BK282
    have hnb67 := NB269_255.out; have hnc67 := NB255_269.out; have hnb68 := NB269_256.out; have hnc68 := NB256_269.out; have hnb69 := NB269_274.out; have hnc69 := NB274_269.out
    obtain ⟨hcz70_0, hcz70_1, hfz70_0, hfz70_1⟩ := bc2_ BK269
    go_wp2_with (first | ((with_reducible refine gate_callee (f := 38) rfl ?_); refine gl_ (some 40) Try.func38 #[.agg #[.int .i64 t277, .slice Ao48 t278.length co48], .agg #[.int .i64 t264, .slice Ao30 t265.length co30]] ?_; (with_reducible refine (laws_eqGraph.calls k t277 _ _ t278 t264 _ _ t265 false _ ?side1 ?side2 ?side3 ?side4 A50.out).mono ?_); (case side1 => refine (Kd.R_reads' (e := 79) (base := w.heap.size) (ok := fun k_ => (some k_ ≠ (v260 : Value).ownBlock ∧ (some k_ ≠ (.slice Ao30 t265.length co30 : Value).ownBlock ∧ some k_ ≠ (.slice Ao40 t271.length co40 : Value).ownBlock))) (n := t278.length) (c := co48) ?_).2.2; exact (by (with_reducible repeat (first | apply Kd.R_alloc | apply Kd.R_drewN | apply Kd.R_drew)); exact (Kd.R_mono (Kd.R_far (p := ⟨gb282, 1, none⟩) (Kd.R_far (p := ⟨gb282, 0, none⟩) (Kd.R_types HO280.out BK282.out (by decide)) (fun _ hk => hk.2) (.int .i64 t277)) (fun _ hk => hk.2) (.slice Ao48 t278.length co48)) (fun _ h_ => h_.1)))); (case side2 => exact (Kd.R_reads' HO280.out).2.1); (case side3 => refine (Kd.R_reads' (e := 79) (base := w.heap.size) (ok := fun k_ => (some k_ ≠ (v260 : Value).ownBlock ∧ (some k_ ≠ (.slice Ao40 t271.length co40 : Value).ownBlock ∧ some k_ ≠ (.slice Ao48 t278.length co48 : Value).ownBlock))) (n := t265.length) (c := co30) ?_).2.2; exact (by (with_reducible repeat (first | apply Kd.R_alloc | apply Kd.R_drewN | apply Kd.R_drew)); exact (Kd.R_mono (Kd.R_far (p := ⟨gb282, 1, none⟩) (Kd.R_far (p := ⟨gb282, 0, none⟩) (Kd.R_types HO267.out BK282.out (by decide)) (fun _ hk => hk.2) (.int .i64 t277)) (fun _ hk => hk.2) (.slice Ao48 t278.length co48)) (fun _ h_ => h_.1)))); (case side4 => exact (Kd.R_reads' HO267.out).2.1); rintro e w71 ⟨rfl, hb⟩; refine ⟨_, rfl, ?_⟩; replace HO261 := Aside0.mk (Kd.R_below (by (with_reducible repeat (first | apply Kd.R_alloc | apply Kd.R_drewN | apply Kd.R_drew)); exact (Kd.R_mono (Kd.R_far (p := ⟨gb282, 1, none⟩) (Kd.R_far (p := ⟨gb282, 0, none⟩) (Kd.R_types HO261.out BK282.out (by decide)) (fun _ hk => hk.2) (.int .i64 t277)) (fun _ hk => hk.2) (.slice Ao48 t278.length co48)) (fun _ h_ => h_.1))) hb); replace HO267 := Aside0.mk (Kd.R_below (by (with_reducible repeat (first | apply Kd.R_alloc | apply Kd.R_drewN | apply Kd.R_drew)); exact (Kd.R_mono (Kd.R_far (p := ⟨gb282, 1, none⟩) (Kd.R_far (p := ⟨gb282, 0, none⟩) (Kd.R_types HO267.out BK282.out (by decide)) (fun _ hk => hk.2) (.int .i64 t277)) (fun _ hk => hk.2) (.slice Ao48 t278.length co48)) (fun _ h_ => h_.1))) hb); replace HO273 := Aside0.mk (Kd.R_below (by (with_reducible repeat (first | apply Kd.R_alloc | apply Kd.R_drewN | apply Kd.R_drew)); exact (Kd.R_mono (Kd.R_far (p := ⟨gb282, 1, none⟩) (Kd.R_far (p := ⟨gb282, 0, none⟩) (Kd.R_types HO273.out BK282.out (by decide)) (fun _ hk => hk.2) (.int .i64 t277)) (fun _ hk => hk.2) (.slice Ao48 t278.length co48)) (fun _ h_ => h_.1))) hb); replace HO280 := Aside0.mk (Kd.R_below (by (with_reducible repeat (first | apply Kd.R_alloc | apply Kd.R_drewN | apply Kd.R_drew)); exact (Kd.R_mono (Kd.R_far (p := ⟨gb282, 1, none⟩) (Kd.R_far (p := ⟨gb282, 0, none⟩) (Kd.R_types HO280.out BK282.out (by decide)) (fun _ hk => hk.2) (.int .i64 t277)) (fun _ hk => hk.2) (.slice Ao48 t278.length co48)) (fun _ h_ => h_.1))) hb); replace BK255 := Aside0.mk (blk_below (g := gb255) (o := .cells #[.int .i64 a0_0, .slice A0_1 l0_1.length c0_1] 54 (0, 0)) (by (with_reducible repeat (first | refine blk_drewN ?_ _ | refine blk_drew ?_ | refine blk_alloc ?_ _)); refine blk_far ?_ NB255_282.out _; (with_reducible repeat (first | refine blk_drewN ?_ _ | refine blk_drew ?_ | refine blk_alloc ?_ _)); refine blk_far ?_ NB255_282.out _; (with_reducible repeat (first | refine blk_drewN ?_ _ | refine blk_drew ?_ | refine blk_alloc ?_ _)); exact BK255.out) hb); replace BK256 := Aside0.mk (blk_below (g := gb256) (o := .cells #[.int .i64 a1_0, .int .i64 a1_1] 76 (0, 0)) (by (with_reducible repeat (first | refine blk_drewN ?_ _ | refine blk_drew ?_ | refine blk_alloc ?_ _)); refine blk_far ?_ NB256_282.out _; (with_reducible repeat (first | refine blk_drewN ?_ _ | refine blk_drew ?_ | refine blk_alloc ?_ _)); refine blk_far ?_ NB256_282.out _; (with_reducible repeat (first | refine blk_drewN ?_ _ | refine blk_drew ?_ | refine blk_alloc ?_ _)); exact BK256.out) hb); replace BK269 := Aside0.mk (blk_below (g := gb269) (o := .cells #[.int .i64 t264, .slice Ao30 t265.length co30] 58 (0, 0)) (by (with_reducible repeat (first | refine blk_drewN ?_ _ | refine blk_drew ?_ | refine blk_alloc ?_ _)); refine blk_far ?_ NB269_282.out _; (with_reducible repeat (first | refine blk_drewN ?_ _ | refine blk_drew ?_ | refine blk_alloc ?_ _)); refine blk_far ?_ NB269_282.out _; (with_reducible repeat (first | refine blk_drewN ?_ _ | refine blk_drew ?_ | refine blk_alloc ?_ _)); exact BK269.out) hb); replace BK274 := Aside0.mk (blk_below (g := gb274) (o := .cells #[.int .i64 t270, .slice Ao40 t271.length co40] 58 (0, 0)) (by (with_reducible repeat (first | refine blk_drewN ?_ _ | refine blk_drew ?_ | refine blk_alloc ?_ _)); refine blk_far ?_ NB274_282.out _; (with_reducible repeat (first | refine blk_drewN ?_ _ | refine blk_drew ?_ | refine blk_alloc ?_ _)); refine blk_far ?_ NB274_282.out _; (with_reducible repeat (first | refine blk_drewN ?_ _ | refine blk_drew ?_ | refine blk_alloc ?_ _)); exact BK274.out) hb); replace BK282 := Aside0.mk (blk_below (g := gb282) (o := .cells #[.int .i64 t277, .slice Ao48 t278.length co48] 58 (0, 0)) (by (with_reducible repeat (first | refine blk_drewN ?_ _ | refine blk_drew ?_ | refine blk_alloc ?_ _)); refine blk_put (cs := #[.int .i64 t277, .slice none 0 0]) ?_ 1 _ rfl; (with_reducible repeat (first | refine blk_drewN ?_ _ | refine blk_drew ?_ | refine blk_alloc ?_ _)); refine blk_put (cs := #[.int .i64 0, .slice none 0 0]) ?_ 0 _ rfl; (with_reducible repeat (first | refine blk_drewN ?_ _ | refine blk_drew ?_ | refine blk_alloc ?_ _)); exact BK282.out) hb); replace HB := Aside0.mk (below_step qB_ hb); (try clear hb); (try clear hb2); (try clear hk); (try clear hi)))
    go_meet
    case rel => exact ⟨_, (true), qe_, H', ⟨qo_⟩, ⟨by (with_reducible repeat (first | apply Kd.R_alloc | apply Kd.R_drewN | apply Kd.R_drew)); exact Kd.R_mono HO267.out (fun _ hk => ⟨hk.2.1, hk.2.2⟩)⟩, ⟨by (with_reducible repeat (first | apply Kd.R_alloc | apply Kd.R_drewN | apply Kd.R_drew)); exact Kd.R_mono HO273.out (fun _ hk => ⟨hk.2.1, hk.2.2⟩)⟩, ⟨by (with_reducible repeat (first | apply Kd.R_alloc | apply Kd.R_drewN | apply Kd.R_drew)); exact Kd.R_mono HO280.out (fun _ hk => ⟨hk.2.1, hk.2.2⟩)⟩, ⟨qk_ BK255⟩, ⟨qk_ BK256⟩, ⟨qk_ BK269⟩, ⟨qk_ BK274⟩, ⟨qk_ BK282⟩, ⟨qB_⟩⟩
  case rest =>
   clear HC16; (try clear p2); (try clear c3); (try clear c4); (try clear c5); (try clear c6); (try clear c38); (try clear c48); (try clear c51); (try clear c52); (try clear c53); (try clear c54); (try clear c55); (try clear c57); (try clear c58); (try clear c59); (try clear c62); (try clear c63); (try clear c64); (try clear c65); (try clear c67); (try clear c68); (try clear c69); (try clear hcz56_0); (try clear hcz56_1); (try clear hcz60_0); (try clear hcz60_1); (try clear hcz66_0); (try clear hcz66_1); (try clear hcz70_0); (try clear hcz70_1); (try clear hfz56_0); (try clear hfz56_1); (try clear hfz60_0); (try clear hfz60_1); (try clear hfz66_0); (try clear hfz66_1); (try clear hfz70_0); (try clear hfz70_1)
   obtain ⟨kq, x46_15, rfl, HA, HJ15, HO_270001, HO_275001, HO_283001, BK255, BK256, BK269, BK274, BK282, HB⟩ := hcut
   cases kq with
   | zero => exact absurd HA.out (by simp [laws_FnExactAddEdge.j0])
   | succ kj15 =>
    have H := HA.out; clear HA
    simp only [laws_FnExactAddEdge.j0] at H
    by_cases c72 : x46_15 = true
    ·subst c72
     rw [if_pos rfl] at H
     exact absurd (Option.some.inj H) (by decide)
    ·replace c72 := Bool.eq_false_iff.mpr c72
     subst c72
     rw [if_neg (show ¬ (false = true) by decide)] at H
     replace H := Option.bind_eq_some_iff.mp H
     obtain ⟨⟨t284, t285⟩, A730, H⟩ := H
     replace H : ((laws_eqGraph.f kj15 t270 t271 t284 t285).bind fun t288 => (if t288 = true then ((laws_markGraph.f kj15 t270 t271 1).bind fun bt289 => (if bt289.1 < 0 then (laws_FnExactAddEdge.j1 kj15 t268 true a0_0 l0_1 a1_0 a1_1 t264 t265 t277 t278) else ((laws_eqGraph.f kj15 t277 t278 t264 t265).bind fun t291 => (if t291 = true then (laws_FnExactAddEdge.j1 kj15 t268 (t281 != t268) a0_0 l0_1 a1_0 a1_1 t264 t265 t277 t278) else (laws_FnExactAddEdge.j1 kj15 t268 true a0_0 l0_1 a1_0 a1_1 t264 t265 t277 t278))))) else (some false))) = some true := H
     have A73 := Aside0.mk A730
     clear A730
     obtain ⟨t288, A740, H⟩ := Option.bind_eq_some_iff.mp H; have A74 := Aside0.mk A740; clear A740
     by_cases c75 : t288 = true
     ·subst c75
      rw [if_pos rfl] at H
      replace H := Option.bind_eq_some_iff.mp H
      obtain ⟨⟨t289, t290⟩, A760, H⟩ := H
      replace H : (if t289 < 0 then (laws_FnExactAddEdge.j1 kj15 t268 true a0_0 l0_1 a1_0 a1_1 t264 t265 t277 t278) else ((laws_eqGraph.f kj15 t277 t278 t264 t265).bind fun t291 => (if t291 = true then (laws_FnExactAddEdge.j1 kj15 t268 (t281 != t268) a0_0 l0_1 a1_0 a1_1 t264 t265 t277 t278) else (laws_FnExactAddEdge.j1 kj15 t268 true a0_0 l0_1 a1_0 a1_1 t264 t265 t277 t278)))) = some true := H
      have A76 := Aside0.mk A760
      clear A760
      have HC77 := Aside0.mk H
      clear H
      try go_wp2
      have n0_ := Aside0.mk (Kd.R_drew HO_270001.out)
      have n1_ := Aside0.mk (Kd.R_drew HO_275001.out)
      have n2_ := Aside0.mk (Kd.R_drew HO_283001.out)
      have n3_ := Aside0.mk (blk_drew BK255.out)
      have n4_ := Aside0.mk (blk_drew BK256.out)
      have n5_ := Aside0.mk (blk_drew BK269.out)
      have n6_ := Aside0.mk (blk_drew BK274.out)
      have n7_ := Aside0.mk (blk_drew BK282.out)
      have n8_ := Aside0.mk (below_drew1 HB.out)
      clear HO_270001; clear HO_275001; clear HO_283001; clear BK255; clear BK256; clear BK269; clear BK274; clear BK282; clear HB; have HO_270001 := n0_; have HO_275001 := n1_; have HO_283001 := n2_; have BK255 := n3_; have BK256 := n4_; have BK269 := n5_; have BK274 := n6_; have BK282 := n7_; have HB := n8_; clear n0_ n1_ n2_ n3_ n4_ n5_ n6_ n7_ n8_
      refine start_ (n := 5) (S := fun w' => w'.cell? ⟨gb274, 0, none⟩ = some (.int .i64 t270) ∧ w'.cell? ⟨gb274, 1, none⟩ = some (.slice Ao40 t271.length co40) ∧ w'.cell? ⟨gb255, 0, none⟩ = some (.int .i64 a0_0) ∧ w'.cell? ⟨gb255, 1, none⟩ = some (.slice A0_1 l0_1.length c0_1)) (ds := []) (bm 5 0) (by kernel_rfl) rfl (by kernel_rfl) ⟨(blk_cell BK274.out 0).trans rfl, (blk_cell BK274.out 1).trans rfl, (blk_cell BK255.out 0).trans rfl, (blk_cell BK255.out 1).trans rfl⟩ (fun hHeld => ?_)
      generalize wc.drew = w78 at HO_270001 HO_275001 HO_283001 BK255 BK256 BK269 BK274 BK282 HB hHeld ⊢
      refine take_ (i := 0) (N := some 47) (v := ?_) (a' := ?_) (bm 5 1) rfl rfl (by kernel_rfl) (fun _ _ _ h => h) (Or.inl ⟨by rfl, ?_⟩) hHeld ?_ ?_
      rotate_left
      ·rintro w' ⟨s0, s1, s2, s3⟩
       go_simp
       with_reducible rfl
      rotate_left
      ·simp only [Act.put, List.setIfInBounds_toArray, List.set_cons_zero, List.set_cons_succ, i64_w, i32_w]
       rfl
      refine take_ (i := 1) (N := some 48) (v := ?_) (a' := ?_) (bm 5 3) rfl rfl (by kernel_rfl) (fun _ _ _ h => h) (Or.inl ⟨by rfl, ?_⟩) hHeld ?_ ?_
      rotate_left
      ·rintro w' ⟨s0, s1, s2, s3⟩
       go_simp
       with_reducible rfl
      rotate_left
      ·simp only [Act.put, List.setIfInBounds_toArray, List.set_cons_zero, List.set_cons_succ, i64_w, i32_w]
       rfl
      refine one_ (i := 2) (N := some 49) (bm 5 7) rfl rfl (by kernel_rfl) (by decide) (fun K hK => ?_)
      refine goes_ Try.func36 (by kernel_rfl) rfl #[.agg #[.int .i64 a0_0, .slice A0_1 l0_1.length c0_1]] (by rfl) rfl rfl (by (try simp only [List.map_toArray, List.map_cons, List.map_nil]); first | done | rfl | (simp only [List.length_drop, List.length_take]; rfl)) ?_
      with_reducible refine (laws_toGraph.calls kj15 a0_0 _ _ l0_1 t284 t285 _ ?side1 ?side2 A73.out).mono ?_
      (case side1 => exact qC_ HR0_1 HB)
      (case side2 => exact HC0_1.out)
      rintro e w79 ⟨v286, rfl, ho0, hb⟩
      refine ⟨_, rfl, ?_⟩
      have n0_ := Aside0.mk (Kd.R_elder' (qR_ HO_270001) (Kd.R_base ho0) hb)
      have n1_ := Aside0.mk (Kd.R_elder' (qR_ HO_275001) (Kd.R_base ho0) hb)
      have n2_ := Aside0.mk (Kd.R_elder' (qR_ HO_283001) (Kd.R_base ho0) hb)
      have n3_ := Aside0.mk (Kd.R_lower (Kd.R_new' (Kd.R_new' (Kd.R_new' ho0 (Kd.R_lt (qR_ HO_270001))) (Kd.R_lt (qR_ HO_275001))) (Kd.R_lt (qR_ HO_283001))) (below_size qB_))
      have n4_ := Aside0.mk (blk_below (qk_ BK255) hb)
      have n5_ := Aside0.mk (blk_below (qk_ BK256) hb)
      have n6_ := Aside0.mk (blk_below (qk_ BK269) hb)
      have n7_ := Aside0.mk (blk_below (qk_ BK274) hb)
      have n8_ := Aside0.mk (blk_below (qk_ BK282) hb)
      have n9_ := Aside0.mk (below_step qB_ hb)
      clear HO_270001; clear HO_275001; clear HO_283001; clear BK255; clear BK256; clear BK269; clear BK274; clear BK282; clear HB; have HO_270001 := n0_; have HO_275001 := n1_; have HO_283001 := n2_; have HO287 := n3_; have BK255 := n4_; have BK256 := n5_; have BK269 := n6_; have BK274 := n7_; have BK282 := n8_; have HB := n9_; clear n0_ n1_ n2_ n3_ n4_ n5_ n6_ n7_ n8_ n9_; (try clear hb); (try clear hb2); (try clear hk); (try clear hi); (try clear ho0)
      obtain ⟨Ao80, co80, eo80⟩ := Kd.R_slice HO287.out
      (first | subst eo80 | (injection eo80 with f1_ f2_ f3_; have f4_ := f1_.symm; have f5_ := f3_.symm; clear f1_ f2_ f3_; subst f4_; subst f5_))
      refine hK.out _ _ ⟨(blk_cell BK274.out 0).trans rfl, (blk_cell BK274.out 1).trans rfl, (blk_cell BK255.out 0).trans rfl, (blk_cell BK255.out 1).trans rfl⟩ (fun hHeld => ?_)
      clear hK K
      refine norm_ (a' := ?_) ?_ ?_
      rotate_left
      ·show Act.put _ (some 49) _ = _
       simp only [Act.put, List.setIfInBounds_toArray, List.set_cons_zero, List.set_cons_succ, i64_w, i32_w]
       rfl
      refine one_ (i := 3) (N := some 50) (bm 5 15) rfl rfl (by kernel_rfl) (by decide) (fun K hK => ?_)
      refine goes_ Try.func38 (by kernel_rfl) rfl #[.agg #[.int .i64 t270, .slice Ao40 t271.length co40], .agg #[.int .i64 t284, .slice Ao80 t285.length co80]] (by rfl) rfl rfl (by (try simp only [List.map_toArray, List.map_cons, List.map_nil]); first | done | rfl | (simp only [List.length_drop, List.length_take]; rfl)) ?_
      with_reducible refine (laws_eqGraph.calls kj15 t270 _ _ t271 t284 _ _ t285 true _ ?side1 ?side2 ?side3 ?side4 A74.out).mono ?_
      (case side1 => exact qD_ (Kd.R_reads' HO_275001.out).2.2)
      (case side2 => exact (Kd.R_reads' HO_275001.out).2.1)
      (case side3 => exact qD_ (Kd.R_reads' HO287.out).2.2)
      (case side4 => exact (Kd.R_reads' HO287.out).2.1)
      rintro e w81 ⟨rfl, hb⟩
      refine ⟨_, rfl, ?_⟩
      have n0_ := Aside0.mk (Kd.R_below (qR_ HO_270001) hb)
      have n1_ := Aside0.mk (Kd.R_below (qR_ HO_275001) hb)
      have n2_ := Aside0.mk (Kd.R_below (qR_ HO_283001) hb)
      have n3_ := Aside0.mk (Kd.R_below (qR_ HO287) hb)
      have n4_ := Aside0.mk (blk_below (qk_ BK255) hb)
      have n5_ := Aside0.mk (blk_below (qk_ BK256) hb)
      have n6_ := Aside0.mk (blk_below (qk_ BK269) hb)
      have n7_ := Aside0.mk (blk_below (qk_ BK274) hb)
      have n8_ := Aside0.mk (blk_below (qk_ BK282) hb)
      have n9_ := Aside0.mk (below_step qB_ hb)
      clear HO_270001; clear HO_275001; clear HO_283001; clear HO287; clear BK255; clear BK256; clear BK269; clear BK274; clear BK282; clear HB; have HO_270001 := n0_; have HO_275001 := n1_; have HO_283001 := n2_; have HO287 := n3_; have BK255 := n4_; have BK256 := n5_; have BK269 := n6_; have BK274 := n7_; have BK282 := n8_; have HB := n9_; clear n0_ n1_ n2_ n3_ n4_ n5_ n6_ n7_ n8_ n9_; (try clear hb); (try clear hb2); (try clear hk); (try clear hi)
      refine hK.out _ _ ⟨(blk_cell BK274.out 0).trans rfl, (blk_cell BK274.out 1).trans rfl, (blk_cell BK255.out 0).trans rfl, (blk_cell BK255.out 1).trans rfl⟩ (fun hHeld => ?_)
      clear hK K
      refine norm_ (a' := ?_) ?_ ?_
      rotate_left
      ·show Act.put _ (some 50) _ = _
       simp only [Act.put, List.setIfInBounds_toArray, List.set_cons_zero, List.set_cons_succ, i64_w, i32_w]
       rfl
      refine pure_ (i := 4) (N := some 51) (v := ?_) (a' := ?_) (bm 5 31) rfl rfl (by kernel_rfl) (fun _ _ _ h => h) (Or.inl ⟨by rfl, ?_⟩) ?_ ?_
      rotate_left
      ·intro w'
       go_simp
       with_reducible rfl
      rotate_left
      ·simp only [Act.put, List.setIfInBounds_toArray, List.set_cons_zero, List.set_cons_succ, i64_w, i32_w]
       rfl
      refine done_ (by kernel_rfl) ?_
      have hnb82 := NB274_255.out; have hnc82 := NB255_274.out; have hnb83 := NB274_256.out; have hnc83 := NB256_274.out; have hnb84 := NB274_269.out; have hnc84 := NB269_274.out; have hnb85 := NB274_282.out; have hnc85 := NB282_274.out
      obtain ⟨hcz86_0, hcz86_1, hfz86_0, hfz86_1⟩ := bc2_ BK274
      go_upto_region 14 with (first | ((with_reducible refine gate_callee (f := 45) rfl ?_); refine gl_ (some 54) Try.func45 #[.agg #[.int .i64 t270, .slice Ao40 t271.length co40], .int .i64 1] ?_; (with_reducible refine (laws_markGraph.calls kj15 t270 (fun k_ => some k_ = (.slice Ao40 t271.length co40 : Value).ownBlock) (.slice Ao40 t271.length co40) t271 1 t289 t290 w _ ?side1 ?side2 A76.out).mono ?_); (case side1 => repeat (first | (with_reducible first | exact HB.out | apply below_alloc | apply pw_below_drewN | apply below_drew1 | refine below_set ?_ GE255.out | refine below_set ?_ GE256.out | refine below_set ?_ GE269.out | refine below_set ?_ GE274.out | refine below_set ?_ GE282.out) | exact HB.out)); (case side2 => exact Kd.R_tight rfl HO_275001.out); rintro e w87 ⟨rfl, hy0, hb, hkp⟩; refine ⟨_, rfl, ?_⟩; have n0_ := Aside0.mk (Kd.R_mono (ok' := fun k_ => some k_ ≠ (.slice Ao40 t271.length co40 : Value).ownBlock ∧ some k_ ≠ (.slice Ao48 t278.length co48 : Value).ownBlock ∧ some k_ ≠ (.slice Ao80 t285.length co80 : Value).ownBlock) (Kd.R_keptB (HO_270001.out) hkp (fun k_ hk_ hs_ => by first | exact (hk_.1.1) hs_ | exact (hk_.1) hs_ | exact (hk_.2) hs_ | exact (hk_.1.1) hs_ | exact (hk_.1.2) hs_ | exact (hk_.2.1) hs_ | exact (hk_.2.2) hs_ | exact (hk_.1.1.1) hs_ | exact (hk_.1.1.2) hs_ | exact (hk_.1.2.1) hs_ | exact (hk_.1.2.2) hs_ | exact (hk_.2.1.1) hs_ | exact (hk_.2.1.2) hs_ | exact (hk_.2.2.1) hs_ | exact (hk_.2.2.2) hs_ | exact (hk_.1.1.1.1) hs_ | exact (hk_.1.1.1.2) hs_ | exact (hk_.1.1.2.1) hs_ | exact (hk_.1.1.2.2) hs_ | exact (hk_.1.2.1.1) hs_ | exact (hk_.1.2.1.2) hs_ | exact (hk_.1.2.2.1) hs_ | exact (hk_.1.2.2.2) hs_ | exact (hk_.2.1.1.1) hs_ | exact (hk_.2.1.1.2) hs_ | exact (hk_.2.1.2.1) hs_ | exact (hk_.2.1.2.2) hs_ | exact (hk_.2.2.1.1) hs_ | exact (hk_.2.2.1.2) hs_ | exact (hk_.2.2.2.1) hs_ | exact (hk_.2.2.2.2) hs_)) (fun k_ hk_ => by first | exact ⟨hk_.1.1.1, hk_.1.1.2, hk_.1.2⟩ | (refine ⟨?_, ?_, ?_⟩ <;> first | exact hk_.1 | exact hk_.2 | exact hk_.1.1 | exact hk_.1.2 | exact hk_.2.1 | exact hk_.2.2 | exact hk_.1.1.1 | exact hk_.1.1.2 | exact hk_.1.2.1 | exact hk_.1.2.2 | exact hk_.2.1.1 | exact hk_.2.1.2 | exact hk_.2.2.1 | exact hk_.2.2.2 | exact hk_.1.1.1.1 | exact hk_.1.1.1.2 | exact hk_.1.1.2.1 | exact hk_.1.1.2.2 | exact hk_.1.2.1.1 | exact hk_.1.2.1.2 | exact hk_.1.2.2.1 | exact hk_.1.2.2.2 | exact hk_.2.1.1.1 | exact hk_.2.1.1.2 | exact hk_.2.1.2.1 | exact hk_.2.1.2.2 | exact hk_.2.2.1.1 | exact hk_.2.2.1.2 | exact hk_.2.2.2.1 | exact hk_.2.2.2.2))); have n1_ := Aside0.mk (Kd.R_reok rfl hy0 (fun k_ e_ => HO_275001.out.1 k_ e_)); have n2_ := Aside0.mk (Kd.R_mono (ok' := fun k_ => some k_ ≠ (.slice Ao30 t265.length co30 : Value).ownBlock ∧ some k_ ≠ (.slice Ao40 t271.length co40 : Value).ownBlock ∧ some k_ ≠ (.slice Ao80 t285.length co80 : Value).ownBlock) (Kd.R_keptB (HO_283001.out) hkp (fun k_ hk_ hs_ => by first | exact (hk_.1.2) hs_ | exact (hk_.1) hs_ | exact (hk_.2) hs_ | exact (hk_.1.1) hs_ | exact (hk_.1.2) hs_ | exact (hk_.2.1) hs_ | exact (hk_.2.2) hs_ | exact (hk_.1.1.1) hs_ | exact (hk_.1.1.2) hs_ | exact (hk_.1.2.1) hs_ | exact (hk_.1.2.2) hs_ | exact (hk_.2.1.1) hs_ | exact (hk_.2.1.2) hs_ | exact (hk_.2.2.1) hs_ | exact (hk_.2.2.2) hs_ | exact (hk_.1.1.1.1) hs_ | exact (hk_.1.1.1.2) hs_ | exact (hk_.1.1.2.1) hs_ | exact (hk_.1.1.2.2) hs_ | exact (hk_.1.2.1.1) hs_ | exact (hk_.1.2.1.2) hs_ | exact (hk_.1.2.2.1) hs_ | exact (hk_.1.2.2.2) hs_ | exact (hk_.2.1.1.1) hs_ | exact (hk_.2.1.1.2) hs_ | exact (hk_.2.1.2.1) hs_ | exact (hk_.2.1.2.2) hs_ | exact (hk_.2.2.1.1) hs_ | exact (hk_.2.2.1.2) hs_ | exact (hk_.2.2.2.1) hs_ | exact (hk_.2.2.2.2) hs_)) (fun k_ hk_ => by first | exact ⟨hk_.1.1.1, hk_.1.1.2, hk_.1.2⟩ | (refine ⟨?_, ?_, ?_⟩ <;> first | exact hk_.1 | exact hk_.2 | exact hk_.1.1 | exact hk_.1.2 | exact hk_.2.1 | exact hk_.2.2 | exact hk_.1.1.1 | exact hk_.1.1.2 | exact hk_.1.2.1 | exact hk_.1.2.2 | exact hk_.2.1.1 | exact hk_.2.1.2 | exact hk_.2.2.1 | exact hk_.2.2.2 | exact hk_.1.1.1.1 | exact hk_.1.1.1.2 | exact hk_.1.1.2.1 | exact hk_.1.1.2.2 | exact hk_.1.2.1.1 | exact hk_.1.2.1.2 | exact hk_.1.2.2.1 | exact hk_.1.2.2.2 | exact hk_.2.1.1.1 | exact hk_.2.1.1.2 | exact hk_.2.1.2.1 | exact hk_.2.1.2.2 | exact hk_.2.2.1.1 | exact hk_.2.2.1.2 | exact hk_.2.2.2.1 | exact hk_.2.2.2.2))); have n3_ := Aside0.mk (blk_kept (qk_ BK255) hkp (fun hs_ => (fun e_ => (Kd.R_ne HO_275001.out BK255.out (by decide)) e_) hs_)); have n4_ := Aside0.mk (blk_kept (qk_ BK256) hkp (fun hs_ => (fun e_ => (Kd.R_ne HO_275001.out BK256.out (by decide)) e_) hs_)); have n5_ := Aside0.mk (blk_kept (qk_ BK269) hkp (fun hs_ => (fun e_ => (Kd.R_ne HO_275001.out BK269.out (by decide)) e_) hs_)); have n6_ := Aside0.mk (blk_kept (qk_ BK274) hkp (fun hs_ => (fun e_ => (Kd.R_ne HO_275001.out BK274.out (by decide)) e_) hs_)); have n7_ := Aside0.mk (blk_kept (qk_ BK282) hkp (fun hs_ => (fun e_ => (Kd.R_ne HO_275001.out BK282.out (by decide)) e_) hs_)); have n8_ := Aside0.mk (Kd.R_mono (ok' := fun k_ => some k_ ≠ (.slice Ao30 t265.length co30 : Value).ownBlock ∧ some k_ ≠ (.slice Ao40 t271.length co40 : Value).ownBlock ∧ some k_ ≠ (.slice Ao48 t278.length co48 : Value).ownBlock) (Kd.R_keptB (HO287.out) hkp (fun k_ hk_ hs_ => by first | exact (hk_.1.2) hs_ | exact (hk_.1) hs_ | exact (hk_.2) hs_ | exact (hk_.1.1) hs_ | exact (hk_.1.2) hs_ | exact (hk_.2.1) hs_ | exact (hk_.2.2) hs_ | exact (hk_.1.1.1) hs_ | exact (hk_.1.1.2) hs_ | exact (hk_.1.2.1) hs_ | exact (hk_.1.2.2) hs_ | exact (hk_.2.1.1) hs_ | exact (hk_.2.1.2) hs_ | exact (hk_.2.2.1) hs_ | exact (hk_.2.2.2) hs_ | exact (hk_.1.1.1.1) hs_ | exact (hk_.1.1.1.2) hs_ | exact (hk_.1.1.2.1) hs_ | exact (hk_.1.1.2.2) hs_ | exact (hk_.1.2.1.1) hs_ | exact (hk_.1.2.1.2) hs_ | exact (hk_.1.2.2.1) hs_ | exact (hk_.1.2.2.2) hs_ | exact (hk_.2.1.1.1) hs_ | exact (hk_.2.1.1.2) hs_ | exact (hk_.2.1.2.1) hs_ | exact (hk_.2.1.2.2) hs_ | exact (hk_.2.2.1.1) hs_ | exact (hk_.2.2.1.2) hs_ | exact (hk_.2.2.2.1) hs_ | exact (hk_.2.2.2.2) hs_)) (fun k_ hk_ => by first | exact ⟨hk_.1.1.1.2, hk_.1.1.2, hk_.1.2⟩ | (refine ⟨?_, ?_, ?_⟩ <;> first | exact hk_.1 | exact hk_.2 | exact hk_.1.1 | exact hk_.1.2 | exact hk_.2.1 | exact hk_.2.2 | exact hk_.1.1.1 | exact hk_.1.1.2 | exact hk_.1.2.1 | exact hk_.1.2.2 | exact hk_.2.1.1 | exact hk_.2.1.2 | exact hk_.2.2.1 | exact hk_.2.2.2 | exact hk_.1.1.1.1 | exact hk_.1.1.1.2 | exact hk_.1.1.2.1 | exact hk_.1.1.2.2 | exact hk_.1.2.1.1 | exact hk_.1.2.1.2 | exact hk_.1.2.2.1 | exact hk_.1.2.2.2 | exact hk_.2.1.1.1 | exact hk_.2.1.1.2 | exact hk_.2.1.2.1 | exact hk_.2.1.2.2 | exact hk_.2.2.1.1 | exact hk_.2.2.1.2 | exact hk_.2.2.2.1 | exact hk_.2.2.2.2))); have n9_ := Aside0.mk (hb); clear HO_270001; clear HO_275001; clear HO_283001; clear BK255; clear BK256; clear BK269; clear BK274; clear BK282; clear HO287; clear HB; have HO_270001 := n0_; have HO_275001 := n1_; have HO_283001 := n2_; have BK255 := n3_; have BK256 := n4_; have BK269 := n5_; have BK274 := n6_; have BK282 := n7_; have HO287 := n8_; have HB := n9_; clear n0_ n1_ n2_ n3_ n4_ n5_ n6_ n7_ n8_ n9_; (try clear hb); (try clear hkp); (try clear hy0)))
      (try simp only [Act.put, List.setIfInBounds_toArray, List.set_cons_zero, List.set_cons_succ])
      go_cut [67] (fun v67 wc => ∃ (kq : Nat) (x67_76 : Bool), v67 = .bool x67_76 ∧ Aside0 (laws_FnExactAddEdge.j1 kq t268 x67_76 a0_0 l0_1 a1_0 a1_1 t264 t265 t277 t278 = some true) ∧ Aside0 (kq ≤ kj15) ∧ Aside0 (Kd.R k79 79 wc w.heap.size (fun k_ => some k_ ≠ ((.slice Ao40 t271.length co40) : Value).ownBlock ∧ some k_ ≠ ((.slice Ao48 t278.length co48) : Value).ownBlock) (.slice Ao30 t265.length co30) t265) ∧ Aside0 (Kd.R k79 79 wc w.heap.size (fun k_ => some k_ ≠ ((.slice Ao30 t265.length co30) : Value).ownBlock ∧ some k_ ≠ ((.slice Ao48 t278.length co48) : Value).ownBlock) (.slice Ao40 t271.length co40) t290) ∧ Aside0 (Kd.R k79 79 wc w.heap.size (fun k_ => some k_ ≠ ((.slice Ao30 t265.length co30) : Value).ownBlock ∧ some k_ ≠ ((.slice Ao40 t271.length co40) : Value).ownBlock) (.slice Ao48 t278.length co48) t278) ∧ Aside0 (wc.heap[gb255]? = some (.cells #[.int .i64 a0_0, (.slice A0_1 l0_1.length c0_1)] 54 (0, 0))) ∧ Aside0 (wc.heap[gb256]? = some (.cells #[.int .i64 a1_0, .int .i64 a1_1] 76 (0, 0))) ∧ Aside0 (wc.heap[gb269]? = some (.cells #[.int .i64 t264, (.slice Ao30 t265.length co30)] 58 (0, 0))) ∧ Aside0 (wc.heap[gb274]? = some (.cells #[.int .i64 t270, (.slice Ao40 t271.length co40)] 58 (0, 0))) ∧ Aside0 (wc.heap[gb282]? = some (.cells #[.int .i64 t277, (.slice Ao48 t278.length co48)] 58 (0, 0))) ∧ Aside0 (Below w.heap.size w wc))
      case first =>
       have H := HC77.out; clear HC77
       by_cases c88 : t289 < 0
       ·rw [if_pos c88] at H
        have c88b0 : decide (t289 < 0) = true := decide_eq_true c88
        clear c88
        (first | rw [c88b0] | (simp only [i64_w, i32_w]; rw [c88b0]) | skip)
        have H' := Aside0.mk H; clear H
        go_wp2
        go_meet
        case rel => exact ⟨_, (true), qe_, H', ⟨by have := HJ15.out; first | omega | exact Nat.le_refl _⟩, ⟨by (with_reducible repeat (first | apply Kd.R_alloc | apply Kd.R_drewN | apply Kd.R_drew)); exact Kd.R_mono HO_270001.out (fun _ hk => ⟨hk.1, hk.2.1⟩)⟩, ⟨by (with_reducible repeat (first | apply Kd.R_alloc | apply Kd.R_drewN | apply Kd.R_drew)); exact Kd.R_mono HO_275001.out (fun _ hk => ⟨hk.1.1, hk.1.2⟩)⟩, ⟨by (with_reducible repeat (first | apply Kd.R_alloc | apply Kd.R_drewN | apply Kd.R_drew)); exact Kd.R_mono HO_283001.out (fun _ hk => ⟨hk.1, hk.2.1⟩)⟩, ⟨qk_ BK255⟩, ⟨qk_ BK256⟩, ⟨qk_ BK269⟩, ⟨qk_ BK274⟩, ⟨qk_ BK282⟩, ⟨qB_⟩⟩
       ·rw [if_neg c88] at H
        have c88b0 : decide (t289 < 0) = false := decide_eq_false c88
        clear c88
        (first | rw [c88b0] | (simp only [i64_w, i32_w]; rw [c88b0]) | skip)
        obtain ⟨t291, A890, H⟩ := Option.bind_eq_some_iff.mp H; have A89 := Aside0.mk A890; clear A890
        by_cases c90 : t291 = true
        ·subst c90
         rw [if_pos rfl] at H; have H' := Aside0.mk H; clear H; have hnb91 := NB282_255.out; have hnc91 := NB255_282.out; have hnb92 := NB282_256.out; have hnc92 := NB256_282.out; have hnb93 := NB282_269.out; have hnc93 := NB269_282.out; have hnb94 := NB282_274.out; have hnc94 := NB274_282.out
         obtain ⟨hcz95_0, hcz95_1, hfz95_0, hfz95_1⟩ := bc2_ BK282
         have hnb96 := NB269_255.out; have hnc96 := NB255_269.out; have hnb97 := NB269_256.out; have hnc97 := NB256_269.out; have hnb98 := NB269_274.out; have hnc98 := NB274_269.out
         obtain ⟨hcz99_0, hcz99_1, hfz99_0, hfz99_1⟩ := bc2_ BK269
         go_wp2_with (first | (go_at_call 38; (with_reducible refine (laws_eqGraph.calls kj15 t277 _ _ t278 t264 _ _ t265 true _ ?side1 ?side2 ?side3 ?side4 A89.out).mono ?_); (case side1 => exact qD_ (Kd.R_reads' HO_283001.out).2.2); (case side2 => exact (Kd.R_reads' HO_283001.out).2.1); (case side3 => exact qD_ (Kd.R_reads' HO_270001.out).2.2); (case side4 => exact (Kd.R_reads' HO_270001.out).2.1); rintro e w100 ⟨rfl, hb⟩; replace HO_270001 := Aside0.mk (Kd.R_below (qR_ HO_270001) hb); replace HO_275001 := Aside0.mk (Kd.R_below (qR_ HO_275001) hb); replace HO_283001 := Aside0.mk (Kd.R_below (qR_ HO_283001) hb); replace HO287 := Aside0.mk (Kd.R_below (qR_ HO287) hb); replace BK255 := Aside0.mk (blk_below (qk_ BK255) hb); replace BK256 := Aside0.mk (blk_below (qk_ BK256) hb); replace BK269 := Aside0.mk (blk_below (qk_ BK269) hb); replace BK274 := Aside0.mk (blk_below (qk_ BK274) hb); replace BK282 := Aside0.mk (blk_below (qk_ BK282) hb); replace HB := Aside0.mk (below_step qB_ hb); (try clear hb); (try clear hb2); (try clear hk); (try clear hi)))
         go_meet
         case rel => exact ⟨_, ((t281 != t268)), qe_, H', ⟨by have := HJ15.out; first | omega | exact Nat.le_refl _⟩, ⟨by (with_reducible repeat (first | apply Kd.R_alloc | apply Kd.R_drewN | apply Kd.R_drew)); exact Kd.R_mono HO_270001.out (fun _ hk => ⟨hk.1, hk.2.1⟩)⟩, ⟨by (with_reducible repeat (first | apply Kd.R_alloc | apply Kd.R_drewN | apply Kd.R_drew)); exact Kd.R_mono HO_275001.out (fun _ hk => ⟨hk.1.1, hk.1.2⟩)⟩, ⟨by (with_reducible repeat (first | apply Kd.R_alloc | apply Kd.R_drewN | apply Kd.R_drew)); exact Kd.R_mono HO_283001.out (fun _ hk => ⟨hk.1, hk.2.1⟩)⟩, ⟨qk_ BK255⟩, ⟨qk_ BK256⟩, ⟨qk_ BK269⟩, ⟨qk_ BK274⟩, ⟨qk_ BK282⟩, ⟨qB_⟩⟩
        ·replace c90 := Bool.eq_false_iff.mpr c90
         subst c90
         rw [if_neg (show ¬ (false = true) by decide)] at H; have H' := Aside0.mk H; clear H; have hnb101 := NB282_255.out; have hnc101 := NB255_282.out; have hnb102 := NB282_256.out; have hnc102 := NB256_282.out; have hnb103 := NB282_269.out; have hnc103 := NB269_282.out; have hnb104 := NB282_274.out; have hnc104 := NB274_282.out
         obtain ⟨hcz105_0, hcz105_1, hfz105_0, hfz105_1⟩ := bc2_ BK282
         have hnb106 := NB269_255.out; have hnc106 := NB255_269.out; have hnb107 := NB269_256.out; have hnc107 := NB256_269.out; have hnb108 := NB269_274.out; have hnc108 := NB274_269.out
         obtain ⟨hcz109_0, hcz109_1, hfz109_0, hfz109_1⟩ := bc2_ BK269
         go_wp2_with (first | (go_at_call 38; (with_reducible refine (laws_eqGraph.calls kj15 t277 _ _ t278 t264 _ _ t265 false _ ?side1 ?side2 ?side3 ?side4 A89.out).mono ?_); (case side1 => exact qD_ (Kd.R_reads' HO_283001.out).2.2); (case side2 => exact (Kd.R_reads' HO_283001.out).2.1); (case side3 => exact qD_ (Kd.R_reads' HO_270001.out).2.2); (case side4 => exact (Kd.R_reads' HO_270001.out).2.1); rintro e w110 ⟨rfl, hb⟩; replace HO_270001 := Aside0.mk (Kd.R_below (qR_ HO_270001) hb); replace HO_275001 := Aside0.mk (Kd.R_below (qR_ HO_275001) hb); replace HO_283001 := Aside0.mk (Kd.R_below (qR_ HO_283001) hb); replace HO287 := Aside0.mk (Kd.R_below (qR_ HO287) hb); replace BK255 := Aside0.mk (blk_below (qk_ BK255) hb); replace BK256 := Aside0.mk (blk_below (qk_ BK256) hb); replace BK269 := Aside0.mk (blk_below (qk_ BK269) hb); replace BK274 := Aside0.mk (blk_below (qk_ BK274) hb); replace BK282 := Aside0.mk (blk_below (qk_ BK282) hb); replace HB := Aside0.mk (below_step qB_ hb); (try clear hb); (try clear hb2); (try clear hk); (try clear hi)))
         go_meet
         case rel => exact ⟨_, (true), qe_, H', ⟨by have := HJ15.out; first | omega | exact Nat.le_refl _⟩, ⟨by (with_reducible repeat (first | apply Kd.R_alloc | apply Kd.R_drewN | apply Kd.R_drew)); exact Kd.R_mono HO_270001.out (fun _ hk => ⟨hk.1, hk.2.1⟩)⟩, ⟨by (with_reducible repeat (first | apply Kd.R_alloc | apply Kd.R_drewN | apply Kd.R_drew)); exact Kd.R_mono HO_275001.out (fun _ hk => ⟨hk.1.1, hk.1.2⟩)⟩, ⟨by (with_reducible repeat (first | apply Kd.R_alloc | apply Kd.R_drewN | apply Kd.R_drew)); exact Kd.R_mono HO_283001.out (fun _ hk => ⟨hk.1, hk.2.1⟩)⟩, ⟨qk_ BK255⟩, ⟨qk_ BK256⟩, ⟨qk_ BK269⟩, ⟨qk_ BK274⟩, ⟨qk_ BK282⟩, ⟨qB_⟩⟩
      case rest =>
       clear HC77; (try clear c1); (try clear p2); (try clear c3); (try clear c4); (try clear c5); (try clear c6); (try clear c7); (try clear c8); (try clear c9); (try clear c10); (try clear c36); (try clear c38); (try clear c45); (try clear c48); (try clear c51); (try clear c52); (try clear c53); (try clear c54); (try clear c55); (try clear c57); (try clear c58); (try clear c59); (try clear c62); (try clear c63); (try clear c64); (try clear c65); (try clear c67); (try clear c68); (try clear c69); (try clear c72); (try clear c75); (try clear c82); (try clear c83); (try clear c84); (try clear c85); (try clear c88); (try clear c88b0); (try clear c90); (try clear c91); (try clear c92); (try clear c93); (try clear c94); (try clear c96); (try clear c97); (try clear c98); (try clear c101); (try clear c102); (try clear c103); (try clear c104); (try clear c106); (try clear c107); (try clear c108); (try clear hcz105_0); (try clear hcz105_1); (try clear hcz109_0); (try clear hcz109_1); (try clear hcz56_0); (try clear hcz56_1); (try clear hcz60_0); (try clear hcz60_1); (try clear hcz66_0); (try clear hcz66_1); (try clear hcz70_0); (try clear hcz70_1); (try clear hcz86_0); (try clear hcz86_1); (try clear hcz95_0); (try clear hcz95_1); (try clear hcz99_0); (try clear hcz99_1); (try clear hfz105_0); (try clear hfz105_1); (try clear hfz109_0); (try clear hfz109_1); (try clear hfz56_0); (try clear hfz56_1); (try clear hfz60_0); (try clear hfz60_1); (try clear hfz66_0); (try clear hfz66_1); (try clear hfz70_0); (try clear hfz70_1); (try clear hfz86_0); (try clear hfz86_1); (try clear hfz95_0); (try clear hfz95_1); (try clear hfz99_0); (try clear hfz99_1); (try clear p2)
       obtain ⟨kq, x67_76, rfl, HA, HJ76, HO_270001, HO_275001, HO_283001, BK255, BK256, BK269, BK274, BK282, HB⟩ := hcut
       have hl275001_76 := (Kd.R_reads' HO_275001.out).1
       rw [hl275001_76] at HO_275001
       (try simp only [hl275001_76])
       (try simp only [hl275001_76] at BK255)
       (try simp only [hl275001_76] at BK256)
       (try simp only [hl275001_76] at BK269)
       (try simp only [hl275001_76] at BK274)
       (try simp only [hl275001_76] at BK282)
       (try simp only [hl275001_76] at HO_270001)
       (try simp only [hl275001_76] at HO_283001)
       cases kq with
       | zero => exact absurd HA.out (by simp [laws_FnExactAddEdge.j1])
       | succ kj76 =>
        have H := HA.out; clear HA
        simp only [laws_FnExactAddEdge.j1] at H
        by_cases c111 : x67_76 = true
        ·subst c111
         rw [if_pos rfl] at H
         exact absurd (Option.some.inj H) (by decide)
        ·replace c111 := Bool.eq_false_iff.mpr c111
         subst c111
         rw [if_neg (show ¬ (false = true) by decide)] at H
         replace H := Option.bind_eq_some_iff.mp H
         obtain ⟨⟨t292, t293⟩, A1120, H⟩ := H
         replace H : ((laws_heldGraph.f kj76 t277 t293 1).bind fun t294 => (if t294 < 0 then (some false) else (if t294 = t292 then ((laws_toGraph.f kj76 a0_0 l0_1).bind fun bt295 => ((laws_toEdge.f a1_0 a1_1).bind fun bt299 => ((impl_AddEdge.f kj76 bt295.1 bt295.2 bt299.1 bt299.2).bind fun bt301 => ((laws_eqGraph.f kj76 bt301.1 bt301.2.1 t264 t265).bind fun t307 => (if t307 = true then (laws_FnExactAddEdge.j2 kj76 t292 (bt301.2.2 != t268) t277 t293) else (laws_FnExactAddEdge.j2 kj76 t292 true t277 t293)))))) else (some false)))) = some true := H
         have A112 := Aside0.mk A1120
         clear A1120
         obtain ⟨t294, A1130, H⟩ := Option.bind_eq_some_iff.mp H; have A113 := Aside0.mk A1130; clear A1130
         by_cases c114 : t294 < 0
         ·rw [if_pos c114] at H
          have c114b0 : decide (t294 < 0) = true := decide_eq_true c114
          clear c114
          exact absurd (Option.some.inj H) (by decide)
         ·rw [if_neg c114] at H
          have c114b0 : decide (t294 < 0) = false := decide_eq_false c114
          clear c114
          by_cases c123 : t294 = t292
          ·rw [if_pos c123] at H
           have c123b0 : (t294 == t292) = true := beq_iff_eq.mpr c123
           have c123b1 : (t294 != t292) = false := bne_eq_false_iff_eq.mpr c123
           clear c123
           replace H := Option.bind_eq_some_iff.mp H
           obtain ⟨⟨t295, t296⟩, A1240, H⟩ := H
           replace H : ((laws_toEdge.f a1_0 a1_1).bind fun bt299 => ((impl_AddEdge.f kj76 t295 t296 bt299.1 bt299.2).bind fun bt301 => ((laws_eqGraph.f kj76 bt301.1 bt301.2.1 t264 t265).bind fun t307 => (if t307 = true then (laws_FnExactAddEdge.j2 kj76 t292 (bt301.2.2 != t268) t277 t293) else (laws_FnExactAddEdge.j2 kj76 t292 true t277 t293))))) = some true := H
           have A124 := Aside0.mk A1240
           clear A1240
           replace H := Option.bind_eq_some_iff.mp H
           obtain ⟨⟨t299, t300⟩, A1250, H⟩ := H
           replace H : ((impl_AddEdge.f kj76 t295 t296 t299 t300).bind fun bt301 => ((laws_eqGraph.f kj76 bt301.1 bt301.2.1 t264 t265).bind fun t307 => (if t307 = true then (laws_FnExactAddEdge.j2 kj76 t292 (bt301.2.2 != t268) t277 t293) else (laws_FnExactAddEdge.j2 kj76 t292 true t277 t293)))) = some true := H
           have A125 := Aside0.mk A1250
           clear A1250
           replace H := Option.bind_eq_some_iff.mp H
           obtain ⟨⟨t301, t302, t305⟩, A1260, H⟩ := H
           replace H : ((laws_eqGraph.f kj76 t301 t302 t264 t265).bind fun t307 => (if t307 = true then (laws_FnExactAddEdge.j2 kj76 t292 (t305 != t268) t277 t293) else (laws_FnExactAddEdge.j2 kj76 t292 true t277 t293))) = some true := H
           have A126 := Aside0.mk A1260
           clear A1260
           have HC127 := Aside0.mk H
           clear H; have hnb128 := NB282_255.out; have hnc128 := NB255_282.out; have hnb129 := NB282_256.out; have hnc129 := NB256_282.out; have hnb130 := NB282_269.out; have hnc130 := NB269_282.out; have hnb131 := NB282_274.out; have hnc131 := NB274_282.out
           obtain ⟨hcz132_0, hcz132_1, hfz132_0, hfz132_1⟩ := bc2_ BK282
           try go_wp2_with (first | ((with_reducible refine gate_callee (f := 45) rfl ?_); refine gl_ (some 70) Try.func45 #[.agg #[.int .i64 t277, .slice Ao48 t278.length co48], .int .i64 1] ?_; (with_reducible refine (laws_markGraph.calls kj76 t277 (fun k_ => some k_ = (.slice Ao48 t278.length co48 : Value).ownBlock) (.slice Ao48 t278.length co48) t278 1 t292 t293 w _ ?side1 ?side2 A112.out).mono ?_); (case side1 => repeat (first | (with_reducible first | exact HB.out | apply below_alloc | apply pw_below_drewN | apply below_drew1 | refine below_set ?_ GE255.out | refine below_set ?_ GE256.out | refine below_set ?_ GE269.out | refine below_set ?_ GE274.out | refine below_set ?_ GE282.out) | exact HB.out)); (case side2 => exact Kd.R_tight rfl HO_283001.out); rintro e w133 ⟨rfl, hy0, hb, hkp⟩; refine ⟨_, rfl, ?_⟩; have n0_ := Aside0.mk (Kd.R_mono (ok' := fun k_ => some k_ ≠ (.slice Ao40 t290.length co40 : Value).ownBlock ∧ some k_ ≠ (.slice Ao48 t278.length co48 : Value).ownBlock) (Kd.R_keptB (HO_270001.out) hkp (fun k_ hk_ hs_ => by first | exact (hk_.2) hs_ | exact (hk_.1) hs_ | exact (hk_.2) hs_ | exact (hk_.1.1) hs_ | exact (hk_.1.2) hs_ | exact (hk_.2.1) hs_ | exact (hk_.2.2) hs_ | exact (hk_.1.1.1) hs_ | exact (hk_.1.1.2) hs_ | exact (hk_.1.2.1) hs_ | exact (hk_.1.2.2) hs_ | exact (hk_.2.1.1) hs_ | exact (hk_.2.1.2) hs_ | exact (hk_.2.2.1) hs_ | exact (hk_.2.2.2) hs_ | exact (hk_.1.1.1.1) hs_ | exact (hk_.1.1.1.2) hs_ | exact (hk_.1.1.2.1) hs_ | exact (hk_.1.1.2.2) hs_ | exact (hk_.1.2.1.1) hs_ | exact (hk_.1.2.1.2) hs_ | exact (hk_.1.2.2.1) hs_ | exact (hk_.1.2.2.2) hs_ | exact (hk_.2.1.1.1) hs_ | exact (hk_.2.1.1.2) hs_ | exact (hk_.2.1.2.1) hs_ | exact (hk_.2.1.2.2) hs_ | exact (hk_.2.2.1.1) hs_ | exact (hk_.2.2.1.2) hs_ | exact (hk_.2.2.2.1) hs_ | exact (hk_.2.2.2.2) hs_)) (fun k_ hk_ => by first | exact ⟨hk_.1.1, hk_.1.2⟩ | (refine ⟨?_, ?_⟩ <;> first | exact hk_.1 | exact hk_.2 | exact hk_.1.1 | exact hk_.1.2 | exact hk_.2.1 | exact hk_.2.2 | exact hk_.1.1.1 | exact hk_.1.1.2 | exact hk_.1.2.1 | exact hk_.1.2.2 | exact hk_.2.1.1 | exact hk_.2.1.2 | exact hk_.2.2.1 | exact hk_.2.2.2 | exact hk_.1.1.1.1 | exact hk_.1.1.1.2 | exact hk_.1.1.2.1 | exact hk_.1.1.2.2 | exact hk_.1.2.1.1 | exact hk_.1.2.1.2 | exact hk_.1.2.2.1 | exact hk_.1.2.2.2 | exact hk_.2.1.1.1 | exact hk_.2.1.1.2 | exact hk_.2.1.2.1 | exact hk_.2.1.2.2 | exact hk_.2.2.1.1 | exact hk_.2.2.1.2 | exact hk_.2.2.2.1 | exact hk_.2.2.2.2))); have n1_ := Aside0.mk (Kd.R_mono (ok' := fun k_ => some k_ ≠ (.slice Ao30 t265.length co30 : Value).ownBlock ∧ some k_ ≠ (.slice Ao48 t278.length co48 : Value).ownBlock) (Kd.R_keptB (HO_275001.out) hkp (fun k_ hk_ hs_ => by first | exact (hk_.2) hs_ | exact (hk_.1) hs_ | exact (hk_.2) hs_ | exact (hk_.1.1) hs_ | exact (hk_.1.2) hs_ | exact (hk_.2.1) hs_ | exact (hk_.2.2) hs_ | exact (hk_.1.1.1) hs_ | exact (hk_.1.1.2) hs_ | exact (hk_.1.2.1) hs_ | exact (hk_.1.2.2) hs_ | exact (hk_.2.1.1) hs_ | exact (hk_.2.1.2) hs_ | exact (hk_.2.2.1) hs_ | exact (hk_.2.2.2) hs_ | exact (hk_.1.1.1.1) hs_ | exact (hk_.1.1.1.2) hs_ | exact (hk_.1.1.2.1) hs_ | exact (hk_.1.1.2.2) hs_ | exact (hk_.1.2.1.1) hs_ | exact (hk_.1.2.1.2) hs_ | exact (hk_.1.2.2.1) hs_ | exact (hk_.1.2.2.2) hs_ | exact (hk_.2.1.1.1) hs_ | exact (hk_.2.1.1.2) hs_ | exact (hk_.2.1.2.1) hs_ | exact (hk_.2.1.2.2) hs_ | exact (hk_.2.2.1.1) hs_ | exact (hk_.2.2.1.2) hs_ | exact (hk_.2.2.2.1) hs_ | exact (hk_.2.2.2.2) hs_)) (fun k_ hk_ => by first | exact ⟨hk_.1.1, hk_.1.2⟩ | (refine ⟨?_, ?_⟩ <;> first | exact hk_.1 | exact hk_.2 | exact hk_.1.1 | exact hk_.1.2 | exact hk_.2.1 | exact hk_.2.2 | exact hk_.1.1.1 | exact hk_.1.1.2 | exact hk_.1.2.1 | exact hk_.1.2.2 | exact hk_.2.1.1 | exact hk_.2.1.2 | exact hk_.2.2.1 | exact hk_.2.2.2 | exact hk_.1.1.1.1 | exact hk_.1.1.1.2 | exact hk_.1.1.2.1 | exact hk_.1.1.2.2 | exact hk_.1.2.1.1 | exact hk_.1.2.1.2 | exact hk_.1.2.2.1 | exact hk_.1.2.2.2 | exact hk_.2.1.1.1 | exact hk_.2.1.1.2 | exact hk_.2.1.2.1 | exact hk_.2.1.2.2 | exact hk_.2.2.1.1 | exact hk_.2.2.1.2 | exact hk_.2.2.2.1 | exact hk_.2.2.2.2))); have n2_ := Aside0.mk (Kd.R_reok rfl hy0 (fun k_ e_ => HO_283001.out.1 k_ e_)); have n3_ := Aside0.mk (blk_kept (qk_ BK255) hkp (fun hs_ => (fun e_ => (Kd.R_ne HO_283001.out BK255.out (by decide)) e_) hs_)); have n4_ := Aside0.mk (blk_kept (qk_ BK256) hkp (fun hs_ => (fun e_ => (Kd.R_ne HO_283001.out BK256.out (by decide)) e_) hs_)); have n5_ := Aside0.mk (blk_kept (qk_ BK269) hkp (fun hs_ => (fun e_ => (Kd.R_ne HO_283001.out BK269.out (by decide)) e_) hs_)); have n6_ := Aside0.mk (blk_kept (qk_ BK274) hkp (fun hs_ => (fun e_ => (Kd.R_ne HO_283001.out BK274.out (by decide)) e_) hs_)); have n7_ := Aside0.mk (blk_kept (qk_ BK282) hkp (fun hs_ => (fun e_ => (Kd.R_ne HO_283001.out BK282.out (by decide)) e_) hs_)); have n8_ := Aside0.mk (hb); clear HO_270001; clear HO_275001; clear HO_283001; clear BK255; clear BK256; clear BK269; clear BK274; clear BK282; clear HB; have HO_270001 := n0_; have HO_275001 := n1_; have HO_283001 := n2_; have BK255 := n3_; have BK256 := n4_; have BK269 := n5_; have BK274 := n6_; have BK282 := n7_; have HB := n8_; clear n0_ n1_ n2_ n3_ n4_ n5_ n6_ n7_ n8_; (try clear hb); (try clear hkp); (try clear hy0); obtain ⟨hcz134_0, hcz134_1, hfz134_0, hfz134_1⟩ := bc2_ BK282) | ((with_reducible refine gate_callee (f := 46) rfl ?_); refine goesL_ (some 73) rfl rfl Try.func46 (by kernel_rfl) rfl #[.agg #[.int .i64 t277, .slice Ao48 t293.length co48], .int .i64 1] rfl (by (try simp only [List.map_toArray, List.map_cons, List.map_nil]); first | done | (rw [show t293.length = t278.length from (Kd.R_reads' HO_283001.out).1.symm] <;> rfl) | rfl | (simp only [List.length_drop, List.length_take]; rfl)) ?_; (with_reducible refine (laws_heldGraph.calls kj76 t277 _ _ t293 1 t294 _ ?side1 ?side2 A113.out).mono ?_); (case side1 => exact qD_ (Kd.R_reads' HO_283001.out).2.2); (case side2 => rw [show t293.length = t278.length from (Kd.R_reads' HO_283001.out).1.symm]; exact (Kd.R_reads' HO_283001.out).2.1); rintro e w135 ⟨rfl, hb⟩; refine ⟨_, rfl, ?_⟩; replace HO_270001 := Aside0.mk (Kd.R_below (qR_ HO_270001) hb); replace HO_275001 := Aside0.mk (Kd.R_below (qR_ HO_275001) hb); replace HO_283001 := Aside0.mk (Kd.R_below (qR_ HO_283001) hb); replace BK255 := Aside0.mk (blk_below (qk_ BK255) hb); replace BK256 := Aside0.mk (blk_below (qk_ BK256) hb); replace BK269 := Aside0.mk (blk_below (qk_ BK269) hb); replace BK274 := Aside0.mk (blk_below (qk_ BK274) hb); replace BK282 := Aside0.mk (blk_below (qk_ BK282) hb); replace HB := Aside0.mk (below_step qB_ hb); (try clear hb); (try clear hb2); (try clear hk); (try clear hi)))
           have n0_ := Aside0.mk (Kd.R_drew HO_270001.out)
           have n1_ := Aside0.mk (Kd.R_drew HO_275001.out)
           have n2_ := Aside0.mk (Kd.R_drew HO_283001.out)
           have n3_ := Aside0.mk (blk_drew BK255.out)
           have n4_ := Aside0.mk (blk_drew BK256.out)
           have n5_ := Aside0.mk (blk_drew BK269.out)
           have n6_ := Aside0.mk (blk_drew BK274.out)
           have n7_ := Aside0.mk (blk_drew BK282.out)
           have n8_ := Aside0.mk (below_drew1 HB.out)
           clear HO_270001; clear HO_275001; clear HO_283001; clear BK255; clear BK256; clear BK269; clear BK274; clear BK282; clear HB; have HO_270001 := n0_; have HO_275001 := n1_; have HO_283001 := n2_; have BK255 := n3_; have BK256 := n4_; have BK269 := n5_; have BK274 := n6_; have BK282 := n7_; have HB := n8_; clear n0_ n1_ n2_ n3_ n4_ n5_ n6_ n7_ n8_
           refine start_ (n := 11) (S := fun w' => w'.cell? ⟨gb255, 0, none⟩ = some (.int .i64 a0_0) ∧ w'.cell? ⟨gb255, 1, none⟩ = some (.slice A0_1 l0_1.length c0_1) ∧ w'.cell? ⟨gb256, 0, none⟩ = some (.int .i64 a1_0) ∧ w'.cell? ⟨gb256, 1, none⟩ = some (.int .i64 a1_1)) (ds := []) (bm 11 0) (by kernel_rfl) rfl (by kernel_rfl) ⟨(blk_cell BK255.out 0).trans rfl, (blk_cell BK255.out 1).trans rfl, (blk_cell BK256.out 0).trans rfl, (blk_cell BK256.out 1).trans rfl⟩ (fun hHeld => ?_); refine with_tabW laws_FnExactAddEdge.tab24 laws_FnExactAddEdge.bits24 (fun HT_ HW_ => ?_)
           generalize w135.drew = w136 at HO_270001 HO_275001 HO_283001 BK255 BK256 BK269 BK274 BK282 HB hHeld ⊢
           refine tz4_ 0 80 (bm 11 1) ?_; refine tz4_ 2 82 (bm 11 5) ?_
           refine join_ (σ := Value × Value × Nat) 2 #[true, true, true, true, true, true, true, true, true, false, false] (fun s_ => [(81, .agg #[.int .i64 t295, s_.1]), (83, .agg #[.int .i64 t299, .int .i64 t300]), (84, .tuple #[.agg #[.int .i64 t301, s_.2.1], .bool t305]), (14, .pointer (some ⟨s_.2.2, 0, none⟩)), (79, .tuple #[.agg #[.int .i64 t301, s_.2.1], .bool t305]), (85, .agg #[.int .i64 t301, s_.2.1]), (86, .bool t305)]) (fun s_ w' => (w'.cell? ⟨gb255, 0, none⟩ = some (.int .i64 a0_0) ∧ w'.cell? ⟨gb255, 1, none⟩ = some (.slice A0_1 l0_1.length c0_1) ∧ w'.cell? ⟨gb256, 0, none⟩ = some (.int .i64 a1_0) ∧ w'.cell? ⟨gb256, 1, none⟩ = some (.int .i64 a1_1)) ∧ (Kd.R k79 79 w' w.heap.size (fun k_ => some k_ ≠ (s_.2.1 : Value).ownBlock ∧ some k_ ≠ (.slice Ao30 t265.length co30 : Value).ownBlock ∧ some k_ ≠ (.slice Ao40 t290.length co40 : Value).ownBlock ∧ some k_ ≠ (.slice Ao48 t278.length co48 : Value).ownBlock) s_.1 t296) ∧ (Kd.R k79 79 w' w.heap.size (fun k_ => some k_ ≠ (s_.1 : Value).ownBlock ∧ some k_ ≠ (.slice Ao30 t265.length co30 : Value).ownBlock ∧ some k_ ≠ (.slice Ao40 t290.length co40 : Value).ownBlock ∧ some k_ ≠ (.slice Ao48 t278.length co48 : Value).ownBlock) s_.2.1 t302) ∧ (Kd.R k79 79 w' w.heap.size (fun k_ => some k_ ≠ (s_.1 : Value).ownBlock ∧ some k_ ≠ (s_.2.1 : Value).ownBlock ∧ some k_ ≠ (.slice Ao40 t290.length co40 : Value).ownBlock ∧ some k_ ≠ (.slice Ao48 t278.length co48 : Value).ownBlock) (.slice Ao30 t265.length co30) t265) ∧ (Kd.R k79 79 w' w.heap.size (fun k_ => some k_ ≠ (s_.1 : Value).ownBlock ∧ some k_ ≠ (s_.2.1 : Value).ownBlock ∧ some k_ ≠ (.slice Ao30 t265.length co30 : Value).ownBlock ∧ some k_ ≠ (.slice Ao48 t278.length co48 : Value).ownBlock) (.slice Ao40 t290.length co40) t290) ∧ (Kd.R k79 79 w' w.heap.size (fun k_ => some k_ ≠ (s_.1 : Value).ownBlock ∧ some k_ ≠ (s_.2.1 : Value).ownBlock ∧ some k_ ≠ (.slice Ao30 t265.length co30 : Value).ownBlock ∧ some k_ ≠ (.slice Ao40 t290.length co40 : Value).ownBlock) (.slice Ao48 t278.length co48) t293) ∧ (w'.heap[gb255]? = some (.cells #[.int .i64 a0_0, .slice A0_1 l0_1.length c0_1] 54 (0, 0))) ∧ (w'.heap[gb256]? = some (.cells #[.int .i64 a1_0, .int .i64 a1_1] 76 (0, 0))) ∧ (w'.heap[gb269]? = some (.cells #[.int .i64 t264, .slice Ao30 t265.length co30] 58 (0, 0))) ∧ (w'.heap[gb274]? = some (.cells #[.int .i64 t270, .slice Ao40 t290.length co40] 58 (0, 0))) ∧ (w'.heap[gb282]? = some (.cells #[.int .i64 t277, .slice Ao48 t278.length co48] 58 (0, 0))) ∧ (w'.heap[s_.2.2]? = some (.cells #[.int .i64 0, .slice none 0 0] 58 (0, 0))) ∧ (w.heap.size ≤ s_.2.2) ∧ (w.heap.size ≤ s_.2.2) ∧ (gb255 ≠ s_.2.2) ∧ (s_.2.2 ≠ gb255) ∧ (gb256 ≠ s_.2.2) ∧ (s_.2.2 ≠ gb256) ∧ (gb269 ≠ s_.2.2) ∧ (s_.2.2 ≠ gb269) ∧ (gb274 ≠ s_.2.2) ∧ (s_.2.2 ≠ gb274) ∧ (gb282 ≠ s_.2.2) ∧ (s_.2.2 ≠ gb282) ∧ (Below w.heap.size w w')) ?_ ?_
           rotate_left
           ·intro hCont
            refine two_ (i := 1) (j := 8) (Ni := some 81) (Nj := some 14) (bm 11 7) #[true, false, true, false, false, false, false, false, true, false, false] rfl rfl rfl rfl (two_of HT_.out (by kernel_rfl)) (by decide) (by decide) (fun K hK => ?_) (fun K hK => ?_)
            ·skip
             refine goes_ Try.func36 (by kernel_rfl) rfl #[.agg #[.int .i64 a0_0, .slice A0_1 l0_1.length c0_1]] (by rfl) rfl rfl (by (try simp only [List.map_toArray, List.map_cons, List.map_nil]); first | done | rfl | (simp only [List.length_drop, List.length_take]; rfl)) ?_
             with_reducible refine (laws_toGraph.calls kj76 a0_0 _ _ l0_1 t295 t296 _ ?side1 ?side2 A124.out).mono ?_
             (case side1 => exact qC_ HR0_1 HB)
             (case side2 => exact HC0_1.out)
             rintro e w137 ⟨v297, rfl, ho0, hb⟩
             refine ⟨_, rfl, ?_⟩
             have n0_ := Aside0.mk (Kd.R_elder' (qR_ HO_270001) (Kd.R_base ho0) hb)
             have n1_ := Aside0.mk (Kd.R_elder' (qR_ HO_275001) (Kd.R_base ho0) hb)
             have n2_ := Aside0.mk (Kd.R_elder' (qR_ HO_283001) (Kd.R_base ho0) hb)
             have n3_ := Aside0.mk (Kd.R_lower (Kd.R_new' (Kd.R_new' (Kd.R_new' ho0 (Kd.R_lt (qR_ HO_270001))) (Kd.R_lt (qR_ HO_275001))) (Kd.R_lt (qR_ HO_283001))) (below_size qB_))
             have n4_ := Aside0.mk (blk_below (qk_ BK255) hb)
             have n5_ := Aside0.mk (blk_below (qk_ BK256) hb)
             have n6_ := Aside0.mk (blk_below (qk_ BK269) hb)
             have n7_ := Aside0.mk (blk_below (qk_ BK274) hb)
             have n8_ := Aside0.mk (blk_below (qk_ BK282) hb)
             have n9_ := Aside0.mk (below_step qB_ hb)
             clear HO_270001; clear HO_275001; clear HO_283001; clear BK255; clear BK256; clear BK269; clear BK274; clear BK282; clear HB; have HO_270001 := n0_; have HO_275001 := n1_; have HO_283001 := n2_; have HO298 := n3_; have BK255 := n4_; have BK256 := n5_; have BK269 := n6_; have BK274 := n7_; have BK282 := n8_; have HB := n9_; clear n0_ n1_ n2_ n3_ n4_ n5_ n6_ n7_ n8_ n9_; (try clear hb); (try clear hb2); (try clear hk); (try clear hi); (try clear ho0)
             refine hK.out _ _ ⟨(blk_cell BK255.out 0).trans rfl, (blk_cell BK255.out 1).trans rfl, (blk_cell BK256.out 0).trans rfl, (blk_cell BK256.out 1).trans rfl⟩ (fun hHeld => ?_)
             clear hK K
             refine norm_ (a' := ?_) ?_ ?_
             rotate_left
             ·show Act.put _ (some 81) _ = _
              simp only [Act.put, List.setIfInBounds_toArray, List.set_cons_zero, List.set_cons_succ, i64_w, i32_w]
              rfl
             refine two_ (i := 3) (j := 8) (Ni := some 83) (Nj := some 14) (bm 11 15) #[true, true, true, false, false, false, false, false, true, false, false] rfl rfl rfl rfl (two_of HT_.out (by kernel_rfl)) (by decide) (by decide) (fun K hK => ?_) (fun K hK => ?_)
             ·skip
              refine goes_ Try.func48 (by kernel_rfl) rfl #[.agg #[.int .i64 a1_0, .int .i64 a1_1]] (by rfl) rfl rfl (by (try simp only [List.map_toArray, List.map_cons, List.map_nil]); first | done | rfl | (simp only [List.length_drop, List.length_take]; rfl)) ?_
              with_reducible refine (laws_toEdge.calls a1_0 a1_1 t299 t300 _ A125.out).mono ?_
              rintro e w138 ⟨rfl, hb⟩
              refine ⟨_, rfl, ?_⟩
              have n0_ := Aside0.mk (Kd.R_below (qR_ HO_270001) hb)
              have n1_ := Aside0.mk (Kd.R_below (qR_ HO_275001) hb)
              have n2_ := Aside0.mk (Kd.R_below (qR_ HO_283001) hb)
              have n3_ := Aside0.mk (Kd.R_below (qR_ HO298) hb)
              have n4_ := Aside0.mk (blk_below (qk_ BK255) hb)
              have n5_ := Aside0.mk (blk_below (qk_ BK256) hb)
              have n6_ := Aside0.mk (blk_below (qk_ BK269) hb)
              have n7_ := Aside0.mk (blk_below (qk_ BK274) hb)
              have n8_ := Aside0.mk (blk_below (qk_ BK282) hb)
              have n9_ := Aside0.mk (below_step qB_ hb)
              clear HO_270001; clear HO_275001; clear HO_283001; clear HO298; clear BK255; clear BK256; clear BK269; clear BK274; clear BK282; clear HB; have HO_270001 := n0_; have HO_275001 := n1_; have HO_283001 := n2_; have HO298 := n3_; have BK255 := n4_; have BK256 := n5_; have BK269 := n6_; have BK274 := n7_; have BK282 := n8_; have HB := n9_; clear n0_ n1_ n2_ n3_ n4_ n5_ n6_ n7_ n8_ n9_; (try clear hb); (try clear hb2); (try clear hk); (try clear hi)
              obtain ⟨Ao139, co139, eo139⟩ := Kd.R_slice HO298.out
              (first | subst eo139 | (injection eo139 with f1_ f2_ f3_; have f4_ := f1_.symm; have f5_ := f3_.symm; clear f1_ f2_ f3_; subst f4_; subst f5_))
              refine hK.out _ _ ⟨(blk_cell BK255.out 0).trans rfl, (blk_cell BK255.out 1).trans rfl, (blk_cell BK256.out 0).trans rfl, (blk_cell BK256.out 1).trans rfl⟩ (fun hHeld => ?_)
              clear hK K
              refine norm_ (a' := ?_) ?_ ?_
              rotate_left
              ·show Act.put _ (some 83) _ = _
               simp only [Act.put, List.setIfInBounds_toArray, List.set_cons_zero, List.set_cons_succ, i64_w, i32_w]
               rfl
              refine two_ (i := 4) (j := 8) (Ni := some 84) (Nj := some 14) (bm 11 31) #[true, true, true, true, false, false, false, false, true, false, false] rfl rfl rfl rfl (two_of HT_.out (by kernel_rfl)) (by decide) (by decide) (fun K hK => ?_) (fun K hK => ?_)
              ·skip
               refine goes_ Try.func53 (by kernel_rfl) rfl #[.agg #[.int .i64 t295, .slice Ao139 t296.length co139], .agg #[.int .i64 t299, .int .i64 t300]] (by rfl) rfl rfl (by (try simp only [List.map_toArray, List.map_cons, List.map_nil]); first | done | rfl | (simp only [List.length_drop, List.length_take]; rfl)) ?_
               with_reducible refine (impl_AddEdge.calls kj76 t295 _ _ t296 t299 t300 t301 t302 t305 _ ?side1 ?side2 A126.out).mono ?_
               (case side1 => exact qD_ (Kd.R_reads' HO298.out).2.2)
               (case side2 => exact (Kd.R_reads' HO298.out).2.1)
               rintro e w140 ⟨v303, rfl, ho0, hb⟩
               refine ⟨_, rfl, ?_⟩
               have n0_ := Aside0.mk (Kd.R_elder' (qR_ HO_270001) (Kd.R_base ho0) hb)
               have n1_ := Aside0.mk (Kd.R_elder' (qR_ HO_275001) (Kd.R_base ho0) hb)
               have n2_ := Aside0.mk (Kd.R_elder' (qR_ HO_283001) (Kd.R_base ho0) hb)
               have n3_ := Aside0.mk (Kd.R_elder' (qR_ HO298) (Kd.R_base ho0) hb)
               have n4_ := Aside0.mk (Kd.R_lower (Kd.R_new' (Kd.R_new' (Kd.R_new' (Kd.R_new' ho0 (Kd.R_lt (qR_ HO_270001))) (Kd.R_lt (qR_ HO_275001))) (Kd.R_lt (qR_ HO_283001))) (Kd.R_lt (qR_ HO298))) (below_size qB_))
               have n5_ := Aside0.mk (blk_below (qk_ BK255) hb)
               have n6_ := Aside0.mk (blk_below (qk_ BK256) hb)
               have n7_ := Aside0.mk (blk_below (qk_ BK269) hb)
               have n8_ := Aside0.mk (blk_below (qk_ BK274) hb)
               have n9_ := Aside0.mk (blk_below (qk_ BK282) hb)
               have n10_ := Aside0.mk (below_step qB_ hb)
               clear HO_270001; clear HO_275001; clear HO_283001; clear HO298; clear BK255; clear BK256; clear BK269; clear BK274; clear BK282; clear HB; have HO_270001 := n0_; have HO_275001 := n1_; have HO_283001 := n2_; have HO298 := n3_; have HO304 := n4_; have BK255 := n5_; have BK256 := n6_; have BK269 := n7_; have BK274 := n8_; have BK282 := n9_; have HB := n10_; clear n0_ n1_ n2_ n3_ n4_ n5_ n6_ n7_ n8_ n9_ n10_; (try clear hb); (try clear hb2); (try clear hk); (try clear hi); (try clear ho0)
               refine hK.out _ _ ⟨(blk_cell BK255.out 0).trans rfl, (blk_cell BK255.out 1).trans rfl, (blk_cell BK256.out 0).trans rfl, (blk_cell BK256.out 1).trans rfl⟩ (fun hHeld => ?_)
               clear hK K
               refine norm_ (a' := ?_) ?_ ?_
               rotate_left
               ·show Act.put _ (some 84) _ = _
                simp only [Act.put, List.setIfInBounds_toArray, List.set_cons_zero, List.set_cons_succ, i64_w, i32_w]
                rfl
               refine pz_ 5 79 (bm 11 63) ?_; refine pz_ 6 85 (bm 11 127) ?_; refine pz_ 7 86 (bm 11 255) ?_
               refine one_ (i := 8) (N := some 14) (bm 11 511) rfl rfl (one_of HT_.out (by kernel_rfl)) (by decide) (fun K hK => ?_)
               refine box_step ?hg (N := 14) ?hd (cs := #[.int .i64 0, .slice none 0 0]) (t := 58) ?hr ?_; (case hd => rfl); (case hg => rfl); (case hr => first | (go_simp; done) | (go_simp; rfl))
               intro gb306 hg w141 hbox hb
               have n0_ := Aside0.mk (Kd.R_below (qR_ HO_270001) hb)
               have n1_ := Aside0.mk (Kd.R_below (qR_ HO_275001) hb)
               have n2_ := Aside0.mk (Kd.R_below (qR_ HO_283001) hb)
               have n3_ := Aside0.mk (Kd.R_below (qR_ HO298) hb)
               have n4_ := Aside0.mk (Kd.R_below (qR_ HO304) hb)
               have n5_ := Aside0.mk (blk_below (qk_ BK255) hb)
               have n6_ := Aside0.mk (blk_below (qk_ BK256) hb)
               have n7_ := Aside0.mk (blk_below (qk_ BK269) hb)
               have n8_ := Aside0.mk (blk_below (qk_ BK274) hb)
               have n9_ := Aside0.mk (blk_below (qk_ BK282) hb)
               have n10_ := Aside0.mk (below_step qB_ hb)
               have n11_ := Aside0.mk (hbox)
               have n12_ := Aside0.mk ((qs_ : w.heap.size ≤ gb306))
               have n13_ := Aside0.mk ((qs_ : w.heap.size ≤ gb306))
               have n14_ := Aside0.mk ((by rw [hg]; exact Nat.ne_of_lt (blk_lt (qk_ BK255)) : gb255 ≠ gb306))
               have n15_ := Aside0.mk ((by rw [hg]; exact Nat.ne_of_gt (blk_lt (qk_ BK255)) : gb306 ≠ gb255))
               have n16_ := Aside0.mk ((by rw [hg]; exact Nat.ne_of_lt (blk_lt (qk_ BK256)) : gb256 ≠ gb306))
               have n17_ := Aside0.mk ((by rw [hg]; exact Nat.ne_of_gt (blk_lt (qk_ BK256)) : gb306 ≠ gb256))
               have n18_ := Aside0.mk ((by rw [hg]; exact Nat.ne_of_lt (blk_lt (qk_ BK269)) : gb269 ≠ gb306))
               have n19_ := Aside0.mk ((by rw [hg]; exact Nat.ne_of_gt (blk_lt (qk_ BK269)) : gb306 ≠ gb269))
               have n20_ := Aside0.mk ((by rw [hg]; exact Nat.ne_of_lt (blk_lt (qk_ BK274)) : gb274 ≠ gb306))
               have n21_ := Aside0.mk ((by rw [hg]; exact Nat.ne_of_gt (blk_lt (qk_ BK274)) : gb306 ≠ gb274))
               have n22_ := Aside0.mk ((by rw [hg]; exact Nat.ne_of_lt (blk_lt (qk_ BK282)) : gb282 ≠ gb306))
               have n23_ := Aside0.mk ((by rw [hg]; exact Nat.ne_of_gt (blk_lt (qk_ BK282)) : gb306 ≠ gb282))
               clear HO_270001; clear HO_275001; clear HO_283001; clear HO298; clear HO304; clear BK255; clear BK256; clear BK269; clear BK274; clear BK282; clear HB; have HO_270001 := n0_; have HO_275001 := n1_; have HO_283001 := n2_; have HO298 := n3_; have HO304 := n4_; have BK255 := n5_; have BK256 := n6_; have BK269 := n7_; have BK274 := n8_; have BK282 := n9_; have HB := n10_; have BK306 := n11_; have GW306 := n12_; have GE306 := n13_; have NB255_306 := n14_; have NB306_255 := n15_; have NB256_306 := n16_; have NB306_256 := n17_; have NB269_306 := n18_; have NB306_269 := n19_; have NB274_306 := n20_; have NB306_274 := n21_; have NB282_306 := n22_; have NB306_282 := n23_; clear n0_ n1_ n2_ n3_ n4_ n5_ n6_ n7_ n8_ n9_ n10_ n11_ n12_ n13_ n14_ n15_ n16_ n17_ n18_ n19_ n20_ n21_ n22_ n23_; clear hb hbox hg
               refine hK.out _ _ ⟨(blk_cell BK255.out 0).trans rfl, (blk_cell BK255.out 1).trans rfl, (blk_cell BK256.out 0).trans rfl, (blk_cell BK256.out 1).trans rfl⟩ (fun hHeld => ?_)
               clear hK K
               refine norm_ (a' := ?_) ?_ ?_
               rotate_left
               ·show Act.put _ (some 14) _ = _
                simp only [Act.put, List.setIfInBounds_toArray, List.set_cons_zero, List.set_cons_succ, i64_w, i32_w]
                rfl
               exact norm_ (by simp only [putAll, Act.put, List.setIfInBounds_toArray, List.set_cons_zero, List.set_cons_succ]) (hCont (.slice Ao139 t296.length co139, v303, gb306) _ ⟨hHeld, (by (with_reducible repeat (first | apply Kd.R_alloc | apply Kd.R_drewN | apply Kd.R_drew)); exact Kd.R_mono HO298.out (fun _ hk => ⟨hk.2, ⟨hk.1.1.1.2, ⟨hk.1.1.2, hk.1.2⟩⟩⟩)), (by (with_reducible repeat (first | apply Kd.R_alloc | apply Kd.R_drewN | apply Kd.R_drew)); exact Kd.R_mono HO304.out (fun _ hk => ⟨hk.2, ⟨hk.1.1.1.2, ⟨hk.1.1.2, hk.1.2⟩⟩⟩)), (by (with_reducible repeat (first | apply Kd.R_alloc | apply Kd.R_drewN | apply Kd.R_drew)); exact Kd.R_mono HO_270001.out (fun _ hk => ⟨hk.1.2, ⟨hk.2, ⟨hk.1.1.1, hk.1.1.2⟩⟩⟩)), (by (with_reducible repeat (first | apply Kd.R_alloc | apply Kd.R_drewN | apply Kd.R_drew)); exact Kd.R_mono HO_275001.out (fun _ hk => ⟨hk.1.2, ⟨hk.2, ⟨hk.1.1.1, hk.1.1.2⟩⟩⟩)), (by (with_reducible repeat (first | apply Kd.R_alloc | apply Kd.R_drewN | apply Kd.R_drew)); exact Kd.R_mono HO_283001.out (fun _ hk => ⟨hk.1.2, ⟨hk.2, ⟨hk.1.1.1, hk.1.1.2⟩⟩⟩)), (qk_ BK255), (qk_ BK256), (qk_ BK269), (qk_ BK274), (qk_ BK282), (qk_ BK306), GW306.out, GE306.out, NB255_306.out, NB306_255.out, NB256_306.out, NB306_256.out, NB269_306.out, NB306_269.out, NB274_306.out, NB306_274.out, NB282_306.out, NB306_282.out, qB_⟩)
              ·skip
               refine box_step ?hg (N := 14) ?hd (cs := #[.int .i64 0, .slice none 0 0]) (t := 58) ?hr ?_; (case hd => rfl); (case hg => rfl); (case hr => first | (go_simp; done) | (go_simp; rfl))
               intro gb306 hg w139 hbox hb
               have n0_ := Aside0.mk (Kd.R_below (qR_ HO_270001) hb)
               have n1_ := Aside0.mk (Kd.R_below (qR_ HO_275001) hb)
               have n2_ := Aside0.mk (Kd.R_below (qR_ HO_283001) hb)
               have n3_ := Aside0.mk (Kd.R_below (qR_ HO298) hb)
               have n4_ := Aside0.mk (blk_below (qk_ BK255) hb)
               have n5_ := Aside0.mk (blk_below (qk_ BK256) hb)
               have n6_ := Aside0.mk (blk_below (qk_ BK269) hb)
               have n7_ := Aside0.mk (blk_below (qk_ BK274) hb)
               have n8_ := Aside0.mk (blk_below (qk_ BK282) hb)
               have n9_ := Aside0.mk (below_step qB_ hb)
               have n10_ := Aside0.mk (hbox)
               have n11_ := Aside0.mk ((qs_ : w.heap.size ≤ gb306))
               have n12_ := Aside0.mk ((qs_ : w.heap.size ≤ gb306))
               have n13_ := Aside0.mk ((by rw [hg]; exact Nat.ne_of_lt (blk_lt (qk_ BK255)) : gb255 ≠ gb306))
               have n14_ := Aside0.mk ((by rw [hg]; exact Nat.ne_of_gt (blk_lt (qk_ BK255)) : gb306 ≠ gb255))
               have n15_ := Aside0.mk ((by rw [hg]; exact Nat.ne_of_lt (blk_lt (qk_ BK256)) : gb256 ≠ gb306))
               have n16_ := Aside0.mk ((by rw [hg]; exact Nat.ne_of_gt (blk_lt (qk_ BK256)) : gb306 ≠ gb256))
               have n17_ := Aside0.mk ((by rw [hg]; exact Nat.ne_of_lt (blk_lt (qk_ BK269)) : gb269 ≠ gb306))
               have n18_ := Aside0.mk ((by rw [hg]; exact Nat.ne_of_gt (blk_lt (qk_ BK269)) : gb306 ≠ gb269))
               have n19_ := Aside0.mk ((by rw [hg]; exact Nat.ne_of_lt (blk_lt (qk_ BK274)) : gb274 ≠ gb306))
               have n20_ := Aside0.mk ((by rw [hg]; exact Nat.ne_of_gt (blk_lt (qk_ BK274)) : gb306 ≠ gb274))
               have n21_ := Aside0.mk ((by rw [hg]; exact Nat.ne_of_lt (blk_lt (qk_ BK282)) : gb282 ≠ gb306))
               have n22_ := Aside0.mk ((by rw [hg]; exact Nat.ne_of_gt (blk_lt (qk_ BK282)) : gb306 ≠ gb282))
               clear HO_270001; clear HO_275001; clear HO_283001; clear HO298; clear BK255; clear BK256; clear BK269; clear BK274; clear BK282; clear HB; have HO_270001 := n0_; have HO_275001 := n1_; have HO_283001 := n2_; have HO298 := n3_; have BK255 := n4_; have BK256 := n5_; have BK269 := n6_; have BK274 := n7_; have BK282 := n8_; have HB := n9_; have BK306 := n10_; have GW306 := n11_; have GE306 := n12_; have NB255_306 := n13_; have NB306_255 := n14_; have NB256_306 := n15_; have NB306_256 := n16_; have NB269_306 := n17_; have NB306_269 := n18_; have NB274_306 := n19_; have NB306_274 := n20_; have NB282_306 := n21_; have NB306_282 := n22_; clear n0_ n1_ n2_ n3_ n4_ n5_ n6_ n7_ n8_ n9_ n10_ n11_ n12_ n13_ n14_ n15_ n16_ n17_ n18_ n19_ n20_ n21_ n22_; clear hb hbox hg
               obtain ⟨Ao140, co140, eo140⟩ := Kd.R_slice HO298.out
               (first | subst eo140 | (injection eo140 with f1_ f2_ f3_; have f4_ := f1_.symm; have f5_ := f3_.symm; clear f1_ f2_ f3_; subst f4_; subst f5_))
               refine hK.out _ _ ⟨(blk_cell BK255.out 0).trans rfl, (blk_cell BK255.out 1).trans rfl, (blk_cell BK256.out 0).trans rfl, (blk_cell BK256.out 1).trans rfl⟩ (fun hHeld => ?_)
               clear hK K
               refine norm_ (a' := ?_) ?_ ?_
               rotate_left
               ·show Act.put _ (some 14) _ = _
                simp only [Act.put, List.setIfInBounds_toArray, List.set_cons_zero, List.set_cons_succ, i64_w, i32_w]
                rfl
               refine one_ (i := 4) (N := some 84) (bm 11 287) rfl rfl (one_of HT_.out (by kernel_rfl)) (by decide) (fun K hK => ?_)
               refine goes_ Try.func53 (by kernel_rfl) rfl #[.agg #[.int .i64 t295, .slice Ao140 t296.length co140], .agg #[.int .i64 t299, .int .i64 t300]] (by rfl) rfl rfl (by (try simp only [List.map_toArray, List.map_cons, List.map_nil]); first | done | rfl | (simp only [List.length_drop, List.length_take]; rfl)) ?_
               with_reducible refine (impl_AddEdge.calls kj76 t295 _ _ t296 t299 t300 t301 t302 t305 _ ?side1 ?side2 A126.out).mono ?_
               (case side1 => exact qD_ (Kd.R_reads' HO298.out).2.2)
               (case side2 => exact (Kd.R_reads' HO298.out).2.1)
               rintro e w141 ⟨v303, rfl, ho0, hb⟩
               refine ⟨_, rfl, ?_⟩
               have n0_ := Aside0.mk (Kd.R_elder' (qR_ HO_270001) (Kd.R_base ho0) hb)
               have n1_ := Aside0.mk (Kd.R_elder' (qR_ HO_275001) (Kd.R_base ho0) hb)
               have n2_ := Aside0.mk (Kd.R_elder' (qR_ HO_283001) (Kd.R_base ho0) hb)
               have n3_ := Aside0.mk (Kd.R_elder' (qR_ HO298) (Kd.R_base ho0) hb)
               have n4_ := Aside0.mk (Kd.R_lower (Kd.R_new' (Kd.R_new' (Kd.R_new' (Kd.R_new' ho0 (Kd.R_lt (qR_ HO_270001))) (Kd.R_lt (qR_ HO_275001))) (Kd.R_lt (qR_ HO_283001))) (Kd.R_lt (qR_ HO298))) (below_size qB_))
               have n5_ := Aside0.mk (blk_below (qk_ BK255) hb)
               have n6_ := Aside0.mk (blk_below (qk_ BK256) hb)
               have n7_ := Aside0.mk (blk_below (qk_ BK269) hb)
               have n8_ := Aside0.mk (blk_below (qk_ BK274) hb)
               have n9_ := Aside0.mk (blk_below (qk_ BK282) hb)
               have n10_ := Aside0.mk (blk_below (qk_ BK306) hb)
               have n11_ := Aside0.mk (below_step qB_ hb)
               clear HO_270001; clear HO_275001; clear HO_283001; clear HO298; clear BK255; clear BK256; clear BK269; clear BK274; clear BK282; clear BK306; clear HB; have HO_270001 := n0_; have HO_275001 := n1_; have HO_283001 := n2_; have HO298 := n3_; have HO304 := n4_; have BK255 := n5_; have BK256 := n6_; have BK269 := n7_; have BK274 := n8_; have BK282 := n9_; have BK306 := n10_; have HB := n11_; clear n0_ n1_ n2_ n3_ n4_ n5_ n6_ n7_ n8_ n9_ n10_ n11_; (try clear hb); (try clear hb2); (try clear hk); (try clear hi); (try clear ho0)
               refine hK.out _ _ ⟨(blk_cell BK255.out 0).trans rfl, (blk_cell BK255.out 1).trans rfl, (blk_cell BK256.out 0).trans rfl, (blk_cell BK256.out 1).trans rfl⟩ (fun hHeld => ?_)
               clear hK K
               refine norm_ (a' := ?_) ?_ ?_
               rotate_left
               ·show Act.put _ (some 84) _ = _
                simp only [Act.put, List.setIfInBounds_toArray, List.set_cons_zero, List.set_cons_succ, i64_w, i32_w]
                rfl
               refine pz_ 5 79 (bm 11 319) ?_; refine pz_ 6 85 (bm 11 383) ?_; refine pz_ 7 86 (bm 11 511) ?_
               exact norm_ (by simp only [putAll, Act.put, List.setIfInBounds_toArray, List.set_cons_zero, List.set_cons_succ]) (hCont (.slice Ao140 t296.length co140, v303, gb306) _ ⟨hHeld, (by (with_reducible repeat (first | apply Kd.R_alloc | apply Kd.R_drewN | apply Kd.R_drew)); exact Kd.R_mono HO298.out (fun _ hk => ⟨hk.2, ⟨hk.1.1.1.2, ⟨hk.1.1.2, hk.1.2⟩⟩⟩)), (by (with_reducible repeat (first | apply Kd.R_alloc | apply Kd.R_drewN | apply Kd.R_drew)); exact Kd.R_mono HO304.out (fun _ hk => ⟨hk.2, ⟨hk.1.1.1.2, ⟨hk.1.1.2, hk.1.2⟩⟩⟩)), (by (with_reducible repeat (first | apply Kd.R_alloc | apply Kd.R_drewN | apply Kd.R_drew)); exact Kd.R_mono HO_270001.out (fun _ hk => ⟨hk.1.2, ⟨hk.2, ⟨hk.1.1.1, hk.1.1.2⟩⟩⟩)), (by (with_reducible repeat (first | apply Kd.R_alloc | apply Kd.R_drewN | apply Kd.R_drew)); exact Kd.R_mono HO_275001.out (fun _ hk => ⟨hk.1.2, ⟨hk.2, ⟨hk.1.1.1, hk.1.1.2⟩⟩⟩)), (by (with_reducible repeat (first | apply Kd.R_alloc | apply Kd.R_drewN | apply Kd.R_drew)); exact Kd.R_mono HO_283001.out (fun _ hk => ⟨hk.1.2, ⟨hk.2, ⟨hk.1.1.1, hk.1.1.2⟩⟩⟩)), (qk_ BK255), (qk_ BK256), (qk_ BK269), (qk_ BK274), (qk_ BK282), (qk_ BK306), GW306.out, GE306.out, NB255_306.out, NB306_255.out, NB256_306.out, NB306_256.out, NB269_306.out, NB306_269.out, NB274_306.out, NB306_274.out, NB282_306.out, NB306_282.out, qB_⟩)
             ·skip
              refine box_step ?hg (N := 14) ?hd (cs := #[.int .i64 0, .slice none 0 0]) (t := 58) ?hr ?_; (case hd => rfl); (case hg => rfl); (case hr => first | (go_simp; done) | (go_simp; rfl))
              intro gb306 hg w138 hbox hb
              have n0_ := Aside0.mk (Kd.R_below (qR_ HO_270001) hb)
              have n1_ := Aside0.mk (Kd.R_below (qR_ HO_275001) hb)
              have n2_ := Aside0.mk (Kd.R_below (qR_ HO_283001) hb)
              have n3_ := Aside0.mk (Kd.R_below (qR_ HO298) hb)
              have n4_ := Aside0.mk (blk_below (qk_ BK255) hb)
              have n5_ := Aside0.mk (blk_below (qk_ BK256) hb)
              have n6_ := Aside0.mk (blk_below (qk_ BK269) hb)
              have n7_ := Aside0.mk (blk_below (qk_ BK274) hb)
              have n8_ := Aside0.mk (blk_below (qk_ BK282) hb)
              have n9_ := Aside0.mk (below_step qB_ hb)
              have n10_ := Aside0.mk (hbox)
              have n11_ := Aside0.mk ((qs_ : w.heap.size ≤ gb306))
              have n12_ := Aside0.mk ((qs_ : w.heap.size ≤ gb306))
              have n13_ := Aside0.mk ((by rw [hg]; exact Nat.ne_of_lt (blk_lt (qk_ BK255)) : gb255 ≠ gb306))
              have n14_ := Aside0.mk ((by rw [hg]; exact Nat.ne_of_gt (blk_lt (qk_ BK255)) : gb306 ≠ gb255))
              have n15_ := Aside0.mk ((by rw [hg]; exact Nat.ne_of_lt (blk_lt (qk_ BK256)) : gb256 ≠ gb306))
              have n16_ := Aside0.mk ((by rw [hg]; exact Nat.ne_of_gt (blk_lt (qk_ BK256)) : gb306 ≠ gb256))
              have n17_ := Aside0.mk ((by rw [hg]; exact Nat.ne_of_lt (blk_lt (qk_ BK269)) : gb269 ≠ gb306))
              have n18_ := Aside0.mk ((by rw [hg]; exact Nat.ne_of_gt (blk_lt (qk_ BK269)) : gb306 ≠ gb269))
              have n19_ := Aside0.mk ((by rw [hg]; exact Nat.ne_of_lt (blk_lt (qk_ BK274)) : gb274 ≠ gb306))
              have n20_ := Aside0.mk ((by rw [hg]; exact Nat.ne_of_gt (blk_lt (qk_ BK274)) : gb306 ≠ gb274))
              have n21_ := Aside0.mk ((by rw [hg]; exact Nat.ne_of_lt (blk_lt (qk_ BK282)) : gb282 ≠ gb306))
              have n22_ := Aside0.mk ((by rw [hg]; exact Nat.ne_of_gt (blk_lt (qk_ BK282)) : gb306 ≠ gb282))
              clear HO_270001; clear HO_275001; clear HO_283001; clear HO298; clear BK255; clear BK256; clear BK269; clear BK274; clear BK282; clear HB; have HO_270001 := n0_; have HO_275001 := n1_; have HO_283001 := n2_; have HO298 := n3_; have BK255 := n4_; have BK256 := n5_; have BK269 := n6_; have BK274 := n7_; have BK282 := n8_; have HB := n9_; have BK306 := n10_; have GW306 := n11_; have GE306 := n12_; have NB255_306 := n13_; have NB306_255 := n14_; have NB256_306 := n15_; have NB306_256 := n16_; have NB269_306 := n17_; have NB306_269 := n18_; have NB274_306 := n19_; have NB306_274 := n20_; have NB282_306 := n21_; have NB306_282 := n22_; clear n0_ n1_ n2_ n3_ n4_ n5_ n6_ n7_ n8_ n9_ n10_ n11_ n12_ n13_ n14_ n15_ n16_ n17_ n18_ n19_ n20_ n21_ n22_; clear hb hbox hg
              refine hK.out _ _ ⟨(blk_cell BK255.out 0).trans rfl, (blk_cell BK255.out 1).trans rfl, (blk_cell BK256.out 0).trans rfl, (blk_cell BK256.out 1).trans rfl⟩ (fun hHeld => ?_)
              clear hK K
              refine norm_ (a' := ?_) ?_ ?_
              rotate_left
              ·show Act.put _ (some 14) _ = _
               simp only [Act.put, List.setIfInBounds_toArray, List.set_cons_zero, List.set_cons_succ, i64_w, i32_w]
               rfl
              refine one_ (i := 3) (N := some 83) (bm 11 271) rfl rfl (one_of HT_.out (by kernel_rfl)) (by decide) (fun K hK => ?_)
              refine goes_ Try.func48 (by kernel_rfl) rfl #[.agg #[.int .i64 a1_0, .int .i64 a1_1]] (by rfl) rfl rfl (by (try simp only [List.map_toArray, List.map_cons, List.map_nil]); first | done | rfl | (simp only [List.length_drop, List.length_take]; rfl)) ?_
              with_reducible refine (laws_toEdge.calls a1_0 a1_1 t299 t300 _ A125.out).mono ?_
              rintro e w139 ⟨rfl, hb⟩
              refine ⟨_, rfl, ?_⟩
              have n0_ := Aside0.mk (Kd.R_below (qR_ HO_270001) hb)
              have n1_ := Aside0.mk (Kd.R_below (qR_ HO_275001) hb)
              have n2_ := Aside0.mk (Kd.R_below (qR_ HO_283001) hb)
              have n3_ := Aside0.mk (Kd.R_below (qR_ HO298) hb)
              have n4_ := Aside0.mk (blk_below (qk_ BK255) hb)
              have n5_ := Aside0.mk (blk_below (qk_ BK256) hb)
              have n6_ := Aside0.mk (blk_below (qk_ BK269) hb)
              have n7_ := Aside0.mk (blk_below (qk_ BK274) hb)
              have n8_ := Aside0.mk (blk_below (qk_ BK282) hb)
              have n9_ := Aside0.mk (blk_below (qk_ BK306) hb)
              have n10_ := Aside0.mk (below_step qB_ hb)
              clear HO_270001; clear HO_275001; clear HO_283001; clear HO298; clear BK255; clear BK256; clear BK269; clear BK274; clear BK282; clear BK306; clear HB; have HO_270001 := n0_; have HO_275001 := n1_; have HO_283001 := n2_; have HO298 := n3_; have BK255 := n4_; have BK256 := n5_; have BK269 := n6_; have BK274 := n7_; have BK282 := n8_; have BK306 := n9_; have HB := n10_; clear n0_ n1_ n2_ n3_ n4_ n5_ n6_ n7_ n8_ n9_ n10_; (try clear hb); (try clear hb2); (try clear hk); (try clear hi)
              obtain ⟨Ao140, co140, eo140⟩ := Kd.R_slice HO298.out
              (first | subst eo140 | (injection eo140 with f1_ f2_ f3_; have f4_ := f1_.symm; have f5_ := f3_.symm; clear f1_ f2_ f3_; subst f4_; subst f5_))
              refine hK.out _ _ ⟨(blk_cell BK255.out 0).trans rfl, (blk_cell BK255.out 1).trans rfl, (blk_cell BK256.out 0).trans rfl, (blk_cell BK256.out 1).trans rfl⟩ (fun hHeld => ?_)
              clear hK K
              refine norm_ (a' := ?_) ?_ ?_
              rotate_left
              ·show Act.put _ (some 83) _ = _
               simp only [Act.put, List.setIfInBounds_toArray, List.set_cons_zero, List.set_cons_succ, i64_w, i32_w]
               rfl
              refine one_ (i := 4) (N := some 84) (bm 11 287) rfl rfl (one_of HT_.out (by kernel_rfl)) (by decide) (fun K hK => ?_)
              refine goes_ Try.func53 (by kernel_rfl) rfl #[.agg #[.int .i64 t295, .slice Ao140 t296.length co140], .agg #[.int .i64 t299, .int .i64 t300]] (by rfl) rfl rfl (by (try simp only [List.map_toArray, List.map_cons, List.map_nil]); first | done | rfl | (simp only [List.length_drop, List.length_take]; rfl)) ?_
              with_reducible refine (impl_AddEdge.calls kj76 t295 _ _ t296 t299 t300 t301 t302 t305 _ ?side1 ?side2 A126.out).mono ?_
              (case side1 => exact qD_ (Kd.R_reads' HO298.out).2.2)
              (case side2 => exact (Kd.R_reads' HO298.out).2.1)
              rintro e w141 ⟨v303, rfl, ho0, hb⟩
              refine ⟨_, rfl, ?_⟩
              have n0_ := Aside0.mk (Kd.R_elder' (qR_ HO_270001) (Kd.R_base ho0) hb)
              have n1_ := Aside0.mk (Kd.R_elder' (qR_ HO_275001) (Kd.R_base ho0) hb)
              have n2_ := Aside0.mk (Kd.R_elder' (qR_ HO_283001) (Kd.R_base ho0) hb)
              have n3_ := Aside0.mk (Kd.R_elder' (qR_ HO298) (Kd.R_base ho0) hb)
              have n4_ := Aside0.mk (Kd.R_lower (Kd.R_new' (Kd.R_new' (Kd.R_new' (Kd.R_new' ho0 (Kd.R_lt (qR_ HO_270001))) (Kd.R_lt (qR_ HO_275001))) (Kd.R_lt (qR_ HO_283001))) (Kd.R_lt (qR_ HO298))) (below_size qB_))
              have n5_ := Aside0.mk (blk_below (qk_ BK255) hb)
              have n6_ := Aside0.mk (blk_below (qk_ BK256) hb)
              have n7_ := Aside0.mk (blk_below (qk_ BK269) hb)
              have n8_ := Aside0.mk (blk_below (qk_ BK274) hb)
              have n9_ := Aside0.mk (blk_below (qk_ BK282) hb)
              have n10_ := Aside0.mk (blk_below (qk_ BK306) hb)
              have n11_ := Aside0.mk (below_step qB_ hb)
              clear HO_270001; clear HO_275001; clear HO_283001; clear HO298; clear BK255; clear BK256; clear BK269; clear BK274; clear BK282; clear BK306; clear HB; have HO_270001 := n0_; have HO_275001 := n1_; have HO_283001 := n2_; have HO298 := n3_; have HO304 := n4_; have BK255 := n5_; have BK256 := n6_; have BK269 := n7_; have BK274 := n8_; have BK282 := n9_; have BK306 := n10_; have HB := n11_; clear n0_ n1_ n2_ n3_ n4_ n5_ n6_ n7_ n8_ n9_ n10_ n11_; (try clear hb); (try clear hb2); (try clear hk); (try clear hi); (try clear ho0)
              refine hK.out _ _ ⟨(blk_cell BK255.out 0).trans rfl, (blk_cell BK255.out 1).trans rfl, (blk_cell BK256.out 0).trans rfl, (blk_cell BK256.out 1).trans rfl⟩ (fun hHeld => ?_)
              clear hK K
              refine norm_ (a' := ?_) ?_ ?_
              rotate_left
              ·show Act.put _ (some 84) _ = _
               simp only [Act.put, List.setIfInBounds_toArray, List.set_cons_zero, List.set_cons_succ, i64_w, i32_w]
               rfl
              refine pz_ 5 79 (bm 11 319) ?_; refine pz_ 6 85 (bm 11 383) ?_; refine pz_ 7 86 (bm 11 511) ?_
              exact norm_ (by simp only [putAll, Act.put, List.setIfInBounds_toArray, List.set_cons_zero, List.set_cons_succ]) (hCont (.slice Ao140 t296.length co140, v303, gb306) _ ⟨hHeld, (by (with_reducible repeat (first | apply Kd.R_alloc | apply Kd.R_drewN | apply Kd.R_drew)); exact Kd.R_mono HO298.out (fun _ hk => ⟨hk.2, ⟨hk.1.1.1.2, ⟨hk.1.1.2, hk.1.2⟩⟩⟩)), (by (with_reducible repeat (first | apply Kd.R_alloc | apply Kd.R_drewN | apply Kd.R_drew)); exact Kd.R_mono HO304.out (fun _ hk => ⟨hk.2, ⟨hk.1.1.1.2, ⟨hk.1.1.2, hk.1.2⟩⟩⟩)), (by (with_reducible repeat (first | apply Kd.R_alloc | apply Kd.R_drewN | apply Kd.R_drew)); exact Kd.R_mono HO_270001.out (fun _ hk => ⟨hk.1.2, ⟨hk.2, ⟨hk.1.1.1, hk.1.1.2⟩⟩⟩)), (by (with_reducible repeat (first | apply Kd.R_alloc | apply Kd.R_drewN | apply Kd.R_drew)); exact Kd.R_mono HO_275001.out (fun _ hk => ⟨hk.1.2, ⟨hk.2, ⟨hk.1.1.1, hk.1.1.2⟩⟩⟩)), (by (with_reducible repeat (first | apply Kd.R_alloc | apply Kd.R_drewN | apply Kd.R_drew)); exact Kd.R_mono HO_283001.out (fun _ hk => ⟨hk.1.2, ⟨hk.2, ⟨hk.1.1.1, hk.1.1.2⟩⟩⟩)), (qk_ BK255), (qk_ BK256), (qk_ BK269), (qk_ BK274), (qk_ BK282), (qk_ BK306), GW306.out, GE306.out, NB255_306.out, NB306_255.out, NB256_306.out, NB306_256.out, NB269_306.out, NB306_269.out, NB274_306.out, NB306_274.out, NB282_306.out, NB306_282.out, qB_⟩)
            ·skip
             refine box_step ?hg (N := 14) ?hd (cs := #[.int .i64 0, .slice none 0 0]) (t := 58) ?hr ?_; (case hd => rfl); (case hg => rfl); (case hr => first | (go_simp; done) | (go_simp; rfl))
             intro gb306 hg w137 hbox hb
             have n0_ := Aside0.mk (Kd.R_below (qR_ HO_270001) hb)
             have n1_ := Aside0.mk (Kd.R_below (qR_ HO_275001) hb)
             have n2_ := Aside0.mk (Kd.R_below (qR_ HO_283001) hb)
             have n3_ := Aside0.mk (blk_below (qk_ BK255) hb)
             have n4_ := Aside0.mk (blk_below (qk_ BK256) hb)
             have n5_ := Aside0.mk (blk_below (qk_ BK269) hb)
             have n6_ := Aside0.mk (blk_below (qk_ BK274) hb)
             have n7_ := Aside0.mk (blk_below (qk_ BK282) hb)
             have n8_ := Aside0.mk (below_step qB_ hb)
             have n9_ := Aside0.mk (hbox)
             have n10_ := Aside0.mk ((qs_ : w.heap.size ≤ gb306))
             have n11_ := Aside0.mk ((qs_ : w.heap.size ≤ gb306))
             have n12_ := Aside0.mk ((by rw [hg]; exact Nat.ne_of_lt (blk_lt (qk_ BK255)) : gb255 ≠ gb306))
             have n13_ := Aside0.mk ((by rw [hg]; exact Nat.ne_of_gt (blk_lt (qk_ BK255)) : gb306 ≠ gb255))
             have n14_ := Aside0.mk ((by rw [hg]; exact Nat.ne_of_lt (blk_lt (qk_ BK256)) : gb256 ≠ gb306))
             have n15_ := Aside0.mk ((by rw [hg]; exact Nat.ne_of_gt (blk_lt (qk_ BK256)) : gb306 ≠ gb256))
             have n16_ := Aside0.mk ((by rw [hg]; exact Nat.ne_of_lt (blk_lt (qk_ BK269)) : gb269 ≠ gb306))
             have n17_ := Aside0.mk ((by rw [hg]; exact Nat.ne_of_gt (blk_lt (qk_ BK269)) : gb306 ≠ gb269))
             have n18_ := Aside0.mk ((by rw [hg]; exact Nat.ne_of_lt (blk_lt (qk_ BK274)) : gb274 ≠ gb306))
             have n19_ := Aside0.mk ((by rw [hg]; exact Nat.ne_of_gt (blk_lt (qk_ BK274)) : gb306 ≠ gb274))
             have n20_ := Aside0.mk ((by rw [hg]; exact Nat.ne_of_lt (blk_lt (qk_ BK282)) : gb282 ≠ gb306))
             have n21_ := Aside0.mk ((by rw [hg]; exact Nat.ne_of_gt (blk_lt (qk_ BK282)) : gb306 ≠ gb282))
             clear HO_270001; clear HO_275001; clear HO_283001; clear BK255; clear BK256; clear BK269; clear BK274; clear BK282; clear HB; have HO_270001 := n0_; have HO_275001 := n1_; have HO_283001 := n2_; have BK255 := n3_; have BK256 := n4_; have BK269 := n5_; have BK274 := n6_; have BK282 := n7_; have HB := n8_; have BK306 := n9_; have GW306 := n10_; have GE306 := n11_; have NB255_306 := n12_; have NB306_255 := n13_; have NB256_306 := n14_; have NB306_256 := n15_; have NB269_306 := n16_; have NB306_269 := n17_; have NB274_306 := n18_; have NB306_274 := n19_; have NB282_306 := n20_; have NB306_282 := n21_; clear n0_ n1_ n2_ n3_ n4_ n5_ n6_ n7_ n8_ n9_ n10_ n11_ n12_ n13_ n14_ n15_ n16_ n17_ n18_ n19_ n20_ n21_; clear hb hbox hg
             refine hK.out _ _ ⟨(blk_cell BK255.out 0).trans rfl, (blk_cell BK255.out 1).trans rfl, (blk_cell BK256.out 0).trans rfl, (blk_cell BK256.out 1).trans rfl⟩ (fun hHeld => ?_)
             clear hK K
             refine norm_ (a' := ?_) ?_ ?_
             rotate_left
             ·show Act.put _ (some 14) _ = _
              simp only [Act.put, List.setIfInBounds_toArray, List.set_cons_zero, List.set_cons_succ, i64_w, i32_w]
              rfl
             refine one_ (i := 1) (N := some 81) (bm 11 263) rfl rfl (one_of HT_.out (by kernel_rfl)) (by decide) (fun K hK => ?_)
             refine goes_ Try.func36 (by kernel_rfl) rfl #[.agg #[.int .i64 a0_0, .slice A0_1 l0_1.length c0_1]] (by rfl) rfl rfl (by (try simp only [List.map_toArray, List.map_cons, List.map_nil]); first | done | rfl | (simp only [List.length_drop, List.length_take]; rfl)) ?_
             with_reducible refine (laws_toGraph.calls kj76 a0_0 _ _ l0_1 t295 t296 _ ?side1 ?side2 A124.out).mono ?_
             (case side1 => exact qC_ HR0_1 HB)
             (case side2 => exact HC0_1.out)
             rintro e w138 ⟨v297, rfl, ho0, hb⟩
             refine ⟨_, rfl, ?_⟩
             have n0_ := Aside0.mk (Kd.R_elder' (qR_ HO_270001) (Kd.R_base ho0) hb)
             have n1_ := Aside0.mk (Kd.R_elder' (qR_ HO_275001) (Kd.R_base ho0) hb)
             have n2_ := Aside0.mk (Kd.R_elder' (qR_ HO_283001) (Kd.R_base ho0) hb)
             have n3_ := Aside0.mk (Kd.R_lower (Kd.R_new' (Kd.R_new' (Kd.R_new' ho0 (Kd.R_lt (qR_ HO_270001))) (Kd.R_lt (qR_ HO_275001))) (Kd.R_lt (qR_ HO_283001))) (below_size qB_))
             have n4_ := Aside0.mk (blk_below (qk_ BK255) hb)
             have n5_ := Aside0.mk (blk_below (qk_ BK256) hb)
             have n6_ := Aside0.mk (blk_below (qk_ BK269) hb)
             have n7_ := Aside0.mk (blk_below (qk_ BK274) hb)
             have n8_ := Aside0.mk (blk_below (qk_ BK282) hb)
             have n9_ := Aside0.mk (blk_below (qk_ BK306) hb)
             have n10_ := Aside0.mk (below_step qB_ hb)
             clear HO_270001; clear HO_275001; clear HO_283001; clear BK255; clear BK256; clear BK269; clear BK274; clear BK282; clear BK306; clear HB; have HO_270001 := n0_; have HO_275001 := n1_; have HO_283001 := n2_; have HO298 := n3_; have BK255 := n4_; have BK256 := n5_; have BK269 := n6_; have BK274 := n7_; have BK282 := n8_; have BK306 := n9_; have HB := n10_; clear n0_ n1_ n2_ n3_ n4_ n5_ n6_ n7_ n8_ n9_ n10_; (try clear hb); (try clear hb2); (try clear hk); (try clear hi); (try clear ho0)
             refine hK.out _ _ ⟨(blk_cell BK255.out 0).trans rfl, (blk_cell BK255.out 1).trans rfl, (blk_cell BK256.out 0).trans rfl, (blk_cell BK256.out 1).trans rfl⟩ (fun hHeld => ?_)
             clear hK K
             refine norm_ (a' := ?_) ?_ ?_
             rotate_left
             ·show Act.put _ (some 81) _ = _
              simp only [Act.put, List.setIfInBounds_toArray, List.set_cons_zero, List.set_cons_succ, i64_w, i32_w]
              rfl
             refine one_ (i := 3) (N := some 83) (bm 11 271) rfl rfl (one_of HT_.out (by kernel_rfl)) (by decide) (fun K hK => ?_)
             refine goes_ Try.func48 (by kernel_rfl) rfl #[.agg #[.int .i64 a1_0, .int .i64 a1_1]] (by rfl) rfl rfl (by (try simp only [List.map_toArray, List.map_cons, List.map_nil]); first | done | rfl | (simp only [List.length_drop, List.length_take]; rfl)) ?_
             with_reducible refine (laws_toEdge.calls a1_0 a1_1 t299 t300 _ A125.out).mono ?_
             rintro e w139 ⟨rfl, hb⟩
             refine ⟨_, rfl, ?_⟩
             have n0_ := Aside0.mk (Kd.R_below (qR_ HO_270001) hb)
             have n1_ := Aside0.mk (Kd.R_below (qR_ HO_275001) hb)
             have n2_ := Aside0.mk (Kd.R_below (qR_ HO_283001) hb)
             have n3_ := Aside0.mk (Kd.R_below (qR_ HO298) hb)
             have n4_ := Aside0.mk (blk_below (qk_ BK255) hb)
             have n5_ := Aside0.mk (blk_below (qk_ BK256) hb)
             have n6_ := Aside0.mk (blk_below (qk_ BK269) hb)
             have n7_ := Aside0.mk (blk_below (qk_ BK274) hb)
             have n8_ := Aside0.mk (blk_below (qk_ BK282) hb)
             have n9_ := Aside0.mk (blk_below (qk_ BK306) hb)
             have n10_ := Aside0.mk (below_step qB_ hb)
             clear HO_270001; clear HO_275001; clear HO_283001; clear HO298; clear BK255; clear BK256; clear BK269; clear BK274; clear BK282; clear BK306; clear HB; have HO_270001 := n0_; have HO_275001 := n1_; have HO_283001 := n2_; have HO298 := n3_; have BK255 := n4_; have BK256 := n5_; have BK269 := n6_; have BK274 := n7_; have BK282 := n8_; have BK306 := n9_; have HB := n10_; clear n0_ n1_ n2_ n3_ n4_ n5_ n6_ n7_ n8_ n9_ n10_; (try clear hb); (try clear hb2); (try clear hk); (try clear hi)
             obtain ⟨Ao140, co140, eo140⟩ := Kd.R_slice HO298.out
             (first | subst eo140 | (injection eo140 with f1_ f2_ f3_; have f4_ := f1_.symm; have f5_ := f3_.symm; clear f1_ f2_ f3_; subst f4_; subst f5_))
             refine hK.out _ _ ⟨(blk_cell BK255.out 0).trans rfl, (blk_cell BK255.out 1).trans rfl, (blk_cell BK256.out 0).trans rfl, (blk_cell BK256.out 1).trans rfl⟩ (fun hHeld => ?_)
             clear hK K
             refine norm_ (a' := ?_) ?_ ?_
             rotate_left
             ·show Act.put _ (some 83) _ = _
              simp only [Act.put, List.setIfInBounds_toArray, List.set_cons_zero, List.set_cons_succ, i64_w, i32_w]
              rfl
             refine one_ (i := 4) (N := some 84) (bm 11 287) rfl rfl (one_of HT_.out (by kernel_rfl)) (by decide) (fun K hK => ?_)
             refine goes_ Try.func53 (by kernel_rfl) rfl #[.agg #[.int .i64 t295, .slice Ao140 t296.length co140], .agg #[.int .i64 t299, .int .i64 t300]] (by rfl) rfl rfl (by (try simp only [List.map_toArray, List.map_cons, List.map_nil]); first | done | rfl | (simp only [List.length_drop, List.length_take]; rfl)) ?_
             with_reducible refine (impl_AddEdge.calls kj76 t295 _ _ t296 t299 t300 t301 t302 t305 _ ?side1 ?side2 A126.out).mono ?_
             (case side1 => exact qD_ (Kd.R_reads' HO298.out).2.2)
             (case side2 => exact (Kd.R_reads' HO298.out).2.1)
             rintro e w141 ⟨v303, rfl, ho0, hb⟩
             refine ⟨_, rfl, ?_⟩
             have n0_ := Aside0.mk (Kd.R_elder' (qR_ HO_270001) (Kd.R_base ho0) hb)
             have n1_ := Aside0.mk (Kd.R_elder' (qR_ HO_275001) (Kd.R_base ho0) hb)
             have n2_ := Aside0.mk (Kd.R_elder' (qR_ HO_283001) (Kd.R_base ho0) hb)
             have n3_ := Aside0.mk (Kd.R_elder' (qR_ HO298) (Kd.R_base ho0) hb)
             have n4_ := Aside0.mk (Kd.R_lower (Kd.R_new' (Kd.R_new' (Kd.R_new' (Kd.R_new' ho0 (Kd.R_lt (qR_ HO_270001))) (Kd.R_lt (qR_ HO_275001))) (Kd.R_lt (qR_ HO_283001))) (Kd.R_lt (qR_ HO298))) (below_size qB_))
             have n5_ := Aside0.mk (blk_below (qk_ BK255) hb)
             have n6_ := Aside0.mk (blk_below (qk_ BK256) hb)
             have n7_ := Aside0.mk (blk_below (qk_ BK269) hb)
             have n8_ := Aside0.mk (blk_below (qk_ BK274) hb)
             have n9_ := Aside0.mk (blk_below (qk_ BK282) hb)
             have n10_ := Aside0.mk (blk_below (qk_ BK306) hb)
             have n11_ := Aside0.mk (below_step qB_ hb)
             clear HO_270001; clear HO_275001; clear HO_283001; clear HO298; clear BK255; clear BK256; clear BK269; clear BK274; clear BK282; clear BK306; clear HB; have HO_270001 := n0_; have HO_275001 := n1_; have HO_283001 := n2_; have HO298 := n3_; have HO304 := n4_; have BK255 := n5_; have BK256 := n6_; have BK269 := n7_; have BK274 := n8_; have BK282 := n9_; have BK306 := n10_; have HB := n11_; clear n0_ n1_ n2_ n3_ n4_ n5_ n6_ n7_ n8_ n9_ n10_ n11_; (try clear hb); (try clear hb2); (try clear hk); (try clear hi); (try clear ho0)
             refine hK.out _ _ ⟨(blk_cell BK255.out 0).trans rfl, (blk_cell BK255.out 1).trans rfl, (blk_cell BK256.out 0).trans rfl, (blk_cell BK256.out 1).trans rfl⟩ (fun hHeld => ?_)
             clear hK K
             refine norm_ (a' := ?_) ?_ ?_
             rotate_left
             ·show Act.put _ (some 84) _ = _
              simp only [Act.put, List.setIfInBounds_toArray, List.set_cons_zero, List.set_cons_succ, i64_w, i32_w]
              rfl
             refine pz_ 5 79 (bm 11 319) ?_; refine pz_ 6 85 (bm 11 383) ?_; refine pz_ 7 86 (bm 11 511) ?_
             exact norm_ (by simp only [putAll, Act.put, List.setIfInBounds_toArray, List.set_cons_zero, List.set_cons_succ]) (hCont (.slice Ao140 t296.length co140, v303, gb306) _ ⟨hHeld, (by (with_reducible repeat (first | apply Kd.R_alloc | apply Kd.R_drewN | apply Kd.R_drew)); exact Kd.R_mono HO298.out (fun _ hk => ⟨hk.2, ⟨hk.1.1.1.2, ⟨hk.1.1.2, hk.1.2⟩⟩⟩)), (by (with_reducible repeat (first | apply Kd.R_alloc | apply Kd.R_drewN | apply Kd.R_drew)); exact Kd.R_mono HO304.out (fun _ hk => ⟨hk.2, ⟨hk.1.1.1.2, ⟨hk.1.1.2, hk.1.2⟩⟩⟩)), (by (with_reducible repeat (first | apply Kd.R_alloc | apply Kd.R_drewN | apply Kd.R_drew)); exact Kd.R_mono HO_270001.out (fun _ hk => ⟨hk.1.2, ⟨hk.2, ⟨hk.1.1.1, hk.1.1.2⟩⟩⟩)), (by (with_reducible repeat (first | apply Kd.R_alloc | apply Kd.R_drewN | apply Kd.R_drew)); exact Kd.R_mono HO_275001.out (fun _ hk => ⟨hk.1.2, ⟨hk.2, ⟨hk.1.1.1, hk.1.1.2⟩⟩⟩)), (by (with_reducible repeat (first | apply Kd.R_alloc | apply Kd.R_drewN | apply Kd.R_drew)); exact Kd.R_mono HO_283001.out (fun _ hk => ⟨hk.1.2, ⟨hk.2, ⟨hk.1.1.1, hk.1.1.2⟩⟩⟩)), (qk_ BK255), (qk_ BK256), (qk_ BK269), (qk_ BK274), (qk_ BK282), (qk_ BK306), GW306.out, GE306.out, NB255_306.out, NB306_255.out, NB256_306.out, NB306_256.out, NB269_306.out, NB306_269.out, NB274_306.out, NB306_274.out, NB282_306.out, NB306_282.out, qB_⟩)
           rintro ⟨v297, v303, gb306⟩ w142 ⟨hS_, h0_, h1_, h2_, h3_, h4_, h5_, h6_, h7_, h8_, h9_, h10_, h11_, h12_, h13_, h14_, h15_, h16_, h17_, h18_, h19_, h20_, h21_, h22_, h23_⟩
           have n0_ : Aside0 (Kd.R k79 79 w142 w.heap.size (fun k_ => some k_ ≠ (v303 : Value).ownBlock ∧ some k_ ≠ (.slice Ao30 t265.length co30 : Value).ownBlock ∧ some k_ ≠ (.slice Ao40 t290.length co40 : Value).ownBlock ∧ some k_ ≠ (.slice Ao48 t278.length co48 : Value).ownBlock) v297 t296) := ⟨h0_⟩
           have n1_ : Aside0 (Kd.R k79 79 w142 w.heap.size (fun k_ => some k_ ≠ (v297 : Value).ownBlock ∧ some k_ ≠ (.slice Ao30 t265.length co30 : Value).ownBlock ∧ some k_ ≠ (.slice Ao40 t290.length co40 : Value).ownBlock ∧ some k_ ≠ (.slice Ao48 t278.length co48 : Value).ownBlock) v303 t302) := ⟨h1_⟩
           have n2_ : Aside0 (Kd.R k79 79 w142 w.heap.size (fun k_ => some k_ ≠ (v297 : Value).ownBlock ∧ some k_ ≠ (v303 : Value).ownBlock ∧ some k_ ≠ (.slice Ao40 t290.length co40 : Value).ownBlock ∧ some k_ ≠ (.slice Ao48 t278.length co48 : Value).ownBlock) (.slice Ao30 t265.length co30) t265) := ⟨h2_⟩
           have n3_ : Aside0 (Kd.R k79 79 w142 w.heap.size (fun k_ => some k_ ≠ (v297 : Value).ownBlock ∧ some k_ ≠ (v303 : Value).ownBlock ∧ some k_ ≠ (.slice Ao30 t265.length co30 : Value).ownBlock ∧ some k_ ≠ (.slice Ao48 t278.length co48 : Value).ownBlock) (.slice Ao40 t290.length co40) t290) := ⟨h3_⟩
           have n4_ : Aside0 (Kd.R k79 79 w142 w.heap.size (fun k_ => some k_ ≠ (v297 : Value).ownBlock ∧ some k_ ≠ (v303 : Value).ownBlock ∧ some k_ ≠ (.slice Ao30 t265.length co30 : Value).ownBlock ∧ some k_ ≠ (.slice Ao40 t290.length co40 : Value).ownBlock) (.slice Ao48 t278.length co48) t293) := ⟨h4_⟩
           have n5_ : Aside0 (w142.heap[gb255]? = some (.cells #[.int .i64 a0_0, .slice A0_1 l0_1.length c0_1] 54 (0, 0))) := ⟨h5_⟩
           have n6_ : Aside0 (w142.heap[gb256]? = some (.cells #[.int .i64 a1_0, .int .i64 a1_1] 76 (0, 0))) := ⟨h6_⟩
           have n7_ : Aside0 (w142.heap[gb269]? = some (.cells #[.int .i64 t264, .slice Ao30 t265.length co30] 58 (0, 0))) := ⟨h7_⟩
           have n8_ : Aside0 (w142.heap[gb274]? = some (.cells #[.int .i64 t270, .slice Ao40 t290.length co40] 58 (0, 0))) := ⟨h8_⟩
           have n9_ : Aside0 (w142.heap[gb282]? = some (.cells #[.int .i64 t277, .slice Ao48 t278.length co48] 58 (0, 0))) := ⟨h9_⟩
           have n10_ : Aside0 (w142.heap[gb306]? = some (.cells #[.int .i64 0, .slice none 0 0] 58 (0, 0))) := ⟨h10_⟩
           have n11_ : Aside0 (w.heap.size ≤ gb306) := ⟨h11_⟩
           have n12_ : Aside0 (w.heap.size ≤ gb306) := ⟨h12_⟩
           have n13_ : Aside0 (gb255 ≠ gb306) := ⟨h13_⟩
           have n14_ : Aside0 (gb306 ≠ gb255) := ⟨h14_⟩
           have n15_ : Aside0 (gb256 ≠ gb306) := ⟨h15_⟩
           have n16_ : Aside0 (gb306 ≠ gb256) := ⟨h16_⟩
           have n17_ : Aside0 (gb269 ≠ gb306) := ⟨h17_⟩
           have n18_ : Aside0 (gb306 ≠ gb269) := ⟨h18_⟩
           have n19_ : Aside0 (gb274 ≠ gb306) := ⟨h19_⟩
           have n20_ : Aside0 (gb306 ≠ gb274) := ⟨h20_⟩
           have n21_ : Aside0 (gb282 ≠ gb306) := ⟨h21_⟩
           have n22_ : Aside0 (gb306 ≠ gb282) := ⟨h22_⟩
           have n23_ : Aside0 (Below w.heap.size w w142) := ⟨h23_⟩
           clear HO_270001; clear HO_275001; clear HO_283001; clear BK255; clear BK256; clear BK269; clear BK274; clear BK282; clear HB; clear h0_ h1_ h2_ h3_ h4_ h5_ h6_ h7_ h8_ h9_ h10_ h11_ h12_ h13_ h14_ h15_ h16_ h17_ h18_ h19_ h20_ h21_ h22_ h23_; have HO298 := n0_; have HO304 := n1_; have HO_270001 := n2_; have HO_275001 := n3_; have HO_283001 := n4_; have BK255 := n5_; have BK256 := n6_; have BK269 := n7_; have BK274 := n8_; have BK282 := n9_; have BK306 := n10_; have GW306 := n11_; have GE306 := n12_; have NB255_306 := n13_; have NB306_255 := n14_; have NB256_306 := n15_; have NB306_256 := n16_; have NB269_306 := n17_; have NB306_269 := n18_; have NB274_306 := n19_; have NB306_274 := n20_; have NB282_306 := n21_; have NB306_282 := n22_; have HB := n23_; clear n0_ n1_ n2_ n3_ n4_ n5_ n6_ n7_ n8_ n9_ n10_ n11_ n12_ n13_ n14_ n15_ n16_ n17_ n18_ n19_ n20_ n21_ n22_ n23_
           have hHeld : w142.cell? ⟨gb255, 0, none⟩ = some (.int .i64 a0_0) ∧ w142.cell? ⟨gb255, 1, none⟩ = some (.slice A0_1 l0_1.length c0_1) ∧ w142.cell? ⟨gb256, 0, none⟩ = some (.int .i64 a1_0) ∧ w142.cell? ⟨gb256, 1, none⟩ = some (.int .i64 a1_1) := hS_
           obtain ⟨Ao144, co144, eo144⟩ := Kd.R_slice HO304.out
           (first | subst eo144 | (injection eo144 with f1_ f2_ f3_; have f4_ := f1_.symm; have f5_ := f3_.symm; clear f1_ f2_ f3_; subst f4_; subst f5_))
           refine norm_ (a' := ?_) ?_ ?_
           rotate_left
           ·simp only [putAll, Act.put, List.setIfInBounds_toArray, List.set_cons_zero, List.set_cons_succ]
            rfl
           refine one_ (i := 9) (N := none) (bm 11 1023) rfl rfl (one_of HT_.out (by kernel_rfl)) (by decide) (fun K hK => ?_)
           have hs143 : w142.cell? ⟨gb306, 0, none⟩ = some (.int .i64 0) := (blk_cell BK306.out 0).trans rfl
           have hfs143 := blk_frozen BK306.out 0
           have hns143_0 := NB255_306.out; have hns143_1 := NB256_306.out; have hns143_2 := NB269_306.out; have hns143_3 := NB274_306.out; have hns143_4 := NB282_306.out; have hms143_0 := NB306_255.out; have hms143_1 := NB306_256.out; have hms143_2 := NB306_269.out; have hms143_3 := NB306_274.out; have hms143_4 := NB306_282.out
           have hs145 : w142.cell? ⟨gb306, 1, none⟩ = some (.slice none 0 0) := (blk_cell BK306.out 1).trans rfl
           have hfs145 := blk_frozen BK306.out 1
           have hns145_0 := NB255_306.out; have hns145_1 := NB256_306.out; have hns145_2 := NB269_306.out; have hns145_3 := NB274_306.out; have hns145_4 := NB282_306.out; have hms145_0 := NB306_255.out; have hms145_1 := NB306_256.out; have hms145_2 := NB306_269.out; have hms145_3 := NB306_274.out; have hms145_4 := NB306_282.out
           refine skip_ (w1 := ?_) (by rfl) rfl ?_ ?_
           rotate_left
           ·go_simp
            rfl
           refine hK.out _ _ ⟨((cell_far (p := ⟨gb306, _, none⟩) NB255_306.out _).trans (((cell_far (p := ⟨gb306, _, none⟩) NB255_306.out _).trans (hHeld.1)))), ((cell_far (p := ⟨gb306, _, none⟩) NB255_306.out _).trans (((cell_far (p := ⟨gb306, _, none⟩) NB255_306.out _).trans (hHeld.2.1)))), ((cell_far (p := ⟨gb306, _, none⟩) NB256_306.out _).trans (((cell_far (p := ⟨gb306, _, none⟩) NB256_306.out _).trans (hHeld.2.2.1)))), ((cell_far (p := ⟨gb306, _, none⟩) NB256_306.out _).trans (((cell_far (p := ⟨gb306, _, none⟩) NB256_306.out _).trans (hHeld.2.2.2))))⟩ (fun hHeld => ?_)
           clear hK K; refine pz_ 10 15 (bm 11 2047) ?_
           refine done_ (done_of HT_.out (by kernel_rfl)) ?_
           go_upto_region 25 with (fail)
           go_cut [95] (fun v95 wc => ∃ (kq : Nat) (x95_126 : Bool), v95 = .bool x95_126 ∧ Aside0 (laws_FnExactAddEdge.j2 kq t292 x95_126 t277 t293 = some true) ∧ Aside0 (kq ≤ kj76) ∧ Aside0 (Kd.R k79 79 wc w.heap.size (fun k_ => some k_ ≠ ((.slice Ao40 t290.length co40) : Value).ownBlock ∧ some k_ ≠ ((.slice Ao48 t278.length co48) : Value).ownBlock ∧ some k_ ≠ ((.slice Ao144 t302.length co144) : Value).ownBlock) (.slice Ao30 t265.length co30) t265) ∧ Aside0 (Kd.R k79 79 wc w.heap.size (fun k_ => some k_ ≠ ((.slice Ao30 t265.length co30) : Value).ownBlock ∧ some k_ ≠ ((.slice Ao48 t278.length co48) : Value).ownBlock ∧ some k_ ≠ ((.slice Ao144 t302.length co144) : Value).ownBlock) (.slice Ao40 t290.length co40) t290) ∧ Aside0 (Kd.R k79 79 wc w.heap.size (fun k_ => some k_ ≠ ((.slice Ao30 t265.length co30) : Value).ownBlock ∧ some k_ ≠ ((.slice Ao40 t290.length co40) : Value).ownBlock ∧ some k_ ≠ ((.slice Ao144 t302.length co144) : Value).ownBlock) (.slice Ao48 t278.length co48) t293) ∧ Aside0 (Kd.R k79 79 wc w.heap.size (fun k_ => some k_ ≠ ((.slice Ao30 t265.length co30) : Value).ownBlock ∧ some k_ ≠ ((.slice Ao40 t290.length co40) : Value).ownBlock ∧ some k_ ≠ ((.slice Ao48 t278.length co48) : Value).ownBlock) (.slice Ao144 t302.length co144) t302) ∧ Aside0 (wc.heap[gb255]? = some (.cells #[.int .i64 a0_0, (.slice A0_1 l0_1.length c0_1)] 54 (0, 0))) ∧ Aside0 (wc.heap[gb256]? = some (.cells #[.int .i64 a1_0, .int .i64 a1_1] 76 (0, 0))) ∧ Aside0 (wc.heap[gb269]? = some (.cells #[.int .i64 t264, (.slice Ao30 t265.length co30)] 58 (0, 0))) ∧ Aside0 (wc.heap[gb274]? = some (.cells #[.int .i64 t270, (.slice Ao40 t290.length co40)] 58 (0, 0))) ∧ Aside0 (wc.heap[gb282]? = some (.cells #[.int .i64 t277, (.slice Ao48 t278.length co48)] 58 (0, 0))) ∧ Aside0 (wc.heap[gb306]? = some (.cells #[.int .i64 t301, (.slice Ao144 t302.length co144)] 58 (0, 0))) ∧ Aside0 (Below w.heap.size w wc))
           case first =>
            have H := HC127.out; clear HC127
            obtain ⟨t307, A1460, H⟩ := Option.bind_eq_some_iff.mp H; have A146 := Aside0.mk A1460; clear A1460
            by_cases c147 : t307 = true
            ·subst c147
             rw [if_pos rfl] at H; have H' := Aside0.mk H; clear H; have hnb148 := NB306_255.out; have hnc148 := NB255_306.out; have hnb149 := NB306_256.out; have hnc149 := NB256_306.out; have hnb150 := NB306_269.out; have hnc150 := NB269_306.out; have hnb151 := NB306_274.out; have hnc151 := NB274_306.out; have hnb152 := NB306_282.out; have hnc152 := NB282_306.out
             obtain ⟨hcz153_0, hcz153_1, hfz153_0, hfz153_1⟩ := bc2_ BK306
             have hnb154 := NB269_255.out; have hnc154 := NB255_269.out; have hnb155 := NB269_256.out; have hnc155 := NB256_269.out; have hnb156 := NB269_274.out; have hnc156 := NB274_269.out; have hnb157 := NB269_282.out; have hnc157 := NB282_269.out
             obtain ⟨hcz158_0, hcz158_1, hfz158_0, hfz158_1⟩ := bc2_ BK269
             go_wp2_with (first | ((with_reducible refine gate_callee (f := 38) rfl ?_); refine gl_ (some 89) Try.func38 #[.agg #[.int .i64 t301, .slice Ao144 t302.length co144], .agg #[.int .i64 t264, .slice Ao30 t265.length co30]] ?_; (with_reducible refine (laws_eqGraph.calls kj76 t301 _ _ t302 t264 _ _ t265 true _ ?side1 ?side2 ?side3 ?side4 A146.out).mono ?_); (case side1 => refine (Kd.R_reads' (e := 79) (base := w.heap.size) (ok := fun k_ => (some k_ ≠ (v297 : Value).ownBlock ∧ (some k_ ≠ (.slice Ao30 t265.length co30 : Value).ownBlock ∧ (some k_ ≠ (.slice Ao40 t290.length co40 : Value).ownBlock ∧ some k_ ≠ (.slice Ao48 t278.length co48 : Value).ownBlock)))) (n := t302.length) (c := co144) ?_).2.2; exact (by (with_reducible repeat (first | apply Kd.R_alloc | apply Kd.R_drewN | apply Kd.R_drew)); exact (Kd.R_mono (Kd.R_far (p := ⟨gb306, 1, none⟩) (Kd.R_far (p := ⟨gb306, 0, none⟩) (Kd.R_types HO304.out BK306.out (by decide)) (fun _ hk => hk.2) (.int .i64 t301)) (fun _ hk => hk.2) (.slice Ao144 t302.length co144)) (fun _ h_ => h_.1)))); (case side2 => exact (Kd.R_reads' HO304.out).2.1); (case side3 => refine (Kd.R_reads' (e := 79) (base := w.heap.size) (ok := fun k_ => (some k_ ≠ (v297 : Value).ownBlock ∧ (some k_ ≠ (.slice Ao144 t302.length co144 : Value).ownBlock ∧ (some k_ ≠ (.slice Ao40 t290.length co40 : Value).ownBlock ∧ some k_ ≠ (.slice Ao48 t278.length co48 : Value).ownBlock)))) (n := t265.length) (c := co30) ?_).2.2; exact (by (with_reducible repeat (first | apply Kd.R_alloc | apply Kd.R_drewN | apply Kd.R_drew)); exact (Kd.R_mono (Kd.R_far (p := ⟨gb306, 1, none⟩) (Kd.R_far (p := ⟨gb306, 0, none⟩) (Kd.R_types HO_270001.out BK306.out (by decide)) (fun _ hk => hk.2) (.int .i64 t301)) (fun _ hk => hk.2) (.slice Ao144 t302.length co144)) (fun _ h_ => h_.1)))); (case side4 => exact (Kd.R_reads' HO_270001.out).2.1); rintro e w159 ⟨rfl, hb⟩; refine ⟨_, rfl, ?_⟩; replace HO_270001 := Aside0.mk (Kd.R_below (by (with_reducible repeat (first | apply Kd.R_alloc | apply Kd.R_drewN | apply Kd.R_drew)); exact (Kd.R_mono (Kd.R_far (p := ⟨gb306, 1, none⟩) (Kd.R_far (p := ⟨gb306, 0, none⟩) (Kd.R_types HO_270001.out BK306.out (by decide)) (fun _ hk => hk.2) (.int .i64 t301)) (fun _ hk => hk.2) (.slice Ao144 t302.length co144)) (fun _ h_ => h_.1))) hb); replace HO_275001 := Aside0.mk (Kd.R_below (by (with_reducible repeat (first | apply Kd.R_alloc | apply Kd.R_drewN | apply Kd.R_drew)); exact (Kd.R_mono (Kd.R_far (p := ⟨gb306, 1, none⟩) (Kd.R_far (p := ⟨gb306, 0, none⟩) (Kd.R_types HO_275001.out BK306.out (by decide)) (fun _ hk => hk.2) (.int .i64 t301)) (fun _ hk => hk.2) (.slice Ao144 t302.length co144)) (fun _ h_ => h_.1))) hb); replace HO_283001 := Aside0.mk (Kd.R_below (by (with_reducible repeat (first | apply Kd.R_alloc | apply Kd.R_drewN | apply Kd.R_drew)); exact (Kd.R_mono (Kd.R_far (p := ⟨gb306, 1, none⟩) (Kd.R_far (p := ⟨gb306, 0, none⟩) (Kd.R_types HO_283001.out BK306.out (by decide)) (fun _ hk => hk.2) (.int .i64 t301)) (fun _ hk => hk.2) (.slice Ao144 t302.length co144)) (fun _ h_ => h_.1))) hb); replace HO298 := Aside0.mk (Kd.R_below (by (with_reducible repeat (first | apply Kd.R_alloc | apply Kd.R_drewN | apply Kd.R_drew)); exact (Kd.R_mono (Kd.R_far (p := ⟨gb306, 1, none⟩) (Kd.R_far (p := ⟨gb306, 0, none⟩) (Kd.R_types HO298.out BK306.out (by decide)) (fun _ hk => hk.2) (.int .i64 t301)) (fun _ hk => hk.2) (.slice Ao144 t302.length co144)) (fun _ h_ => h_.1))) hb); replace HO304 := Aside0.mk (Kd.R_below (by (with_reducible repeat (first | apply Kd.R_alloc | apply Kd.R_drewN | apply Kd.R_drew)); exact (Kd.R_mono (Kd.R_far (p := ⟨gb306, 1, none⟩) (Kd.R_far (p := ⟨gb306, 0, none⟩) (Kd.R_types HO304.out BK306.out (by decide)) (fun _ hk => hk.2) (.int .i64 t301)) (fun _ hk => hk.2) (.slice Ao144 t302.length co144)) (fun _ h_ => h_.1))) hb); replace BK255 := Aside0.mk (blk_below (g := gb255) (o := .cells #[.int .i64 a0_0, .slice A0_1 l0_1.length c0_1] 54 (0, 0)) (by (with_reducible repeat (first | refine blk_drewN ?_ _ | refine blk_drew ?_ | refine blk_alloc ?_ _)); refine blk_far ?_ NB255_306.out _; (with_reducible repeat (first | refine blk_drewN ?_ _ | refine blk_drew ?_ | refine blk_alloc ?_ _)); refine blk_far ?_ NB255_306.out _; (with_reducible repeat (first | refine blk_drewN ?_ _ | refine blk_drew ?_ | refine blk_alloc ?_ _)); exact BK255.out) hb); replace BK256 := Aside0.mk (blk_below (g := gb256) (o := .cells #[.int .i64 a1_0, .int .i64 a1_1] 76 (0, 0)) (by (with_reducible repeat (first | refine blk_drewN ?_ _ | refine blk_drew ?_ | refine blk_alloc ?_ _)); refine blk_far ?_ NB256_306.out _; (with_reducible repeat (first | refine blk_drewN ?_ _ | refine blk_drew ?_ | refine blk_alloc ?_ _)); refine blk_far ?_ NB256_306.out _; (with_reducible repeat (first | refine blk_drewN ?_ _ | refine blk_drew ?_ | refine blk_alloc ?_ _)); exact BK256.out) hb); replace BK269 := Aside0.mk (blk_below (g := gb269) (o := .cells #[.int .i64 t264, .slice Ao30 t265.length co30] 58 (0, 0)) (by (with_reducible repeat (first | refine blk_drewN ?_ _ | refine blk_drew ?_ | refine blk_alloc ?_ _)); refine blk_far ?_ NB269_306.out _; (with_reducible repeat (first | refine blk_drewN ?_ _ | refine blk_drew ?_ | refine blk_alloc ?_ _)); refine blk_far ?_ NB269_306.out _; (with_reducible repeat (first | refine blk_drewN ?_ _ | refine blk_drew ?_ | refine blk_alloc ?_ _)); exact BK269.out) hb); replace BK274 := Aside0.mk (blk_below (g := gb274) (o := .cells #[.int .i64 t270, .slice Ao40 t290.length co40] 58 (0, 0)) (by (with_reducible repeat (first | refine blk_drewN ?_ _ | refine blk_drew ?_ | refine blk_alloc ?_ _)); refine blk_far ?_ NB274_306.out _; (with_reducible repeat (first | refine blk_drewN ?_ _ | refine blk_drew ?_ | refine blk_alloc ?_ _)); refine blk_far ?_ NB274_306.out _; (with_reducible repeat (first | refine blk_drewN ?_ _ | refine blk_drew ?_ | refine blk_alloc ?_ _)); exact BK274.out) hb); replace BK282 := Aside0.mk (blk_below (g := gb282) (o := .cells #[.int .i64 t277, .slice Ao48 t278.length co48] 58 (0, 0)) (by (with_reducible repeat (first | refine blk_drewN ?_ _ | refine blk_drew ?_ | refine blk_alloc ?_ _)); refine blk_far ?_ NB282_306.out _; (with_reducible repeat (first | refine blk_drewN ?_ _ | refine blk_drew ?_ | refine blk_alloc ?_ _)); refine blk_far ?_ NB282_306.out _; (with_reducible repeat (first | refine blk_drewN ?_ _ | refine blk_drew ?_ | refine blk_alloc ?_ _)); exact BK282.out) hb); replace BK306 := Aside0.mk (blk_below (g := gb306) (o := .cells #[.int .i64 t301, .slice Ao144 t302.length co144] 58 (0, 0)) (by (with_reducible repeat (first | refine blk_drewN ?_ _ | refine blk_drew ?_ | refine blk_alloc ?_ _)); refine blk_put (cs := #[.int .i64 t301, .slice none 0 0]) ?_ 1 _ rfl; (with_reducible repeat (first | refine blk_drewN ?_ _ | refine blk_drew ?_ | refine blk_alloc ?_ _)); refine blk_put (cs := #[.int .i64 0, .slice none 0 0]) ?_ 0 _ rfl; (with_reducible repeat (first | refine blk_drewN ?_ _ | refine blk_drew ?_ | refine blk_alloc ?_ _)); exact BK306.out) hb); replace HB := Aside0.mk (below_step qB_ hb); (try clear hb); (try clear hb2); (try clear hk); (try clear hi)))
             go_meet
             case rel => exact ⟨_, ((t305 != t268)), qe_, H', ⟨by have := HJ15.out; have := HJ76.out; first | omega | exact Nat.le_refl _⟩, ⟨by (try simp only [hl275001_76]); (with_reducible repeat (first | apply Kd.R_alloc | apply Kd.R_drewN | apply Kd.R_drew)); exact Kd.R_mono HO_270001.out (fun _ hk => ⟨hk.2.2.1, ⟨hk.2.2.2, hk.2.1⟩⟩)⟩, ⟨by (try simp only [hl275001_76]); (with_reducible repeat (first | apply Kd.R_alloc | apply Kd.R_drewN | apply Kd.R_drew)); exact Kd.R_mono HO_275001.out (fun _ hk => ⟨hk.2.2.1, ⟨hk.2.2.2, hk.2.1⟩⟩)⟩, ⟨by (try simp only [hl275001_76]); (with_reducible repeat (first | apply Kd.R_alloc | apply Kd.R_drewN | apply Kd.R_drew)); exact Kd.R_mono HO_283001.out (fun _ hk => ⟨hk.2.2.1, ⟨hk.2.2.2, hk.2.1⟩⟩)⟩, ⟨by (try simp only [hl275001_76]); (with_reducible repeat (first | apply Kd.R_alloc | apply Kd.R_drewN | apply Kd.R_drew)); exact Kd.R_mono HO304.out (fun _ hk => ⟨hk.2.1, ⟨hk.2.2.1, hk.2.2.2⟩⟩)⟩, ⟨by (try simp only [hl275001_76]); (with_reducible repeat (first | refine blk_drewN ?_ _ | refine blk_drew ?_ | refine blk_alloc ?_ _)); exact BK255.out⟩, ⟨by (try simp only [hl275001_76]); (with_reducible repeat (first | refine blk_drewN ?_ _ | refine blk_drew ?_ | refine blk_alloc ?_ _)); exact BK256.out⟩, ⟨by (try simp only [hl275001_76]); (with_reducible repeat (first | refine blk_drewN ?_ _ | refine blk_drew ?_ | refine blk_alloc ?_ _)); exact BK269.out⟩, ⟨by (try simp only [hl275001_76]); (with_reducible repeat (first | refine blk_drewN ?_ _ | refine blk_drew ?_ | refine blk_alloc ?_ _)); exact BK274.out⟩, ⟨by (try simp only [hl275001_76]); (with_reducible repeat (first | refine blk_drewN ?_ _ | refine blk_drew ?_ | refine blk_alloc ?_ _)); exact BK282.out⟩, ⟨by (try simp only [hl275001_76]); (with_reducible repeat (first | refine blk_drewN ?_ _ | refine blk_drew ?_ | refine blk_alloc ?_ _)); exact BK306.out⟩, ⟨qB_⟩⟩
            ·replace c147 := Bool.eq_false_iff.mpr c147
             subst c147
             rw [if_neg (show ¬ (false = true) by decide)] at H; have H' := Aside0.mk H; clear H; have hnb160 := NB306_255.out; have hnc160 := NB255_306.out; have hnb161 := NB306_256.out; have hnc161 := NB256_306.out; have hnb162 := NB306_269.out; have hnc162 := NB269_306.out; have hnb163 := NB306_274.out; have hnc163 := NB274_306.out; have hnb164 := NB306_282.out; have hnc164 := NB282_306.out
             obtain ⟨hcz165_0, hcz165_1, hfz165_0, hfz165_1⟩ := bc2_ BK306
             have hnb166 := NB269_255.out; have hnc166 := NB255_269.out; have hnb167 := NB269_256.out; have hnc167 := NB256_269.out; have hnb168 := NB269_274.out; have hnc168 := NB274_269.out; have hnb169 := NB269_282.out; have hnc169 := NB282_269.out
             obtain ⟨hcz170_0, hcz170_1, hfz170_0, hfz170_1⟩ := bc2_ BK269
             go_wp2_with (first | ((with_reducible refine gate_callee (f := 38) rfl ?_); refine gl_ (some 89) Try.func38 #[.agg #[.int .i64 t301, .slice Ao144 t302.length co144], .agg #[.int .i64 t264, .slice Ao30 t265.length co30]] ?_; (with_reducible refine (laws_eqGraph.calls kj76 t301 _ _ t302 t264 _ _ t265 false _ ?side1 ?side2 ?side3 ?side4 A146.out).mono ?_); (case side1 => refine (Kd.R_reads' (e := 79) (base := w.heap.size) (ok := fun k_ => (some k_ ≠ (v297 : Value).ownBlock ∧ (some k_ ≠ (.slice Ao30 t265.length co30 : Value).ownBlock ∧ (some k_ ≠ (.slice Ao40 t290.length co40 : Value).ownBlock ∧ some k_ ≠ (.slice Ao48 t278.length co48 : Value).ownBlock)))) (n := t302.length) (c := co144) ?_).2.2; exact (by (with_reducible repeat (first | apply Kd.R_alloc | apply Kd.R_drewN | apply Kd.R_drew)); exact (Kd.R_mono (Kd.R_far (p := ⟨gb306, 1, none⟩) (Kd.R_far (p := ⟨gb306, 0, none⟩) (Kd.R_types HO304.out BK306.out (by decide)) (fun _ hk => hk.2) (.int .i64 t301)) (fun _ hk => hk.2) (.slice Ao144 t302.length co144)) (fun _ h_ => h_.1)))); (case side2 => exact (Kd.R_reads' HO304.out).2.1); (case side3 => refine (Kd.R_reads' (e := 79) (base := w.heap.size) (ok := fun k_ => (some k_ ≠ (v297 : Value).ownBlock ∧ (some k_ ≠ (.slice Ao144 t302.length co144 : Value).ownBlock ∧ (some k_ ≠ (.slice Ao40 t290.length co40 : Value).ownBlock ∧ some k_ ≠ (.slice Ao48 t278.length co48 : Value).ownBlock)))) (n := t265.length) (c := co30) ?_).2.2; exact (by (with_reducible repeat (first | apply Kd.R_alloc | apply Kd.R_drewN | apply Kd.R_drew)); exact (Kd.R_mono (Kd.R_far (p := ⟨gb306, 1, none⟩) (Kd.R_far (p := ⟨gb306, 0, none⟩) (Kd.R_types HO_270001.out BK306.out (by decide)) (fun _ hk => hk.2) (.int .i64 t301)) (fun _ hk => hk.2) (.slice Ao144 t302.length co144)) (fun _ h_ => h_.1)))); (case side4 => exact (Kd.R_reads' HO_270001.out).2.1); rintro e w171 ⟨rfl, hb⟩; refine ⟨_, rfl, ?_⟩; replace HO_270001 := Aside0.mk (Kd.R_below (by (with_reducible repeat (first | apply Kd.R_alloc | apply Kd.R_drewN | apply Kd.R_drew)); exact (Kd.R_mono (Kd.R_far (p := ⟨gb306, 1, none⟩) (Kd.R_far (p := ⟨gb306, 0, none⟩) (Kd.R_types HO_270001.out BK306.out (by decide)) (fun _ hk => hk.2) (.int .i64 t301)) (fun _ hk => hk.2) (.slice Ao144 t302.length co144)) (fun _ h_ => h_.1))) hb); replace HO_275001 := Aside0.mk (Kd.R_below (by (with_reducible repeat (first | apply Kd.R_alloc | apply Kd.R_drewN | apply Kd.R_drew)); exact (Kd.R_mono (Kd.R_far (p := ⟨gb306, 1, none⟩) (Kd.R_far (p := ⟨gb306, 0, none⟩) (Kd.R_types HO_275001.out BK306.out (by decide)) (fun _ hk => hk.2) (.int .i64 t301)) (fun _ hk => hk.2) (.slice Ao144 t302.length co144)) (fun _ h_ => h_.1))) hb); replace HO_283001 := Aside0.mk (Kd.R_below (by (with_reducible repeat (first | apply Kd.R_alloc | apply Kd.R_drewN | apply Kd.R_drew)); exact (Kd.R_mono (Kd.R_far (p := ⟨gb306, 1, none⟩) (Kd.R_far (p := ⟨gb306, 0, none⟩) (Kd.R_types HO_283001.out BK306.out (by decide)) (fun _ hk => hk.2) (.int .i64 t301)) (fun _ hk => hk.2) (.slice Ao144 t302.length co144)) (fun _ h_ => h_.1))) hb); replace HO298 := Aside0.mk (Kd.R_below (by (with_reducible repeat (first | apply Kd.R_alloc | apply Kd.R_drewN | apply Kd.R_drew)); exact (Kd.R_mono (Kd.R_far (p := ⟨gb306, 1, none⟩) (Kd.R_far (p := ⟨gb306, 0, none⟩) (Kd.R_types HO298.out BK306.out (by decide)) (fun _ hk => hk.2) (.int .i64 t301)) (fun _ hk => hk.2) (.slice Ao144 t302.length co144)) (fun _ h_ => h_.1))) hb); replace HO304 := Aside0.mk (Kd.R_below (by (with_reducible repeat (first | apply Kd.R_alloc | apply Kd.R_drewN | apply Kd.R_drew)); exact (Kd.R_mono (Kd.R_far (p := ⟨gb306, 1, none⟩) (Kd.R_far (p := ⟨gb306, 0, none⟩) (Kd.R_types HO304.out BK306.out (by decide)) (fun _ hk => hk.2) (.int .i64 t301)) (fun _ hk => hk.2) (.slice Ao144 t302.length co144)) (fun _ h_ => h_.1))) hb); replace BK255 := Aside0.mk (blk_below (g := gb255) (o := .cells #[.int .i64 a0_0, .slice A0_1 l0_1.length c0_1] 54 (0, 0)) (by (with_reducible repeat (first | refine blk_drewN ?_ _ | refine blk_drew ?_ | refine blk_alloc ?_ _)); refine blk_far ?_ NB255_306.out _; (with_reducible repeat (first | refine blk_drewN ?_ _ | refine blk_drew ?_ | refine blk_alloc ?_ _)); refine blk_far ?_ NB255_306.out _; (with_reducible repeat (first | refine blk_drewN ?_ _ | refine blk_drew ?_ | refine blk_alloc ?_ _)); exact BK255.out) hb); replace BK256 := Aside0.mk (blk_below (g := gb256) (o := .cells #[.int .i64 a1_0, .int .i64 a1_1] 76 (0, 0)) (by (with_reducible repeat (first | refine blk_drewN ?_ _ | refine blk_drew ?_ | refine blk_alloc ?_ _)); refine blk_far ?_ NB256_306.out _; (with_reducible repeat (first | refine blk_drewN ?_ _ | refine blk_drew ?_ | refine blk_alloc ?_ _)); refine blk_far ?_ NB256_306.out _; (with_reducible repeat (first | refine blk_drewN ?_ _ | refine blk_drew ?_ | refine blk_alloc ?_ _)); exact BK256.out) hb); replace BK269 := Aside0.mk (blk_below (g := gb269) (o := .cells #[.int .i64 t264, .slice Ao30 t265.length co30] 58 (0, 0)) (by (with_reducible repeat (first | refine blk_drewN ?_ _ | refine blk_drew ?_ | refine blk_alloc ?_ _)); refine blk_far ?_ NB269_306.out _; (with_reducible repeat (first | refine blk_drewN ?_ _ | refine blk_drew ?_ | refine blk_alloc ?_ _)); refine blk_far ?_ NB269_306.out _; (with_reducible repeat (first | refine blk_drewN ?_ _ | refine blk_drew ?_ | refine blk_alloc ?_ _)); exact BK269.out) hb); replace BK274 := Aside0.mk (blk_below (g := gb274) (o := .cells #[.int .i64 t270, .slice Ao40 t290.length co40] 58 (0, 0)) (by (with_reducible repeat (first | refine blk_drewN ?_ _ | refine blk_drew ?_ | refine blk_alloc ?_ _)); refine blk_far ?_ NB274_306.out _; (with_reducible repeat (first | refine blk_drewN ?_ _ | refine blk_drew ?_ | refine blk_alloc ?_ _)); refine blk_far ?_ NB274_306.out _; (with_reducible repeat (first | refine blk_drewN ?_ _ | refine blk_drew ?_ | refine blk_alloc ?_ _)); exact BK274.out) hb); replace BK282 := Aside0.mk (blk_below (g := gb282) (o := .cells #[.int .i64 t277, .slice Ao48 t278.length co48] 58 (0, 0)) (by (with_reducible repeat (first | refine blk_drewN ?_ _ | refine blk_drew ?_ | refine blk_alloc ?_ _)); refine blk_far ?_ NB282_306.out _; (with_reducible repeat (first | refine blk_drewN ?_ _ | refine blk_drew ?_ | refine blk_alloc ?_ _)); refine blk_far ?_ NB282_306.out _; (with_reducible repeat (first | refine blk_drewN ?_ _ | refine blk_drew ?_ | refine blk_alloc ?_ _)); exact BK282.out) hb); replace BK306 := Aside0.mk (blk_below (g := gb306) (o := .cells #[.int .i64 t301, .slice Ao144 t302.length co144] 58 (0, 0)) (by (with_reducible repeat (first | refine blk_drewN ?_ _ | refine blk_drew ?_ | refine blk_alloc ?_ _)); refine blk_put (cs := #[.int .i64 t301, .slice none 0 0]) ?_ 1 _ rfl; (with_reducible repeat (first | refine blk_drewN ?_ _ | refine blk_drew ?_ | refine blk_alloc ?_ _)); refine blk_put (cs := #[.int .i64 0, .slice none 0 0]) ?_ 0 _ rfl; (with_reducible repeat (first | refine blk_drewN ?_ _ | refine blk_drew ?_ | refine blk_alloc ?_ _)); exact BK306.out) hb); replace HB := Aside0.mk (below_step qB_ hb); (try clear hb); (try clear hb2); (try clear hk); (try clear hi)))
             go_meet
             case rel => exact ⟨_, (true), qe_, H', ⟨by have := HJ15.out; have := HJ76.out; first | omega | exact Nat.le_refl _⟩, ⟨by (try simp only [hl275001_76]); (with_reducible repeat (first | apply Kd.R_alloc | apply Kd.R_drewN | apply Kd.R_drew)); exact Kd.R_mono HO_270001.out (fun _ hk => ⟨hk.2.2.1, ⟨hk.2.2.2, hk.2.1⟩⟩)⟩, ⟨by (try simp only [hl275001_76]); (with_reducible repeat (first | apply Kd.R_alloc | apply Kd.R_drewN | apply Kd.R_drew)); exact Kd.R_mono HO_275001.out (fun _ hk => ⟨hk.2.2.1, ⟨hk.2.2.2, hk.2.1⟩⟩)⟩, ⟨by (try simp only [hl275001_76]); (with_reducible repeat (first | apply Kd.R_alloc | apply Kd.R_drewN | apply Kd.R_drew)); exact Kd.R_mono HO_283001.out (fun _ hk => ⟨hk.2.2.1, ⟨hk.2.2.2, hk.2.1⟩⟩)⟩, ⟨by (try simp only [hl275001_76]); (with_reducible repeat (first | apply Kd.R_alloc | apply Kd.R_drewN | apply Kd.R_drew)); exact Kd.R_mono HO304.out (fun _ hk => ⟨hk.2.1, ⟨hk.2.2.1, hk.2.2.2⟩⟩)⟩, ⟨by (try simp only [hl275001_76]); (with_reducible repeat (first | refine blk_drewN ?_ _ | refine blk_drew ?_ | refine blk_alloc ?_ _)); exact BK255.out⟩, ⟨by (try simp only [hl275001_76]); (with_reducible repeat (first | refine blk_drewN ?_ _ | refine blk_drew ?_ | refine blk_alloc ?_ _)); exact BK256.out⟩, ⟨by (try simp only [hl275001_76]); (with_reducible repeat (first | refine blk_drewN ?_ _ | refine blk_drew ?_ | refine blk_alloc ?_ _)); exact BK269.out⟩, ⟨by (try simp only [hl275001_76]); (with_reducible repeat (first | refine blk_drewN ?_ _ | refine blk_drew ?_ | refine blk_alloc ?_ _)); exact BK274.out⟩, ⟨by (try simp only [hl275001_76]); (with_reducible repeat (first | refine blk_drewN ?_ _ | refine blk_drew ?_ | refine blk_alloc ?_ _)); exact BK282.out⟩, ⟨by (try simp only [hl275001_76]); (with_reducible repeat (first | refine blk_drewN ?_ _ | refine blk_drew ?_ | refine blk_alloc ?_ _)); exact BK306.out⟩, ⟨qB_⟩⟩
           case rest =>
            clear HC127; (try clear c1); (try clear p2); (try clear c3); (try clear c4); (try clear c5); (try clear c14); (try clear c15); (try clear c16); (try clear c36); (try clear c38); (try clear c48); (try clear c53); (try clear c147); (try clear c148); (try clear c149); (try clear c150); (try clear c151); (try clear c152); (try clear c154); (try clear c155); (try clear c156); (try clear c157); (try clear c160); (try clear c161); (try clear c162); (try clear c163); (try clear c164); (try clear c166); (try clear c167); (try clear c168); (try clear c169); (try clear hcz153_0); (try clear hcz153_1); (try clear hcz158_0); (try clear hcz158_1); (try clear hcz165_0); (try clear hcz165_1); (try clear hcz170_0); (try clear hcz170_1); (try clear hfz153_0); (try clear hfz153_1); (try clear hfz158_0); (try clear hfz158_1); (try clear hfz165_0); (try clear hfz165_1); (try clear hfz170_0); (try clear hfz170_1)
            obtain ⟨kq, x95_126, rfl, HA, HJ126, HO_270001, HO_275001, HO_283001, HO_307001, BK255, BK256, BK269, BK274, BK282, BK306, HB⟩ := hcut
            have hl283001_126 := (Kd.R_reads' HO_283001.out).1
            rw [hl283001_126] at HO_283001
            (try simp only [hl283001_126])
            (try simp only [hl283001_126] at BK255)
            (try simp only [hl283001_126] at BK256)
            (try simp only [hl283001_126] at BK269)
            (try simp only [hl283001_126] at BK274)
            (try simp only [hl283001_126] at BK282)
            (try simp only [hl283001_126] at BK306)
            (try simp only [hl283001_126] at HO_270001)
            (try simp only [hl283001_126] at HO_275001)
            (try simp only [hl283001_126] at HO_307001)
            cases kq with
            | zero => exact absurd HA.out (by simp [laws_FnExactAddEdge.j2])
            | succ kj126 =>
             have H := HA.out; clear HA
             simp only [laws_FnExactAddEdge.j2] at H
             by_cases c172 : x95_126 = true
             ·subst c172
              rw [if_pos rfl] at H
              exact absurd (Option.some.inj H) (by decide)
             ·replace c172 := Bool.eq_false_iff.mpr c172
              subst c172
              rw [if_neg (show ¬ (false = true) by decide)] at H
              obtain ⟨t308, A1730, H⟩ := Option.bind_eq_some_iff.mp H; have A173 := Aside0.mk A1730; clear A1730
              by_cases c174 : t308 < 0
              ·rw [if_pos c174] at H
               have c174b0 : decide (t308 < 0) = true := decide_eq_true c174
               clear c174
               exact absurd (Option.some.inj H) (by decide)
              ·rw [if_neg c174] at H
               have c174b0 : decide (t308 < 0) = false := decide_eq_false c174
               clear c174
               by_cases c182 : t308 = t292
               ·rw [if_pos c182] at H
                have c182b0 : (t308 == t292) = true := beq_iff_eq.mpr c182
                have c182b1 : (t308 != t292) = false := bne_eq_false_iff_eq.mpr c182
                clear c182; clear H; have hnb183 := NB282_255.out; have hnc183 := NB255_282.out; have hnb184 := NB282_256.out; have hnc184 := NB256_282.out; have hnb185 := NB282_269.out; have hnc185 := NB269_282.out; have hnb186 := NB282_274.out; have hnc186 := NB274_282.out; have hnb187 := NB282_306.out; have hnc187 := NB306_282.out
                obtain ⟨hcz188_0, hcz188_1, hfz188_0, hfz188_1⟩ := bc2_ BK282
                go_wp2_with (first | ((with_reducible refine gate_callee (f := 46) rfl ?_); refine gl_ (some 98) Try.func46 #[.agg #[.int .i64 t277, .slice Ao48 t293.length co48], .int .i64 1] ?_; (with_reducible refine (laws_heldGraph.calls kj126 t277 _ _ t293 1 t308 _ ?side1 ?side2 A173.out).mono ?_); (case side1 => exact qD_ (Kd.R_reads' HO_283001.out).2.2); (case side2 => exact (Kd.R_reads' HO_283001.out).2.1); rintro e w189 ⟨rfl, hb⟩; refine ⟨_, rfl, ?_⟩; replace HO_270001 := Aside0.mk (Kd.R_below (qR_ HO_270001) hb); replace HO_275001 := Aside0.mk (Kd.R_below (qR_ HO_275001) hb); replace HO_283001 := Aside0.mk (Kd.R_below (qR_ HO_283001) hb); replace HO_307001 := Aside0.mk (Kd.R_below (qR_ HO_307001) hb); replace BK255 := Aside0.mk (blk_below (qk_ BK255) hb); replace BK256 := Aside0.mk (blk_below (qk_ BK256) hb); replace BK269 := Aside0.mk (blk_below (qk_ BK269) hb); replace BK274 := Aside0.mk (blk_below (qk_ BK274) hb); replace BK282 := Aside0.mk (blk_below (qk_ BK282) hb); replace BK306 := Aside0.mk (blk_below (qk_ BK306) hb); replace HB := Aside0.mk (below_step qB_ hb); (try clear hb); (try clear hb2); (try clear hk); (try clear hi)))
                go_ret
                exact ⟨qr_, qB_⟩
               ·rw [if_neg c182] at H
                have c182b0 : (t308 == t292) = false := beq_eq_false_iff_ne.mpr c182
                have c182b1 : (t308 != t292) = true := bne_iff_ne.mpr c182
                exact absurd (Option.some.inj H) (by decide)
          ·rw [if_neg c123] at H
           have c123b0 : (t294 == t292) = false := beq_eq_false_iff_ne.mpr c123
           have c123b1 : (t294 != t292) = true := bne_iff_ne.mpr c123
           exact absurd (Option.some.inj H) (by decide)
     ·replace c75 := Bool.eq_false_iff.mpr c75
      subst c75
      rw [if_neg (show ¬ (false = true) by decide)] at H
      exact absurd (Option.some.inj H) (by decide)

end Go.Proofs.Ytigeiofkbccocaa.QFnExactAddEdge
