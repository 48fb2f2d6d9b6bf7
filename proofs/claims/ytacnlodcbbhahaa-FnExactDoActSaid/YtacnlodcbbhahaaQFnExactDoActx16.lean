-- printed for this claim by a program of the session's own (no text of the kit's print)
import Derived.Test.YtacnlodcbbhahaaQFnExactDoActx0
import Derived.Test.YtacnlodcbbhahaaQFnExactDoActx1
import Derived.Test.YtacnlodcbbhahaaQFnExactDoActx2
import Derived.Test.YtacnlodcbbhahaaQFnExactDoActx3
import Derived.Test.YtacnlodcbbhahaaQFnExactDoActx4
import Derived.Test.YtacnlodcbbhahaaQFnExactDoActx9
import Derived.Test.YtacnlodcbbhahaaQFnExactDoActx10
import Derived.Test.YtacnlodcbbhahaaQFnExactDoActx15
namespace Go.Proofs.Ytacnlodcbbhahaa.QFnExactDoAct
open Go.RowKit Go.Proofs.YtacnlodcbbhahaaW.PrintWords Go.Proofs.YtacnlodcbbhahaaW.PrintLast Go.Proofs.YtacnlodcbbhahaaW.PrintMore
attribute [local go_sem] max2_int min2_int max_two min_two max_three min_three max_four min_four   -- for this text's walks alone
set_option linter.unusedVariables false
set_option linter.unusedSimpArgs false

/-! ### laws_FnExactDoAct: function 8 -/
mutual
def laws_FnExactDoAct.j0 : Nat → Bool → Bool → Bool → List (S127) → Int → ByteArray → ByteArray → ByteArray → List (S99) → List (S99) → List (S99) → Option (Bool)
  | 0, _, _, _, _, _, _, _, _, _, _, _ => none
  | k + 1, x7, x10, x51, x261000, x262000, x262001, x262002, x262003, x276000, x280000, x289000 => if x51 = true then (some false) else ((laws_toDisk.f k x261000).bind fun t290 => ((laws_eqDisk.f k x280000 t290).bind fun t293 => (if t293 = true then ((laws_markDisk.f k x280000 1).bind fun bt294 => (if bt294.1 < 0 then (laws_FnExactDoAct.j1 k x7 true x261000 x262000 x262001 x262002 x262003 x276000 x289000) else ((laws_eqDisk.f k x289000 x276000).bind fun t296 => (if t296 = true then (laws_FnExactDoAct.j1 k x7 (x10 != x7) x261000 x262000 x262001 x262002 x262003 x276000 x289000) else (laws_FnExactDoAct.j1 k x7 true x261000 x262000 x262001 x262002 x262003 x276000 x289000))))) else (some false))))
def laws_FnExactDoAct.j1 : Nat → Bool → Bool → List (S127) → Int → ByteArray → ByteArray → ByteArray → List (S99) → List (S99) → Option (Bool)
  | 0, _, _, _, _, _, _, _, _, _ => none
  | k + 1, x7, x72, x261000, x262000, x262001, x262002, x262003, x276000, x289000 => if x72 = true then (some false) else ((laws_markDisk.f k x289000 1).bind fun bt297 => ((laws_heldDisk.f k bt297.2 1).bind fun t299 => (if t299 < 0 then (some false) else (if t299 = bt297.1 then ((laws_toDisk.f k x261000).bind fun t300 => ((laws_toAct.f x262000 x262001 x262002 x262003).bind fun bt303 => ((impl_DoAct.f k t300 bt303.1 bt303.2.1 bt303.2.2.1 bt303.2.2.2).bind fun bt307 => ((laws_eqDisk.f k bt307.1 x276000).bind fun t312 => (if t312 = true then (laws_FnExactDoAct.j2 k bt297.1 (bt307.2 != x7) bt297.2) else (laws_FnExactDoAct.j2 k bt297.1 true bt297.2)))))) else (some false)))))
def laws_FnExactDoAct.j2 : Nat → Int → Bool → List (S99) → Option (Bool)
  | 0, _, _, _ => none
  | k + 1, x12, x100, x289000 => if x100 = true then (some false) else ((laws_heldDisk.f k x289000 1).bind fun t313 => (if t313 < 0 then (some false) else (if t313 = x12 then (some true) else (some false))))
end
def laws_FnExactDoAct.f (k : Nat) (l0_0 : List (S127)) (a1_0 : Int) (a1_1 : ByteArray) (a1_2 : ByteArray) (a1_3 : ByteArray) : Option (Bool) := (laws_szDisk.f k l0_0 1048576).bind fun t262 => (if t262 < 0 then (some true) else ((laws_szAct.f a1_0 a1_1 a1_2 a1_3 t262).bind fun t263 => (if t263 < 0 then (some true) else ((laws_toDisk.f k l0_0).bind fun t264 => ((laws_toAct.f a1_0 a1_1 a1_2 a1_3).bind fun bt267 => ((spec_DoAct.f k t264 bt267.1 bt267.2.1 bt267.2.2.1 bt267.2.2.2).bind fun bt271 => ((laws_toDisk.f k l0_0).bind fun t276 => ((laws_toAct.f a1_0 a1_1 a1_2 a1_3).bind fun bt280 => ((impl_DoAct.f k t276 bt280.1 bt280.2.1 bt280.2.2.1 bt280.2.2.2).bind fun bt284 => ((laws_eqDisk.f k bt284.1 bt271.1).bind fun t289 => (if t289 = true then (laws_FnExactDoAct.j0 k bt271.2 bt284.2 (bt284.2 != bt271.2) l0_0 a1_0 a1_1 a1_2 a1_3 bt271.1 t276 bt284.1) else (laws_FnExactDoAct.j0 k bt271.2 bt284.2 true l0_0 a1_0 a1_1 a1_2 a1_3 bt271.1 t276 bt284.1))))))))))))
theorem laws_FnExactDoAct.mono_l : ∀ k, (∀ y0 y1 y2 y3 y4 y5 y6 y7 y8 y9 y10, LeO (laws_FnExactDoAct.j0 k y0 y1 y2 y3 y4 y5 y6 y7 y8 y9 y10) (laws_FnExactDoAct.j0 (k + 1) y0 y1 y2 y3 y4 y5 y6 y7 y8 y9 y10)) ∧ (∀ y0 y1 y2 y3 y4 y5 y6 y7 y8, LeO (laws_FnExactDoAct.j1 k y0 y1 y2 y3 y4 y5 y6 y7 y8) (laws_FnExactDoAct.j1 (k + 1) y0 y1 y2 y3 y4 y5 y6 y7 y8)) ∧ (∀ y0 y1 y2, LeO (laws_FnExactDoAct.j2 k y0 y1 y2) (laws_FnExactDoAct.j2 (k + 1) y0 y1 y2))
  | 0 => ⟨fun _ _ _ _ _ _ _ _ _ _ _ r h => by simp [laws_FnExactDoAct.j0] at h, fun _ _ _ _ _ _ _ _ _ r h => by simp [laws_FnExactDoAct.j1] at h, fun _ _ _ r h => by simp [laws_FnExactDoAct.j2] at h⟩
  | k + 1 => by
    obtain ⟨ih0, ih1, ih2⟩ := laws_FnExactDoAct.mono_l k
    refine ⟨?_, ?_, ?_⟩ <;> (intros; first | unfold laws_FnExactDoAct.j0 | unfold laws_FnExactDoAct.j1 | unfold laws_FnExactDoAct.j2) <;> repeat' first
    | (with_reducible exact ih0 _ _ _ _ _ _ _ _ _ _ _)
    | (with_reducible exact ih1 _ _ _ _ _ _ _ _ _)
    | (with_reducible exact ih2 _ _ _)
    | (with_reducible exact impl_DoAct.mono _ _ _ _ _ _)
    | (with_reducible exact laws_eqDisk.mono _ _ _)
    | (with_reducible exact laws_heldDisk.mono _ _ _)
    | (with_reducible exact laws_markDisk.mono _ _ _)
    | (with_reducible exact laws_szDisk.mono _ _ _)
    | (with_reducible exact laws_toDisk.mono _ _)
    | (with_reducible exact spec_DoAct.mono _ _ _ _ _ _)
    | (with_reducible exact LeO.refl _)
    | (with_reducible exact LeO.none _)
    | (with_reducible refine LeO.ite ?_ ?_)
    | (with_reducible refine LeO.bind ?_ (fun _ => ?_))
    | exact ih0 _ _ _ _ _ _ _ _ _ _ _
    | exact ih1 _ _ _ _ _ _ _ _ _
    | exact ih2 _ _ _
    | exact impl_DoAct.mono _ _ _ _ _ _
    | exact laws_eqDisk.mono _ _ _
    | exact laws_heldDisk.mono _ _ _
    | exact laws_markDisk.mono _ _ _
    | exact laws_szDisk.mono _ _ _
    | exact laws_toDisk.mono _ _
    | exact spec_DoAct.mono _ _ _ _ _ _
    | exact LeO.none _
    | refine LeO.ite ?_ ?_
    | refine LeO.bind ?_ (fun _ => ?_)
theorem laws_FnExactDoAct.mono : ∀ a0 a1 a2 a3 a4 k, LeO (laws_FnExactDoAct.f k a0 a1 a2 a3 a4) (laws_FnExactDoAct.f (k + 1) a0 a1 a2 a3 a4) := by
  intro a0 a1 a2 a3 a4 k
  obtain ⟨ih0, ih1, ih2⟩ := laws_FnExactDoAct.mono_l k
  unfold laws_FnExactDoAct.f
  repeat' first
      | (with_reducible exact ih0 _ _ _ _ _ _ _ _ _ _ _)
      | (with_reducible exact ih1 _ _ _ _ _ _ _ _ _)
      | (with_reducible exact ih2 _ _ _)
      | (with_reducible exact impl_DoAct.mono _ _ _ _ _ _)
      | (with_reducible exact laws_eqDisk.mono _ _ _)
      | (with_reducible exact laws_heldDisk.mono _ _ _)
      | (with_reducible exact laws_markDisk.mono _ _ _)
      | (with_reducible exact laws_szDisk.mono _ _ _)
      | (with_reducible exact laws_toDisk.mono _ _)
      | (with_reducible exact spec_DoAct.mono _ _ _ _ _ _)
      | (with_reducible exact LeO.refl _)
      | (with_reducible exact LeO.none _)
      | (with_reducible refine LeO.ite ?_ ?_)
      | (with_reducible refine LeO.bind ?_ (fun _ => ?_))
      | exact ih0 _ _ _ _ _ _ _ _ _ _ _
      | exact ih1 _ _ _ _ _ _ _ _ _
      | exact ih2 _ _ _
      | exact impl_DoAct.mono _ _ _ _ _ _
      | exact laws_eqDisk.mono _ _ _
      | exact laws_heldDisk.mono _ _ _
      | exact laws_markDisk.mono _ _ _
      | exact laws_szDisk.mono _ _ _
      | exact laws_toDisk.mono _ _
      | exact spec_DoAct.mono _ _ _ _ _ _
      | exact LeO.none _
      | refine LeO.ite ?_ ?_
      | refine LeO.bind ?_ (fun _ => ?_)
def laws_FnExactDoAct.T8 : Bool × List (List Nat × List Nat) := (true, [([], []), ([0], [0]), ([], []), ([2, 1], [2]), ([1, 3, 3], [1, 3]), ([4], [4]), ([5], [5]), ([5], [5]), ([], []), ([8, 6, 4, 0, 1, 2, 3, 4, 5, 6, 8], [6, 8]), ([7, 9, 0, 1, 2, 3, 4, 5, 6, 7, 8, 9], [7])])
def laws_FnExactDoAct.B8 : List Nat := [0, 1, 0, 7, 15, 31, 63, 63, 0, 383, 1023]
theorem laws_FnExactDoAct.tab8 : rtab .any (opsOf Try.f8 8) = laws_FnExactDoAct.T8 := by kernel_rfl
theorem laws_FnExactDoAct.bits8 : waitsOk laws_FnExactDoAct.T8.2 laws_FnExactDoAct.B8 = true := by kernel_rfl
def laws_FnExactDoAct.T10 : Bool × List (List Nat × List Nat) := (true, [([], []), ([], []), ([1], [1]), ([0, 2, 2], [0, 2]), ([3], [3]), ([4], [4]), ([4], [4]), ([], []), ([7, 5, 3, 0, 1, 2, 3, 4, 5, 7], [5, 7]), ([6, 8, 0, 1, 2, 3, 4, 5, 6, 7, 8], [6])])
def laws_FnExactDoAct.B10 : List Nat := [0, 0, 2, 7, 15, 31, 31, 0, 191, 511]
theorem laws_FnExactDoAct.tab10 : rtab .any (opsOf Try.f8 10) = laws_FnExactDoAct.T10 := by kernel_rfl
theorem laws_FnExactDoAct.bits10 : waitsOk laws_FnExactDoAct.T10.2 laws_FnExactDoAct.B10 = true := by kernel_rfl
def laws_FnExactDoAct.T27 : Bool × List (List Nat × List Nat) := (true, [([], []), ([0], [0]), ([], []), ([2, 1], [2]), ([1, 3, 3], [1, 3]), ([4], [4]), ([5], [5]), ([5], [5]), ([], []), ([8, 6, 4, 0, 1, 2, 3, 4, 5, 6, 8], [6, 8]), ([7, 9, 0, 1, 2, 3, 4, 5, 6, 7, 8, 9], [7])])
def laws_FnExactDoAct.B27 : List Nat := [0, 1, 0, 7, 15, 31, 63, 63, 0, 383, 1023]
theorem laws_FnExactDoAct.tab27 : rtab .any (opsOf Try.f8 27) = laws_FnExactDoAct.T27 := by kernel_rfl
theorem laws_FnExactDoAct.bits27 : waitsOk laws_FnExactDoAct.T27.2 laws_FnExactDoAct.B27 = true := by kernel_rfl
set_option maxHeartbeats 8000000 in
set_option maxRecDepth 100000 in
theorem laws_FnExactDoAct.calls (k : Nat) (A0_0 : Option Addr) (c0_0 : Nat) (l0_0 : List (S127)) (a1_0 : Int) (a1_1 : ByteArray) (a1_2 : ByteArray) (a1_3 : ByteArray) (w : World) (hr0_0 : Kd.C k127 w A0_0 l0_0.length l0_0) (hc0_0 : l0_0.length ≤ c0_0) (h : laws_FnExactDoAct.f k l0_0 a1_0 a1_1 a1_2 a1_3 = some true) :
  Calls Try.prog 8 #[.agg #[.slice A0_0 l0_0.length c0_0], .agg #[.int .i64 a1_0, .string a1_1, .string a1_2, .string a1_3]] w fun e w' => e = .returned (.bool true) ∧ Below w.heap.size w w' := by
 have hu39 := Try.underlying39; have hu57 := Try.underlying57; have hu44 := Try.underlying44
 have HR0_0 := Aside0.mk hr0_0
 have HC0_0 := Aside0.mk hc0_0
 clear hr0_0 hc0_0
 have HB := Aside0.mk (Below.refl w.heap.size w)
 have H : ((laws_szDisk.f k l0_0 1048576).bind fun t262 => (if t262 < 0 then (some true) else ((laws_szAct.f a1_0 a1_1 a1_2 a1_3 t262).bind fun t263 => (if t263 < 0 then (some true) else ((laws_toDisk.f k l0_0).bind fun t264 => ((laws_toAct.f a1_0 a1_1 a1_2 a1_3).bind fun bt267 => ((spec_DoAct.f k t264 bt267.1 bt267.2.1 bt267.2.2.1 bt267.2.2.2).bind fun bt271 => ((laws_toDisk.f k l0_0).bind fun t276 => ((laws_toAct.f a1_0 a1_1 a1_2 a1_3).bind fun bt280 => ((impl_DoAct.f k t276 bt280.1 bt280.2.1 bt280.2.2.1 bt280.2.2.2).bind fun bt284 => ((laws_eqDisk.f k bt284.1 bt271.1).bind fun t289 => (if t289 = true then (laws_FnExactDoAct.j0 k bt271.2 bt284.2 (bt284.2 != bt271.2) l0_0 a1_0 a1_1 a1_2 a1_3 bt271.1 t276 bt284.1) else (laws_FnExactDoAct.j0 k bt271.2 bt284.2 true l0_0 a1_0 a1_1 a1_2 a1_3 bt271.1 t276 bt284.1))))))))))))) = some true := h
 clear h
 obtain ⟨t262, A30, H⟩ := Option.bind_eq_some_iff.mp H; have A3 := Aside0.mk A30; clear A30
 by_cases c4 : t262 < 0
 ·rw [if_pos c4] at H
  have c4b0 : decide (t262 < 0) = true := decide_eq_true c4
  clear c4; clear H
  go_enter Try.func8, Try.ntmps8
  go_wp2_with (first | ((with_reducible refine gate_dst (N := 2) rfl ?_); refine bx_ 2 (cs := #[.slice A0_0 l0_0.length c0_0]) (t := 39) ?_; intro gb260 hg w5 hbox hb; have BK260 := Aside0.mk (hbox); have GW260 := Aside0.mk ((qs_ : w.heap.size ≤ gb260)); have GE260 := Aside0.mk ((qs_ : w.heap.size ≤ gb260)); replace HB := Aside0.mk (below_step qB_ hb); clear hb hbox hg) | ((with_reducible refine gate_dst (N := 3) rfl ?_); refine bx_ 3 (cs := #[.int .i64 a1_0, .string a1_1, .string a1_2, .string a1_3]) (t := 57) ?_; intro gb261 hg w6 hbox hb; have BK261 := Aside0.mk (hbox); have GW261 := Aside0.mk ((qs_ : w.heap.size ≤ gb261)); have GE261 := Aside0.mk ((qs_ : w.heap.size ≤ gb261)); have NB260_261 := Aside0.mk ((by rw [hg]; exact Nat.ne_of_lt (blk_lt (qk_ BK260)) : gb260 ≠ gb261)); have NB261_260 := Aside0.mk ((by rw [hg]; exact Nat.ne_of_gt (blk_lt (qk_ BK260)) : gb261 ≠ gb260)); replace BK260 := Aside0.mk (blk_below (qk_ BK260) hb); replace HB := Aside0.mk (below_step qB_ hb); clear hb hbox hg; have hnb7 := NB260_261.out; have hnc7 := NB261_260.out; obtain ⟨hcz8_0, hfz8_0⟩ := bc1_ BK260) | ((with_reducible refine gate_callee (f := 23) rfl ?_); refine gl_ (some 18) Try.func23 #[.agg #[.slice A0_0 l0_0.length c0_0], .int .i64 1048576] ?_; (with_reducible refine (laws_szDisk.calls k _ _ l0_0 1048576 t262 _ ?side1 ?side2 A3.out).mono ?_); (case side1 => exact qC_ HR0_0 HB); (case side2 => exact HC0_0.out); rintro e w9 ⟨rfl, hb⟩; refine ⟨_, rfl, ?_⟩; replace BK260 := Aside0.mk (blk_below (qk_ BK260) hb); replace BK261 := Aside0.mk (blk_below (qk_ BK261) hb); replace HB := Aside0.mk (below_step qB_ hb); (try clear hb); (try clear hb2); (try clear hk); (try clear hi)))
  go_ret
  exact ⟨qr_, qB_⟩
 ·rw [if_neg c4] at H
  have c4b0 : decide (t262 < 0) = false := decide_eq_false c4
  clear c4
  obtain ⟨t263, A100, H⟩ := Option.bind_eq_some_iff.mp H; have A10 := Aside0.mk A100; clear A100
  by_cases c11 : t263 < 0
  ·rw [if_pos c11] at H
   have c11b0 : decide (t263 < 0) = true := decide_eq_true c11
   clear c11; clear H
   go_enter Try.func8, Try.ntmps8
   go_wp2_with (first | ((with_reducible refine gate_dst (N := 2) rfl ?_); refine bx_ 2 (cs := #[.slice A0_0 l0_0.length c0_0]) (t := 39) ?_; intro gb260 hg w12 hbox hb; have BK260 := Aside0.mk (hbox); have GW260 := Aside0.mk ((qs_ : w.heap.size ≤ gb260)); have GE260 := Aside0.mk ((qs_ : w.heap.size ≤ gb260)); replace HB := Aside0.mk (below_step qB_ hb); clear hb hbox hg) | ((with_reducible refine gate_dst (N := 3) rfl ?_); refine bx_ 3 (cs := #[.int .i64 a1_0, .string a1_1, .string a1_2, .string a1_3]) (t := 57) ?_; intro gb261 hg w13 hbox hb; have BK261 := Aside0.mk (hbox); have GW261 := Aside0.mk ((qs_ : w.heap.size ≤ gb261)); have GE261 := Aside0.mk ((qs_ : w.heap.size ≤ gb261)); have NB260_261 := Aside0.mk ((by rw [hg]; exact Nat.ne_of_lt (blk_lt (qk_ BK260)) : gb260 ≠ gb261)); have NB261_260 := Aside0.mk ((by rw [hg]; exact Nat.ne_of_gt (blk_lt (qk_ BK260)) : gb261 ≠ gb260)); replace BK260 := Aside0.mk (blk_below (qk_ BK260) hb); replace HB := Aside0.mk (below_step qB_ hb); clear hb hbox hg; have hnb14 := NB260_261.out; have hnc14 := NB261_260.out; obtain ⟨hcz15_0, hfz15_0⟩ := bc1_ BK260) | ((with_reducible refine gate_callee (f := 23) rfl ?_); refine gl_ (some 18) Try.func23 #[.agg #[.slice A0_0 l0_0.length c0_0], .int .i64 1048576] ?_; (with_reducible refine (laws_szDisk.calls k _ _ l0_0 1048576 t262 _ ?side1 ?side2 A3.out).mono ?_); (case side1 => exact qC_ HR0_0 HB); (case side2 => exact HC0_0.out); rintro e w16 ⟨rfl, hb⟩; refine ⟨_, rfl, ?_⟩; replace BK260 := Aside0.mk (blk_below (qk_ BK260) hb); replace BK261 := Aside0.mk (blk_below (qk_ BK261) hb); replace HB := Aside0.mk (below_step qB_ hb); (try clear hb); (try clear hb2); (try clear hk); (try clear hi); obtain ⟨hcz17_0, hcz17_1, hcz17_2, hcz17_3, hfz17_0, hfz17_1, hfz17_2, hfz17_3⟩ := bc4_ BK261) | ((with_reducible refine gate_callee (f := 37) rfl ?_); refine gl_ (some 23) Try.func37 #[.agg #[.int .i64 a1_0, .string a1_1, .string a1_2, .string a1_3], .int .i64 t262] ?_; (with_reducible refine (laws_szAct.calls a1_0 a1_1 a1_2 a1_3 t262 t263 _ A10.out).mono ?_); rintro e w18 ⟨rfl, hb⟩; refine ⟨_, rfl, ?_⟩; replace BK260 := Aside0.mk (blk_below (qk_ BK260) hb); replace BK261 := Aside0.mk (blk_below (qk_ BK261) hb); replace HB := Aside0.mk (below_step qB_ hb); (try clear hb); (try clear hb2); (try clear hk); (try clear hi)))
   go_ret
   exact ⟨qr_, qB_⟩
  ·rw [if_neg c11] at H
   have c11b0 : decide (t263 < 0) = false := decide_eq_false c11
   clear c11
   obtain ⟨t264, A190, H⟩ := Option.bind_eq_some_iff.mp H; have A19 := Aside0.mk A190; clear A190
   replace H := Option.bind_eq_some_iff.mp H
   obtain ⟨⟨t267, t268, t269, t270⟩, A200, H⟩ := H
   replace H : ((spec_DoAct.f k t264 t267 t268 t269 t270).bind fun bt271 => ((laws_toDisk.f k l0_0).bind fun t276 => ((laws_toAct.f a1_0 a1_1 a1_2 a1_3).bind fun bt280 => ((impl_DoAct.f k t276 bt280.1 bt280.2.1 bt280.2.2.1 bt280.2.2.2).bind fun bt284 => ((laws_eqDisk.f k bt284.1 bt271.1).bind fun t289 => (if t289 = true then (laws_FnExactDoAct.j0 k bt271.2 bt284.2 (bt284.2 != bt271.2) l0_0 a1_0 a1_1 a1_2 a1_3 bt271.1 t276 bt284.1) else (laws_FnExactDoAct.j0 k bt271.2 bt284.2 true l0_0 a1_0 a1_1 a1_2 a1_3 bt271.1 t276 bt284.1))))))) = some true := H
   have A20 := Aside0.mk A200
   clear A200
   replace H := Option.bind_eq_some_iff.mp H
   obtain ⟨⟨t271, t274⟩, A210, H⟩ := H
   replace H : ((laws_toDisk.f k l0_0).bind fun t276 => ((laws_toAct.f a1_0 a1_1 a1_2 a1_3).bind fun bt280 => ((impl_DoAct.f k t276 bt280.1 bt280.2.1 bt280.2.2.1 bt280.2.2.2).bind fun bt284 => ((laws_eqDisk.f k bt284.1 t271).bind fun t289 => (if t289 = true then (laws_FnExactDoAct.j0 k t274 bt284.2 (bt284.2 != t274) l0_0 a1_0 a1_1 a1_2 a1_3 t271 t276 bt284.1) else (laws_FnExactDoAct.j0 k t274 bt284.2 true l0_0 a1_0 a1_1 a1_2 a1_3 t271 t276 bt284.1)))))) = some true := H
   have A21 := Aside0.mk A210
   clear A210
   obtain ⟨t276, A220, H⟩ := Option.bind_eq_some_iff.mp H; have A22 := Aside0.mk A220; clear A220
   replace H := Option.bind_eq_some_iff.mp H
   obtain ⟨⟨t280, t281, t282, t283⟩, A230, H⟩ := H
   replace H : ((impl_DoAct.f k t276 t280 t281 t282 t283).bind fun bt284 => ((laws_eqDisk.f k bt284.1 t271).bind fun t289 => (if t289 = true then (laws_FnExactDoAct.j0 k t274 bt284.2 (bt284.2 != t274) l0_0 a1_0 a1_1 a1_2 a1_3 t271 t276 bt284.1) else (laws_FnExactDoAct.j0 k t274 bt284.2 true l0_0 a1_0 a1_1 a1_2 a1_3 t271 t276 bt284.1)))) = some true := H
   have A23 := Aside0.mk A230
   clear A230
   replace H := Option.bind_eq_some_iff.mp H
   obtain ⟨⟨t284, t287⟩, A240, H⟩ := H
   replace H : ((laws_eqDisk.f k t284 t271).bind fun t289 => (if t289 = true then (laws_FnExactDoAct.j0 k t274 t287 (t287 != t274) l0_0 a1_0 a1_1 a1_2 a1_3 t271 t276 t284) else (laws_FnExactDoAct.j0 k t274 t287 true l0_0 a1_0 a1_1 a1_2 a1_3 t271 t276 t284))) = some true := H
   have A24 := Aside0.mk A240
   clear A240
   have HC25 := Aside0.mk H
   clear H
   go_enter Try.func8, Try.ntmps8
   try go_wp2_with (first | ((with_reducible refine gate_dst (N := 2) rfl ?_); refine bx_ 2 (cs := #[.slice A0_0 l0_0.length c0_0]) (t := 39) ?_; intro gb260 hg w26 hbox hb; have BK260 := Aside0.mk (hbox); have GW260 := Aside0.mk ((qs_ : w.heap.size ≤ gb260)); have GE260 := Aside0.mk ((qs_ : w.heap.size ≤ gb260)); replace HB := Aside0.mk (below_step qB_ hb); clear hb hbox hg) | ((with_reducible refine gate_dst (N := 3) rfl ?_); refine bx_ 3 (cs := #[.int .i64 a1_0, .string a1_1, .string a1_2, .string a1_3]) (t := 57) ?_; intro gb261 hg w27 hbox hb; have BK261 := Aside0.mk (hbox); have GW261 := Aside0.mk ((qs_ : w.heap.size ≤ gb261)); have GE261 := Aside0.mk ((qs_ : w.heap.size ≤ gb261)); have NB260_261 := Aside0.mk ((by rw [hg]; exact Nat.ne_of_lt (blk_lt (qk_ BK260)) : gb260 ≠ gb261)); have NB261_260 := Aside0.mk ((by rw [hg]; exact Nat.ne_of_gt (blk_lt (qk_ BK260)) : gb261 ≠ gb260)); replace BK260 := Aside0.mk (blk_below (qk_ BK260) hb); replace HB := Aside0.mk (below_step qB_ hb); clear hb hbox hg; have hnb28 := NB260_261.out; have hnc28 := NB261_260.out; obtain ⟨hcz29_0, hfz29_0⟩ := bc1_ BK260) | ((with_reducible refine gate_callee (f := 23) rfl ?_); refine gl_ (some 18) Try.func23 #[.agg #[.slice A0_0 l0_0.length c0_0], .int .i64 1048576] ?_; (with_reducible refine (laws_szDisk.calls k _ _ l0_0 1048576 t262 _ ?side1 ?side2 A3.out).mono ?_); (case side1 => exact qC_ HR0_0 HB); (case side2 => exact HC0_0.out); rintro e w30 ⟨rfl, hb⟩; refine ⟨_, rfl, ?_⟩; replace BK260 := Aside0.mk (blk_below (qk_ BK260) hb); replace BK261 := Aside0.mk (blk_below (qk_ BK261) hb); replace HB := Aside0.mk (below_step qB_ hb); (try clear hb); (try clear hb2); (try clear hk); (try clear hi); obtain ⟨hcz31_0, hcz31_1, hcz31_2, hcz31_3, hfz31_0, hfz31_1, hfz31_2, hfz31_3⟩ := bc4_ BK261) | ((with_reducible refine gate_callee (f := 37) rfl ?_); refine gl_ (some 23) Try.func37 #[.agg #[.int .i64 a1_0, .string a1_1, .string a1_2, .string a1_3], .int .i64 t262] ?_; (with_reducible refine (laws_szAct.calls a1_0 a1_1 a1_2 a1_3 t262 t263 _ A10.out).mono ?_); rintro e w32 ⟨rfl, hb⟩; refine ⟨_, rfl, ?_⟩; replace BK260 := Aside0.mk (blk_below (qk_ BK260) hb); replace BK261 := Aside0.mk (blk_below (qk_ BK261) hb); replace HB := Aside0.mk (below_step qB_ hb); (try clear hb); (try clear hb2); (try clear hk); (try clear hi)))
   have n0_ := Aside0.mk (blk_drew BK260.out)
   have n1_ := Aside0.mk (blk_drew BK261.out)
   have n2_ := Aside0.mk (below_drew1 HB.out)
   clear BK260; clear BK261; clear HB; have BK260 := n0_; have BK261 := n1_; have HB := n2_; clear n0_ n1_ n2_
   refine start_ (n := 11) (S := fun w' => w'.cell? ⟨gb260, 0, none⟩ = some (.slice A0_0 l0_0.length c0_0) ∧ w'.cell? ⟨gb261, 0, none⟩ = some (.int .i64 a1_0) ∧ w'.cell? ⟨gb261, 1, none⟩ = some (.string a1_1) ∧ w'.cell? ⟨gb261, 2, none⟩ = some (.string a1_2) ∧ w'.cell? ⟨gb261, 3, none⟩ = some (.string a1_3)) (ds := []) (bm 11 0) (by kernel_rfl) rfl (by kernel_rfl) ⟨(blk_cell BK260.out 0).trans rfl, (blk_cell BK261.out 0).trans rfl, (blk_cell BK261.out 1).trans rfl, (blk_cell BK261.out 2).trans rfl, (blk_cell BK261.out 3).trans rfl⟩ (fun hHeld => ?_); refine with_tabW laws_FnExactDoAct.tab8 laws_FnExactDoAct.bits8 (fun HT_ HW_ => ?_)
   generalize w32.drew = w33 at BK260 BK261 HB hHeld ⊢
   refine tz5_ 0 27 (bm 11 1) ?_; refine tz5_ 2 29 (bm 11 5) ?_
   refine join_ (σ := Value × Value × Nat) 2 #[true, true, true, true, true, true, true, true, true, false, false] (fun s_ => [(28, .agg #[s_.1]), (30, .agg #[.int .i64 t267, .string t268, .string t269, .string t270]), (31, .tuple #[.agg #[s_.2.1], .bool t274]), (6, .pointer (some ⟨s_.2.2, 0, none⟩)), (26, .tuple #[.agg #[s_.2.1], .bool t274]), (32, .agg #[s_.2.1]), (33, .bool t274)]) (fun s_ w' => (w'.cell? ⟨gb260, 0, none⟩ = some (.slice A0_0 l0_0.length c0_0) ∧ w'.cell? ⟨gb261, 0, none⟩ = some (.int .i64 a1_0) ∧ w'.cell? ⟨gb261, 1, none⟩ = some (.string a1_1) ∧ w'.cell? ⟨gb261, 2, none⟩ = some (.string a1_2) ∧ w'.cell? ⟨gb261, 3, none⟩ = some (.string a1_3)) ∧ (Kd.R k99 99 w' w.heap.size (fun k_ => some k_ ≠ (s_.2.1 : Value).ownBlock) s_.1 t264) ∧ (Kd.R k99 99 w' w.heap.size (fun k_ => some k_ ≠ (s_.1 : Value).ownBlock) s_.2.1 t271) ∧ (w'.heap[gb260]? = some (.cells #[.slice A0_0 l0_0.length c0_0] 39 (0, 0))) ∧ (w'.heap[gb261]? = some (.cells #[.int .i64 a1_0, .string a1_1, .string a1_2, .string a1_3] 57 (0, 0))) ∧ (w'.heap[s_.2.2]? = some (.cells #[.slice none 0 0] 44 (0, 0))) ∧ (w.heap.size ≤ s_.2.2) ∧ (w.heap.size ≤ s_.2.2) ∧ (gb260 ≠ s_.2.2) ∧ (s_.2.2 ≠ gb260) ∧ (gb261 ≠ s_.2.2) ∧ (s_.2.2 ≠ gb261) ∧ (Below w.heap.size w w')) ?_ ?_
   rotate_left
   ·intro hCont
    refine two_ (i := 1) (j := 8) (Ni := some 28) (Nj := some 6) (bm 11 7) #[true, false, true, false, false, false, false, false, true, false, false] rfl rfl rfl rfl (two_of HT_.out (by kernel_rfl)) (by decide) (by decide) (fun K hK => ?_) (fun K hK => ?_)
    ·skip
     refine goes_ Try.func25 (by kernel_rfl) rfl #[.agg #[.slice A0_0 l0_0.length c0_0]] (by rfl) rfl rfl (by (try simp only [List.map_toArray, List.map_cons, List.map_nil]); first | done | rfl | (simp only [List.length_drop, List.length_take]; rfl)) ?_
     with_reducible refine (laws_toDisk.calls k _ _ l0_0 t264 _ ?side1 ?side2 A19.out).mono ?_
     (case side1 => exact qC_ HR0_0 HB)
     (case side2 => exact HC0_0.out)
     rintro e w34 ⟨v265, rfl, ho0, hb⟩
     refine ⟨_, rfl, ?_⟩
     have n0_ := Aside0.mk (Kd.R_lower ho0 (below_size qB_))
     have n1_ := Aside0.mk (blk_below (qk_ BK260) hb)
     have n2_ := Aside0.mk (blk_below (qk_ BK261) hb)
     have n3_ := Aside0.mk (below_step qB_ hb)
     clear BK260; clear BK261; clear HB; have HO266 := n0_; have BK260 := n1_; have BK261 := n2_; have HB := n3_; clear n0_ n1_ n2_ n3_; (try clear hb); (try clear hb2); (try clear hk); (try clear hi); (try clear ho0)
     refine hK.out _ _ ⟨(blk_cell BK260.out 0).trans rfl, (blk_cell BK261.out 0).trans rfl, (blk_cell BK261.out 1).trans rfl, (blk_cell BK261.out 2).trans rfl, (blk_cell BK261.out 3).trans rfl⟩ (fun hHeld => ?_)
     clear hK K
     refine norm_ (a' := ?_) ?_ ?_
     rotate_left
     ·show Act.put _ (some 28) _ = _
      simp only [Act.put, List.setIfInBounds_toArray, List.set_cons_zero, List.set_cons_succ, i64_w, i32_w]
      rfl
     refine two_ (i := 3) (j := 8) (Ni := some 30) (Nj := some 6) (bm 11 15) #[true, true, true, false, false, false, false, false, true, false, false] rfl rfl rfl rfl (two_of HT_.out (by kernel_rfl)) (by decide) (by decide) (fun K hK => ?_) (fun K hK => ?_)
     ·skip
      refine goes_ Try.func39 (by kernel_rfl) rfl #[.agg #[.int .i64 a1_0, .string a1_1, .string a1_2, .string a1_3]] (by rfl) rfl rfl (by (try simp only [List.map_toArray, List.map_cons, List.map_nil]); first | done | rfl | (simp only [List.length_drop, List.length_take]; rfl)) ?_
      with_reducible refine (laws_toAct.calls a1_0 a1_1 a1_2 a1_3 t267 t268 t269 t270 _ A20.out).mono ?_
      rintro e w35 ⟨rfl, hb⟩
      refine ⟨_, rfl, ?_⟩
      have n0_ := Aside0.mk (Kd.R_below (qR_ HO266) hb)
      have n1_ := Aside0.mk (blk_below (qk_ BK260) hb)
      have n2_ := Aside0.mk (blk_below (qk_ BK261) hb)
      have n3_ := Aside0.mk (below_step qB_ hb)
      clear HO266; clear BK260; clear BK261; clear HB; have HO266 := n0_; have BK260 := n1_; have BK261 := n2_; have HB := n3_; clear n0_ n1_ n2_ n3_; (try clear hb); (try clear hb2); (try clear hk); (try clear hi)
      obtain ⟨Ao36, co36, eo36⟩ := Kd.R_slice HO266.out
      (first | subst eo36 | (injection eo36 with f1_ f2_ f3_; have f4_ := f1_.symm; have f5_ := f3_.symm; clear f1_ f2_ f3_; subst f4_; subst f5_))
      refine hK.out _ _ ⟨(blk_cell BK260.out 0).trans rfl, (blk_cell BK261.out 0).trans rfl, (blk_cell BK261.out 1).trans rfl, (blk_cell BK261.out 2).trans rfl, (blk_cell BK261.out 3).trans rfl⟩ (fun hHeld => ?_)
      clear hK K
      refine norm_ (a' := ?_) ?_ ?_
      rotate_left
      ·show Act.put _ (some 30) _ = _
       simp only [Act.put, List.setIfInBounds_toArray, List.set_cons_zero, List.set_cons_succ, i64_w, i32_w]
       rfl
      refine two_ (i := 4) (j := 8) (Ni := some 31) (Nj := some 6) (bm 11 31) #[true, true, true, true, false, false, false, false, true, false, false] rfl rfl rfl rfl (two_of HT_.out (by kernel_rfl)) (by decide) (by decide) (fun K hK => ?_) (fun K hK => ?_)
      ·skip
       refine goes_ Try.func38 (by kernel_rfl) rfl #[.agg #[.slice Ao36 t264.length co36], .agg #[.int .i64 t267, .string t268, .string t269, .string t270]] (by rfl) rfl rfl (by (try simp only [List.map_toArray, List.map_cons, List.map_nil]); first | done | rfl | (simp only [List.length_drop, List.length_take]; rfl)) ?_
       with_reducible refine (spec_DoAct.calls k _ _ t264 t267 t268 t269 t270 t271 t274 _ ?side1 ?side2 A21.out).mono ?_
       (case side1 => exact qD_ (Kd.R_reads' HO266.out).2.2)
       (case side2 => exact (Kd.R_reads' HO266.out).2.1)
       rintro e w37 ⟨v272, rfl, ho0, hb⟩
       refine ⟨_, rfl, ?_⟩
       have n0_ := Aside0.mk (Kd.R_elder' (qR_ HO266) (Kd.R_base ho0) hb)
       have n1_ := Aside0.mk (Kd.R_lower (Kd.R_new' ho0 (Kd.R_lt (qR_ HO266))) (below_size qB_))
       have n2_ := Aside0.mk (blk_below (qk_ BK260) hb)
       have n3_ := Aside0.mk (blk_below (qk_ BK261) hb)
       have n4_ := Aside0.mk (below_step qB_ hb)
       clear HO266; clear BK260; clear BK261; clear HB; have HO266 := n0_; have HO273 := n1_; have BK260 := n2_; have BK261 := n3_; have HB := n4_; clear n0_ n1_ n2_ n3_ n4_; (try clear hb); (try clear hb2); (try clear hk); (try clear hi); (try clear ho0)
       refine hK.out _ _ ⟨(blk_cell BK260.out 0).trans rfl, (blk_cell BK261.out 0).trans rfl, (blk_cell BK261.out 1).trans rfl, (blk_cell BK261.out 2).trans rfl, (blk_cell BK261.out 3).trans rfl⟩ (fun hHeld => ?_)
       clear hK K
       refine norm_ (a' := ?_) ?_ ?_
       rotate_left
       ·show Act.put _ (some 31) _ = _
        simp only [Act.put, List.setIfInBounds_toArray, List.set_cons_zero, List.set_cons_succ, i64_w, i32_w]
        rfl
       refine pz_ 5 26 (bm 11 63) ?_; refine pz_ 6 32 (bm 11 127) ?_; refine pz_ 7 33 (bm 11 255) ?_
       refine one_ (i := 8) (N := some 6) (bm 11 511) rfl rfl (one_of HT_.out (by kernel_rfl)) (by decide) (fun K hK => ?_)
       refine box_step ?hg (N := 6) ?hd (cs := #[.slice none 0 0]) (t := 44) ?hr ?_; (case hd => rfl); (case hg => rfl); (case hr => first | (go_simp; done) | (go_simp; rfl))
       intro gb275 hg w38 hbox hb
       have n0_ := Aside0.mk (Kd.R_below (qR_ HO266) hb)
       have n1_ := Aside0.mk (Kd.R_below (qR_ HO273) hb)
       have n2_ := Aside0.mk (blk_below (qk_ BK260) hb)
       have n3_ := Aside0.mk (blk_below (qk_ BK261) hb)
       have n4_ := Aside0.mk (below_step qB_ hb)
       have n5_ := Aside0.mk (hbox)
       have n6_ := Aside0.mk ((qs_ : w.heap.size ≤ gb275))
       have n7_ := Aside0.mk ((qs_ : w.heap.size ≤ gb275))
       have n8_ := Aside0.mk ((by rw [hg]; exact Nat.ne_of_lt (blk_lt (qk_ BK260)) : gb260 ≠ gb275))
       have n9_ := Aside0.mk ((by rw [hg]; exact Nat.ne_of_gt (blk_lt (qk_ BK260)) : gb275 ≠ gb260))
       have n10_ := Aside0.mk ((by rw [hg]; exact Nat.ne_of_lt (blk_lt (qk_ BK261)) : gb261 ≠ gb275))
       have n11_ := Aside0.mk ((by rw [hg]; exact Nat.ne_of_gt (blk_lt (qk_ BK261)) : gb275 ≠ gb261))
       clear HO266; clear HO273; clear BK260; clear BK261; clear HB; have HO266 := n0_; have HO273 := n1_; have BK260 := n2_; have BK261 := n3_; have HB := n4_; have BK275 := n5_; have GW275 := n6_; have GE275 := n7_; have NB260_275 := n8_; have NB275_260 := n9_; have NB261_275 := n10_; have NB275_261 := n11_; clear n0_ n1_ n2_ n3_ n4_ n5_ n6_ n7_ n8_ n9_ n10_ n11_; clear hb hbox hg
       refine hK.out _ _ ⟨(blk_cell BK260.out 0).trans rfl, (blk_cell BK261.out 0).trans rfl, (blk_cell BK261.out 1).trans rfl, (blk_cell BK261.out 2).trans rfl, (blk_cell BK261.out 3).trans rfl⟩ (fun hHeld => ?_)
       clear hK K
       refine norm_ (a' := ?_) ?_ ?_
       rotate_left
       ·show Act.put _ (some 6) _ = _
        simp only [Act.put, List.setIfInBounds_toArray, List.set_cons_zero, List.set_cons_succ, i64_w, i32_w]
        rfl
       exact norm_ (by simp only [putAll, Act.put, List.setIfInBounds_toArray, List.set_cons_zero, List.set_cons_succ]) (hCont (.slice Ao36 t264.length co36, v272, gb275) _ ⟨hHeld, (by (with_reducible repeat (first | apply Kd.R_alloc | apply Kd.R_drewN | apply Kd.R_drew)); exact Kd.R_mono HO266.out (fun _ hk => hk.2)), (by (with_reducible repeat (first | apply Kd.R_alloc | apply Kd.R_drewN | apply Kd.R_drew)); exact Kd.R_mono HO273.out (fun _ hk => hk.2)), (qk_ BK260), (qk_ BK261), (qk_ BK275), GW275.out, GE275.out, NB260_275.out, NB275_260.out, NB261_275.out, NB275_261.out, qB_⟩)
      ·skip
       refine box_step ?hg (N := 6) ?hd (cs := #[.slice none 0 0]) (t := 44) ?hr ?_; (case hd => rfl); (case hg => rfl); (case hr => first | (go_simp; done) | (go_simp; rfl))
       intro gb275 hg w36 hbox hb
       have n0_ := Aside0.mk (Kd.R_below (qR_ HO266) hb)
       have n1_ := Aside0.mk (blk_below (qk_ BK260) hb)
       have n2_ := Aside0.mk (blk_below (qk_ BK261) hb)
       have n3_ := Aside0.mk (below_step qB_ hb)
       have n4_ := Aside0.mk (hbox)
       have n5_ := Aside0.mk ((qs_ : w.heap.size ≤ gb275))
       have n6_ := Aside0.mk ((qs_ : w.heap.size ≤ gb275))
       have n7_ := Aside0.mk ((by rw [hg]; exact Nat.ne_of_lt (blk_lt (qk_ BK260)) : gb260 ≠ gb275))
       have n8_ := Aside0.mk ((by rw [hg]; exact Nat.ne_of_gt (blk_lt (qk_ BK260)) : gb275 ≠ gb260))
       have n9_ := Aside0.mk ((by rw [hg]; exact Nat.ne_of_lt (blk_lt (qk_ BK261)) : gb261 ≠ gb275))
       have n10_ := Aside0.mk ((by rw [hg]; exact Nat.ne_of_gt (blk_lt (qk_ BK261)) : gb275 ≠ gb261))
       clear HO266; clear BK260; clear BK261; clear HB; have HO266 := n0_; have BK260 := n1_; have BK261 := n2_; have HB := n3_; have BK275 := n4_; have GW275 := n5_; have GE275 := n6_; have NB260_275 := n7_; have NB275_260 := n8_; have NB261_275 := n9_; have NB275_261 := n10_; clear n0_ n1_ n2_ n3_ n4_ n5_ n6_ n7_ n8_ n9_ n10_; clear hb hbox hg
       obtain ⟨Ao37, co37, eo37⟩ := Kd.R_slice HO266.out
       (first | subst eo37 | (injection eo37 with f1_ f2_ f3_; have f4_ := f1_.symm; have f5_ := f3_.symm; clear f1_ f2_ f3_; subst f4_; subst f5_))
       refine hK.out _ _ ⟨(blk_cell BK260.out 0).trans rfl, (blk_cell BK261.out 0).trans rfl, (blk_cell BK261.out 1).trans rfl, (blk_cell BK261.out 2).trans rfl, (blk_cell BK261.out 3).trans rfl⟩ (fun hHeld => ?_)
       clear hK K
       refine norm_ (a' := ?_) ?_ ?_
       rotate_left
       ·show Act.put _ (some 6) _ = _
        simp only [Act.put, List.setIfInBounds_toArray, List.set_cons_zero, List.set_cons_succ, i64_w, i32_w]
        rfl
       refine one_ (i := 4) (N := some 31) (bm 11 287) rfl rfl (one_of HT_.out (by kernel_rfl)) (by decide) (fun K hK => ?_)
       refine goes_ Try.func38 (by kernel_rfl) rfl #[.agg #[.slice Ao37 t264.length co37], .agg #[.int .i64 t267, .string t268, .string t269, .string t270]] (by rfl) rfl rfl (by (try simp only [List.map_toArray, List.map_cons, List.map_nil]); first | done | rfl | (simp only [List.length_drop, List.length_take]; rfl)) ?_
       with_reducible refine (spec_DoAct.calls k _ _ t264 t267 t268 t269 t270 t271 t274 _ ?side1 ?side2 A21.out).mono ?_
       (case side1 => exact qD_ (Kd.R_reads' HO266.out).2.2)
       (case side2 => exact (Kd.R_reads' HO266.out).2.1)
       rintro e w38 ⟨v272, rfl, ho0, hb⟩
       refine ⟨_, rfl, ?_⟩
       have n0_ := Aside0.mk (Kd.R_elder' (qR_ HO266) (Kd.R_base ho0) hb)
       have n1_ := Aside0.mk (Kd.R_lower (Kd.R_new' ho0 (Kd.R_lt (qR_ HO266))) (below_size qB_))
       have n2_ := Aside0.mk (blk_below (qk_ BK260) hb)
       have n3_ := Aside0.mk (blk_below (qk_ BK261) hb)
       have n4_ := Aside0.mk (blk_below (qk_ BK275) hb)
       have n5_ := Aside0.mk (below_step qB_ hb)
       clear HO266; clear BK260; clear BK261; clear BK275; clear HB; have HO266 := n0_; have HO273 := n1_; have BK260 := n2_; have BK261 := n3_; have BK275 := n4_; have HB := n5_; clear n0_ n1_ n2_ n3_ n4_ n5_; (try clear hb); (try clear hb2); (try clear hk); (try clear hi); (try clear ho0)
       refine hK.out _ _ ⟨(blk_cell BK260.out 0).trans rfl, (blk_cell BK261.out 0).trans rfl, (blk_cell BK261.out 1).trans rfl, (blk_cell BK261.out 2).trans rfl, (blk_cell BK261.out 3).trans rfl⟩ (fun hHeld => ?_)
       clear hK K
       refine norm_ (a' := ?_) ?_ ?_
       rotate_left
       ·show Act.put _ (some 31) _ = _
        simp only [Act.put, List.setIfInBounds_toArray, List.set_cons_zero, List.set_cons_succ, i64_w, i32_w]
        rfl
       refine pz_ 5 26 (bm 11 319) ?_; refine pz_ 6 32 (bm 11 383) ?_; refine pz_ 7 33 (bm 11 511) ?_
       exact norm_ (by simp only [putAll, Act.put, List.setIfInBounds_toArray, List.set_cons_zero, List.set_cons_succ]) (hCont (.slice Ao37 t264.length co37, v272, gb275) _ ⟨hHeld, (by (with_reducible repeat (first | apply Kd.R_alloc | apply Kd.R_drewN | apply Kd.R_drew)); exact Kd.R_mono HO266.out (fun _ hk => hk.2)), (by (with_reducible repeat (first | apply Kd.R_alloc | apply Kd.R_drewN | apply Kd.R_drew)); exact Kd.R_mono HO273.out (fun _ hk => hk.2)), (qk_ BK260), (qk_ BK261), (qk_ BK275), GW275.out, GE275.out, NB260_275.out, NB275_260.out, NB261_275.out, NB275_261.out, qB_⟩)
     ·skip
      refine box_step ?hg (N := 6) ?hd (cs := #[.slice none 0 0]) (t := 44) ?hr ?_; (case hd => rfl); (case hg => rfl); (case hr => first | (go_simp; done) | (go_simp; rfl))
      intro gb275 hg w35 hbox hb
      have n0_ := Aside0.mk (Kd.R_below (qR_ HO266) hb)
      have n1_ := Aside0.mk (blk_below (qk_ BK260) hb)
      have n2_ := Aside0.mk (blk_below (qk_ BK261) hb)
      have n3_ := Aside0.mk (below_step qB_ hb)
      have n4_ := Aside0.mk (hbox)
      have n5_ := Aside0.mk ((qs_ : w.heap.size ≤ gb275))
      have n6_ := Aside0.mk ((qs_ : w.heap.size ≤ gb275))
      have n7_ := Aside0.mk ((by rw [hg]; exact Nat.ne_of_lt (blk_lt (qk_ BK260)) : gb260 ≠ gb275))
      have n8_ := Aside0.mk ((by rw [hg]; exact Nat.ne_of_gt (blk_lt (qk_ BK260)) : gb275 ≠ gb260))
      have n9_ := Aside0.mk ((by rw [hg]; exact Nat.ne_of_lt (blk_lt (qk_ BK261)) : gb261 ≠ gb275))
      have n10_ := Aside0.mk ((by rw [hg]; exact Nat.ne_of_gt (blk_lt (qk_ BK261)) : gb275 ≠ gb261))
      clear HO266; clear BK260; clear BK261; clear HB; have HO266 := n0_; have BK260 := n1_; have BK261 := n2_; have HB := n3_; have BK275 := n4_; have GW275 := n5_; have GE275 := n6_; have NB260_275 := n7_; have NB275_260 := n8_; have NB261_275 := n9_; have NB275_261 := n10_; clear n0_ n1_ n2_ n3_ n4_ n5_ n6_ n7_ n8_ n9_ n10_; clear hb hbox hg
      refine hK.out _ _ ⟨(blk_cell BK260.out 0).trans rfl, (blk_cell BK261.out 0).trans rfl, (blk_cell BK261.out 1).trans rfl, (blk_cell BK261.out 2).trans rfl, (blk_cell BK261.out 3).trans rfl⟩ (fun hHeld => ?_)
      clear hK K
      refine norm_ (a' := ?_) ?_ ?_
      rotate_left
      ·show Act.put _ (some 6) _ = _
       simp only [Act.put, List.setIfInBounds_toArray, List.set_cons_zero, List.set_cons_succ, i64_w, i32_w]
       rfl
      refine one_ (i := 3) (N := some 30) (bm 11 271) rfl rfl (one_of HT_.out (by kernel_rfl)) (by decide) (fun K hK => ?_)
      refine goes_ Try.func39 (by kernel_rfl) rfl #[.agg #[.int .i64 a1_0, .string a1_1, .string a1_2, .string a1_3]] (by rfl) rfl rfl (by (try simp only [List.map_toArray, List.map_cons, List.map_nil]); first | done | rfl | (simp only [List.length_drop, List.length_take]; rfl)) ?_
      with_reducible refine (laws_toAct.calls a1_0 a1_1 a1_2 a1_3 t267 t268 t269 t270 _ A20.out).mono ?_
      rintro e w36 ⟨rfl, hb⟩
      refine ⟨_, rfl, ?_⟩
      have n0_ := Aside0.mk (Kd.R_below (qR_ HO266) hb)
      have n1_ := Aside0.mk (blk_below (qk_ BK260) hb)
      have n2_ := Aside0.mk (blk_below (qk_ BK261) hb)
      have n3_ := Aside0.mk (blk_below (qk_ BK275) hb)
      have n4_ := Aside0.mk (below_step qB_ hb)
      clear HO266; clear BK260; clear BK261; clear BK275; clear HB; have HO266 := n0_; have BK260 := n1_; have BK261 := n2_; have BK275 := n3_; have HB := n4_; clear n0_ n1_ n2_ n3_ n4_; (try clear hb); (try clear hb2); (try clear hk); (try clear hi)
      obtain ⟨Ao37, co37, eo37⟩ := Kd.R_slice HO266.out
      (first | subst eo37 | (injection eo37 with f1_ f2_ f3_; have f4_ := f1_.symm; have f5_ := f3_.symm; clear f1_ f2_ f3_; subst f4_; subst f5_))
      refine hK.out _ _ ⟨(blk_cell BK260.out 0).trans rfl, (blk_cell BK261.out 0).trans rfl, (blk_cell BK261.out 1).trans rfl, (blk_cell BK261.out 2).trans rfl, (blk_cell BK261.out 3).trans rfl⟩ (fun hHeld => ?_)
      clear hK K
      refine norm_ (a' := ?_) ?_ ?_
      rotate_left
      ·show Act.put _ (some 30) _ = _
       simp only [Act.put, List.setIfInBounds_toArray, List.set_cons_zero, List.set_cons_succ, i64_w, i32_w]
       rfl
      refine one_ (i := 4) (N := some 31) (bm 11 287) rfl rfl (one_of HT_.out (by kernel_rfl)) (by decide) (fun K hK => ?_)
      refine goes_ Try.func38 (by kernel_rfl) rfl #[.agg #[.slice Ao37 t264.length co37], .agg #[.int .i64 t267, .string t268, .string t269, .string t270]] (by rfl) rfl rfl (by (try simp only [List.map_toArray, List.map_cons, List.map_nil]); first | done | rfl | (simp only [List.length_drop, List.length_take]; rfl)) ?_
      with_reducible refine (spec_DoAct.calls k _ _ t264 t267 t268 t269 t270 t271 t274 _ ?side1 ?side2 A21.out).mono ?_
      (case side1 => exact qD_ (Kd.R_reads' HO266.out).2.2)
      (case side2 => exact (Kd.R_reads' HO266.out).2.1)
      rintro e w38 ⟨v272, rfl, ho0, hb⟩
      refine ⟨_, rfl, ?_⟩
      have n0_ := Aside0.mk (Kd.R_elder' (qR_ HO266) (Kd.R_base ho0) hb)
      have n1_ := Aside0.mk (Kd.R_lower (Kd.R_new' ho0 (Kd.R_lt (qR_ HO266))) (below_size qB_))
      have n2_ := Aside0.mk (blk_below (qk_ BK260) hb)
      have n3_ := Aside0.mk (blk_below (qk_ BK261) hb)
      have n4_ := Aside0.mk (blk_below (qk_ BK275) hb)
      have n5_ := Aside0.mk (below_step qB_ hb)
      clear HO266; clear BK260; clear BK261; clear BK275; clear HB; have HO266 := n0_; have HO273 := n1_; have BK260 := n2_; have BK261 := n3_; have BK275 := n4_; have HB := n5_; clear n0_ n1_ n2_ n3_ n4_ n5_; (try clear hb); (try clear hb2); (try clear hk); (try clear hi); (try clear ho0)
      refine hK.out _ _ ⟨(blk_cell BK260.out 0).trans rfl, (blk_cell BK261.out 0).trans rfl, (blk_cell BK261.out 1).trans rfl, (blk_cell BK261.out 2).trans rfl, (blk_cell BK261.out 3).trans rfl⟩ (fun hHeld => ?_)
      clear hK K
      refine norm_ (a' := ?_) ?_ ?_
      rotate_left
      ·show Act.put _ (some 31) _ = _
       simp only [Act.put, List.setIfInBounds_toArray, List.set_cons_zero, List.set_cons_succ, i64_w, i32_w]
       rfl
      refine pz_ 5 26 (bm 11 319) ?_; refine pz_ 6 32 (bm 11 383) ?_; refine pz_ 7 33 (bm 11 511) ?_
      exact norm_ (by simp only [putAll, Act.put, List.setIfInBounds_toArray, List.set_cons_zero, List.set_cons_succ]) (hCont (.slice Ao37 t264.length co37, v272, gb275) _ ⟨hHeld, (by (with_reducible repeat (first | apply Kd.R_alloc | apply Kd.R_drewN | apply Kd.R_drew)); exact Kd.R_mono HO266.out (fun _ hk => hk.2)), (by (with_reducible repeat (first | apply Kd.R_alloc | apply Kd.R_drewN | apply Kd.R_drew)); exact Kd.R_mono HO273.out (fun _ hk => hk.2)), (qk_ BK260), (qk_ BK261), (qk_ BK275), GW275.out, GE275.out, NB260_275.out, NB275_260.out, NB261_275.out, NB275_261.out, qB_⟩)
    ·skip
     refine box_step ?hg (N := 6) ?hd (cs := #[.slice none 0 0]) (t := 44) ?hr ?_; (case hd => rfl); (case hg => rfl); (case hr => first | (go_simp; done) | (go_simp; rfl))
     intro gb275 hg w34 hbox hb
     have n0_ := Aside0.mk (blk_below (qk_ BK260) hb)
     have n1_ := Aside0.mk (blk_below (qk_ BK261) hb)
     have n2_ := Aside0.mk (below_step qB_ hb)
     have n3_ := Aside0.mk (hbox)
     have n4_ := Aside0.mk ((qs_ : w.heap.size ≤ gb275))
     have n5_ := Aside0.mk ((qs_ : w.heap.size ≤ gb275))
     have n6_ := Aside0.mk ((by rw [hg]; exact Nat.ne_of_lt (blk_lt (qk_ BK260)) : gb260 ≠ gb275))
     have n7_ := Aside0.mk ((by rw [hg]; exact Nat.ne_of_gt (blk_lt (qk_ BK260)) : gb275 ≠ gb260))
     have n8_ := Aside0.mk ((by rw [hg]; exact Nat.ne_of_lt (blk_lt (qk_ BK261)) : gb261 ≠ gb275))
     have n9_ := Aside0.mk ((by rw [hg]; exact Nat.ne_of_gt (blk_lt (qk_ BK261)) : gb275 ≠ gb261))
     clear BK260; clear BK261; clear HB; have BK260 := n0_; have BK261 := n1_; have HB := n2_; have BK275 := n3_; have GW275 := n4_; have GE275 := n5_; have NB260_275 := n6_; have NB275_260 := n7_; have NB261_275 := n8_; have NB275_261 := n9_; clear n0_ n1_ n2_ n3_ n4_ n5_ n6_ n7_ n8_ n9_; clear hb hbox hg
     refine hK.out _ _ ⟨(blk_cell BK260.out 0).trans rfl, (blk_cell BK261.out 0).trans rfl, (blk_cell BK261.out 1).trans rfl, (blk_cell BK261.out 2).trans rfl, (blk_cell BK261.out 3).trans rfl⟩ (fun hHeld => ?_)
     clear hK K
     refine norm_ (a' := ?_) ?_ ?_
     rotate_left
     ·show Act.put _ (some 6) _ = _
      simp only [Act.put, List.setIfInBounds_toArray, List.set_cons_zero, List.set_cons_succ, i64_w, i32_w]
      rfl
     refine one_ (i := 1) (N := some 28) (bm 11 263) rfl rfl (one_of HT_.out (by kernel_rfl)) (by decide) (fun K hK => ?_)
     refine goes_ Try.func25 (by kernel_rfl) rfl #[.agg #[.slice A0_0 l0_0.length c0_0]] (by rfl) rfl rfl (by (try simp only [List.map_toArray, List.map_cons, List.map_nil]); first | done | rfl | (simp only [List.length_drop, List.length_take]; rfl)) ?_
     with_reducible refine (laws_toDisk.calls k _ _ l0_0 t264 _ ?side1 ?side2 A19.out).mono ?_
     (case side1 => exact qC_ HR0_0 HB)
     (case side2 => exact HC0_0.out)
     rintro e w35 ⟨v265, rfl, ho0, hb⟩
     refine ⟨_, rfl, ?_⟩
     have n0_ := Aside0.mk (Kd.R_lower ho0 (below_size qB_))
     have n1_ := Aside0.mk (blk_below (qk_ BK260) hb)
     have n2_ := Aside0.mk (blk_below (qk_ BK261) hb)
     have n3_ := Aside0.mk (blk_below (qk_ BK275) hb)
     have n4_ := Aside0.mk (below_step qB_ hb)
     clear BK260; clear BK261; clear BK275; clear HB; have HO266 := n0_; have BK260 := n1_; have BK261 := n2_; have BK275 := n3_; have HB := n4_; clear n0_ n1_ n2_ n3_ n4_; (try clear hb); (try clear hb2); (try clear hk); (try clear hi); (try clear ho0)
     refine hK.out _ _ ⟨(blk_cell BK260.out 0).trans rfl, (blk_cell BK261.out 0).trans rfl, (blk_cell BK261.out 1).trans rfl, (blk_cell BK261.out 2).trans rfl, (blk_cell BK261.out 3).trans rfl⟩ (fun hHeld => ?_)
     clear hK K
     refine norm_ (a' := ?_) ?_ ?_
     rotate_left
     ·show Act.put _ (some 28) _ = _
      simp only [Act.put, List.setIfInBounds_toArray, List.set_cons_zero, List.set_cons_succ, i64_w, i32_w]
      rfl
     refine one_ (i := 3) (N := some 30) (bm 11 271) rfl rfl (one_of HT_.out (by kernel_rfl)) (by decide) (fun K hK => ?_)
     refine goes_ Try.func39 (by kernel_rfl) rfl #[.agg #[.int .i64 a1_0, .string a1_1, .string a1_2, .string a1_3]] (by rfl) rfl rfl (by (try simp only [List.map_toArray, List.map_cons, List.map_nil]); first | done | rfl | (simp only [List.length_drop, List.length_take]; rfl)) ?_
     with_reducible refine (laws_toAct.calls a1_0 a1_1 a1_2 a1_3 t267 t268 t269 t270 _ A20.out).mono ?_
     rintro e w36 ⟨rfl, hb⟩
     refine ⟨_, rfl, ?_⟩
     have n0_ := Aside0.mk (Kd.R_below (qR_ HO266) hb)
     have n1_ := Aside0.mk (blk_below (qk_ BK260) hb)
     have n2_ := Aside0.mk (blk_below (qk_ BK261) hb)
     have n3_ := Aside0.mk (blk_below (qk_ BK275) hb)
     have n4_ := Aside0.mk (below_step qB_ hb)
     clear HO266; clear BK260; clear BK261; clear BK275; clear HB; have HO266 := n0_; have BK260 := n1_; have BK261 := n2_; have BK275 := n3_; have HB := n4_; clear n0_ n1_ n2_ n3_ n4_; (try clear hb); (try clear hb2); (try clear hk); (try clear hi)
     obtain ⟨Ao37, co37, eo37⟩ := Kd.R_slice HO266.out
     (first | subst eo37 | (injection eo37 with f1_ f2_ f3_; have f4_ := f1_.symm; have f5_ := f3_.symm; clear f1_ f2_ f3_; subst f4_; subst f5_))
     refine hK.out _ _ ⟨(blk_cell BK260.out 0).trans rfl, (blk_cell BK261.out 0).trans rfl, (blk_cell BK261.out 1).trans rfl, (blk_cell BK261.out 2).trans rfl, (blk_cell BK261.out 3).trans rfl⟩ (fun hHeld => ?_)
     clear hK K
     refine norm_ (a' := ?_) ?_ ?_
     rotate_left
     ·show Act.put _ (some 30) _ = _
      simp only [Act.put, List.setIfInBounds_toArray, List.set_cons_zero, List.set_cons_succ, i64_w, i32_w]
      rfl
     refine one_ (i := 4) (N := some 31) (bm 11 287) rfl rfl (one_of HT_.out (by kernel_rfl)) (by decide) (fun K hK => ?_)
     refine goes_ Try.func38 (by kernel_rfl) rfl #[.agg #[.slice Ao37 t264.length co37], .agg #[.int .i64 t267, .string t268, .string t269, .string t270]] (by rfl) rfl rfl (by (try simp only [List.map_toArray, List.map_cons, List.map_nil]); first | done | rfl | (simp only [List.length_drop, List.length_take]; rfl)) ?_
     with_reducible refine (spec_DoAct.calls k _ _ t264 t267 t268 t269 t270 t271 t274 _ ?side1 ?side2 A21.out).mono ?_
     (case side1 => exact qD_ (Kd.R_reads' HO266.out).2.2)
     (case side2 => exact (Kd.R_reads' HO266.out).2.1)
     rintro e w38 ⟨v272, rfl, ho0, hb⟩
     refine ⟨_, rfl, ?_⟩
     have n0_ := Aside0.mk (Kd.R_elder' (qR_ HO266) (Kd.R_base ho0) hb)
     have n1_ := Aside0.mk (Kd.R_lower (Kd.R_new' ho0 (Kd.R_lt (qR_ HO266))) (below_size qB_))
     have n2_ := Aside0.mk (blk_below (qk_ BK260) hb)
     have n3_ := Aside0.mk (blk_below (qk_ BK261) hb)
     have n4_ := Aside0.mk (blk_below (qk_ BK275) hb)
     have n5_ := Aside0.mk (below_step qB_ hb)
     clear HO266; clear BK260; clear BK261; clear BK275; clear HB; have HO266 := n0_; have HO273 := n1_; have BK260 := n2_; have BK261 := n3_; have BK275 := n4_; have HB := n5_; clear n0_ n1_ n2_ n3_ n4_ n5_; (try clear hb); (try clear hb2); (try clear hk); (try clear hi); (try clear ho0)
     refine hK.out _ _ ⟨(blk_cell BK260.out 0).trans rfl, (blk_cell BK261.out 0).trans rfl, (blk_cell BK261.out 1).trans rfl, (blk_cell BK261.out 2).trans rfl, (blk_cell BK261.out 3).trans rfl⟩ (fun hHeld => ?_)
     clear hK K
     refine norm_ (a' := ?_) ?_ ?_
     rotate_left
     ·show Act.put _ (some 31) _ = _
      simp only [Act.put, List.setIfInBounds_toArray, List.set_cons_zero, List.set_cons_succ, i64_w, i32_w]
      rfl
     refine pz_ 5 26 (bm 11 319) ?_; refine pz_ 6 32 (bm 11 383) ?_; refine pz_ 7 33 (bm 11 511) ?_
     exact norm_ (by simp only [putAll, Act.put, List.setIfInBounds_toArray, List.set_cons_zero, List.set_cons_succ]) (hCont (.slice Ao37 t264.length co37, v272, gb275) _ ⟨hHeld, (by (with_reducible repeat (first | apply Kd.R_alloc | apply Kd.R_drewN | apply Kd.R_drew)); exact Kd.R_mono HO266.out (fun _ hk => hk.2)), (by (with_reducible repeat (first | apply Kd.R_alloc | apply Kd.R_drewN | apply Kd.R_drew)); exact Kd.R_mono HO273.out (fun _ hk => hk.2)), (qk_ BK260), (qk_ BK261), (qk_ BK275), GW275.out, GE275.out, NB260_275.out, NB275_260.out, NB261_275.out, NB275_261.out, qB_⟩)
   rintro ⟨v265, v272, gb275⟩ w39 ⟨hS_, h0_, h1_, h2_, h3_, h4_, h5_, h6_, h7_, h8_, h9_, h10_, h11_⟩
   have n0_ : Aside0 (Kd.R k99 99 w39 w.heap.size (fun k_ => some k_ ≠ (v272 : Value).ownBlock) v265 t264) := ⟨h0_⟩
   have n1_ : Aside0 (Kd.R k99 99 w39 w.heap.size (fun k_ => some k_ ≠ (v265 : Value).ownBlock) v272 t271) := ⟨h1_⟩
   have n2_ : Aside0 (w39.heap[gb260]? = some (.cells #[.slice A0_0 l0_0.length c0_0] 39 (0, 0))) := ⟨h2_⟩
   have n3_ : Aside0 (w39.heap[gb261]? = some (.cells #[.int .i64 a1_0, .string a1_1, .string a1_2, .string a1_3] 57 (0, 0))) := ⟨h3_⟩
   have n4_ : Aside0 (w39.heap[gb275]? = some (.cells #[.slice none 0 0] 44 (0, 0))) := ⟨h4_⟩
   have n5_ : Aside0 (w.heap.size ≤ gb275) := ⟨h5_⟩
   have n6_ : Aside0 (w.heap.size ≤ gb275) := ⟨h6_⟩
   have n7_ : Aside0 (gb260 ≠ gb275) := ⟨h7_⟩
   have n8_ : Aside0 (gb275 ≠ gb260) := ⟨h8_⟩
   have n9_ : Aside0 (gb261 ≠ gb275) := ⟨h9_⟩
   have n10_ : Aside0 (gb275 ≠ gb261) := ⟨h10_⟩
   have n11_ : Aside0 (Below w.heap.size w w39) := ⟨h11_⟩
   clear BK260; clear BK261; clear HB; clear h0_ h1_ h2_ h3_ h4_ h5_ h6_ h7_ h8_ h9_ h10_ h11_; have HO266 := n0_; have HO273 := n1_; have BK260 := n2_; have BK261 := n3_; have BK275 := n4_; have GW275 := n5_; have GE275 := n6_; have NB260_275 := n7_; have NB275_260 := n8_; have NB261_275 := n9_; have NB275_261 := n10_; have HB := n11_; clear n0_ n1_ n2_ n3_ n4_ n5_ n6_ n7_ n8_ n9_ n10_ n11_
   have hHeld : w39.cell? ⟨gb260, 0, none⟩ = some (.slice A0_0 l0_0.length c0_0) ∧ w39.cell? ⟨gb261, 0, none⟩ = some (.int .i64 a1_0) ∧ w39.cell? ⟨gb261, 1, none⟩ = some (.string a1_1) ∧ w39.cell? ⟨gb261, 2, none⟩ = some (.string a1_2) ∧ w39.cell? ⟨gb261, 3, none⟩ = some (.string a1_3) := hS_
   obtain ⟨Ao40, co40, eo40⟩ := Kd.R_slice HO273.out
   (first | subst eo40 | (injection eo40 with f1_ f2_ f3_; have f4_ := f1_.symm; have f5_ := f3_.symm; clear f1_ f2_ f3_; subst f4_; subst f5_))
   refine norm_ (a' := ?_) ?_ ?_
   rotate_left
   ·simp only [putAll, Act.put, List.setIfInBounds_toArray, List.set_cons_zero, List.set_cons_succ]
    rfl
   refine one_ (i := 9) (N := none) (bm 11 1023) rfl rfl (one_of HT_.out (by kernel_rfl)) (by decide) (fun K hK => ?_)
   have hs41 : w39.cell? ⟨gb275, 0, none⟩ = some (.slice none 0 0) := (blk_cell BK275.out 0).trans rfl
   have hfs41 := blk_frozen BK275.out 0
   have hns41_0 := NB260_275.out; have hns41_1 := NB261_275.out; have hms41_0 := NB275_260.out; have hms41_1 := NB275_261.out
   refine skip_ (w1 := ?_) (by rfl) rfl ?_ ?_
   rotate_left
   ·go_simp
    rfl
   refine hK.out _ _ ⟨((cell_far (p := ⟨gb275, _, none⟩) NB260_275.out _).trans (hHeld.1)), ((cell_far (p := ⟨gb275, _, none⟩) NB261_275.out _).trans (hHeld.2.1)), ((cell_far (p := ⟨gb275, _, none⟩) NB261_275.out _).trans (hHeld.2.2.1)), ((cell_far (p := ⟨gb275, _, none⟩) NB261_275.out _).trans (hHeld.2.2.2.1)), ((cell_far (p := ⟨gb275, _, none⟩) NB261_275.out _).trans (hHeld.2.2.2.2))⟩ (fun hHeld => ?_)
   clear hK K; refine pz_ 10 7 (bm 11 2047) ?_
   refine done_ (done_of HT_.out (by kernel_rfl)) ?_
   have hnb42 := NB260_275.out; have hnc42 := NB275_260.out
   obtain ⟨hcz43_0, hfz43_0⟩ := bc1_ BK260
   try go_wp2_with (first | ((with_reducible refine gate_callee (f := 25) rfl ?_); refine gl_ (some 35) Try.func25 #[.agg #[.slice A0_0 l0_0.length c0_0]] ?_; (with_reducible refine (laws_toDisk.calls k _ _ l0_0 t276 _ ?side1 ?side2 A22.out).mono ?_); (case side1 => exact Kd.C_below HR0_0.out qB_); (case side2 => exact HC0_0.out); rintro e w44 ⟨v277, rfl, ho0, hb⟩; refine ⟨_, rfl, ?_⟩; have HO278 := Aside0.mk (Kd.R_lower (Kd.R_new' (Kd.R_new' ho0 (Kd.R_lt (by (with_reducible repeat (first | apply Kd.R_alloc | apply Kd.R_drewN | apply Kd.R_drew)); exact (Kd.R_mono (Kd.R_far (p := ⟨gb275, 0, none⟩) (Kd.R_types HO266.out BK275.out (by decide)) (fun _ hk => hk.2) (.slice Ao40 t271.length co40)) (fun _ h_ => h_.1))))) (Kd.R_lt (by (with_reducible repeat (first | apply Kd.R_alloc | apply Kd.R_drewN | apply Kd.R_drew)); exact (Kd.R_mono (Kd.R_far (p := ⟨gb275, 0, none⟩) (Kd.R_types HO273.out BK275.out (by decide)) (fun _ hk => hk.2) (.slice Ao40 t271.length co40)) (fun _ h_ => h_.1))))) (below_size qB_)); replace HO266 := Aside0.mk (Kd.R_elder' (by (with_reducible repeat (first | apply Kd.R_alloc | apply Kd.R_drewN | apply Kd.R_drew)); exact (Kd.R_mono (Kd.R_far (p := ⟨gb275, 0, none⟩) (Kd.R_types HO266.out BK275.out (by decide)) (fun _ hk => hk.2) (.slice Ao40 t271.length co40)) (fun _ h_ => h_.1))) (Kd.R_base ho0) hb); replace HO273 := Aside0.mk (Kd.R_elder' (by (with_reducible repeat (first | apply Kd.R_alloc | apply Kd.R_drewN | apply Kd.R_drew)); exact (Kd.R_mono (Kd.R_far (p := ⟨gb275, 0, none⟩) (Kd.R_types HO273.out BK275.out (by decide)) (fun _ hk => hk.2) (.slice Ao40 t271.length co40)) (fun _ h_ => h_.1))) (Kd.R_base ho0) hb); replace BK260 := Aside0.mk (blk_below (g := gb260) (o := .cells #[.slice A0_0 l0_0.length c0_0] 39 (0, 0)) (by (with_reducible repeat (first | refine blk_drewN ?_ _ | refine blk_drew ?_ | refine blk_alloc ?_ _)); refine blk_far ?_ NB260_275.out _; (with_reducible repeat (first | refine blk_drewN ?_ _ | refine blk_drew ?_ | refine blk_alloc ?_ _)); exact BK260.out) hb); replace BK261 := Aside0.mk (blk_below (g := gb261) (o := .cells #[.int .i64 a1_0, .string a1_1, .string a1_2, .string a1_3] 57 (0, 0)) (by (with_reducible repeat (first | refine blk_drewN ?_ _ | refine blk_drew ?_ | refine blk_alloc ?_ _)); refine blk_far ?_ NB261_275.out _; (with_reducible repeat (first | refine blk_drewN ?_ _ | refine blk_drew ?_ | refine blk_alloc ?_ _)); exact BK261.out) hb); replace BK275 := Aside0.mk (blk_below (g := gb275) (o := .cells #[.slice Ao40 t271.length co40] 44 (0, 0)) (by (with_reducible repeat (first | refine blk_drewN ?_ _ | refine blk_drew ?_ | refine blk_alloc ?_ _)); refine blk_put (cs := #[.slice none 0 0]) ?_ 0 _ rfl; (with_reducible repeat (first | refine blk_drewN ?_ _ | refine blk_drew ?_ | refine blk_alloc ?_ _)); exact BK275.out) hb); replace HB := Aside0.mk (below_step qB_ hb); (try clear hb); (try clear hb2); (try clear hk); (try clear hi); (try clear ho0)) | ((with_reducible refine gate_dst (N := 8) rfl ?_); refine bx_ 8 (cs := #[.slice none 0 0]) (t := 44) ?_; intro gb279 hg w45 hbox hb; have BK279 := Aside0.mk (hbox); have GW279 := Aside0.mk ((qs_ : w.heap.size ≤ gb279)); have GE279 := Aside0.mk ((qs_ : w.heap.size ≤ gb279)); have NB260_279 := Aside0.mk ((by rw [hg]; exact Nat.ne_of_lt (blk_lt (qk_ BK260)) : gb260 ≠ gb279)); have NB279_260 := Aside0.mk ((by rw [hg]; exact Nat.ne_of_gt (blk_lt (qk_ BK260)) : gb279 ≠ gb260)); have NB261_279 := Aside0.mk ((by rw [hg]; exact Nat.ne_of_lt (blk_lt (qk_ BK261)) : gb261 ≠ gb279)); have NB279_261 := Aside0.mk ((by rw [hg]; exact Nat.ne_of_gt (blk_lt (qk_ BK261)) : gb279 ≠ gb261)); have NB275_279 := Aside0.mk ((by rw [hg]; exact Nat.ne_of_lt (blk_lt (qk_ BK275)) : gb275 ≠ gb279)); have NB279_275 := Aside0.mk ((by rw [hg]; exact Nat.ne_of_gt (blk_lt (qk_ BK275)) : gb279 ≠ gb275)); replace HO266 := Aside0.mk (Kd.R_below (qR_ HO266) hb); replace HO273 := Aside0.mk (Kd.R_below (qR_ HO273) hb); replace HO278 := Aside0.mk (Kd.R_below (qR_ HO278) hb); replace BK260 := Aside0.mk (blk_below (qk_ BK260) hb); replace BK261 := Aside0.mk (blk_below (qk_ BK261) hb); replace BK275 := Aside0.mk (blk_below (qk_ BK275) hb); replace HB := Aside0.mk (below_step qB_ hb); clear hb hbox hg; obtain ⟨Ao46, co46, eo46⟩ := Kd.R_slice HO278.out; subst eo46; have hnb47 := NB279_260.out; have hnc47 := NB260_279.out; have hnb48 := NB279_261.out; have hnc48 := NB261_279.out; have hnb49 := NB279_275.out; have hnc49 := NB275_279.out; obtain ⟨hcz50_0, hfz50_0⟩ := bc1_ BK279))
   have n0_ : Aside0 (Kd.R k99 99 (w45.setCell ⟨gb279, 0, none⟩ (.slice Ao46 t276.length co46)) w.heap.size (fun k_ => some k_ ≠ (.slice Ao40 t271.length co40 : Value).ownBlock ∧ some k_ ≠ (.slice Ao46 t276.length co46 : Value).ownBlock) v265 t264) := ⟨by (with_reducible repeat (first | apply Kd.R_alloc | apply Kd.R_drewN | apply Kd.R_drew)); exact Kd.R_mono (Kd.R_far (p := ⟨gb279, 0, none⟩) (Kd.R_types HO266.out BK279.out (by decide)) (fun _ hk => hk.2) (.slice Ao46 t276.length co46)) (fun _ hk => ⟨hk.1.1, hk.1.2⟩)⟩
   have n1_ : Aside0 (Kd.R k99 99 (w45.setCell ⟨gb279, 0, none⟩ (.slice Ao46 t276.length co46)) w.heap.size (fun k_ => some k_ ≠ (v265 : Value).ownBlock ∧ some k_ ≠ (.slice Ao46 t276.length co46 : Value).ownBlock) (.slice Ao40 t271.length co40) t271) := ⟨by (with_reducible repeat (first | apply Kd.R_alloc | apply Kd.R_drewN | apply Kd.R_drew)); exact Kd.R_mono (Kd.R_far (p := ⟨gb279, 0, none⟩) (Kd.R_types HO273.out BK279.out (by decide)) (fun _ hk => hk.2) (.slice Ao46 t276.length co46)) (fun _ hk => ⟨hk.1.1, hk.1.2⟩)⟩
   have n2_ : Aside0 (Kd.R k99 99 (w45.setCell ⟨gb279, 0, none⟩ (.slice Ao46 t276.length co46)) w.heap.size (fun k_ => some k_ ≠ (v265 : Value).ownBlock ∧ some k_ ≠ (.slice Ao40 t271.length co40 : Value).ownBlock) (.slice Ao46 t276.length co46) t276) := ⟨by (with_reducible repeat (first | apply Kd.R_alloc | apply Kd.R_drewN | apply Kd.R_drew)); exact Kd.R_mono (Kd.R_far (p := ⟨gb279, 0, none⟩) (Kd.R_types HO278.out BK279.out (by decide)) (fun _ hk => hk.2) (.slice Ao46 t276.length co46)) (fun _ hk => ⟨hk.1.1.2, hk.1.2⟩)⟩
   have n3_ : Aside0 ((w45.setCell ⟨gb279, 0, none⟩ (.slice Ao46 t276.length co46)).heap[gb260]? = some (.cells #[.slice A0_0 l0_0.length c0_0] 39 (0, 0))) := ⟨by (with_reducible repeat (first | refine blk_drewN ?_ _ | refine blk_drew ?_ | refine blk_alloc ?_ _)); refine blk_far ?_ NB260_279.out _; (with_reducible repeat (first | refine blk_drewN ?_ _ | refine blk_drew ?_ | refine blk_alloc ?_ _)); exact BK260.out⟩
   have n4_ : Aside0 ((w45.setCell ⟨gb279, 0, none⟩ (.slice Ao46 t276.length co46)).heap[gb261]? = some (.cells #[.int .i64 a1_0, .string a1_1, .string a1_2, .string a1_3] 57 (0, 0))) := ⟨by (with_reducible repeat (first | refine blk_drewN ?_ _ | refine blk_drew ?_ | refine blk_alloc ?_ _)); refine blk_far ?_ NB261_279.out _; (with_reducible repeat (first | refine blk_drewN ?_ _ | refine blk_drew ?_ | refine blk_alloc ?_ _)); exact BK261.out⟩
   have n5_ : Aside0 ((w45.setCell ⟨gb279, 0, none⟩ (.slice Ao46 t276.length co46)).heap[gb275]? = some (.cells #[.slice Ao40 t271.length co40] 44 (0, 0))) := ⟨by (with_reducible repeat (first | refine blk_drewN ?_ _ | refine blk_drew ?_ | refine blk_alloc ?_ _)); refine blk_far ?_ NB275_279.out _; (with_reducible repeat (first | refine blk_drewN ?_ _ | refine blk_drew ?_ | refine blk_alloc ?_ _)); exact BK275.out⟩
   have n6_ : Aside0 ((w45.setCell ⟨gb279, 0, none⟩ (.slice Ao46 t276.length co46)).heap[gb279]? = some (.cells #[.slice Ao46 t276.length co46] 44 (0, 0))) := ⟨by (with_reducible repeat (first | refine blk_drewN ?_ _ | refine blk_drew ?_ | refine blk_alloc ?_ _)); refine blk_put (cs := #[.slice none 0 0]) ?_ 0 _ rfl; (with_reducible repeat (first | refine blk_drewN ?_ _ | refine blk_drew ?_ | refine blk_alloc ?_ _)); exact BK279.out⟩
   have n7_ : Aside0 (Below w.heap.size w (w45.setCell ⟨gb279, 0, none⟩ (.slice Ao46 t276.length co46))) := ⟨qB_⟩
   (try clear HO266); (try clear HO273); (try clear HO278); (try clear BK260); (try clear BK261); (try clear BK275); (try clear BK279); (try clear HB)
   generalize (w45.setCell ⟨gb279, 0, none⟩ (.slice Ao46 t276.length co46)) = w51 at n0_ n1_ n2_ n3_ n4_ n5_ n6_ n7_ ⊢
   have HO266 := n0_; have HO273 := n1_; have HO278 := n2_; have BK260 := n3_; have BK261 := n4_; have BK275 := n5_; have BK279 := n6_; have HB := n7_; clear n0_ n1_ n2_ n3_ n4_ n5_ n6_ n7_
   have n0_ := Aside0.mk (Kd.R_drew HO266.out)
   have n1_ := Aside0.mk (Kd.R_drew HO273.out)
   have n2_ := Aside0.mk (Kd.R_drew HO278.out)
   have n3_ := Aside0.mk (blk_drew BK260.out)
   have n4_ := Aside0.mk (blk_drew BK261.out)
   have n5_ := Aside0.mk (blk_drew BK275.out)
   have n6_ := Aside0.mk (blk_drew BK279.out)
   have n7_ := Aside0.mk (below_drew1 HB.out)
   clear HO266; clear HO273; clear HO278; clear BK260; clear BK261; clear BK275; clear BK279; clear HB; have HO266 := n0_; have HO273 := n1_; have HO278 := n2_; have BK260 := n3_; have BK261 := n4_; have BK275 := n5_; have BK279 := n6_; have HB := n7_; clear n0_ n1_ n2_ n3_ n4_ n5_ n6_ n7_
   refine start_ (n := 10) (S := fun w' => w'.cell? ⟨gb279, 0, none⟩ = some (.slice Ao46 t276.length co46) ∧ w'.cell? ⟨gb261, 0, none⟩ = some (.int .i64 a1_0) ∧ w'.cell? ⟨gb261, 1, none⟩ = some (.string a1_1) ∧ w'.cell? ⟨gb261, 2, none⟩ = some (.string a1_2) ∧ w'.cell? ⟨gb261, 3, none⟩ = some (.string a1_3)) (ds := []) (bm 10 0) (by kernel_rfl) rfl (by kernel_rfl) ⟨(blk_cell BK279.out 0).trans rfl, (blk_cell BK261.out 0).trans rfl, (blk_cell BK261.out 1).trans rfl, (blk_cell BK261.out 2).trans rfl, (blk_cell BK261.out 3).trans rfl⟩ (fun hHeld => ?_); refine with_tabW laws_FnExactDoAct.tab10 laws_FnExactDoAct.bits10 (fun HT_ HW_ => ?_)
   generalize w51.drew = w52 at HO266 HO273 HO278 BK260 BK261 BK275 BK279 HB hHeld ⊢
   refine tz5_ 0 37 (bm 10 1) ?_; refine tz5_ 1 38 (bm 10 3) ?_
   refine join_ (σ := Value × Nat) 2 #[true, true, true, true, true, true, true, true, false, false] (fun s_ => [(39, .agg #[.int .i64 t280, .string t281, .string t282, .string t283]), (40, .tuple #[.agg #[s_.1], .bool t287]), (9, .pointer (some ⟨s_.2, 0, none⟩)), (36, .tuple #[.agg #[s_.1], .bool t287]), (41, .agg #[s_.1]), (42, .bool t287)]) (fun s_ w' => (w'.cell? ⟨gb279, 0, none⟩ = some (.slice Ao46 t276.length co46) ∧ w'.cell? ⟨gb261, 0, none⟩ = some (.int .i64 a1_0) ∧ w'.cell? ⟨gb261, 1, none⟩ = some (.string a1_1) ∧ w'.cell? ⟨gb261, 2, none⟩ = some (.string a1_2) ∧ w'.cell? ⟨gb261, 3, none⟩ = some (.string a1_3)) ∧ (Kd.R k99 99 w' w.heap.size (fun k_ => some k_ ≠ (.slice Ao40 t271.length co40 : Value).ownBlock ∧ some k_ ≠ (.slice Ao46 t276.length co46 : Value).ownBlock ∧ some k_ ≠ (s_.1 : Value).ownBlock) v265 t264) ∧ (Kd.R k99 99 w' w.heap.size (fun k_ => some k_ ≠ (v265 : Value).ownBlock ∧ some k_ ≠ (.slice Ao46 t276.length co46 : Value).ownBlock ∧ some k_ ≠ (s_.1 : Value).ownBlock) (.slice Ao40 t271.length co40) t271) ∧ (Kd.R k99 99 w' w.heap.size (fun k_ => some k_ ≠ (v265 : Value).ownBlock ∧ some k_ ≠ (.slice Ao40 t271.length co40 : Value).ownBlock ∧ some k_ ≠ (s_.1 : Value).ownBlock) (.slice Ao46 t276.length co46) t276) ∧ (Kd.R k99 99 w' w.heap.size (fun k_ => some k_ ≠ (v265 : Value).ownBlock ∧ some k_ ≠ (.slice Ao40 t271.length co40 : Value).ownBlock ∧ some k_ ≠ (.slice Ao46 t276.length co46 : Value).ownBlock) s_.1 t284) ∧ (w'.heap[gb260]? = some (.cells #[.slice A0_0 l0_0.length c0_0] 39 (0, 0))) ∧ (w'.heap[gb261]? = some (.cells #[.int .i64 a1_0, .string a1_1, .string a1_2, .string a1_3] 57 (0, 0))) ∧ (w'.heap[gb275]? = some (.cells #[.slice Ao40 t271.length co40] 44 (0, 0))) ∧ (w'.heap[gb279]? = some (.cells #[.slice Ao46 t276.length co46] 44 (0, 0))) ∧ (w'.heap[s_.2]? = some (.cells #[.slice none 0 0] 44 (0, 0))) ∧ (w.heap.size ≤ s_.2) ∧ (w.heap.size ≤ s_.2) ∧ (gb260 ≠ s_.2) ∧ (s_.2 ≠ gb260) ∧ (gb261 ≠ s_.2) ∧ (s_.2 ≠ gb261) ∧ (gb275 ≠ s_.2) ∧ (s_.2 ≠ gb275) ∧ (gb279 ≠ s_.2) ∧ (s_.2 ≠ gb279) ∧ (Below w.heap.size w w')) ?_ ?_
   rotate_left
   ·intro hCont
    refine two_ (i := 2) (j := 7) (Ni := some 39) (Nj := some 9) (bm 10 7) #[true, true, false, false, false, false, false, true, false, false] rfl rfl rfl rfl (two_of HT_.out (by kernel_rfl)) (by decide) (by decide) (fun K hK => ?_) (fun K hK => ?_)
    ·skip
     refine goes_ Try.func39 (by kernel_rfl) rfl #[.agg #[.int .i64 a1_0, .string a1_1, .string a1_2, .string a1_3]] (by rfl) rfl rfl (by (try simp only [List.map_toArray, List.map_cons, List.map_nil]); first | done | rfl | (simp only [List.length_drop, List.length_take]; rfl)) ?_
     with_reducible refine (laws_toAct.calls a1_0 a1_1 a1_2 a1_3 t280 t281 t282 t283 _ A23.out).mono ?_
     rintro e w53 ⟨rfl, hb⟩
     refine ⟨_, rfl, ?_⟩
     have n0_ := Aside0.mk (Kd.R_below (qR_ HO266) hb)
     have n1_ := Aside0.mk (Kd.R_below (qR_ HO273) hb)
     have n2_ := Aside0.mk (Kd.R_below (qR_ HO278) hb)
     have n3_ := Aside0.mk (blk_below (qk_ BK260) hb)
     have n4_ := Aside0.mk (blk_below (qk_ BK261) hb)
     have n5_ := Aside0.mk (blk_below (qk_ BK275) hb)
     have n6_ := Aside0.mk (blk_below (qk_ BK279) hb)
     have n7_ := Aside0.mk (below_step qB_ hb)
     clear HO266; clear HO273; clear HO278; clear BK260; clear BK261; clear BK275; clear BK279; clear HB; have HO266 := n0_; have HO273 := n1_; have HO278 := n2_; have BK260 := n3_; have BK261 := n4_; have BK275 := n5_; have BK279 := n6_; have HB := n7_; clear n0_ n1_ n2_ n3_ n4_ n5_ n6_ n7_; (try clear hb); (try clear hb2); (try clear hk); (try clear hi)
     refine hK.out _ _ ⟨(blk_cell BK279.out 0).trans rfl, (blk_cell BK261.out 0).trans rfl, (blk_cell BK261.out 1).trans rfl, (blk_cell BK261.out 2).trans rfl, (blk_cell BK261.out 3).trans rfl⟩ (fun hHeld => ?_)
     clear hK K
     refine norm_ (a' := ?_) ?_ ?_
     rotate_left
     ·show Act.put _ (some 39) _ = _
      simp only [Act.put, List.setIfInBounds_toArray, List.set_cons_zero, List.set_cons_succ, i64_w, i32_w]
      rfl
     refine two_ (i := 3) (j := 7) (Ni := some 40) (Nj := some 9) (bm 10 15) #[true, true, true, false, false, false, false, true, false, false] rfl rfl rfl rfl (two_of HT_.out (by kernel_rfl)) (by decide) (by decide) (fun K hK => ?_) (fun K hK => ?_)
     ·skip
      refine goes_ Try.func40 (by kernel_rfl) rfl #[.agg #[.slice Ao46 t276.length co46], .agg #[.int .i64 t280, .string t281, .string t282, .string t283]] (by rfl) rfl rfl (by (try simp only [List.map_toArray, List.map_cons, List.map_nil]); first | done | rfl | (simp only [List.length_drop, List.length_take]; rfl)) ?_
      with_reducible refine (impl_DoAct.calls k _ _ t276 t280 t281 t282 t283 t284 t287 _ ?side1 ?side2 A24.out).mono ?_
      (case side1 => exact qD_ (Kd.R_reads' HO278.out).2.2)
      (case side2 => exact (Kd.R_reads' HO278.out).2.1)
      rintro e w54 ⟨v285, rfl, ho0, hb⟩
      refine ⟨_, rfl, ?_⟩
      have n0_ := Aside0.mk (Kd.R_elder' (qR_ HO266) (Kd.R_base ho0) hb)
      have n1_ := Aside0.mk (Kd.R_elder' (qR_ HO273) (Kd.R_base ho0) hb)
      have n2_ := Aside0.mk (Kd.R_elder' (qR_ HO278) (Kd.R_base ho0) hb)
      have n3_ := Aside0.mk (Kd.R_lower (Kd.R_new' (Kd.R_new' (Kd.R_new' ho0 (Kd.R_lt (qR_ HO266))) (Kd.R_lt (qR_ HO273))) (Kd.R_lt (qR_ HO278))) (below_size qB_))
      have n4_ := Aside0.mk (blk_below (qk_ BK260) hb)
      have n5_ := Aside0.mk (blk_below (qk_ BK261) hb)
      have n6_ := Aside0.mk (blk_below (qk_ BK275) hb)
      have n7_ := Aside0.mk (blk_below (qk_ BK279) hb)
      have n8_ := Aside0.mk (below_step qB_ hb)
      clear HO266; clear HO273; clear HO278; clear BK260; clear BK261; clear BK275; clear BK279; clear HB; have HO266 := n0_; have HO273 := n1_; have HO278 := n2_; have HO286 := n3_; have BK260 := n4_; have BK261 := n5_; have BK275 := n6_; have BK279 := n7_; have HB := n8_; clear n0_ n1_ n2_ n3_ n4_ n5_ n6_ n7_ n8_; (try clear hb); (try clear hb2); (try clear hk); (try clear hi); (try clear ho0)
      refine hK.out _ _ ⟨(blk_cell BK279.out 0).trans rfl, (blk_cell BK261.out 0).trans rfl, (blk_cell BK261.out 1).trans rfl, (blk_cell BK261.out 2).trans rfl, (blk_cell BK261.out 3).trans rfl⟩ (fun hHeld => ?_)
      clear hK K
      refine norm_ (a' := ?_) ?_ ?_
      rotate_left
      ·show Act.put _ (some 40) _ = _
       simp only [Act.put, List.setIfInBounds_toArray, List.set_cons_zero, List.set_cons_succ, i64_w, i32_w]
       rfl
      refine pz_ 4 36 (bm 10 31) ?_; refine pz_ 5 41 (bm 10 63) ?_; refine pz_ 6 42 (bm 10 127) ?_
      refine one_ (i := 7) (N := some 9) (bm 10 255) rfl rfl (one_of HT_.out (by kernel_rfl)) (by decide) (fun K hK => ?_)
      refine box_step ?hg (N := 9) ?hd (cs := #[.slice none 0 0]) (t := 44) ?hr ?_; (case hd => rfl); (case hg => rfl); (case hr => first | (go_simp; done) | (go_simp; rfl))
      intro gb288 hg w55 hbox hb
      have n0_ := Aside0.mk (Kd.R_below (qR_ HO266) hb)
      have n1_ := Aside0.mk (Kd.R_below (qR_ HO273) hb)
      have n2_ := Aside0.mk (Kd.R_below (qR_ HO278) hb)
      have n3_ := Aside0.mk (Kd.R_below (qR_ HO286) hb)
      have n4_ := Aside0.mk (blk_below (qk_ BK260) hb)
      have n5_ := Aside0.mk (blk_below (qk_ BK261) hb)
      have n6_ := Aside0.mk (blk_below (qk_ BK275) hb)
      have n7_ := Aside0.mk (blk_below (qk_ BK279) hb)
      have n8_ := Aside0.mk (below_step qB_ hb)
      have n9_ := Aside0.mk (hbox)
      have n10_ := Aside0.mk ((qs_ : w.heap.size ≤ gb288))
      have n11_ := Aside0.mk ((qs_ : w.heap.size ≤ gb288))
      have n12_ := Aside0.mk ((by rw [hg]; exact Nat.ne_of_lt (blk_lt (qk_ BK260)) : gb260 ≠ gb288))
      have n13_ := Aside0.mk ((by rw [hg]; exact Nat.ne_of_gt (blk_lt (qk_ BK260)) : gb288 ≠ gb260))
      have n14_ := Aside0.mk ((by rw [hg]; exact Nat.ne_of_lt (blk_lt (qk_ BK261)) : gb261 ≠ gb288))
      have n15_ := Aside0.mk ((by rw [hg]; exact Nat.ne_of_gt (blk_lt (qk_ BK261)) : gb288 ≠ gb261))
      have n16_ := Aside0.mk ((by rw [hg]; exact Nat.ne_of_lt (blk_lt (qk_ BK275)) : gb275 ≠ gb288))
      have n17_ := Aside0.mk ((by rw [hg]; exact Nat.ne_of_gt (blk_lt (qk_ BK275)) : gb288 ≠ gb275))
      have n18_ := Aside0.mk ((by rw [hg]; exact Nat.ne_of_lt (blk_lt (qk_ BK279)) : gb279 ≠ gb288))
      have n19_ := Aside0.mk ((by rw [hg]; exact Nat.ne_of_gt (blk_lt (qk_ BK279)) : gb288 ≠ gb279))
      clear HO266; clear HO273; clear HO278; clear HO286; clear BK260; clear BK261; clear BK275; clear BK279; clear HB; have HO266 := n0_; have HO273 := n1_; have HO278 := n2_; have HO286 := n3_; have BK260 := n4_; have BK261 := n5_; have BK275 := n6_; have BK279 := n7_; have HB := n8_; have BK288 := n9_; have GW288 := n10_; have GE288 := n11_; have NB260_288 := n12_; have NB288_260 := n13_; have NB261_288 := n14_; have NB288_261 := n15_; have NB275_288 := n16_; have NB288_275 := n17_; have NB279_288 := n18_; have NB288_279 := n19_; clear n0_ n1_ n2_ n3_ n4_ n5_ n6_ n7_ n8_ n9_ n10_ n11_ n12_ n13_ n14_ n15_ n16_ n17_ n18_ n19_; clear hb hbox hg
      refine hK.out _ _ ⟨(blk_cell BK279.out 0).trans rfl, (blk_cell BK261.out 0).trans rfl, (blk_cell BK261.out 1).trans rfl, (blk_cell BK261.out 2).trans rfl, (blk_cell BK261.out 3).trans rfl⟩ (fun hHeld => ?_)
      clear hK K
      refine norm_ (a' := ?_) ?_ ?_
      rotate_left
      ·show Act.put _ (some 9) _ = _
       simp only [Act.put, List.setIfInBounds_toArray, List.set_cons_zero, List.set_cons_succ, i64_w, i32_w]
       rfl
      exact norm_ (by simp only [putAll, Act.put, List.setIfInBounds_toArray, List.set_cons_zero, List.set_cons_succ]) (hCont (v285, gb288) _ ⟨hHeld, (by (with_reducible repeat (first | apply Kd.R_alloc | apply Kd.R_drewN | apply Kd.R_drew)); exact Kd.R_mono HO266.out (fun _ hk => ⟨hk.1.1, ⟨hk.1.2, hk.2⟩⟩)), (by (with_reducible repeat (first | apply Kd.R_alloc | apply Kd.R_drewN | apply Kd.R_drew)); exact Kd.R_mono HO273.out (fun _ hk => ⟨hk.1.1, ⟨hk.1.2, hk.2⟩⟩)), (by (with_reducible repeat (first | apply Kd.R_alloc | apply Kd.R_drewN | apply Kd.R_drew)); exact Kd.R_mono HO278.out (fun _ hk => ⟨hk.1.1, ⟨hk.1.2, hk.2⟩⟩)), (by (with_reducible repeat (first | apply Kd.R_alloc | apply Kd.R_drewN | apply Kd.R_drew)); exact Kd.R_mono HO286.out (fun _ hk => ⟨hk.1.1.2, ⟨hk.1.2, hk.2⟩⟩)), (qk_ BK260), (qk_ BK261), (qk_ BK275), (qk_ BK279), (qk_ BK288), GW288.out, GE288.out, NB260_288.out, NB288_260.out, NB261_288.out, NB288_261.out, NB275_288.out, NB288_275.out, NB279_288.out, NB288_279.out, qB_⟩)
     ·skip
      refine box_step ?hg (N := 9) ?hd (cs := #[.slice none 0 0]) (t := 44) ?hr ?_; (case hd => rfl); (case hg => rfl); (case hr => first | (go_simp; done) | (go_simp; rfl))
      intro gb288 hg w54 hbox hb
      have n0_ := Aside0.mk (Kd.R_below (qR_ HO266) hb)
      have n1_ := Aside0.mk (Kd.R_below (qR_ HO273) hb)
      have n2_ := Aside0.mk (Kd.R_below (qR_ HO278) hb)
      have n3_ := Aside0.mk (blk_below (qk_ BK260) hb)
      have n4_ := Aside0.mk (blk_below (qk_ BK261) hb)
      have n5_ := Aside0.mk (blk_below (qk_ BK275) hb)
      have n6_ := Aside0.mk (blk_below (qk_ BK279) hb)
      have n7_ := Aside0.mk (below_step qB_ hb)
      have n8_ := Aside0.mk (hbox)
      have n9_ := Aside0.mk ((qs_ : w.heap.size ≤ gb288))
      have n10_ := Aside0.mk ((qs_ : w.heap.size ≤ gb288))
      have n11_ := Aside0.mk ((by rw [hg]; exact Nat.ne_of_lt (blk_lt (qk_ BK260)) : gb260 ≠ gb288))
      have n12_ := Aside0.mk ((by rw [hg]; exact Nat.ne_of_gt (blk_lt (qk_ BK260)) : gb288 ≠ gb260))
      have n13_ := Aside0.mk ((by rw [hg]; exact Nat.ne_of_lt (blk_lt (qk_ BK261)) : gb261 ≠ gb288))
      have n14_ := Aside0.mk ((by rw [hg]; exact Nat.ne_of_gt (blk_lt (qk_ BK261)) : gb288 ≠ gb261))
      have n15_ := Aside0.mk ((by rw [hg]; exact Nat.ne_of_lt (blk_lt (qk_ BK275)) : gb275 ≠ gb288))
      have n16_ := Aside0.mk ((by rw [hg]; exact Nat.ne_of_gt (blk_lt (qk_ BK275)) : gb288 ≠ gb275))
      have n17_ := Aside0.mk ((by rw [hg]; exact Nat.ne_of_lt (blk_lt (qk_ BK279)) : gb279 ≠ gb288))
      have n18_ := Aside0.mk ((by rw [hg]; exact Nat.ne_of_gt (blk_lt (qk_ BK279)) : gb288 ≠ gb279))
      clear HO266; clear HO273; clear HO278; clear BK260; clear BK261; clear BK275; clear BK279; clear HB; have HO266 := n0_; have HO273 := n1_; have HO278 := n2_; have BK260 := n3_; have BK261 := n4_; have BK275 := n5_; have BK279 := n6_; have HB := n7_; have BK288 := n8_; have GW288 := n9_; have GE288 := n10_; have NB260_288 := n11_; have NB288_260 := n12_; have NB261_288 := n13_; have NB288_261 := n14_; have NB275_288 := n15_; have NB288_275 := n16_; have NB279_288 := n17_; have NB288_279 := n18_; clear n0_ n1_ n2_ n3_ n4_ n5_ n6_ n7_ n8_ n9_ n10_ n11_ n12_ n13_ n14_ n15_ n16_ n17_ n18_; clear hb hbox hg
      refine hK.out _ _ ⟨(blk_cell BK279.out 0).trans rfl, (blk_cell BK261.out 0).trans rfl, (blk_cell BK261.out 1).trans rfl, (blk_cell BK261.out 2).trans rfl, (blk_cell BK261.out 3).trans rfl⟩ (fun hHeld => ?_)
      clear hK K
      refine norm_ (a' := ?_) ?_ ?_
      rotate_left
      ·show Act.put _ (some 9) _ = _
       simp only [Act.put, List.setIfInBounds_toArray, List.set_cons_zero, List.set_cons_succ, i64_w, i32_w]
       rfl
      refine one_ (i := 3) (N := some 40) (bm 10 143) rfl rfl (one_of HT_.out (by kernel_rfl)) (by decide) (fun K hK => ?_)
      refine goes_ Try.func40 (by kernel_rfl) rfl #[.agg #[.slice Ao46 t276.length co46], .agg #[.int .i64 t280, .string t281, .string t282, .string t283]] (by rfl) rfl rfl (by (try simp only [List.map_toArray, List.map_cons, List.map_nil]); first | done | rfl | (simp only [List.length_drop, List.length_take]; rfl)) ?_
      with_reducible refine (impl_DoAct.calls k _ _ t276 t280 t281 t282 t283 t284 t287 _ ?side1 ?side2 A24.out).mono ?_
      (case side1 => exact qD_ (Kd.R_reads' HO278.out).2.2)
      (case side2 => exact (Kd.R_reads' HO278.out).2.1)
      rintro e w55 ⟨v285, rfl, ho0, hb⟩
      refine ⟨_, rfl, ?_⟩
      have n0_ := Aside0.mk (Kd.R_elder' (qR_ HO266) (Kd.R_base ho0) hb)
      have n1_ := Aside0.mk (Kd.R_elder' (qR_ HO273) (Kd.R_base ho0) hb)
      have n2_ := Aside0.mk (Kd.R_elder' (qR_ HO278) (Kd.R_base ho0) hb)
      have n3_ := Aside0.mk (Kd.R_lower (Kd.R_new' (Kd.R_new' (Kd.R_new' ho0 (Kd.R_lt (qR_ HO266))) (Kd.R_lt (qR_ HO273))) (Kd.R_lt (qR_ HO278))) (below_size qB_))
      have n4_ := Aside0.mk (blk_below (qk_ BK260) hb)
      have n5_ := Aside0.mk (blk_below (qk_ BK261) hb)
      have n6_ := Aside0.mk (blk_below (qk_ BK275) hb)
      have n7_ := Aside0.mk (blk_below (qk_ BK279) hb)
      have n8_ := Aside0.mk (blk_below (qk_ BK288) hb)
      have n9_ := Aside0.mk (below_step qB_ hb)
      clear HO266; clear HO273; clear HO278; clear BK260; clear BK261; clear BK275; clear BK279; clear BK288; clear HB; have HO266 := n0_; have HO273 := n1_; have HO278 := n2_; have HO286 := n3_; have BK260 := n4_; have BK261 := n5_; have BK275 := n6_; have BK279 := n7_; have BK288 := n8_; have HB := n9_; clear n0_ n1_ n2_ n3_ n4_ n5_ n6_ n7_ n8_ n9_; (try clear hb); (try clear hb2); (try clear hk); (try clear hi); (try clear ho0)
      refine hK.out _ _ ⟨(blk_cell BK279.out 0).trans rfl, (blk_cell BK261.out 0).trans rfl, (blk_cell BK261.out 1).trans rfl, (blk_cell BK261.out 2).trans rfl, (blk_cell BK261.out 3).trans rfl⟩ (fun hHeld => ?_)
      clear hK K
      refine norm_ (a' := ?_) ?_ ?_
      rotate_left
      ·show Act.put _ (some 40) _ = _
       simp only [Act.put, List.setIfInBounds_toArray, List.set_cons_zero, List.set_cons_succ, i64_w, i32_w]
       rfl
      refine pz_ 4 36 (bm 10 159) ?_; refine pz_ 5 41 (bm 10 191) ?_; refine pz_ 6 42 (bm 10 255) ?_
      exact norm_ (by simp only [putAll, Act.put, List.setIfInBounds_toArray, List.set_cons_zero, List.set_cons_succ]) (hCont (v285, gb288) _ ⟨hHeld, (by (with_reducible repeat (first | apply Kd.R_alloc | apply Kd.R_drewN | apply Kd.R_drew)); exact Kd.R_mono HO266.out (fun _ hk => ⟨hk.1.1, ⟨hk.1.2, hk.2⟩⟩)), (by (with_reducible repeat (first | apply Kd.R_alloc | apply Kd.R_drewN | apply Kd.R_drew)); exact Kd.R_mono HO273.out (fun _ hk => ⟨hk.1.1, ⟨hk.1.2, hk.2⟩⟩)), (by (with_reducible repeat (first | apply Kd.R_alloc | apply Kd.R_drewN | apply Kd.R_drew)); exact Kd.R_mono HO278.out (fun _ hk => ⟨hk.1.1, ⟨hk.1.2, hk.2⟩⟩)), (by (with_reducible repeat (first | apply Kd.R_alloc | apply Kd.R_drewN | apply Kd.R_drew)); exact Kd.R_mono HO286.out (fun _ hk => ⟨hk.1.1.2, ⟨hk.1.2, hk.2⟩⟩)), (qk_ BK260), (qk_ BK261), (qk_ BK275), (qk_ BK279), (qk_ BK288), GW288.out, GE288.out, NB260_288.out, NB288_260.out, NB261_288.out, NB288_261.out, NB275_288.out, NB288_275.out, NB279_288.out, NB288_279.out, qB_⟩)
    ·skip
     refine box_step ?hg (N := 9) ?hd (cs := #[.slice none 0 0]) (t := 44) ?hr ?_; (case hd => rfl); (case hg => rfl); (case hr => first | (go_simp; done) | (go_simp; rfl))
     intro gb288 hg w53 hbox hb
     have n0_ := Aside0.mk (Kd.R_below (qR_ HO266) hb)
     have n1_ := Aside0.mk (Kd.R_below (qR_ HO273) hb)
     have n2_ := Aside0.mk (Kd.R_below (qR_ HO278) hb)
     have n3_ := Aside0.mk (blk_below (qk_ BK260) hb)
     have n4_ := Aside0.mk (blk_below (qk_ BK261) hb)
     have n5_ := Aside0.mk (blk_below (qk_ BK275) hb)
     have n6_ := Aside0.mk (blk_below (qk_ BK279) hb)
     have n7_ := Aside0.mk (below_step qB_ hb)
     have n8_ := Aside0.mk (hbox)
     have n9_ := Aside0.mk ((qs_ : w.heap.size ≤ gb288))
     have n10_ := Aside0.mk ((qs_ : w.heap.size ≤ gb288))
     have n11_ := Aside0.mk ((by rw [hg]; exact Nat.ne_of_lt (blk_lt (qk_ BK260)) : gb260 ≠ gb288))
     have n12_ := Aside0.mk ((by rw [hg]; exact Nat.ne_of_gt (blk_lt (qk_ BK260)) : gb288 ≠ gb260))
     have n13_ := Aside0.mk ((by rw [hg]; exact Nat.ne_of_lt (blk_lt (qk_ BK261)) : gb261 ≠ gb288))
     have n14_ := Aside0.mk ((by rw [hg]; exact Nat.ne_of_gt (blk_lt (qk_ BK261)) : gb288 ≠ gb261))
     have n15_ := Aside0.mk ((by rw [hg]; exact Nat.ne_of_lt (blk_lt (qk_ BK275)) : gb275 ≠ gb288))
     have n16_ := Aside0.mk ((by rw [hg]; exact Nat.ne_of_gt (blk_lt (qk_ BK275)) : gb288 ≠ gb275))
     have n17_ := Aside0.mk ((by rw [hg]; exact Nat.ne_of_lt (blk_lt (qk_ BK279)) : gb279 ≠ gb288))
     have n18_ := Aside0.mk ((by rw [hg]; exact Nat.ne_of_gt (blk_lt (qk_ BK279)) : gb288 ≠ gb279))
     clear HO266; clear HO273; clear HO278; clear BK260; clear BK261; clear BK275; clear BK279; clear HB; have HO266 := n0_; have HO273 := n1_; have HO278 := n2_; have BK260 := n3_; have BK261 := n4_; have BK275 := n5_; have BK279 := n6_; have HB := n7_; have BK288 := n8_; have GW288 := n9_; have GE288 := n10_; have NB260_288 := n11_; have NB288_260 := n12_; have NB261_288 := n13_; have NB288_261 := n14_; have NB275_288 := n15_; have NB288_275 := n16_; have NB279_288 := n17_; have NB288_279 := n18_; clear n0_ n1_ n2_ n3_ n4_ n5_ n6_ n7_ n8_ n9_ n10_ n11_ n12_ n13_ n14_ n15_ n16_ n17_ n18_; clear hb hbox hg
     refine hK.out _ _ ⟨(blk_cell BK279.out 0).trans rfl, (blk_cell BK261.out 0).trans rfl, (blk_cell BK261.out 1).trans rfl, (blk_cell BK261.out 2).trans rfl, (blk_cell BK261.out 3).trans rfl⟩ (fun hHeld => ?_)
     clear hK K
     refine norm_ (a' := ?_) ?_ ?_
     rotate_left
     ·show Act.put _ (some 9) _ = _
      simp only [Act.put, List.setIfInBounds_toArray, List.set_cons_zero, List.set_cons_succ, i64_w, i32_w]
      rfl
     refine one_ (i := 2) (N := some 39) (bm 10 135) rfl rfl (one_of HT_.out (by kernel_rfl)) (by decide) (fun K hK => ?_)
     refine goes_ Try.func39 (by kernel_rfl) rfl #[.agg #[.int .i64 a1_0, .string a1_1, .string a1_2, .string a1_3]] (by rfl) rfl rfl (by (try simp only [List.map_toArray, List.map_cons, List.map_nil]); first | done | rfl | (simp only [List.length_drop, List.length_take]; rfl)) ?_
     with_reducible refine (laws_toAct.calls a1_0 a1_1 a1_2 a1_3 t280 t281 t282 t283 _ A23.out).mono ?_
     rintro e w54 ⟨rfl, hb⟩
     refine ⟨_, rfl, ?_⟩
     have n0_ := Aside0.mk (Kd.R_below (qR_ HO266) hb)
     have n1_ := Aside0.mk (Kd.R_below (qR_ HO273) hb)
     have n2_ := Aside0.mk (Kd.R_below (qR_ HO278) hb)
     have n3_ := Aside0.mk (blk_below (qk_ BK260) hb)
     have n4_ := Aside0.mk (blk_below (qk_ BK261) hb)
     have n5_ := Aside0.mk (blk_below (qk_ BK275) hb)
     have n6_ := Aside0.mk (blk_below (qk_ BK279) hb)
     have n7_ := Aside0.mk (blk_below (qk_ BK288) hb)
     have n8_ := Aside0.mk (below_step qB_ hb)
     clear HO266; clear HO273; clear HO278; clear BK260; clear BK261; clear BK275; clear BK279; clear BK288; clear HB; have HO266 := n0_; have HO273 := n1_; have HO278 := n2_; have BK260 := n3_; have BK261 := n4_; have BK275 := n5_; have BK279 := n6_; have BK288 := n7_; have HB := n8_; clear n0_ n1_ n2_ n3_ n4_ n5_ n6_ n7_ n8_; (try clear hb); (try clear hb2); (try clear hk); (try clear hi)
     refine hK.out _ _ ⟨(blk_cell BK279.out 0).trans rfl, (blk_cell BK261.out 0).trans rfl, (blk_cell BK261.out 1).trans rfl, (blk_cell BK261.out 2).trans rfl, (blk_cell BK261.out 3).trans rfl⟩ (fun hHeld => ?_)
     clear hK K
     refine norm_ (a' := ?_) ?_ ?_
     rotate_left
     ·show Act.put _ (some 39) _ = _
      simp only [Act.put, List.setIfInBounds_toArray, List.set_cons_zero, List.set_cons_succ, i64_w, i32_w]
      rfl
     refine one_ (i := 3) (N := some 40) (bm 10 143) rfl rfl (one_of HT_.out (by kernel_rfl)) (by decide) (fun K hK => ?_)
     refine goes_ Try.func40 (by kernel_rfl) rfl #[.agg #[.slice Ao46 t276.length co46], .agg #[.int .i64 t280, .string t281, .string t282, .string t283]] (by rfl) rfl rfl (by (try simp only [List.map_toArray, List.map_cons, List.map_nil]); first | done | rfl | (simp only [List.length_drop, List.length_take]; rfl)) ?_
     with_reducible refine (impl_DoAct.calls k _ _ t276 t280 t281 t282 t283 t284 t287 _ ?side1 ?side2 A24.out).mono ?_
     (case side1 => exact qD_ (Kd.R_reads' HO278.out).2.2)
     (case side2 => exact (Kd.R_reads' HO278.out).2.1)
     rintro e w55 ⟨v285, rfl, ho0, hb⟩
     refine ⟨_, rfl, ?_⟩
     have n0_ := Aside0.mk (Kd.R_elder' (qR_ HO266) (Kd.R_base ho0) hb)
     have n1_ := Aside0.mk (Kd.R_elder' (qR_ HO273) (Kd.R_base ho0) hb)
     have n2_ := Aside0.mk (Kd.R_elder' (qR_ HO278) (Kd.R_base ho0) hb)
     have n3_ := Aside0.mk (Kd.R_lower (Kd.R_new' (Kd.R_new' (Kd.R_new' ho0 (Kd.R_lt (qR_ HO266))) (Kd.R_lt (qR_ HO273))) (Kd.R_lt (qR_ HO278))) (below_size qB_))
     have n4_ := Aside0.mk (blk_below (qk_ BK260) hb)
     have n5_ := Aside0.mk (blk_below (qk_ BK261) hb)
     have n6_ := Aside0.mk (blk_below (qk_ BK275) hb)
     have n7_ := Aside0.mk (blk_below (qk_ BK279) hb)
     have n8_ := Aside0.mk (blk_below (qk_ BK288) hb)
     have n9_ := Aside0.mk (below_step qB_ hb)
     clear HO266; clear HO273; clear HO278; clear BK260; clear BK261; clear BK275; clear BK279; clear BK288; clear HB; have HO266 := n0_; have HO273 := n1_; have HO278 := n2_; have HO286 := n3_; have BK260 := n4_; have BK261 := n5_; have BK275 := n6_; have BK279 := n7_; have BK288 := n8_; have HB := n9_; clear n0_ n1_ n2_ n3_ n4_ n5_ n6_ n7_ n8_ n9_; (try clear hb); (try clear hb2); (try clear hk); (try clear hi); (try clear ho0)
     refine hK.out _ _ ⟨(blk_cell BK279.out 0).trans rfl, (blk_cell BK261.out 0).trans rfl, (blk_cell BK261.out 1).trans rfl, (blk_cell BK261.out 2).trans rfl, (blk_cell BK261.out 3).trans rfl⟩ (fun hHeld => ?_)
     clear hK K
     refine norm_ (a' := ?_) ?_ ?_
     rotate_left
     ·show Act.put _ (some 40) _ = _
      simp only [Act.put, List.setIfInBounds_toArray, List.set_cons_zero, List.set_cons_succ, i64_w, i32_w]
      rfl
     refine pz_ 4 36 (bm 10 159) ?_; refine pz_ 5 41 (bm 10 191) ?_; refine pz_ 6 42 (bm 10 255) ?_
     exact norm_ (by simp only [putAll, Act.put, List.setIfInBounds_toArray, List.set_cons_zero, List.set_cons_succ]) (hCont (v285, gb288) _ ⟨hHeld, (by (with_reducible repeat (first | apply Kd.R_alloc | apply Kd.R_drewN | apply Kd.R_drew)); exact Kd.R_mono HO266.out (fun _ hk => ⟨hk.1.1, ⟨hk.1.2, hk.2⟩⟩)), (by (with_reducible repeat (first | apply Kd.R_alloc | apply Kd.R_drewN | apply Kd.R_drew)); exact Kd.R_mono HO273.out (fun _ hk => ⟨hk.1.1, ⟨hk.1.2, hk.2⟩⟩)), (by (with_reducible repeat (first | apply Kd.R_alloc | apply Kd.R_drewN | apply Kd.R_drew)); exact Kd.R_mono HO278.out (fun _ hk => ⟨hk.1.1, ⟨hk.1.2, hk.2⟩⟩)), (by (with_reducible repeat (first | apply Kd.R_alloc | apply Kd.R_drewN | apply Kd.R_drew)); exact Kd.R_mono HO286.out (fun _ hk => ⟨hk.1.1.2, ⟨hk.1.2, hk.2⟩⟩)), (qk_ BK260), (qk_ BK261), (qk_ BK275), (qk_ BK279), (qk_ BK288), GW288.out, GE288.out, NB260_288.out, NB288_260.out, NB261_288.out, NB288_261.out, NB275_288.out, NB288_275.out, NB279_288.out, NB288_279.out, qB_⟩)
   rintro ⟨v285, gb288⟩ w56 ⟨hS_, h0_, h1_, h2_, h3_, h4_, h5_, h6_, h7_, h8_, h9_, h10_, h11_, h12_, h13_, h14_, h15_, h16_, h17_, h18_, h19_⟩
   have n0_ : Aside0 (Kd.R k99 99 w56 w.heap.size (fun k_ => some k_ ≠ (.slice Ao40 t271.length co40 : Value).ownBlock ∧ some k_ ≠ (.slice Ao46 t276.length co46 : Value).ownBlock ∧ some k_ ≠ (v285 : Value).ownBlock) v265 t264) := ⟨h0_⟩
   have n1_ : Aside0 (Kd.R k99 99 w56 w.heap.size (fun k_ => some k_ ≠ (v265 : Value).ownBlock ∧ some k_ ≠ (.slice Ao46 t276.length co46 : Value).ownBlock ∧ some k_ ≠ (v285 : Value).ownBlock) (.slice Ao40 t271.length co40) t271) := ⟨h1_⟩
   have n2_ : Aside0 (Kd.R k99 99 w56 w.heap.size (fun k_ => some k_ ≠ (v265 : Value).ownBlock ∧ some k_ ≠ (.slice Ao40 t271.length co40 : Value).ownBlock ∧ some k_ ≠ (v285 : Value).ownBlock) (.slice Ao46 t276.length co46) t276) := ⟨h2_⟩
   have n3_ : Aside0 (Kd.R k99 99 w56 w.heap.size (fun k_ => some k_ ≠ (v265 : Value).ownBlock ∧ some k_ ≠ (.slice Ao40 t271.length co40 : Value).ownBlock ∧ some k_ ≠ (.slice Ao46 t276.length co46 : Value).ownBlock) v285 t284) := ⟨h3_⟩
   have n4_ : Aside0 (w56.heap[gb260]? = some (.cells #[.slice A0_0 l0_0.length c0_0] 39 (0, 0))) := ⟨h4_⟩
   have n5_ : Aside0 (w56.heap[gb261]? = some (.cells #[.int .i64 a1_0, .string a1_1, .string a1_2, .string a1_3] 57 (0, 0))) := ⟨h5_⟩
   have n6_ : Aside0 (w56.heap[gb275]? = some (.cells #[.slice Ao40 t271.length co40] 44 (0, 0))) := ⟨h6_⟩
   have n7_ : Aside0 (w56.heap[gb279]? = some (.cells #[.slice Ao46 t276.length co46] 44 (0, 0))) := ⟨h7_⟩
   have n8_ : Aside0 (w56.heap[gb288]? = some (.cells #[.slice none 0 0] 44 (0, 0))) := ⟨h8_⟩
   have n9_ : Aside0 (w.heap.size ≤ gb288) := ⟨h9_⟩
   have n10_ : Aside0 (w.heap.size ≤ gb288) := ⟨h10_⟩
   have n11_ : Aside0 (gb260 ≠ gb288) := ⟨h11_⟩
   have n12_ : Aside0 (gb288 ≠ gb260) := ⟨h12_⟩
   have n13_ : Aside0 (gb261 ≠ gb288) := ⟨h13_⟩
   have n14_ : Aside0 (gb288 ≠ gb261) := ⟨h14_⟩
   have n15_ : Aside0 (gb275 ≠ gb288) := ⟨h15_⟩
   have n16_ : Aside0 (gb288 ≠ gb275) := ⟨h16_⟩
   have n17_ : Aside0 (gb279 ≠ gb288) := ⟨h17_⟩
   have n18_ : Aside0 (gb288 ≠ gb279) := ⟨h18_⟩
   have n19_ : Aside0 (Below w.heap.size w w56) := ⟨h19_⟩
   clear HO266; clear HO273; clear HO278; clear BK260; clear BK261; clear BK275; clear BK279; clear HB; clear h0_ h1_ h2_ h3_ h4_ h5_ h6_ h7_ h8_ h9_ h10_ h11_ h12_ h13_ h14_ h15_ h16_ h17_ h18_ h19_; have HO266 := n0_; have HO273 := n1_; have HO278 := n2_; have HO286 := n3_; have BK260 := n4_; have BK261 := n5_; have BK275 := n6_; have BK279 := n7_; have BK288 := n8_; have GW288 := n9_; have GE288 := n10_; have NB260_288 := n11_; have NB288_260 := n12_; have NB261_288 := n13_; have NB288_261 := n14_; have NB275_288 := n15_; have NB288_275 := n16_; have NB279_288 := n17_; have NB288_279 := n18_; have HB := n19_; clear n0_ n1_ n2_ n3_ n4_ n5_ n6_ n7_ n8_ n9_ n10_ n11_ n12_ n13_ n14_ n15_ n16_ n17_ n18_ n19_
   have hHeld : w56.cell? ⟨gb279, 0, none⟩ = some (.slice Ao46 t276.length co46) ∧ w56.cell? ⟨gb261, 0, none⟩ = some (.int .i64 a1_0) ∧ w56.cell? ⟨gb261, 1, none⟩ = some (.string a1_1) ∧ w56.cell? ⟨gb261, 2, none⟩ = some (.string a1_2) ∧ w56.cell? ⟨gb261, 3, none⟩ = some (.string a1_3) := hS_
   obtain ⟨Ao57, co57, eo57⟩ := Kd.R_slice HO286.out
   (first | subst eo57 | (injection eo57 with f1_ f2_ f3_; have f4_ := f1_.symm; have f5_ := f3_.symm; clear f1_ f2_ f3_; subst f4_; subst f5_))
   refine norm_ (a' := ?_) ?_ ?_
   rotate_left
   ·simp only [putAll, Act.put, List.setIfInBounds_toArray, List.set_cons_zero, List.set_cons_succ]
    rfl
   refine one_ (i := 8) (N := none) (bm 10 511) rfl rfl (one_of HT_.out (by kernel_rfl)) (by decide) (fun K hK => ?_)
   have hs58 : w56.cell? ⟨gb288, 0, none⟩ = some (.slice none 0 0) := (blk_cell BK288.out 0).trans rfl
   have hfs58 := blk_frozen BK288.out 0
   have hns58_0 := NB260_288.out; have hns58_1 := NB261_288.out; have hns58_2 := NB275_288.out; have hns58_3 := NB279_288.out; have hms58_0 := NB288_260.out; have hms58_1 := NB288_261.out; have hms58_2 := NB288_275.out; have hms58_3 := NB288_279.out
   refine skip_ (w1 := ?_) (by rfl) rfl ?_ ?_
   rotate_left
   ·go_simp
    rfl
   refine hK.out _ _ ⟨((cell_far (p := ⟨gb288, _, none⟩) NB279_288.out _).trans (hHeld.1)), ((cell_far (p := ⟨gb288, _, none⟩) NB261_288.out _).trans (hHeld.2.1)), ((cell_far (p := ⟨gb288, _, none⟩) NB261_288.out _).trans (hHeld.2.2.1)), ((cell_far (p := ⟨gb288, _, none⟩) NB261_288.out _).trans (hHeld.2.2.2.1)), ((cell_far (p := ⟨gb288, _, none⟩) NB261_288.out _).trans (hHeld.2.2.2.2))⟩ (fun hHeld => ?_)
   clear hK K; refine pz_ 9 10 (bm 10 1023) ?_
   refine done_ (done_of HT_.out (by kernel_rfl)) ?_
   go_upto_region 11 with (fail)
   go_cut [51] (fun v51 wc => ∃ (kq : Nat) (x51_24 : Bool), v51 = .bool x51_24 ∧ Aside0 (laws_FnExactDoAct.j0 kq t274 t287 x51_24 l0_0 a1_0 a1_1 a1_2 a1_3 t271 t276 t284 = some true) ∧ Aside0 (kq ≤ k) ∧ Aside0 (Kd.R k99 99 wc w.heap.size (fun k_ => some k_ ≠ ((.slice Ao46 t276.length co46) : Value).ownBlock ∧ some k_ ≠ ((.slice Ao57 t284.length co57) : Value).ownBlock) (.slice Ao40 t271.length co40) t271) ∧ Aside0 (Kd.R k99 99 wc w.heap.size (fun k_ => some k_ ≠ ((.slice Ao40 t271.length co40) : Value).ownBlock ∧ some k_ ≠ ((.slice Ao57 t284.length co57) : Value).ownBlock) (.slice Ao46 t276.length co46) t276) ∧ Aside0 (Kd.R k99 99 wc w.heap.size (fun k_ => some k_ ≠ ((.slice Ao40 t271.length co40) : Value).ownBlock ∧ some k_ ≠ ((.slice Ao46 t276.length co46) : Value).ownBlock) (.slice Ao57 t284.length co57) t284) ∧ Aside0 (wc.heap[gb260]? = some (.cells #[(.slice A0_0 l0_0.length c0_0)] 39 (0, 0))) ∧ Aside0 (wc.heap[gb261]? = some (.cells #[.int .i64 a1_0, .string a1_1, .string a1_2, .string a1_3] 57 (0, 0))) ∧ Aside0 (wc.heap[gb275]? = some (.cells #[(.slice Ao40 t271.length co40)] 44 (0, 0))) ∧ Aside0 (wc.heap[gb279]? = some (.cells #[(.slice Ao46 t276.length co46)] 44 (0, 0))) ∧ Aside0 (wc.heap[gb288]? = some (.cells #[(.slice Ao57 t284.length co57)] 44 (0, 0))) ∧ Aside0 (Below w.heap.size w wc))
   case first =>
    have H := HC25.out; clear HC25
    obtain ⟨t289, A590, H⟩ := Option.bind_eq_some_iff.mp H; have A59 := Aside0.mk A590; clear A590
    by_cases c60 : t289 = true
    ·subst c60
     rw [if_pos rfl] at H; have H' := Aside0.mk H; clear H; have hnb61 := NB288_260.out; have hnc61 := NB260_288.out; have hnb62 := NB288_261.out; have hnc62 := NB261_288.out; have hnb63 := NB288_275.out; have hnc63 := NB275_288.out; have hnb64 := NB288_279.out; have hnc64 := NB279_288.out
     obtain ⟨hcz65_0, hfz65_0⟩ := bc1_ BK288
     have hnb66 := NB275_260.out; have hnc66 := NB260_275.out; have hnb67 := NB275_261.out; have hnc67 := NB261_275.out; have hnb68 := NB275_279.out; have hnc68 := NB279_275.out
     obtain ⟨hcz69_0, hfz69_0⟩ := bc1_ BK275
     go_wp2_with (first | ((with_reducible refine gate_callee (f := 28) rfl ?_); refine gl_ (some 45) Try.func28 #[.agg #[.slice Ao57 t284.length co57], .agg #[.slice Ao40 t271.length co40]] ?_; (with_reducible refine (laws_eqDisk.calls k _ _ t284 _ _ t271 true _ ?side1 ?side2 ?side3 ?side4 A59.out).mono ?_); (case side1 => refine (Kd.R_reads' (e := 99) (base := w.heap.size) (ok := fun k_ => (some k_ ≠ (v265 : Value).ownBlock ∧ (some k_ ≠ (.slice Ao40 t271.length co40 : Value).ownBlock ∧ some k_ ≠ (.slice Ao46 t276.length co46 : Value).ownBlock))) (n := t284.length) (c := co57) ?_).2.2; exact (by (with_reducible repeat (first | apply Kd.R_alloc | apply Kd.R_drewN | apply Kd.R_drew)); exact (Kd.R_mono (Kd.R_far (p := ⟨gb288, 0, none⟩) (Kd.R_types HO286.out BK288.out (by decide)) (fun _ hk => hk.2) (.slice Ao57 t284.length co57)) (fun _ h_ => h_.1)))); (case side2 => exact (Kd.R_reads' HO286.out).2.1); (case side3 => refine (Kd.R_reads' (e := 99) (base := w.heap.size) (ok := fun k_ => (some k_ ≠ (v265 : Value).ownBlock ∧ (some k_ ≠ (.slice Ao46 t276.length co46 : Value).ownBlock ∧ some k_ ≠ (.slice Ao57 t284.length co57 : Value).ownBlock))) (n := t271.length) (c := co40) ?_).2.2; exact (by (with_reducible repeat (first | apply Kd.R_alloc | apply Kd.R_drewN | apply Kd.R_drew)); exact (Kd.R_mono (Kd.R_far (p := ⟨gb288, 0, none⟩) (Kd.R_types HO273.out BK288.out (by decide)) (fun _ hk => hk.2) (.slice Ao57 t284.length co57)) (fun _ h_ => h_.1)))); (case side4 => exact (Kd.R_reads' HO273.out).2.1); rintro e w70 ⟨rfl, hb⟩; refine ⟨_, rfl, ?_⟩; replace HO266 := Aside0.mk (Kd.R_below (by (with_reducible repeat (first | apply Kd.R_alloc | apply Kd.R_drewN | apply Kd.R_drew)); exact (Kd.R_mono (Kd.R_far (p := ⟨gb288, 0, none⟩) (Kd.R_types HO266.out BK288.out (by decide)) (fun _ hk => hk.2) (.slice Ao57 t284.length co57)) (fun _ h_ => h_.1))) hb); replace HO273 := Aside0.mk (Kd.R_below (by (with_reducible repeat (first | apply Kd.R_alloc | apply Kd.R_drewN | apply Kd.R_drew)); exact (Kd.R_mono (Kd.R_far (p := ⟨gb288, 0, none⟩) (Kd.R_types HO273.out BK288.out (by decide)) (fun _ hk => hk.2) (.slice Ao57 t284.length co57)) (fun _ h_ => h_.1))) hb); replace HO278 := Aside0.mk (Kd.R_below (by (with_reducible repeat (first | apply Kd.R_alloc | apply Kd.R_drewN | apply Kd.R_drew)); exact (Kd.R_mono (Kd.R_far (p := ⟨gb288, 0, none⟩) (Kd.R_types HO278.out BK288.out (by decide)) (fun _ hk => hk.2) (.slice Ao57 t284.length co57)) (fun _ h_ => h_.1))) hb); replace HO286 := Aside0.mk (Kd.R_below (by (with_reducible repeat (first | apply Kd.R_alloc | apply Kd.R_drewN | apply Kd.R_drew)); exact (Kd.R_mono (Kd.R_far (p := ⟨gb288, 0, none⟩) (Kd.R_types HO286.out BK288.out (by decide)) (fun _ hk => hk.2) (.slice Ao57 t284.length co57)) (fun _ h_ => h_.1))) hb); replace BK260 := Aside0.mk (blk_below (g := gb260) (o := .cells #[.slice A0_0 l0_0.length c0_0] 39 (0, 0)) (by (with_reducible repeat (first | refine blk_drewN ?_ _ | refine blk_drew ?_ | refine blk_alloc ?_ _)); refine blk_far ?_ NB260_288.out _; (with_reducible repeat (first | refine blk_drewN ?_ _ | refine blk_drew ?_ | refine blk_alloc ?_ _)); exact BK260.out) hb); replace BK261 := Aside0.mk (blk_below (g := gb261) (o := .cells #[.int .i64 a1_0, .string a1_1, .string a1_2, .string a1_3] 57 (0, 0)) (by (with_reducible repeat (first | refine blk_drewN ?_ _ | refine blk_drew ?_ | refine blk_alloc ?_ _)); refine blk_far ?_ NB261_288.out _; (with_reducible repeat (first | refine blk_drewN ?_ _ | refine blk_drew ?_ | refine blk_alloc ?_ _)); exact BK261.out) hb); replace BK275 := Aside0.mk (blk_below (g := gb275) (o := .cells #[.slice Ao40 t271.length co40] 44 (0, 0)) (by (with_reducible repeat (first | refine blk_drewN ?_ _ | refine blk_drew ?_ | refine blk_alloc ?_ _)); refine blk_far ?_ NB275_288.out _; (with_reducible repeat (first | refine blk_drewN ?_ _ | refine blk_drew ?_ | refine blk_alloc ?_ _)); exact BK275.out) hb); replace BK279 := Aside0.mk (blk_below (g := gb279) (o := .cells #[.slice Ao46 t276.length co46] 44 (0, 0)) (by (with_reducible repeat (first | refine blk_drewN ?_ _ | refine blk_drew ?_ | refine blk_alloc ?_ _)); refine blk_far ?_ NB279_288.out _; (with_reducible repeat (first | refine blk_drewN ?_ _ | refine blk_drew ?_ | refine blk_alloc ?_ _)); exact BK279.out) hb); replace BK288 := Aside0.mk (blk_below (g := gb288) (o := .cells #[.slice Ao57 t284.length co57] 44 (0, 0)) (by (with_reducible repeat (first | refine blk_drewN ?_ _ | refine blk_drew ?_ | refine blk_alloc ?_ _)); refine blk_put (cs := #[.slice none 0 0]) ?_ 0 _ rfl; (with_reducible repeat (first | refine blk_drewN ?_ _ | refine blk_drew ?_ | refine blk_alloc ?_ _)); exact BK288.out) hb); replace HB := Aside0.mk (below_step qB_ hb); (try clear hb); (try clear hb2); (try clear hk); (try clear hi)))
     go_meet
     case rel => exact ⟨_, ((t287 != t274)), qe_, H', ⟨qo_⟩, ⟨by (with_reducible repeat (first | apply Kd.R_alloc | apply Kd.R_drewN | apply Kd.R_drew)); exact Kd.R_mono HO273.out (fun _ hk => ⟨hk.2.1, hk.2.2⟩)⟩, ⟨by (with_reducible repeat (first | apply Kd.R_alloc | apply Kd.R_drewN | apply Kd.R_drew)); exact Kd.R_mono HO278.out (fun _ hk => ⟨hk.2.1, hk.2.2⟩)⟩, ⟨by (with_reducible repeat (first | apply Kd.R_alloc | apply Kd.R_drewN | apply Kd.R_drew)); exact Kd.R_mono HO286.out (fun _ hk => ⟨hk.2.1, hk.2.2⟩)⟩, ⟨qk_ BK260⟩, ⟨qk_ BK261⟩, ⟨qk_ BK275⟩, ⟨qk_ BK279⟩, ⟨qk_ BK288⟩, ⟨qB_⟩⟩
    ·replace c60 := Bool.eq_false_iff.mpr c60
     subst c60
     rw [if_neg (show ¬ (false = true) by decide)] at H; have H' := Aside0.mk H; clear H; have hnb71 := NB288_260.out; have hnc71 := NB260_288.out; have hnb72 := NB288_261.out; have hnc72 := NB261_288.out; have hnb73 := NB288_275.out; have hnc73 := NB275_288.out; have hnb74 := NB288_279.out; have hnc74 := NB279_288.out
     obtain ⟨hcz75_0, hfz75_0⟩ := bc1_ BK288
     have hnb76 := NB275_260.out; have hnc76 := NB260_275.out; have hnb77 := NB275_261.out; have hnc77 := NB261_275.out; have hnb78 := NB275_279.out; have hnc78 := NB279_275.out
     obtain ⟨hcz79_0, hfz79_0⟩ := bc1_ BK275
     go_wp2_with (first | ((with_reducible refine gate_callee (f := 28) rfl ?_); refine gl_ (some 45) Try.func28 #[.agg #[.slice Ao57 t284.length co57], .agg #[.slice Ao40 t271.length co40]] ?_; (with_reducible refine (laws_eqDisk.calls k _ _ t284 _ _ t271 false _ ?side1 ?side2 ?side3 ?side4 A59.out).mono ?_); (case side1 => refine (Kd.R_reads' (e := 99) (base := w.heap.size) (ok := fun k_ => (some k_ ≠ (v265 : Value).ownBlock ∧ (some k_ ≠ (.slice Ao40 t271.length co40 : Value).ownBlock ∧ some k_ ≠ (.slice Ao46 t276.length co46 : Value).ownBlock))) (n := t284.length) (c := co57) ?_).2.2; exact (by (with_reducible repeat (first | apply Kd.R_alloc | apply Kd.R_drewN | apply Kd.R_drew)); exact (Kd.R_mono (Kd.R_far (p := ⟨gb288, 0, none⟩) (Kd.R_types HO286.out BK288.out (by decide)) (fun _ hk => hk.2) (.slice Ao57 t284.length co57)) (fun _ h_ => h_.1)))); (case side2 => exact (Kd.R_reads' HO286.out).2.1); (case side3 => refine (Kd.R_reads' (e := 99) (base := w.heap.size) (ok := fun k_ => (some k_ ≠ (v265 : Value).ownBlock ∧ (some k_ ≠ (.slice Ao46 t276.length co46 : Value).ownBlock ∧ some k_ ≠ (.slice Ao57 t284.length co57 : Value).ownBlock))) (n := t271.length) (c := co40) ?_).2.2; exact (by (with_reducible repeat (first | apply Kd.R_alloc | apply Kd.R_drewN | apply Kd.R_drew)); exact (Kd.R_mono (Kd.R_far (p := ⟨gb288, 0, none⟩) (Kd.R_types HO273.out BK288.out (by decide)) (fun _ hk => hk.2) (.slice Ao57 t284.length co57)) (fun _ h_ => h_.1)))); (case side4 => exact (Kd.R_reads' HO273.out).2.1); rintro e w80 ⟨rfl, hb⟩; refine ⟨_, rfl, ?_⟩; replace HO266 := Aside0.mk (Kd.R_below (by (with_reducible repeat (first | apply Kd.R_alloc | apply Kd.R_drewN | apply Kd.R_drew)); exact (Kd.R_mono (Kd.R_far (p := ⟨gb288, 0, none⟩) (Kd.R_types HO266.out BK288.out (by decide)) (fun _ hk => hk.2) (.slice Ao57 t284.length co57)) (fun _ h_ => h_.1))) hb); replace HO273 := Aside0.mk (Kd.R_below (by (with_reducible repeat (first | apply Kd.R_alloc | apply Kd.R_drewN | apply Kd.R_drew)); exact (Kd.R_mono (Kd.R_far (p := ⟨gb288, 0, none⟩) (Kd.R_types HO273.out BK288.out (by decide)) (fun _ hk => hk.2) (.slice Ao57 t284.length co57)) (fun _ h_ => h_.1))) hb); replace HO278 := Aside0.mk (Kd.R_below (by (with_reducible repeat (first | apply Kd.R_alloc | apply Kd.R_drewN | apply Kd.R_drew)); exact (Kd.R_mono (Kd.R_far (p := ⟨gb288, 0, none⟩) (Kd.R_types HO278.out BK288.out (by decide)) (fun _ hk => hk.2) (.slice Ao57 t284.length co57)) (fun _ h_ => h_.1))) hb); replace HO286 := Aside0.mk (Kd.R_below (by (with_reducible repeat (first | apply Kd.R_alloc | apply Kd.R_drewN | apply Kd.R_drew)); exact (Kd.R_mono (Kd.R_far (p := ⟨gb288, 0, none⟩) (Kd.R_types HO286.out BK288.out (by decide)) (fun _ hk => hk.2) (.slice Ao57 t284.length co57)) (fun _ h_ => h_.1))) hb); replace BK260 := Aside0.mk (blk_below (g := gb260) (o := .cells #[.slice A0_0 l0_0.length c0_0] 39 (0, 0)) (by (with_reducible repeat (first | refine blk_drewN ?_ _ | refine blk_drew ?_ | refine blk_alloc ?_ _)); refine blk_far ?_ NB260_288.out _; (with_reducible repeat (first | refine blk_drewN ?_ _ | refine blk_drew ?_ | refine blk_alloc ?_ _)); exact BK260.out) hb); replace BK261 := Aside0.mk (blk_below (g := gb261) (o := .cells #[.int .i64 a1_0, .string a1_1, .string a1_2, .string a1_3] 57 (0, 0)) (by (with_reducible repeat (first | refine blk_drewN ?_ _ | refine blk_drew ?_ | refine blk_alloc ?_ _)); refine blk_far ?_ NB261_288.out _; (with_reducible repeat (first | refine blk_drewN ?_ _ | refine blk_drew ?_ | refine blk_alloc ?_ _)); exact BK261.out) hb); replace BK275 := Aside0.mk (blk_below (g := gb275) (o := .cells #[.slice Ao40 t271.length co40] 44 (0, 0)) (by (with_reducible repeat (first | refine blk_drewN ?_ _ | refine blk_drew ?_ | refine blk_alloc ?_ _)); refine blk_far ?_ NB275_288.out _; (with_reducible repeat (first | refine blk_drewN ?_ _ | refine blk_drew ?_ | refine blk_alloc ?_ _)); exact BK275.out) hb); replace BK279 := Aside0.mk (blk_below (g := gb279) (o := .cells #[.slice Ao46 t276.length co46] 44 (0, 0)) (by (with_reducible repeat (first | refine blk_drewN ?_ _ | refine blk_drew ?_ | refine blk_alloc ?_ _)); refine blk_far ?_ NB279_288.out _; (with_reducible repeat (first | refine blk_drewN ?_ _ | refine blk_drew ?_ | refine blk_alloc ?_ _)); exact BK279.out) hb); replace BK288 := Aside0.mk (blk_below (g := gb288) (o := .cells #[.slice Ao57 t284.length co57] 44 (0, 0)) (by (with_reducible repeat (first | refine blk_drewN ?_ _ | refine blk_drew ?_ | refine blk_alloc ?_ _)); refine blk_put (cs := #[.slice none 0 0]) ?_ 0 _ rfl; (with_reducible repeat (first | refine blk_drewN ?_ _ | refine blk_drew ?_ | refine blk_alloc ?_ _)); exact BK288.out) hb); replace HB := Aside0.mk (below_step qB_ hb); (try clear hb); (try clear hb2); (try clear hk); (try clear hi)))
     go_meet
     case rel => exact ⟨_, (true), qe_, H', ⟨qo_⟩, ⟨by (with_reducible repeat (first | apply Kd.R_alloc | apply Kd.R_drewN | apply Kd.R_drew)); exact Kd.R_mono HO273.out (fun _ hk => ⟨hk.2.1, hk.2.2⟩)⟩, ⟨by (with_reducible repeat (first | apply Kd.R_alloc | apply Kd.R_drewN | apply Kd.R_drew)); exact Kd.R_mono HO278.out (fun _ hk => ⟨hk.2.1, hk.2.2⟩)⟩, ⟨by (with_reducible repeat (first | apply Kd.R_alloc | apply Kd.R_drewN | apply Kd.R_drew)); exact Kd.R_mono HO286.out (fun _ hk => ⟨hk.2.1, hk.2.2⟩)⟩, ⟨qk_ BK260⟩, ⟨qk_ BK261⟩, ⟨qk_ BK275⟩, ⟨qk_ BK279⟩, ⟨qk_ BK288⟩, ⟨qB_⟩⟩
   case rest =>
    clear HC25; (try clear c2); (try clear p2); (try clear c3); (try clear c4); (try clear c6); (try clear c7); (try clear c28); (try clear c39); (try clear c40); (try clear c60); (try clear c61); (try clear c62); (try clear c63); (try clear c64); (try clear c66); (try clear c67); (try clear c68); (try clear c71); (try clear c72); (try clear c73); (try clear c74); (try clear c76); (try clear c77); (try clear c78); (try clear hcz65_0); (try clear hcz69_0); (try clear hcz75_0); (try clear hcz79_0); (try clear hfz65_0); (try clear hfz69_0); (try clear hfz75_0); (try clear hfz79_0)
    obtain ⟨kq, x51_24, rfl, HA, HJ24, HO_276000, HO_280000, HO_289000, BK260, BK261, BK275, BK279, BK288, HB⟩ := hcut
    cases kq with
    | zero => exact absurd HA.out (by simp [laws_FnExactDoAct.j0])
    | succ kj24 =>
     have H := HA.out; clear HA
     simp only [laws_FnExactDoAct.j0] at H
     by_cases c81 : x51_24 = true
     ·subst c81
      rw [if_pos rfl] at H
      exact absurd (Option.some.inj H) (by decide)
     ·replace c81 := Bool.eq_false_iff.mpr c81
      subst c81
      rw [if_neg (show ¬ (false = true) by decide)] at H
      obtain ⟨t290, A820, H⟩ := Option.bind_eq_some_iff.mp H; have A82 := Aside0.mk A820; clear A820
      obtain ⟨t293, A830, H⟩ := Option.bind_eq_some_iff.mp H; have A83 := Aside0.mk A830; clear A830
      by_cases c84 : t293 = true
      ·subst c84
       rw [if_pos rfl] at H
       replace H := Option.bind_eq_some_iff.mp H
       obtain ⟨⟨t294, t295⟩, A850, H⟩ := H
       replace H : (if t294 < 0 then (laws_FnExactDoAct.j1 kj24 t274 true l0_0 a1_0 a1_1 a1_2 a1_3 t271 t284) else ((laws_eqDisk.f kj24 t284 t271).bind fun t296 => (if t296 = true then (laws_FnExactDoAct.j1 kj24 t274 (t287 != t274) l0_0 a1_0 a1_1 a1_2 a1_3 t271 t284) else (laws_FnExactDoAct.j1 kj24 t274 true l0_0 a1_0 a1_1 a1_2 a1_3 t271 t284)))) = some true := H
       have A85 := Aside0.mk A850
       clear A850
       have HC86 := Aside0.mk H
       clear H
       try go_wp2
       have n0_ := Aside0.mk (Kd.R_drew HO_276000.out)
       have n1_ := Aside0.mk (Kd.R_drew HO_280000.out)
       have n2_ := Aside0.mk (Kd.R_drew HO_289000.out)
       have n3_ := Aside0.mk (blk_drew BK260.out)
       have n4_ := Aside0.mk (blk_drew BK261.out)
       have n5_ := Aside0.mk (blk_drew BK275.out)
       have n6_ := Aside0.mk (blk_drew BK279.out)
       have n7_ := Aside0.mk (blk_drew BK288.out)
       have n8_ := Aside0.mk (below_drew1 HB.out)
       clear HO_276000; clear HO_280000; clear HO_289000; clear BK260; clear BK261; clear BK275; clear BK279; clear BK288; clear HB; have HO_276000 := n0_; have HO_280000 := n1_; have HO_289000 := n2_; have BK260 := n3_; have BK261 := n4_; have BK275 := n5_; have BK279 := n6_; have BK288 := n7_; have HB := n8_; clear n0_ n1_ n2_ n3_ n4_ n5_ n6_ n7_ n8_
       refine start_ (n := 5) (S := fun w' => w'.cell? ⟨gb279, 0, none⟩ = some (.slice Ao46 t276.length co46) ∧ w'.cell? ⟨gb260, 0, none⟩ = some (.slice A0_0 l0_0.length c0_0)) (ds := []) (bm 5 0) (by kernel_rfl) rfl (by kernel_rfl) ⟨(blk_cell BK279.out 0).trans rfl, (blk_cell BK260.out 0).trans rfl⟩ (fun hHeld => ?_)
       generalize wc.drew = w87 at HO_276000 HO_280000 HO_289000 BK260 BK261 BK275 BK279 BK288 HB hHeld ⊢
       refine take_ (i := 0) (N := some 52) (v := ?_) (a' := ?_) (bm 5 1) rfl rfl (by kernel_rfl) (fun _ _ _ h => h) (Or.inl ⟨by rfl, ?_⟩) hHeld ?_ ?_
       rotate_left
       ·rintro w' ⟨s0, s1⟩
        go_simp
        with_reducible rfl
       rotate_left
       ·simp only [Act.put, List.setIfInBounds_toArray, List.set_cons_zero, List.set_cons_succ, i64_w, i32_w]
        rfl
       refine take_ (i := 1) (N := some 53) (v := ?_) (a' := ?_) (bm 5 3) rfl rfl (by kernel_rfl) (fun _ _ _ h => h) (Or.inl ⟨by rfl, ?_⟩) hHeld ?_ ?_
       rotate_left
       ·rintro w' ⟨s0, s1⟩
        go_simp
        with_reducible rfl
       rotate_left
       ·simp only [Act.put, List.setIfInBounds_toArray, List.set_cons_zero, List.set_cons_succ, i64_w, i32_w]
        rfl
       refine one_ (i := 2) (N := some 54) (bm 5 7) rfl rfl (by kernel_rfl) (by decide) (fun K hK => ?_)
       refine goes_ Try.func25 (by kernel_rfl) rfl #[.agg #[.slice A0_0 l0_0.length c0_0]] (by rfl) rfl rfl (by (try simp only [List.map_toArray, List.map_cons, List.map_nil]); first | done | rfl | (simp only [List.length_drop, List.length_take]; rfl)) ?_
       with_reducible refine (laws_toDisk.calls kj24 _ _ l0_0 t290 _ ?side1 ?side2 A82.out).mono ?_
       (case side1 => exact qC_ HR0_0 HB)
       (case side2 => exact HC0_0.out)
       rintro e w88 ⟨v291, rfl, ho0, hb⟩
       refine ⟨_, rfl, ?_⟩
       have n0_ := Aside0.mk (Kd.R_elder' (qR_ HO_276000) (Kd.R_base ho0) hb)
       have n1_ := Aside0.mk (Kd.R_elder' (qR_ HO_280000) (Kd.R_base ho0) hb)
       have n2_ := Aside0.mk (Kd.R_elder' (qR_ HO_289000) (Kd.R_base ho0) hb)
       have n3_ := Aside0.mk (Kd.R_lower (Kd.R_new' (Kd.R_new' (Kd.R_new' ho0 (Kd.R_lt (qR_ HO_276000))) (Kd.R_lt (qR_ HO_280000))) (Kd.R_lt (qR_ HO_289000))) (below_size qB_))
       have n4_ := Aside0.mk (blk_below (qk_ BK260) hb)
       have n5_ := Aside0.mk (blk_below (qk_ BK261) hb)
       have n6_ := Aside0.mk (blk_below (qk_ BK275) hb)
       have n7_ := Aside0.mk (blk_below (qk_ BK279) hb)
       have n8_ := Aside0.mk (blk_below (qk_ BK288) hb)
       have n9_ := Aside0.mk (below_step qB_ hb)
       clear HO_276000; clear HO_280000; clear HO_289000; clear BK260; clear BK261; clear BK275; clear BK279; clear BK288; clear HB; have HO_276000 := n0_; have HO_280000 := n1_; have HO_289000 := n2_; have HO292 := n3_; have BK260 := n4_; have BK261 := n5_; have BK275 := n6_; have BK279 := n7_; have BK288 := n8_; have HB := n9_; clear n0_ n1_ n2_ n3_ n4_ n5_ n6_ n7_ n8_ n9_; (try clear hb); (try clear hb2); (try clear hk); (try clear hi); (try clear ho0)
       obtain ⟨Ao89, co89, eo89⟩ := Kd.R_slice HO292.out
       (first | subst eo89 | (injection eo89 with f1_ f2_ f3_; have f4_ := f1_.symm; have f5_ := f3_.symm; clear f1_ f2_ f3_; subst f4_; subst f5_))
       refine hK.out _ _ ⟨(blk_cell BK279.out 0).trans rfl, (blk_cell BK260.out 0).trans rfl⟩ (fun hHeld => ?_)
       clear hK K
       refine norm_ (a' := ?_) ?_ ?_
       rotate_left
       ·show Act.put _ (some 54) _ = _
        simp only [Act.put, List.setIfInBounds_toArray, List.set_cons_zero, List.set_cons_succ, i64_w, i32_w]
        rfl
       refine one_ (i := 3) (N := some 55) (bm 5 15) rfl rfl (by kernel_rfl) (by decide) (fun K hK => ?_)
       refine goes_ Try.func28 (by kernel_rfl) rfl #[.agg #[.slice Ao46 t276.length co46], .agg #[.slice Ao89 t290.length co89]] (by rfl) rfl rfl (by (try simp only [List.map_toArray, List.map_cons, List.map_nil]); first | done | rfl | (simp only [List.length_drop, List.length_take]; rfl)) ?_
       with_reducible refine (laws_eqDisk.calls kj24 _ _ t276 _ _ t290 true _ ?side1 ?side2 ?side3 ?side4 A83.out).mono ?_
       (case side1 => exact qD_ (Kd.R_reads' HO_280000.out).2.2)
       (case side2 => exact (Kd.R_reads' HO_280000.out).2.1)
       (case side3 => exact qD_ (Kd.R_reads' HO292.out).2.2)
       (case side4 => exact (Kd.R_reads' HO292.out).2.1)
       rintro e w90 ⟨rfl, hb⟩
       refine ⟨_, rfl, ?_⟩
       have n0_ := Aside0.mk (Kd.R_below (qR_ HO_276000) hb)
       have n1_ := Aside0.mk (Kd.R_below (qR_ HO_280000) hb)
       have n2_ := Aside0.mk (Kd.R_below (qR_ HO_289000) hb)
       have n3_ := Aside0.mk (Kd.R_below (qR_ HO292) hb)
       have n4_ := Aside0.mk (blk_below (qk_ BK260) hb)
       have n5_ := Aside0.mk (blk_below (qk_ BK261) hb)
       have n6_ := Aside0.mk (blk_below (qk_ BK275) hb)
       have n7_ := Aside0.mk (blk_below (qk_ BK279) hb)
       have n8_ := Aside0.mk (blk_below (qk_ BK288) hb)
       have n9_ := Aside0.mk (below_step qB_ hb)
       clear HO_276000; clear HO_280000; clear HO_289000; clear HO292; clear BK260; clear BK261; clear BK275; clear BK279; clear BK288; clear HB; have HO_276000 := n0_; have HO_280000 := n1_; have HO_289000 := n2_; have HO292 := n3_; have BK260 := n4_; have BK261 := n5_; have BK275 := n6_; have BK279 := n7_; have BK288 := n8_; have HB := n9_; clear n0_ n1_ n2_ n3_ n4_ n5_ n6_ n7_ n8_ n9_; (try clear hb); (try clear hb2); (try clear hk); (try clear hi)
       refine hK.out _ _ ⟨(blk_cell BK279.out 0).trans rfl, (blk_cell BK260.out 0).trans rfl⟩ (fun hHeld => ?_)
       clear hK K
       refine norm_ (a' := ?_) ?_ ?_
       rotate_left
       ·show Act.put _ (some 55) _ = _
        simp only [Act.put, List.setIfInBounds_toArray, List.set_cons_zero, List.set_cons_succ, i64_w, i32_w]
        rfl
       refine pure_ (i := 4) (N := some 56) (v := ?_) (a' := ?_) (bm 5 31) rfl rfl (by kernel_rfl) (fun _ _ _ h => h) (Or.inl ⟨by rfl, ?_⟩) ?_ ?_
       rotate_left
       ·intro w'
        go_simp
        with_reducible rfl
       rotate_left
       ·simp only [Act.put, List.setIfInBounds_toArray, List.set_cons_zero, List.set_cons_succ, i64_w, i32_w]
        rfl
       refine done_ (by kernel_rfl) ?_
       have hnb91 := NB279_260.out; have hnc91 := NB260_279.out; have hnb92 := NB279_261.out; have hnc92 := NB261_279.out; have hnb93 := NB279_275.out; have hnc93 := NB275_279.out; have hnb94 := NB279_288.out; have hnc94 := NB288_279.out
       obtain ⟨hcz95_0, hfz95_0⟩ := bc1_ BK279
       go_upto_region 17 with (first | ((with_reducible refine gate_callee (f := 30) rfl ?_); refine gl_ (some 59) Try.func30 #[.agg #[.slice Ao46 t276.length co46], .int .i64 1] ?_; (with_reducible refine (laws_markDisk.calls kj24 (fun k_ => some k_ = (.slice Ao46 t276.length co46 : Value).ownBlock) (.slice Ao46 t276.length co46) t276 1 t294 t295 w _ ?side1 ?side2 A85.out).mono ?_); (case side1 => repeat (first | (with_reducible first | exact HB.out | apply below_alloc | apply pw_below_drewN | apply below_drew1 | refine below_set ?_ GE260.out | refine below_set ?_ GE261.out | refine below_set ?_ GE275.out | refine below_set ?_ GE279.out | refine below_set ?_ GE288.out) | exact HB.out)); (case side2 => exact Kd.R_tight rfl HO_280000.out); rintro e w96 ⟨rfl, hy0, hb, hkp⟩; refine ⟨_, rfl, ?_⟩; have n0_ := Aside0.mk (Kd.R_mono (ok' := fun k_ => some k_ ≠ (.slice Ao46 t276.length co46 : Value).ownBlock ∧ some k_ ≠ (.slice Ao57 t284.length co57 : Value).ownBlock ∧ some k_ ≠ (.slice Ao89 t290.length co89 : Value).ownBlock) (Kd.R_keptB (HO_276000.out) hkp (fun k_ hk_ hs_ => by first | exact (hk_.1.1) hs_ | exact (hk_.1) hs_ | exact (hk_.2) hs_ | exact (hk_.1.1) hs_ | exact (hk_.1.2) hs_ | exact (hk_.2.1) hs_ | exact (hk_.2.2) hs_ | exact (hk_.1.1.1) hs_ | exact (hk_.1.1.2) hs_ | exact (hk_.1.2.1) hs_ | exact (hk_.1.2.2) hs_ | exact (hk_.2.1.1) hs_ | exact (hk_.2.1.2) hs_ | exact (hk_.2.2.1) hs_ | exact (hk_.2.2.2) hs_ | exact (hk_.1.1.1.1) hs_ | exact (hk_.1.1.1.2) hs_ | exact (hk_.1.1.2.1) hs_ | exact (hk_.1.1.2.2) hs_ | exact (hk_.1.2.1.1) hs_ | exact (hk_.1.2.1.2) hs_ | exact (hk_.1.2.2.1) hs_ | exact (hk_.1.2.2.2) hs_ | exact (hk_.2.1.1.1) hs_ | exact (hk_.2.1.1.2) hs_ | exact (hk_.2.1.2.1) hs_ | exact (hk_.2.1.2.2) hs_ | exact (hk_.2.2.1.1) hs_ | exact (hk_.2.2.1.2) hs_ | exact (hk_.2.2.2.1) hs_ | exact (hk_.2.2.2.2) hs_)) (fun k_ hk_ => by first | exact ⟨hk_.1.1.1, hk_.1.1.2, hk_.1.2⟩ | (refine ⟨?_, ?_, ?_⟩ <;> first | exact hk_.1 | exact hk_.2 | exact hk_.1.1 | exact hk_.1.2 | exact hk_.2.1 | exact hk_.2.2 | exact hk_.1.1.1 | exact hk_.1.1.2 | exact hk_.1.2.1 | exact hk_.1.2.2 | exact hk_.2.1.1 | exact hk_.2.1.2 | exact hk_.2.2.1 | exact hk_.2.2.2 | exact hk_.1.1.1.1 | exact hk_.1.1.1.2 | exact hk_.1.1.2.1 | exact hk_.1.1.2.2 | exact hk_.1.2.1.1 | exact hk_.1.2.1.2 | exact hk_.1.2.2.1 | exact hk_.1.2.2.2 | exact hk_.2.1.1.1 | exact hk_.2.1.1.2 | exact hk_.2.1.2.1 | exact hk_.2.1.2.2 | exact hk_.2.2.1.1 | exact hk_.2.2.1.2 | exact hk_.2.2.2.1 | exact hk_.2.2.2.2))); have n1_ := Aside0.mk (Kd.R_reok rfl hy0 (fun k_ e_ => HO_280000.out.1 k_ e_)); have n2_ := Aside0.mk (Kd.R_mono (ok' := fun k_ => some k_ ≠ (.slice Ao40 t271.length co40 : Value).ownBlock ∧ some k_ ≠ (.slice Ao46 t276.length co46 : Value).ownBlock ∧ some k_ ≠ (.slice Ao89 t290.length co89 : Value).ownBlock) (Kd.R_keptB (HO_289000.out) hkp (fun k_ hk_ hs_ => by first | exact (hk_.1.2) hs_ | exact (hk_.1) hs_ | exact (hk_.2) hs_ | exact (hk_.1.1) hs_ | exact (hk_.1.2) hs_ | exact (hk_.2.1) hs_ | exact (hk_.2.2) hs_ | exact (hk_.1.1.1) hs_ | exact (hk_.1.1.2) hs_ | exact (hk_.1.2.1) hs_ | exact (hk_.1.2.2) hs_ | exact (hk_.2.1.1) hs_ | exact (hk_.2.1.2) hs_ | exact (hk_.2.2.1) hs_ | exact (hk_.2.2.2) hs_ | exact (hk_.1.1.1.1) hs_ | exact (hk_.1.1.1.2) hs_ | exact (hk_.1.1.2.1) hs_ | exact (hk_.1.1.2.2) hs_ | exact (hk_.1.2.1.1) hs_ | exact (hk_.1.2.1.2) hs_ | exact (hk_.1.2.2.1) hs_ | exact (hk_.1.2.2.2) hs_ | exact (hk_.2.1.1.1) hs_ | exact (hk_.2.1.1.2) hs_ | exact (hk_.2.1.2.1) hs_ | exact (hk_.2.1.2.2) hs_ | exact (hk_.2.2.1.1) hs_ | exact (hk_.2.2.1.2) hs_ | exact (hk_.2.2.2.1) hs_ | exact (hk_.2.2.2.2) hs_)) (fun k_ hk_ => by first | exact ⟨hk_.1.1.1, hk_.1.1.2, hk_.1.2⟩ | (refine ⟨?_, ?_, ?_⟩ <;> first | exact hk_.1 | exact hk_.2 | exact hk_.1.1 | exact hk_.1.2 | exact hk_.2.1 | exact hk_.2.2 | exact hk_.1.1.1 | exact hk_.1.1.2 | exact hk_.1.2.1 | exact hk_.1.2.2 | exact hk_.2.1.1 | exact hk_.2.1.2 | exact hk_.2.2.1 | exact hk_.2.2.2 | exact hk_.1.1.1.1 | exact hk_.1.1.1.2 | exact hk_.1.1.2.1 | exact hk_.1.1.2.2 | exact hk_.1.2.1.1 | exact hk_.1.2.1.2 | exact hk_.1.2.2.1 | exact hk_.1.2.2.2 | exact hk_.2.1.1.1 | exact hk_.2.1.1.2 | exact hk_.2.1.2.1 | exact hk_.2.1.2.2 | exact hk_.2.2.1.1 | exact hk_.2.2.1.2 | exact hk_.2.2.2.1 | exact hk_.2.2.2.2))); have n3_ := Aside0.mk (blk_kept (qk_ BK260) hkp (fun hs_ => (fun e_ => (Kd.R_ne HO_280000.out BK260.out (by decide)) e_) hs_)); have n4_ := Aside0.mk (blk_kept (qk_ BK261) hkp (fun hs_ => (fun e_ => (Kd.R_ne HO_280000.out BK261.out (by decide)) e_) hs_)); have n5_ := Aside0.mk (blk_kept (qk_ BK275) hkp (fun hs_ => (fun e_ => (Kd.R_ne HO_280000.out BK275.out (by decide)) e_) hs_)); have n6_ := Aside0.mk (blk_kept (qk_ BK279) hkp (fun hs_ => (fun e_ => (Kd.R_ne HO_280000.out BK279.out (by decide)) e_) hs_)); have n7_ := Aside0.mk (blk_kept (qk_ BK288) hkp (fun hs_ => (fun e_ => (Kd.R_ne HO_280000.out BK288.out (by decide)) e_) hs_)); have n8_ := Aside0.mk (Kd.R_mono (ok' := fun k_ => some k_ ≠ (.slice Ao40 t271.length co40 : Value).ownBlock ∧ some k_ ≠ (.slice Ao46 t276.length co46 : Value).ownBlock ∧ some k_ ≠ (.slice Ao57 t284.length co57 : Value).ownBlock) (Kd.R_keptB (HO292.out) hkp (fun k_ hk_ hs_ => by first | exact (hk_.1.2) hs_ | exact (hk_.1) hs_ | exact (hk_.2) hs_ | exact (hk_.1.1) hs_ | exact (hk_.1.2) hs_ | exact (hk_.2.1) hs_ | exact (hk_.2.2) hs_ | exact (hk_.1.1.1) hs_ | exact (hk_.1.1.2) hs_ | exact (hk_.1.2.1) hs_ | exact (hk_.1.2.2) hs_ | exact (hk_.2.1.1) hs_ | exact (hk_.2.1.2) hs_ | exact (hk_.2.2.1) hs_ | exact (hk_.2.2.2) hs_ | exact (hk_.1.1.1.1) hs_ | exact (hk_.1.1.1.2) hs_ | exact (hk_.1.1.2.1) hs_ | exact (hk_.1.1.2.2) hs_ | exact (hk_.1.2.1.1) hs_ | exact (hk_.1.2.1.2) hs_ | exact (hk_.1.2.2.1) hs_ | exact (hk_.1.2.2.2) hs_ | exact (hk_.2.1.1.1) hs_ | exact (hk_.2.1.1.2) hs_ | exact (hk_.2.1.2.1) hs_ | exact (hk_.2.1.2.2) hs_ | exact (hk_.2.2.1.1) hs_ | exact (hk_.2.2.1.2) hs_ | exact (hk_.2.2.2.1) hs_ | exact (hk_.2.2.2.2) hs_)) (fun k_ hk_ => by first | exact ⟨hk_.1.1.1.2, hk_.1.1.2, hk_.1.2⟩ | (refine ⟨?_, ?_, ?_⟩ <;> first | exact hk_.1 | exact hk_.2 | exact hk_.1.1 | exact hk_.1.2 | exact hk_.2.1 | exact hk_.2.2 | exact hk_.1.1.1 | exact hk_.1.1.2 | exact hk_.1.2.1 | exact hk_.1.2.2 | exact hk_.2.1.1 | exact hk_.2.1.2 | exact hk_.2.2.1 | exact hk_.2.2.2 | exact hk_.1.1.1.1 | exact hk_.1.1.1.2 | exact hk_.1.1.2.1 | exact hk_.1.1.2.2 | exact hk_.1.2.1.1 | exact hk_.1.2.1.2 | exact hk_.1.2.2.1 | exact hk_.1.2.2.2 | exact hk_.2.1.1.1 | exact hk_.2.1.1.2 | exact hk_.2.1.2.1 | exact hk_.2.1.2.2 | exact hk_.2.2.1.1 | exact hk_.2.2.1.2 | exact hk_.2.2.2.1 | exact hk_.2.2.2.2))); have n9_ := Aside0.mk (hb); clear HO_276000; clear HO_280000; clear HO_289000; clear BK260; clear BK261; clear BK275; clear BK279; clear BK288; clear HO292; clear HB; have HO_276000 := n0_; have HO_280000 := n1_; have HO_289000 := n2_; have BK260 := n3_; have BK261 := n4_; have BK275 := n5_; have BK279 := n6_; have BK288 := n7_; have HO292 := n8_; have HB := n9_; clear n0_ n1_ n2_ n3_ n4_ n5_ n6_ n7_ n8_ n9_; (try clear hb); (try clear hkp); (try clear hy0)))
       (try simp only [Act.put, List.setIfInBounds_toArray, List.set_cons_zero, List.set_cons_succ])
       go_cut [72] (fun v72 wc => ∃ (kq : Nat) (x72_85 : Bool), v72 = .bool x72_85 ∧ Aside0 (laws_FnExactDoAct.j1 kq t274 x72_85 l0_0 a1_0 a1_1 a1_2 a1_3 t271 t284 = some true) ∧ Aside0 (kq ≤ kj24) ∧ Aside0 (Kd.R k99 99 wc w.heap.size (fun k_ => some k_ ≠ ((.slice Ao46 t276.length co46) : Value).ownBlock ∧ some k_ ≠ ((.slice Ao57 t284.length co57) : Value).ownBlock) (.slice Ao40 t271.length co40) t271) ∧ Aside0 (Kd.R k99 99 wc w.heap.size (fun k_ => some k_ ≠ ((.slice Ao40 t271.length co40) : Value).ownBlock ∧ some k_ ≠ ((.slice Ao57 t284.length co57) : Value).ownBlock) (.slice Ao46 t276.length co46) t295) ∧ Aside0 (Kd.R k99 99 wc w.heap.size (fun k_ => some k_ ≠ ((.slice Ao40 t271.length co40) : Value).ownBlock ∧ some k_ ≠ ((.slice Ao46 t276.length co46) : Value).ownBlock) (.slice Ao57 t284.length co57) t284) ∧ Aside0 (wc.heap[gb260]? = some (.cells #[(.slice A0_0 l0_0.length c0_0)] 39 (0, 0))) ∧ Aside0 (wc.heap[gb261]? = some (.cells #[.int .i64 a1_0, .string a1_1, .string a1_2, .string a1_3] 57 (0, 0))) ∧ Aside0 (wc.heap[gb275]? = some (.cells #[(.slice Ao40 t271.length co40)] 44 (0, 0))) ∧ Aside0 (wc.heap[gb279]? = some (.cells #[(.slice Ao46 t276.length co46)] 44 (0, 0))) ∧ Aside0 (wc.heap[gb288]? = some (.cells #[(.slice Ao57 t284.length co57)] 44 (0, 0))) ∧ Aside0 (Below w.heap.size w wc))
       case first =>
        have H := HC86.out; clear HC86
        by_cases c97 : t294 < 0
        ·rw [if_pos c97] at H
         have c97b0 : decide (t294 < 0) = true := decide_eq_true c97
         clear c97
         (first | rw [c97b0] | (simp only [i64_w, i32_w]; rw [c97b0]) | skip)
         have H' := Aside0.mk H; clear H
         go_wp2
         go_meet
         case rel => exact ⟨_, (true), qe_, H', ⟨by have := HJ24.out; first | omega | exact Nat.le_refl _⟩, ⟨by (with_reducible repeat (first | apply Kd.R_alloc | apply Kd.R_drewN | apply Kd.R_drew)); exact Kd.R_mono HO_276000.out (fun _ hk => ⟨hk.1, hk.2.1⟩)⟩, ⟨by (with_reducible repeat (first | apply Kd.R_alloc | apply Kd.R_drewN | apply Kd.R_drew)); exact Kd.R_mono HO_280000.out (fun _ hk => ⟨hk.1.1, hk.1.2⟩)⟩, ⟨by (with_reducible repeat (first | apply Kd.R_alloc | apply Kd.R_drewN | apply Kd.R_drew)); exact Kd.R_mono HO_289000.out (fun _ hk => ⟨hk.1, hk.2.1⟩)⟩, ⟨qk_ BK260⟩, ⟨qk_ BK261⟩, ⟨qk_ BK275⟩, ⟨qk_ BK279⟩, ⟨qk_ BK288⟩, ⟨qB_⟩⟩
        ·rw [if_neg c97] at H
         have c97b0 : decide (t294 < 0) = false := decide_eq_false c97
         clear c97
         (first | rw [c97b0] | (simp only [i64_w, i32_w]; rw [c97b0]) | skip)
         obtain ⟨t296, A980, H⟩ := Option.bind_eq_some_iff.mp H; have A98 := Aside0.mk A980; clear A980
         by_cases c99 : t296 = true
         ·subst c99
          rw [if_pos rfl] at H; have H' := Aside0.mk H; clear H; have hnb100 := NB288_260.out; have hnc100 := NB260_288.out; have hnb101 := NB288_261.out; have hnc101 := NB261_288.out; have hnb102 := NB288_275.out; have hnc102 := NB275_288.out; have hnb103 := NB288_279.out; have hnc103 := NB279_288.out
          obtain ⟨hcz104_0, hfz104_0⟩ := bc1_ BK288
          have hnb105 := NB275_260.out; have hnc105 := NB260_275.out; have hnb106 := NB275_261.out; have hnc106 := NB261_275.out; have hnb107 := NB275_279.out; have hnc107 := NB279_275.out
          obtain ⟨hcz108_0, hfz108_0⟩ := bc1_ BK275
          go_wp2_with (first | (go_at_call 28; (with_reducible refine (laws_eqDisk.calls kj24 _ _ t284 _ _ t271 true _ ?side1 ?side2 ?side3 ?side4 A98.out).mono ?_); (case side1 => exact qD_ (Kd.R_reads' HO_289000.out).2.2); (case side2 => exact (Kd.R_reads' HO_289000.out).2.1); (case side3 => exact qD_ (Kd.R_reads' HO_276000.out).2.2); (case side4 => exact (Kd.R_reads' HO_276000.out).2.1); rintro e w109 ⟨rfl, hb⟩; replace HO_276000 := Aside0.mk (Kd.R_below (qR_ HO_276000) hb); replace HO_280000 := Aside0.mk (Kd.R_below (qR_ HO_280000) hb); replace HO_289000 := Aside0.mk (Kd.R_below (qR_ HO_289000) hb); replace HO292 := Aside0.mk (Kd.R_below (qR_ HO292) hb); replace BK260 := Aside0.mk (blk_below (qk_ BK260) hb); replace BK261 := Aside0.mk (blk_below (qk_ BK261) hb); replace BK275 := Aside0.mk (blk_below (qk_ BK275) hb); replace BK279 := Aside0.mk (blk_below (qk_ BK279) hb); replace BK288 := Aside0.mk (blk_below (qk_ BK288) hb); replace HB := Aside0.mk (below_step qB_ hb); (try clear hb); (try clear hb2); (try clear hk); (try clear hi)))
          go_meet
          case rel => exact ⟨_, ((t287 != t274)), qe_, H', ⟨by have := HJ24.out; first | omega | exact Nat.le_refl _⟩, ⟨by (with_reducible repeat (first | apply Kd.R_alloc | apply Kd.R_drewN | apply Kd.R_drew)); exact Kd.R_mono HO_276000.out (fun _ hk => ⟨hk.1, hk.2.1⟩)⟩, ⟨by (with_reducible repeat (first | apply Kd.R_alloc | apply Kd.R_drewN | apply Kd.R_drew)); exact Kd.R_mono HO_280000.out (fun _ hk => ⟨hk.1.1, hk.1.2⟩)⟩, ⟨by (with_reducible repeat (first | apply Kd.R_alloc | apply Kd.R_drewN | apply Kd.R_drew)); exact Kd.R_mono HO_289000.out (fun _ hk => ⟨hk.1, hk.2.1⟩)⟩, ⟨qk_ BK260⟩, ⟨qk_ BK261⟩, ⟨qk_ BK275⟩, ⟨qk_ BK279⟩, ⟨qk_ BK288⟩, ⟨qB_⟩⟩
         ·replace c99 := Bool.eq_false_iff.mpr c99
          subst c99
          rw [if_neg (show ¬ (false = true) by decide)] at H; have H' := Aside0.mk H; clear H; have hnb110 := NB288_260.out; have hnc110 := NB260_288.out; have hnb111 := NB288_261.out; have hnc111 := NB261_288.out; have hnb112 := NB288_275.out; have hnc112 := NB275_288.out; have hnb113 := NB288_279.out; have hnc113 := NB279_288.out
          obtain ⟨hcz114_0, hfz114_0⟩ := bc1_ BK288
          have hnb115 := NB275_260.out; have hnc115 := NB260_275.out; have hnb116 := NB275_261.out; have hnc116 := NB261_275.out; have hnb117 := NB275_279.out; have hnc117 := NB279_275.out
          obtain ⟨hcz118_0, hfz118_0⟩ := bc1_ BK275
          go_wp2_with (first | (go_at_call 28; (with_reducible refine (laws_eqDisk.calls kj24 _ _ t284 _ _ t271 false _ ?side1 ?side2 ?side3 ?side4 A98.out).mono ?_); (case side1 => exact qD_ (Kd.R_reads' HO_289000.out).2.2); (case side2 => exact (Kd.R_reads' HO_289000.out).2.1); (case side3 => exact qD_ (Kd.R_reads' HO_276000.out).2.2); (case side4 => exact (Kd.R_reads' HO_276000.out).2.1); rintro e w119 ⟨rfl, hb⟩; replace HO_276000 := Aside0.mk (Kd.R_below (qR_ HO_276000) hb); replace HO_280000 := Aside0.mk (Kd.R_below (qR_ HO_280000) hb); replace HO_289000 := Aside0.mk (Kd.R_below (qR_ HO_289000) hb); replace HO292 := Aside0.mk (Kd.R_below (qR_ HO292) hb); replace BK260 := Aside0.mk (blk_below (qk_ BK260) hb); replace BK261 := Aside0.mk (blk_below (qk_ BK261) hb); replace BK275 := Aside0.mk (blk_below (qk_ BK275) hb); replace BK279 := Aside0.mk (blk_below (qk_ BK279) hb); replace BK288 := Aside0.mk (blk_below (qk_ BK288) hb); replace HB := Aside0.mk (below_step qB_ hb); (try clear hb); (try clear hb2); (try clear hk); (try clear hi)))
          go_meet
          case rel => exact ⟨_, (true), qe_, H', ⟨by have := HJ24.out; first | omega | exact Nat.le_refl _⟩, ⟨by (with_reducible repeat (first | apply Kd.R_alloc | apply Kd.R_drewN | apply Kd.R_drew)); exact Kd.R_mono HO_276000.out (fun _ hk => ⟨hk.1, hk.2.1⟩)⟩, ⟨by (with_reducible repeat (first | apply Kd.R_alloc | apply Kd.R_drewN | apply Kd.R_drew)); exact Kd.R_mono HO_280000.out (fun _ hk => ⟨hk.1.1, hk.1.2⟩)⟩, ⟨by (with_reducible repeat (first | apply Kd.R_alloc | apply Kd.R_drewN | apply Kd.R_drew)); exact Kd.R_mono HO_289000.out (fun _ hk => ⟨hk.1, hk.2.1⟩)⟩, ⟨qk_ BK260⟩, ⟨qk_ BK261⟩, ⟨qk_ BK275⟩, ⟨qk_ BK279⟩, ⟨qk_ BK288⟩, ⟨qB_⟩⟩
       case rest =>
        clear HC86; (try clear c1); (try clear c2); (try clear p2); (try clear c3); (try clear c4); (try clear c6); (try clear c7); (try clear c8); (try clear c9); (try clear c10); (try clear c11); (try clear c25); (try clear c28); (try clear c30); (try clear c39); (try clear c40); (try clear c60); (try clear c61); (try clear c62); (try clear c63); (try clear c64); (try clear c66); (try clear c67); (try clear c68); (try clear c71); (try clear c72); (try clear c73); (try clear c74); (try clear c76); (try clear c77); (try clear c78); (try clear c81); (try clear c84); (try clear c91); (try clear c92); (try clear c93); (try clear c94); (try clear c97); (try clear c97b0); (try clear c99); (try clear c100); (try clear c101); (try clear c102); (try clear c103); (try clear c105); (try clear c106); (try clear c107); (try clear c110); (try clear c111); (try clear c112); (try clear c113); (try clear c115); (try clear c116); (try clear c117); (try clear hcz104_0); (try clear hcz108_0); (try clear hcz114_0); (try clear hcz118_0); (try clear hcz65_0); (try clear hcz69_0); (try clear hcz75_0); (try clear hcz79_0); (try clear hcz95_0); (try clear hfz104_0); (try clear hfz108_0); (try clear hfz114_0); (try clear hfz118_0); (try clear hfz65_0); (try clear hfz69_0); (try clear hfz75_0); (try clear hfz79_0); (try clear hfz95_0); (try clear p2)
        obtain ⟨kq, x72_85, rfl, HA, HJ85, HO_276000, HO_280000, HO_289000, BK260, BK261, BK275, BK279, BK288, HB⟩ := hcut
        have hl280000_85 := (Kd.R_reads' HO_280000.out).1
        rw [hl280000_85] at HO_280000
        (try simp only [hl280000_85])
        (try simp only [hl280000_85] at BK260)
        (try simp only [hl280000_85] at BK261)
        (try simp only [hl280000_85] at BK275)
        (try simp only [hl280000_85] at BK279)
        (try simp only [hl280000_85] at BK288)
        (try simp only [hl280000_85] at HO_276000)
        (try simp only [hl280000_85] at HO_289000)
        cases kq with
        | zero => exact absurd HA.out (by simp [laws_FnExactDoAct.j1])
        | succ kj85 =>
         have H := HA.out; clear HA
         simp only [laws_FnExactDoAct.j1] at H
         by_cases c120 : x72_85 = true
         ·subst c120
          rw [if_pos rfl] at H
          exact absurd (Option.some.inj H) (by decide)
         ·replace c120 := Bool.eq_false_iff.mpr c120
          subst c120
          rw [if_neg (show ¬ (false = true) by decide)] at H
          replace H := Option.bind_eq_some_iff.mp H
          obtain ⟨⟨t297, t298⟩, A1210, H⟩ := H
          replace H : ((laws_heldDisk.f kj85 t298 1).bind fun t299 => (if t299 < 0 then (some false) else (if t299 = t297 then ((laws_toDisk.f kj85 l0_0).bind fun t300 => ((laws_toAct.f a1_0 a1_1 a1_2 a1_3).bind fun bt303 => ((impl_DoAct.f kj85 t300 bt303.1 bt303.2.1 bt303.2.2.1 bt303.2.2.2).bind fun bt307 => ((laws_eqDisk.f kj85 bt307.1 t271).bind fun t312 => (if t312 = true then (laws_FnExactDoAct.j2 kj85 t297 (bt307.2 != t274) t298) else (laws_FnExactDoAct.j2 kj85 t297 true t298)))))) else (some false)))) = some true := H
          have A121 := Aside0.mk A1210
          clear A1210
          obtain ⟨t299, A1220, H⟩ := Option.bind_eq_some_iff.mp H; have A122 := Aside0.mk A1220; clear A1220
          by_cases c123 : t299 < 0
          ·rw [if_pos c123] at H
           have c123b0 : decide (t299 < 0) = true := decide_eq_true c123
           clear c123
           exact absurd (Option.some.inj H) (by decide)
          ·rw [if_neg c123] at H
           have c123b0 : decide (t299 < 0) = false := decide_eq_false c123
           clear c123
           by_cases c132 : t299 = t297
           ·rw [if_pos c132] at H
            have c132b0 : (t299 == t297) = true := beq_iff_eq.mpr c132
            have c132b1 : (t299 != t297) = false := bne_eq_false_iff_eq.mpr c132
            clear c132
            obtain ⟨t300, A1330, H⟩ := Option.bind_eq_some_iff.mp H; have A133 := Aside0.mk A1330; clear A1330
            replace H := Option.bind_eq_some_iff.mp H
            obtain ⟨⟨t303, t304, t305, t306⟩, A1340, H⟩ := H
            replace H : ((impl_DoAct.f kj85 t300 t303 t304 t305 t306).bind fun bt307 => ((laws_eqDisk.f kj85 bt307.1 t271).bind fun t312 => (if t312 = true then (laws_FnExactDoAct.j2 kj85 t297 (bt307.2 != t274) t298) else (laws_FnExactDoAct.j2 kj85 t297 true t298)))) = some true := H
            have A134 := Aside0.mk A1340
            clear A1340
            replace H := Option.bind_eq_some_iff.mp H
            obtain ⟨⟨t307, t310⟩, A1350, H⟩ := H
            replace H : ((laws_eqDisk.f kj85 t307 t271).bind fun t312 => (if t312 = true then (laws_FnExactDoAct.j2 kj85 t297 (t310 != t274) t298) else (laws_FnExactDoAct.j2 kj85 t297 true t298))) = some true := H
            have A135 := Aside0.mk A1350
            clear A1350
            have HC136 := Aside0.mk H
            clear H; have hnb137 := NB288_260.out; have hnc137 := NB260_288.out; have hnb138 := NB288_261.out; have hnc138 := NB261_288.out; have hnb139 := NB288_275.out; have hnc139 := NB275_288.out; have hnb140 := NB288_279.out; have hnc140 := NB279_288.out
            obtain ⟨hcz141_0, hfz141_0⟩ := bc1_ BK288
            try go_wp2_with (first | ((with_reducible refine gate_callee (f := 30) rfl ?_); refine gl_ (some 75) Try.func30 #[.agg #[.slice Ao57 t284.length co57], .int .i64 1] ?_; (with_reducible refine (laws_markDisk.calls kj85 (fun k_ => some k_ = (.slice Ao57 t284.length co57 : Value).ownBlock) (.slice Ao57 t284.length co57) t284 1 t297 t298 w _ ?side1 ?side2 A121.out).mono ?_); (case side1 => repeat (first | (with_reducible first | exact HB.out | apply below_alloc | apply pw_below_drewN | apply below_drew1 | refine below_set ?_ GE260.out | refine below_set ?_ GE261.out | refine below_set ?_ GE275.out | refine below_set ?_ GE279.out | refine below_set ?_ GE288.out) | exact HB.out)); (case side2 => exact Kd.R_tight rfl HO_289000.out); rintro e w142 ⟨rfl, hy0, hb, hkp⟩; refine ⟨_, rfl, ?_⟩; have n0_ := Aside0.mk (Kd.R_mono (ok' := fun k_ => some k_ ≠ (.slice Ao46 t295.length co46 : Value).ownBlock ∧ some k_ ≠ (.slice Ao57 t284.length co57 : Value).ownBlock) (Kd.R_keptB (HO_276000.out) hkp (fun k_ hk_ hs_ => by first | exact (hk_.2) hs_ | exact (hk_.1) hs_ | exact (hk_.2) hs_ | exact (hk_.1.1) hs_ | exact (hk_.1.2) hs_ | exact (hk_.2.1) hs_ | exact (hk_.2.2) hs_ | exact (hk_.1.1.1) hs_ | exact (hk_.1.1.2) hs_ | exact (hk_.1.2.1) hs_ | exact (hk_.1.2.2) hs_ | exact (hk_.2.1.1) hs_ | exact (hk_.2.1.2) hs_ | exact (hk_.2.2.1) hs_ | exact (hk_.2.2.2) hs_ | exact (hk_.1.1.1.1) hs_ | exact (hk_.1.1.1.2) hs_ | exact (hk_.1.1.2.1) hs_ | exact (hk_.1.1.2.2) hs_ | exact (hk_.1.2.1.1) hs_ | exact (hk_.1.2.1.2) hs_ | exact (hk_.1.2.2.1) hs_ | exact (hk_.1.2.2.2) hs_ | exact (hk_.2.1.1.1) hs_ | exact (hk_.2.1.1.2) hs_ | exact (hk_.2.1.2.1) hs_ | exact (hk_.2.1.2.2) hs_ | exact (hk_.2.2.1.1) hs_ | exact (hk_.2.2.1.2) hs_ | exact (hk_.2.2.2.1) hs_ | exact (hk_.2.2.2.2) hs_)) (fun k_ hk_ => by first | exact ⟨hk_.1.1, hk_.1.2⟩ | (refine ⟨?_, ?_⟩ <;> first | exact hk_.1 | exact hk_.2 | exact hk_.1.1 | exact hk_.1.2 | exact hk_.2.1 | exact hk_.2.2 | exact hk_.1.1.1 | exact hk_.1.1.2 | exact hk_.1.2.1 | exact hk_.1.2.2 | exact hk_.2.1.1 | exact hk_.2.1.2 | exact hk_.2.2.1 | exact hk_.2.2.2 | exact hk_.1.1.1.1 | exact hk_.1.1.1.2 | exact hk_.1.1.2.1 | exact hk_.1.1.2.2 | exact hk_.1.2.1.1 | exact hk_.1.2.1.2 | exact hk_.1.2.2.1 | exact hk_.1.2.2.2 | exact hk_.2.1.1.1 | exact hk_.2.1.1.2 | exact hk_.2.1.2.1 | exact hk_.2.1.2.2 | exact hk_.2.2.1.1 | exact hk_.2.2.1.2 | exact hk_.2.2.2.1 | exact hk_.2.2.2.2))); have n1_ := Aside0.mk (Kd.R_mono (ok' := fun k_ => some k_ ≠ (.slice Ao40 t271.length co40 : Value).ownBlock ∧ some k_ ≠ (.slice Ao57 t284.length co57 : Value).ownBlock) (Kd.R_keptB (HO_280000.out) hkp (fun k_ hk_ hs_ => by first | exact (hk_.2) hs_ | exact (hk_.1) hs_ | exact (hk_.2) hs_ | exact (hk_.1.1) hs_ | exact (hk_.1.2) hs_ | exact (hk_.2.1) hs_ | exact (hk_.2.2) hs_ | exact (hk_.1.1.1) hs_ | exact (hk_.1.1.2) hs_ | exact (hk_.1.2.1) hs_ | exact (hk_.1.2.2) hs_ | exact (hk_.2.1.1) hs_ | exact (hk_.2.1.2) hs_ | exact (hk_.2.2.1) hs_ | exact (hk_.2.2.2) hs_ | exact (hk_.1.1.1.1) hs_ | exact (hk_.1.1.1.2) hs_ | exact (hk_.1.1.2.1) hs_ | exact (hk_.1.1.2.2) hs_ | exact (hk_.1.2.1.1) hs_ | exact (hk_.1.2.1.2) hs_ | exact (hk_.1.2.2.1) hs_ | exact (hk_.1.2.2.2) hs_ | exact (hk_.2.1.1.1) hs_ | exact (hk_.2.1.1.2) hs_ | exact (hk_.2.1.2.1) hs_ | exact (hk_.2.1.2.2) hs_ | exact (hk_.2.2.1.1) hs_ | exact (hk_.2.2.1.2) hs_ | exact (hk_.2.2.2.1) hs_ | exact (hk_.2.2.2.2) hs_)) (fun k_ hk_ => by first | exact ⟨hk_.1.1, hk_.1.2⟩ | (refine ⟨?_, ?_⟩ <;> first | exact hk_.1 | exact hk_.2 | exact hk_.1.1 | exact hk_.1.2 | exact hk_.2.1 | exact hk_.2.2 | exact hk_.1.1.1 | exact hk_.1.1.2 | exact hk_.1.2.1 | exact hk_.1.2.2 | exact hk_.2.1.1 | exact hk_.2.1.2 | exact hk_.2.2.1 | exact hk_.2.2.2 | exact hk_.1.1.1.1 | exact hk_.1.1.1.2 | exact hk_.1.1.2.1 | exact hk_.1.1.2.2 | exact hk_.1.2.1.1 | exact hk_.1.2.1.2 | exact hk_.1.2.2.1 | exact hk_.1.2.2.2 | exact hk_.2.1.1.1 | exact hk_.2.1.1.2 | exact hk_.2.1.2.1 | exact hk_.2.1.2.2 | exact hk_.2.2.1.1 | exact hk_.2.2.1.2 | exact hk_.2.2.2.1 | exact hk_.2.2.2.2))); have n2_ := Aside0.mk (Kd.R_reok rfl hy0 (fun k_ e_ => HO_289000.out.1 k_ e_)); have n3_ := Aside0.mk (blk_kept (qk_ BK260) hkp (fun hs_ => (fun e_ => (Kd.R_ne HO_289000.out BK260.out (by decide)) e_) hs_)); have n4_ := Aside0.mk (blk_kept (qk_ BK261) hkp (fun hs_ => (fun e_ => (Kd.R_ne HO_289000.out BK261.out (by decide)) e_) hs_)); have n5_ := Aside0.mk (blk_kept (qk_ BK275) hkp (fun hs_ => (fun e_ => (Kd.R_ne HO_289000.out BK275.out (by decide)) e_) hs_)); have n6_ := Aside0.mk (blk_kept (qk_ BK279) hkp (fun hs_ => (fun e_ => (Kd.R_ne HO_289000.out BK279.out (by decide)) e_) hs_)); have n7_ := Aside0.mk (blk_kept (qk_ BK288) hkp (fun hs_ => (fun e_ => (Kd.R_ne HO_289000.out BK288.out (by decide)) e_) hs_)); have n8_ := Aside0.mk (hb); clear HO_276000; clear HO_280000; clear HO_289000; clear BK260; clear BK261; clear BK275; clear BK279; clear BK288; clear HB; have HO_276000 := n0_; have HO_280000 := n1_; have HO_289000 := n2_; have BK260 := n3_; have BK261 := n4_; have BK275 := n5_; have BK279 := n6_; have BK288 := n7_; have HB := n8_; clear n0_ n1_ n2_ n3_ n4_ n5_ n6_ n7_ n8_; (try clear hb); (try clear hkp); (try clear hy0); obtain ⟨hcz143_0, hfz143_0⟩ := bc1_ BK288) | ((with_reducible refine gate_callee (f := 32) rfl ?_); refine goesL_ (some 78) rfl rfl Try.func32 (by kernel_rfl) rfl #[.agg #[.slice Ao57 t298.length co57], .int .i64 1] rfl (by (try simp only [List.map_toArray, List.map_cons, List.map_nil]); first | done | (rw [show t298.length = t284.length from (Kd.R_reads' HO_289000.out).1.symm] <;> rfl) | rfl | (simp only [List.length_drop, List.length_take]; rfl)) ?_; (with_reducible refine (laws_heldDisk.calls kj85 _ _ t298 1 t299 _ ?side1 ?side2 A122.out).mono ?_); (case side1 => exact qD_ (Kd.R_reads' HO_289000.out).2.2); (case side2 => rw [show t298.length = t284.length from (Kd.R_reads' HO_289000.out).1.symm]; exact (Kd.R_reads' HO_289000.out).2.1); rintro e w144 ⟨rfl, hb⟩; refine ⟨_, rfl, ?_⟩; replace HO_276000 := Aside0.mk (Kd.R_below (qR_ HO_276000) hb); replace HO_280000 := Aside0.mk (Kd.R_below (qR_ HO_280000) hb); replace HO_289000 := Aside0.mk (Kd.R_below (qR_ HO_289000) hb); replace BK260 := Aside0.mk (blk_below (qk_ BK260) hb); replace BK261 := Aside0.mk (blk_below (qk_ BK261) hb); replace BK275 := Aside0.mk (blk_below (qk_ BK275) hb); replace BK279 := Aside0.mk (blk_below (qk_ BK279) hb); replace BK288 := Aside0.mk (blk_below (qk_ BK288) hb); replace HB := Aside0.mk (below_step qB_ hb); (try clear hb); (try clear hb2); (try clear hk); (try clear hi)))
            have n0_ := Aside0.mk (Kd.R_drew HO_276000.out)
            have n1_ := Aside0.mk (Kd.R_drew HO_280000.out)
            have n2_ := Aside0.mk (Kd.R_drew HO_289000.out)
            have n3_ := Aside0.mk (blk_drew BK260.out)
            have n4_ := Aside0.mk (blk_drew BK261.out)
            have n5_ := Aside0.mk (blk_drew BK275.out)
            have n6_ := Aside0.mk (blk_drew BK279.out)
            have n7_ := Aside0.mk (blk_drew BK288.out)
            have n8_ := Aside0.mk (below_drew1 HB.out)
            clear HO_276000; clear HO_280000; clear HO_289000; clear BK260; clear BK261; clear BK275; clear BK279; clear BK288; clear HB; have HO_276000 := n0_; have HO_280000 := n1_; have HO_289000 := n2_; have BK260 := n3_; have BK261 := n4_; have BK275 := n5_; have BK279 := n6_; have BK288 := n7_; have HB := n8_; clear n0_ n1_ n2_ n3_ n4_ n5_ n6_ n7_ n8_
            refine start_ (n := 11) (S := fun w' => w'.cell? ⟨gb260, 0, none⟩ = some (.slice A0_0 l0_0.length c0_0) ∧ w'.cell? ⟨gb261, 0, none⟩ = some (.int .i64 a1_0) ∧ w'.cell? ⟨gb261, 1, none⟩ = some (.string a1_1) ∧ w'.cell? ⟨gb261, 2, none⟩ = some (.string a1_2) ∧ w'.cell? ⟨gb261, 3, none⟩ = some (.string a1_3)) (ds := []) (bm 11 0) (by kernel_rfl) rfl (by kernel_rfl) ⟨(blk_cell BK260.out 0).trans rfl, (blk_cell BK261.out 0).trans rfl, (blk_cell BK261.out 1).trans rfl, (blk_cell BK261.out 2).trans rfl, (blk_cell BK261.out 3).trans rfl⟩ (fun hHeld => ?_); refine with_tabW laws_FnExactDoAct.tab27 laws_FnExactDoAct.bits27 (fun HT_ HW_ => ?_)
            generalize w144.drew = w145 at HO_276000 HO_280000 HO_289000 BK260 BK261 BK275 BK279 BK288 HB hHeld ⊢
            refine tz5_ 0 85 (bm 11 1) ?_; refine tz5_ 2 87 (bm 11 5) ?_
            refine join_ (σ := Value × Value × Nat) 2 #[true, true, true, true, true, true, true, true, true, false, false] (fun s_ => [(86, .agg #[s_.1]), (88, .agg #[.int .i64 t303, .string t304, .string t305, .string t306]), (89, .tuple #[.agg #[s_.2.1], .bool t310]), (14, .pointer (some ⟨s_.2.2, 0, none⟩)), (84, .tuple #[.agg #[s_.2.1], .bool t310]), (90, .agg #[s_.2.1]), (91, .bool t310)]) (fun s_ w' => (w'.cell? ⟨gb260, 0, none⟩ = some (.slice A0_0 l0_0.length c0_0) ∧ w'.cell? ⟨gb261, 0, none⟩ = some (.int .i64 a1_0) ∧ w'.cell? ⟨gb261, 1, none⟩ = some (.string a1_1) ∧ w'.cell? ⟨gb261, 2, none⟩ = some (.string a1_2) ∧ w'.cell? ⟨gb261, 3, none⟩ = some (.string a1_3)) ∧ (Kd.R k99 99 w' w.heap.size (fun k_ => some k_ ≠ (s_.2.1 : Value).ownBlock ∧ some k_ ≠ (.slice Ao40 t271.length co40 : Value).ownBlock ∧ some k_ ≠ (.slice Ao46 t295.length co46 : Value).ownBlock ∧ some k_ ≠ (.slice Ao57 t284.length co57 : Value).ownBlock) s_.1 t300) ∧ (Kd.R k99 99 w' w.heap.size (fun k_ => some k_ ≠ (s_.1 : Value).ownBlock ∧ some k_ ≠ (.slice Ao40 t271.length co40 : Value).ownBlock ∧ some k_ ≠ (.slice Ao46 t295.length co46 : Value).ownBlock ∧ some k_ ≠ (.slice Ao57 t284.length co57 : Value).ownBlock) s_.2.1 t307) ∧ (Kd.R k99 99 w' w.heap.size (fun k_ => some k_ ≠ (s_.1 : Value).ownBlock ∧ some k_ ≠ (s_.2.1 : Value).ownBlock ∧ some k_ ≠ (.slice Ao46 t295.length co46 : Value).ownBlock ∧ some k_ ≠ (.slice Ao57 t284.length co57 : Value).ownBlock) (.slice Ao40 t271.length co40) t271) ∧ (Kd.R k99 99 w' w.heap.size (fun k_ => some k_ ≠ (s_.1 : Value).ownBlock ∧ some k_ ≠ (s_.2.1 : Value).ownBlock ∧ some k_ ≠ (.slice Ao40 t271.length co40 : Value).ownBlock ∧ some k_ ≠ (.slice Ao57 t284.length co57 : Value).ownBlock) (.slice Ao46 t295.length co46) t295) ∧ (Kd.R k99 99 w' w.heap.size (fun k_ => some k_ ≠ (s_.1 : Value).ownBlock ∧ some k_ ≠ (s_.2.1 : Value).ownBlock ∧ some k_ ≠ (.slice Ao40 t271.length co40 : Value).ownBlock ∧ some k_ ≠ (.slice Ao46 t295.length co46 : Value).ownBlock) (.slice Ao57 t284.length co57) t298) ∧ (w'.heap[gb260]? = some (.cells #[.slice A0_0 l0_0.length c0_0] 39 (0, 0))) ∧ (w'.heap[gb261]? = some (.cells #[.int .i64 a1_0, .string a1_1, .string a1_2, .string a1_3] 57 (0, 0))) ∧ (w'.heap[gb275]? = some (.cells #[.slice Ao40 t271.length co40] 44 (0, 0))) ∧ (w'.heap[gb279]? = some (.cells #[.slice Ao46 t295.length co46] 44 (0, 0))) ∧ (w'.heap[gb288]? = some (.cells #[.slice Ao57 t284.length co57] 44 (0, 0))) ∧ (w'.heap[s_.2.2]? = some (.cells #[.slice none 0 0] 44 (0, 0))) ∧ (w.heap.size ≤ s_.2.2) ∧ (w.heap.size ≤ s_.2.2) ∧ (gb260 ≠ s_.2.2) ∧ (s_.2.2 ≠ gb260) ∧ (gb261 ≠ s_.2.2) ∧ (s_.2.2 ≠ gb261) ∧ (gb275 ≠ s_.2.2) ∧ (s_.2.2 ≠ gb275) ∧ (gb279 ≠ s_.2.2) ∧ (s_.2.2 ≠ gb279) ∧ (gb288 ≠ s_.2.2) ∧ (s_.2.2 ≠ gb288) ∧ (Below w.heap.size w w')) ?_ ?_
            rotate_left
            ·intro hCont
             refine two_ (i := 1) (j := 8) (Ni := some 86) (Nj := some 14) (bm 11 7) #[true, false, true, false, false, false, false, false, true, false, false] rfl rfl rfl rfl (two_of HT_.out (by kernel_rfl)) (by decide) (by decide) (fun K hK => ?_) (fun K hK => ?_)
             ·skip
              refine goes_ Try.func25 (by kernel_rfl) rfl #[.agg #[.slice A0_0 l0_0.length c0_0]] (by rfl) rfl rfl (by (try simp only [List.map_toArray, List.map_cons, List.map_nil]); first | done | rfl | (simp only [List.length_drop, List.length_take]; rfl)) ?_
              with_reducible refine (laws_toDisk.calls kj85 _ _ l0_0 t300 _ ?side1 ?side2 A133.out).mono ?_
              (case side1 => exact qC_ HR0_0 HB)
              (case side2 => exact HC0_0.out)
              rintro e w146 ⟨v301, rfl, ho0, hb⟩
              refine ⟨_, rfl, ?_⟩
              have n0_ := Aside0.mk (Kd.R_elder' (qR_ HO_276000) (Kd.R_base ho0) hb)
              have n1_ := Aside0.mk (Kd.R_elder' (qR_ HO_280000) (Kd.R_base ho0) hb)
              have n2_ := Aside0.mk (Kd.R_elder' (qR_ HO_289000) (Kd.R_base ho0) hb)
              have n3_ := Aside0.mk (Kd.R_lower (Kd.R_new' (Kd.R_new' (Kd.R_new' ho0 (Kd.R_lt (qR_ HO_276000))) (Kd.R_lt (qR_ HO_280000))) (Kd.R_lt (qR_ HO_289000))) (below_size qB_))
              have n4_ := Aside0.mk (blk_below (qk_ BK260) hb)
              have n5_ := Aside0.mk (blk_below (qk_ BK261) hb)
              have n6_ := Aside0.mk (blk_below (qk_ BK275) hb)
              have n7_ := Aside0.mk (blk_below (qk_ BK279) hb)
              have n8_ := Aside0.mk (blk_below (qk_ BK288) hb)
              have n9_ := Aside0.mk (below_step qB_ hb)
              clear HO_276000; clear HO_280000; clear HO_289000; clear BK260; clear BK261; clear BK275; clear BK279; clear BK288; clear HB; have HO_276000 := n0_; have HO_280000 := n1_; have HO_289000 := n2_; have HO302 := n3_; have BK260 := n4_; have BK261 := n5_; have BK275 := n6_; have BK279 := n7_; have BK288 := n8_; have HB := n9_; clear n0_ n1_ n2_ n3_ n4_ n5_ n6_ n7_ n8_ n9_; (try clear hb); (try clear hb2); (try clear hk); (try clear hi); (try clear ho0)
              refine hK.out _ _ ⟨(blk_cell BK260.out 0).trans rfl, (blk_cell BK261.out 0).trans rfl, (blk_cell BK261.out 1).trans rfl, (blk_cell BK261.out 2).trans rfl, (blk_cell BK261.out 3).trans rfl⟩ (fun hHeld => ?_)
              clear hK K
              refine norm_ (a' := ?_) ?_ ?_
              rotate_left
              ·show Act.put _ (some 86) _ = _
               simp only [Act.put, List.setIfInBounds_toArray, List.set_cons_zero, List.set_cons_succ, i64_w, i32_w]
               rfl
              refine two_ (i := 3) (j := 8) (Ni := some 88) (Nj := some 14) (bm 11 15) #[true, true, true, false, false, false, false, false, true, false, false] rfl rfl rfl rfl (two_of HT_.out (by kernel_rfl)) (by decide) (by decide) (fun K hK => ?_) (fun K hK => ?_)
              ·skip
               refine goes_ Try.func39 (by kernel_rfl) rfl #[.agg #[.int .i64 a1_0, .string a1_1, .string a1_2, .string a1_3]] (by rfl) rfl rfl (by (try simp only [List.map_toArray, List.map_cons, List.map_nil]); first | done | rfl | (simp only [List.length_drop, List.length_take]; rfl)) ?_
               with_reducible refine (laws_toAct.calls a1_0 a1_1 a1_2 a1_3 t303 t304 t305 t306 _ A134.out).mono ?_
               rintro e w147 ⟨rfl, hb⟩
               refine ⟨_, rfl, ?_⟩
               have n0_ := Aside0.mk (Kd.R_below (qR_ HO_276000) hb)
               have n1_ := Aside0.mk (Kd.R_below (qR_ HO_280000) hb)
               have n2_ := Aside0.mk (Kd.R_below (qR_ HO_289000) hb)
               have n3_ := Aside0.mk (Kd.R_below (qR_ HO302) hb)
               have n4_ := Aside0.mk (blk_below (qk_ BK260) hb)
               have n5_ := Aside0.mk (blk_below (qk_ BK261) hb)
               have n6_ := Aside0.mk (blk_below (qk_ BK275) hb)
               have n7_ := Aside0.mk (blk_below (qk_ BK279) hb)
               have n8_ := Aside0.mk (blk_below (qk_ BK288) hb)
               have n9_ := Aside0.mk (below_step qB_ hb)
               clear HO_276000; clear HO_280000; clear HO_289000; clear HO302; clear BK260; clear BK261; clear BK275; clear BK279; clear BK288; clear HB; have HO_276000 := n0_; have HO_280000 := n1_; have HO_289000 := n2_; have HO302 := n3_; have BK260 := n4_; have BK261 := n5_; have BK275 := n6_; have BK279 := n7_; have BK288 := n8_; have HB := n9_; clear n0_ n1_ n2_ n3_ n4_ n5_ n6_ n7_ n8_ n9_; (try clear hb); (try clear hb2); (try clear hk); (try clear hi)
               obtain ⟨Ao148, co148, eo148⟩ := Kd.R_slice HO302.out
               (first | subst eo148 | (injection eo148 with f1_ f2_ f3_; have f4_ := f1_.symm; have f5_ := f3_.symm; clear f1_ f2_ f3_; subst f4_; subst f5_))
               refine hK.out _ _ ⟨(blk_cell BK260.out 0).trans rfl, (blk_cell BK261.out 0).trans rfl, (blk_cell BK261.out 1).trans rfl, (blk_cell BK261.out 2).trans rfl, (blk_cell BK261.out 3).trans rfl⟩ (fun hHeld => ?_)
               clear hK K
               refine norm_ (a' := ?_) ?_ ?_
               rotate_left
               ·show Act.put _ (some 88) _ = _
                simp only [Act.put, List.setIfInBounds_toArray, List.set_cons_zero, List.set_cons_succ, i64_w, i32_w]
                rfl
               refine two_ (i := 4) (j := 8) (Ni := some 89) (Nj := some 14) (bm 11 31) #[true, true, true, true, false, false, false, false, true, false, false] rfl rfl rfl rfl (two_of HT_.out (by kernel_rfl)) (by decide) (by decide) (fun K hK => ?_) (fun K hK => ?_)
               ·skip
                refine goes_ Try.func40 (by kernel_rfl) rfl #[.agg #[.slice Ao148 t300.length co148], .agg #[.int .i64 t303, .string t304, .string t305, .string t306]] (by rfl) rfl rfl (by (try simp only [List.map_toArray, List.map_cons, List.map_nil]); first | done | rfl | (simp only [List.length_drop, List.length_take]; rfl)) ?_
                with_reducible refine (impl_DoAct.calls kj85 _ _ t300 t303 t304 t305 t306 t307 t310 _ ?side1 ?side2 A135.out).mono ?_
                (case side1 => exact qD_ (Kd.R_reads' HO302.out).2.2)
                (case side2 => exact (Kd.R_reads' HO302.out).2.1)
                rintro e w149 ⟨v308, rfl, ho0, hb⟩
                refine ⟨_, rfl, ?_⟩
                have n0_ := Aside0.mk (Kd.R_elder' (qR_ HO_276000) (Kd.R_base ho0) hb)
                have n1_ := Aside0.mk (Kd.R_elder' (qR_ HO_280000) (Kd.R_base ho0) hb)
                have n2_ := Aside0.mk (Kd.R_elder' (qR_ HO_289000) (Kd.R_base ho0) hb)
                have n3_ := Aside0.mk (Kd.R_elder' (qR_ HO302) (Kd.R_base ho0) hb)
                have n4_ := Aside0.mk (Kd.R_lower (Kd.R_new' (Kd.R_new' (Kd.R_new' (Kd.R_new' ho0 (Kd.R_lt (qR_ HO_276000))) (Kd.R_lt (qR_ HO_280000))) (Kd.R_lt (qR_ HO_289000))) (Kd.R_lt (qR_ HO302))) (below_size qB_))
                have n5_ := Aside0.mk (blk_below (qk_ BK260) hb)
                have n6_ := Aside0.mk (blk_below (qk_ BK261) hb)
                have n7_ := Aside0.mk (blk_below (qk_ BK275) hb)
                have n8_ := Aside0.mk (blk_below (qk_ BK279) hb)
                have n9_ := Aside0.mk (blk_below (qk_ BK288) hb)
                have n10_ := Aside0.mk (below_step qB_ hb)
                clear HO_276000; clear HO_280000; clear HO_289000; clear HO302; clear BK260; clear BK261; clear BK275; clear BK279; clear BK288; clear HB; have HO_276000 := n0_; have HO_280000 := n1_; have HO_289000 := n2_; have HO302 := n3_; have HO309 := n4_; have BK260 := n5_; have BK261 := n6_; have BK275 := n7_; have BK279 := n8_; have BK288 := n9_; have HB := n10_; clear n0_ n1_ n2_ n3_ n4_ n5_ n6_ n7_ n8_ n9_ n10_; (try clear hb); (try clear hb2); (try clear hk); (try clear hi); (try clear ho0)
                refine hK.out _ _ ⟨(blk_cell BK260.out 0).trans rfl, (blk_cell BK261.out 0).trans rfl, (blk_cell BK261.out 1).trans rfl, (blk_cell BK261.out 2).trans rfl, (blk_cell BK261.out 3).trans rfl⟩ (fun hHeld => ?_)
                clear hK K
                refine norm_ (a' := ?_) ?_ ?_
                rotate_left
                ·show Act.put _ (some 89) _ = _
                 simp only [Act.put, List.setIfInBounds_toArray, List.set_cons_zero, List.set_cons_succ, i64_w, i32_w]
                 rfl
                refine pz_ 5 84 (bm 11 63) ?_; refine pz_ 6 90 (bm 11 127) ?_; refine pz_ 7 91 (bm 11 255) ?_
                refine one_ (i := 8) (N := some 14) (bm 11 511) rfl rfl (one_of HT_.out (by kernel_rfl)) (by decide) (fun K hK => ?_)
                refine box_step ?hg (N := 14) ?hd (cs := #[.slice none 0 0]) (t := 44) ?hr ?_; (case hd => rfl); (case hg => rfl); (case hr => first | (go_simp; done) | (go_simp; rfl))
                intro gb311 hg w150 hbox hb
                have n0_ := Aside0.mk (Kd.R_below (qR_ HO_276000) hb)
                have n1_ := Aside0.mk (Kd.R_below (qR_ HO_280000) hb)
                have n2_ := Aside0.mk (Kd.R_below (qR_ HO_289000) hb)
                have n3_ := Aside0.mk (Kd.R_below (qR_ HO302) hb)
                have n4_ := Aside0.mk (Kd.R_below (qR_ HO309) hb)
                have n5_ := Aside0.mk (blk_below (qk_ BK260) hb)
                have n6_ := Aside0.mk (blk_below (qk_ BK261) hb)
                have n7_ := Aside0.mk (blk_below (qk_ BK275) hb)
                have n8_ := Aside0.mk (blk_below (qk_ BK279) hb)
                have n9_ := Aside0.mk (blk_below (qk_ BK288) hb)
                have n10_ := Aside0.mk (below_step qB_ hb)
                have n11_ := Aside0.mk (hbox)
                have n12_ := Aside0.mk ((qs_ : w.heap.size ≤ gb311))
                have n13_ := Aside0.mk ((qs_ : w.heap.size ≤ gb311))
                have n14_ := Aside0.mk ((by rw [hg]; exact Nat.ne_of_lt (blk_lt (qk_ BK260)) : gb260 ≠ gb311))
                have n15_ := Aside0.mk ((by rw [hg]; exact Nat.ne_of_gt (blk_lt (qk_ BK260)) : gb311 ≠ gb260))
                have n16_ := Aside0.mk ((by rw [hg]; exact Nat.ne_of_lt (blk_lt (qk_ BK261)) : gb261 ≠ gb311))
                have n17_ := Aside0.mk ((by rw [hg]; exact Nat.ne_of_gt (blk_lt (qk_ BK261)) : gb311 ≠ gb261))
                have n18_ := Aside0.mk ((by rw [hg]; exact Nat.ne_of_lt (blk_lt (qk_ BK275)) : gb275 ≠ gb311))
                have n19_ := Aside0.mk ((by rw [hg]; exact Nat.ne_of_gt (blk_lt (qk_ BK275)) : gb311 ≠ gb275))
                have n20_ := Aside0.mk ((by rw [hg]; exact Nat.ne_of_lt (blk_lt (qk_ BK279)) : gb279 ≠ gb311))
                have n21_ := Aside0.mk ((by rw [hg]; exact Nat.ne_of_gt (blk_lt (qk_ BK279)) : gb311 ≠ gb279))
                have n22_ := Aside0.mk ((by rw [hg]; exact Nat.ne_of_lt (blk_lt (qk_ BK288)) : gb288 ≠ gb311))
                have n23_ := Aside0.mk ((by rw [hg]; exact Nat.ne_of_gt (blk_lt (qk_ BK288)) : gb311 ≠ gb288))
                clear HO_276000; clear HO_280000; clear HO_289000; clear HO302; clear HO309; clear BK260; clear BK261; clear BK275; clear BK279; clear BK288; clear HB; have HO_276000 := n0_; have HO_280000 := n1_; have HO_289000 := n2_; have HO302 := n3_; have HO309 := n4_; have BK260 := n5_; have BK261 := n6_; have BK275 := n7_; have BK279 := n8_; have BK288 := n9_; have HB := n10_; have BK311 := n11_; have GW311 := n12_; have GE311 := n13_; have NB260_311 := n14_; have NB311_260 := n15_; have NB261_311 := n16_; have NB311_261 := n17_; have NB275_311 := n18_; have NB311_275 := n19_; have NB279_311 := n20_; have NB311_279 := n21_; have NB288_311 := n22_; have NB311_288 := n23_; clear n0_ n1_ n2_ n3_ n4_ n5_ n6_ n7_ n8_ n9_ n10_ n11_ n12_ n13_ n14_ n15_ n16_ n17_ n18_ n19_ n20_ n21_ n22_ n23_; clear hb hbox hg
                refine hK.out _ _ ⟨(blk_cell BK260.out 0).trans rfl, (blk_cell BK261.out 0).trans rfl, (blk_cell BK261.out 1).trans rfl, (blk_cell BK261.out 2).trans rfl, (blk_cell BK261.out 3).trans rfl⟩ (fun hHeld => ?_)
                clear hK K
                refine norm_ (a' := ?_) ?_ ?_
                rotate_left
                ·show Act.put _ (some 14) _ = _
                 simp only [Act.put, List.setIfInBounds_toArray, List.set_cons_zero, List.set_cons_succ, i64_w, i32_w]
                 rfl
                exact norm_ (by simp only [putAll, Act.put, List.setIfInBounds_toArray, List.set_cons_zero, List.set_cons_succ]) (hCont (.slice Ao148 t300.length co148, v308, gb311) _ ⟨hHeld, (by (with_reducible repeat (first | apply Kd.R_alloc | apply Kd.R_drewN | apply Kd.R_drew)); exact Kd.R_mono HO302.out (fun _ hk => ⟨hk.2, ⟨hk.1.1.1.2, ⟨hk.1.1.2, hk.1.2⟩⟩⟩)), (by (with_reducible repeat (first | apply Kd.R_alloc | apply Kd.R_drewN | apply Kd.R_drew)); exact Kd.R_mono HO309.out (fun _ hk => ⟨hk.2, ⟨hk.1.1.1.2, ⟨hk.1.1.2, hk.1.2⟩⟩⟩)), (by (with_reducible repeat (first | apply Kd.R_alloc | apply Kd.R_drewN | apply Kd.R_drew)); exact Kd.R_mono HO_276000.out (fun _ hk => ⟨hk.1.2, ⟨hk.2, ⟨hk.1.1.1, hk.1.1.2⟩⟩⟩)), (by (with_reducible repeat (first | apply Kd.R_alloc | apply Kd.R_drewN | apply Kd.R_drew)); exact Kd.R_mono HO_280000.out (fun _ hk => ⟨hk.1.2, ⟨hk.2, ⟨hk.1.1.1, hk.1.1.2⟩⟩⟩)), (by (with_reducible repeat (first | apply Kd.R_alloc | apply Kd.R_drewN | apply Kd.R_drew)); exact Kd.R_mono HO_289000.out (fun _ hk => ⟨hk.1.2, ⟨hk.2, ⟨hk.1.1.1, hk.1.1.2⟩⟩⟩)), (qk_ BK260), (qk_ BK261), (qk_ BK275), (qk_ BK279), (qk_ BK288), (qk_ BK311), GW311.out, GE311.out, NB260_311.out, NB311_260.out, NB261_311.out, NB311_261.out, NB275_311.out, NB311_275.out, NB279_311.out, NB311_279.out, NB288_311.out, NB311_288.out, qB_⟩)
               ·skip
                refine box_step ?hg (N := 14) ?hd (cs := #[.slice none 0 0]) (t := 44) ?hr ?_; (case hd => rfl); (case hg => rfl); (case hr => first | (go_simp; done) | (go_simp; rfl))
                intro gb311 hg w148 hbox hb
                have n0_ := Aside0.mk (Kd.R_below (qR_ HO_276000) hb)
                have n1_ := Aside0.mk (Kd.R_below (qR_ HO_280000) hb)
                have n2_ := Aside0.mk (Kd.R_below (qR_ HO_289000) hb)
                have n3_ := Aside0.mk (Kd.R_below (qR_ HO302) hb)
                have n4_ := Aside0.mk (blk_below (qk_ BK260) hb)
                have n5_ := Aside0.mk (blk_below (qk_ BK261) hb)
                have n6_ := Aside0.mk (blk_below (qk_ BK275) hb)
                have n7_ := Aside0.mk (blk_below (qk_ BK279) hb)
                have n8_ := Aside0.mk (blk_below (qk_ BK288) hb)
                have n9_ := Aside0.mk (below_step qB_ hb)
                have n10_ := Aside0.mk (hbox)
                have n11_ := Aside0.mk ((qs_ : w.heap.size ≤ gb311))
                have n12_ := Aside0.mk ((qs_ : w.heap.size ≤ gb311))
                have n13_ := Aside0.mk ((by rw [hg]; exact Nat.ne_of_lt (blk_lt (qk_ BK260)) : gb260 ≠ gb311))
                have n14_ := Aside0.mk ((by rw [hg]; exact Nat.ne_of_gt (blk_lt (qk_ BK260)) : gb311 ≠ gb260))
                have n15_ := Aside0.mk ((by rw [hg]; exact Nat.ne_of_lt (blk_lt (qk_ BK261)) : gb261 ≠ gb311))
                have n16_ := Aside0.mk ((by rw [hg]; exact Nat.ne_of_gt (blk_lt (qk_ BK261)) : gb311 ≠ gb261))
                have n17_ := Aside0.mk ((by rw [hg]; exact Nat.ne_of_lt (blk_lt (qk_ BK275)) : gb275 ≠ gb311))
                have n18_ := Aside0.mk ((by rw [hg]; exact Nat.ne_of_gt (blk_lt (qk_ BK275)) : gb311 ≠ gb275))
                have n19_ := Aside0.mk ((by rw [hg]; exact Nat.ne_of_lt (blk_lt (qk_ BK279)) : gb279 ≠ gb311))
                have n20_ := Aside0.mk ((by rw [hg]; exact Nat.ne_of_gt (blk_lt (qk_ BK279)) : gb311 ≠ gb279))
                have n21_ := Aside0.mk ((by rw [hg]; exact Nat.ne_of_lt (blk_lt (qk_ BK288)) : gb288 ≠ gb311))
                have n22_ := Aside0.mk ((by rw [hg]; exact Nat.ne_of_gt (blk_lt (qk_ BK288)) : gb311 ≠ gb288))
                clear HO_276000; clear HO_280000; clear HO_289000; clear HO302; clear BK260; clear BK261; clear BK275; clear BK279; clear BK288; clear HB; have HO_276000 := n0_; have HO_280000 := n1_; have HO_289000 := n2_; have HO302 := n3_; have BK260 := n4_; have BK261 := n5_; have BK275 := n6_; have BK279 := n7_; have BK288 := n8_; have HB := n9_; have BK311 := n10_; have GW311 := n11_; have GE311 := n12_; have NB260_311 := n13_; have NB311_260 := n14_; have NB261_311 := n15_; have NB311_261 := n16_; have NB275_311 := n17_; have NB311_275 := n18_; have NB279_311 := n19_; have NB311_279 := n20_; have NB288_311 := n21_; have NB311_288 := n22_; clear n0_ n1_ n2_ n3_ n4_ n5_ n6_ n7_ n8_ n9_ n10_ n11_ n12_ n13_ n14_ n15_ n16_ n17_ n18_ n19_ n20_ n21_ n22_; clear hb hbox hg
                obtain ⟨Ao149, co149, eo149⟩ := Kd.R_slice HO302.out
                (first | subst eo149 | (injection eo149 with f1_ f2_ f3_; have f4_ := f1_.symm; have f5_ := f3_.symm; clear f1_ f2_ f3_; subst f4_; subst f5_))
                refine hK.out _ _ ⟨(blk_cell BK260.out 0).trans rfl, (blk_cell BK261.out 0).trans rfl, (blk_cell BK261.out 1).trans rfl, (blk_cell BK261.out 2).trans rfl, (blk_cell BK261.out 3).trans rfl⟩ (fun hHeld => ?_)
                clear hK K
                refine norm_ (a' := ?_) ?_ ?_
                rotate_left
                ·show Act.put _ (some 14) _ = _
                 simp only [Act.put, List.setIfInBounds_toArray, List.set_cons_zero, List.set_cons_succ, i64_w, i32_w]
                 rfl
                refine one_ (i := 4) (N := some 89) (bm 11 287) rfl rfl (one_of HT_.out (by kernel_rfl)) (by decide) (fun K hK => ?_)
                refine goes_ Try.func40 (by kernel_rfl) rfl #[.agg #[.slice Ao149 t300.length co149], .agg #[.int .i64 t303, .string t304, .string t305, .string t306]] (by rfl) rfl rfl (by (try simp only [List.map_toArray, List.map_cons, List.map_nil]); first | done | rfl | (simp only [List.length_drop, List.length_take]; rfl)) ?_
                with_reducible refine (impl_DoAct.calls kj85 _ _ t300 t303 t304 t305 t306 t307 t310 _ ?side1 ?side2 A135.out).mono ?_
                (case side1 => exact qD_ (Kd.R_reads' HO302.out).2.2)
                (case side2 => exact (Kd.R_reads' HO302.out).2.1)
                rintro e w150 ⟨v308, rfl, ho0, hb⟩
                refine ⟨_, rfl, ?_⟩
                have n0_ := Aside0.mk (Kd.R_elder' (qR_ HO_276000) (Kd.R_base ho0) hb)
                have n1_ := Aside0.mk (Kd.R_elder' (qR_ HO_280000) (Kd.R_base ho0) hb)
                have n2_ := Aside0.mk (Kd.R_elder' (qR_ HO_289000) (Kd.R_base ho0) hb)
                have n3_ := Aside0.mk (Kd.R_elder' (qR_ HO302) (Kd.R_base ho0) hb)
                have n4_ := Aside0.mk (Kd.R_lower (Kd.R_new' (Kd.R_new' (Kd.R_new' (Kd.R_new' ho0 (Kd.R_lt (qR_ HO_276000))) (Kd.R_lt (qR_ HO_280000))) (Kd.R_lt (qR_ HO_289000))) (Kd.R_lt (qR_ HO302))) (below_size qB_))
                have n5_ := Aside0.mk (blk_below (qk_ BK260) hb)
                have n6_ := Aside0.mk (blk_below (qk_ BK261) hb)
                have n7_ := Aside0.mk (blk_below (qk_ BK275) hb)
                have n8_ := Aside0.mk (blk_below (qk_ BK279) hb)
                have n9_ := Aside0.mk (blk_below (qk_ BK288) hb)
                have n10_ := Aside0.mk (blk_below (qk_ BK311) hb)
                have n11_ := Aside0.mk (below_step qB_ hb)
                clear HO_276000; clear HO_280000; clear HO_289000; clear HO302; clear BK260; clear BK261; clear BK275; clear BK279; clear BK288; clear BK311; clear HB; have HO_276000 := n0_; have HO_280000 := n1_; have HO_289000 := n2_; have HO302 := n3_; have HO309 := n4_; have BK260 := n5_; have BK261 := n6_; have BK275 := n7_; have BK279 := n8_; have BK288 := n9_; have BK311 := n10_; have HB := n11_; clear n0_ n1_ n2_ n3_ n4_ n5_ n6_ n7_ n8_ n9_ n10_ n11_; (try clear hb); (try clear hb2); (try clear hk); (try clear hi); (try clear ho0)
                refine hK.out _ _ ⟨(blk_cell BK260.out 0).trans rfl, (blk_cell BK261.out 0).trans rfl, (blk_cell BK261.out 1).trans rfl, (blk_cell BK261.out 2).trans rfl, (blk_cell BK261.out 3).trans rfl⟩ (fun hHeld => ?_)
                clear hK K
                refine norm_ (a' := ?_) ?_ ?_
                rotate_left
                ·show Act.put _ (some 89) _ = _
                 simp only [Act.put, List.setIfInBounds_toArray, List.set_cons_zero, List.set_cons_succ, i64_w, i32_w]
                 rfl
                refine pz_ 5 84 (bm 11 319) ?_; refine pz_ 6 90 (bm 11 383) ?_; refine pz_ 7 91 (bm 11 511) ?_
                exact norm_ (by simp only [putAll, Act.put, List.setIfInBounds_toArray, List.set_cons_zero, List.set_cons_succ]) (hCont (.slice Ao149 t300.length co149, v308, gb311) _ ⟨hHeld, (by (with_reducible repeat (first | apply Kd.R_alloc | apply Kd.R_drewN | apply Kd.R_drew)); exact Kd.R_mono HO302.out (fun _ hk => ⟨hk.2, ⟨hk.1.1.1.2, ⟨hk.1.1.2, hk.1.2⟩⟩⟩)), (by (with_reducible repeat (first | apply Kd.R_alloc | apply Kd.R_drewN | apply Kd.R_drew)); exact Kd.R_mono HO309.out (fun _ hk => ⟨hk.2, ⟨hk.1.1.1.2, ⟨hk.1.1.2, hk.1.2⟩⟩⟩)), (by (with_reducible repeat (first | apply Kd.R_alloc | apply Kd.R_drewN | apply Kd.R_drew)); exact Kd.R_mono HO_276000.out (fun _ hk => ⟨hk.1.2, ⟨hk.2, ⟨hk.1.1.1, hk.1.1.2⟩⟩⟩)), (by (with_reducible repeat (first | apply Kd.R_alloc | apply Kd.R_drewN | apply Kd.R_drew)); exact Kd.R_mono HO_280000.out (fun _ hk => ⟨hk.1.2, ⟨hk.2, ⟨hk.1.1.1, hk.1.1.2⟩⟩⟩)), (by (with_reducible repeat (first | apply Kd.R_alloc | apply Kd.R_drewN | apply Kd.R_drew)); exact Kd.R_mono HO_289000.out (fun _ hk => ⟨hk.1.2, ⟨hk.2, ⟨hk.1.1.1, hk.1.1.2⟩⟩⟩)), (qk_ BK260), (qk_ BK261), (qk_ BK275), (qk_ BK279), (qk_ BK288), (qk_ BK311), GW311.out, GE311.out, NB260_311.out, NB311_260.out, NB261_311.out, NB311_261.out, NB275_311.out, NB311_275.out, NB279_311.out, NB311_279.out, NB288_311.out, NB311_288.out, qB_⟩)
              ·skip
               refine box_step ?hg (N := 14) ?hd (cs := #[.slice none 0 0]) (t := 44) ?hr ?_; (case hd => rfl); (case hg => rfl); (case hr => first | (go_simp; done) | (go_simp; rfl))
               intro gb311 hg w147 hbox hb
               have n0_ := Aside0.mk (Kd.R_below (qR_ HO_276000) hb)
               have n1_ := Aside0.mk (Kd.R_below (qR_ HO_280000) hb)
               have n2_ := Aside0.mk (Kd.R_below (qR_ HO_289000) hb)
               have n3_ := Aside0.mk (Kd.R_below (qR_ HO302) hb)
               have n4_ := Aside0.mk (blk_below (qk_ BK260) hb)
               have n5_ := Aside0.mk (blk_below (qk_ BK261) hb)
               have n6_ := Aside0.mk (blk_below (qk_ BK275) hb)
               have n7_ := Aside0.mk (blk_below (qk_ BK279) hb)
               have n8_ := Aside0.mk (blk_below (qk_ BK288) hb)
               have n9_ := Aside0.mk (below_step qB_ hb)
               have n10_ := Aside0.mk (hbox)
               have n11_ := Aside0.mk ((qs_ : w.heap.size ≤ gb311))
               have n12_ := Aside0.mk ((qs_ : w.heap.size ≤ gb311))
               have n13_ := Aside0.mk ((by rw [hg]; exact Nat.ne_of_lt (blk_lt (qk_ BK260)) : gb260 ≠ gb311))
               have n14_ := Aside0.mk ((by rw [hg]; exact Nat.ne_of_gt (blk_lt (qk_ BK260)) : gb311 ≠ gb260))
               have n15_ := Aside0.mk ((by rw [hg]; exact Nat.ne_of_lt (blk_lt (qk_ BK261)) : gb261 ≠ gb311))
               have n16_ := Aside0.mk ((by rw [hg]; exact Nat.ne_of_gt (blk_lt (qk_ BK261)) : gb311 ≠ gb261))
               have n17_ := Aside0.mk ((by rw [hg]; exact Nat.ne_of_lt (blk_lt (qk_ BK275)) : gb275 ≠ gb311))
               have n18_ := Aside0.mk ((by rw [hg]; exact Nat.ne_of_gt (blk_lt (qk_ BK275)) : gb311 ≠ gb275))
               have n19_ := Aside0.mk ((by rw [hg]; exact Nat.ne_of_lt (blk_lt (qk_ BK279)) : gb279 ≠ gb311))
               have n20_ := Aside0.mk ((by rw [hg]; exact Nat.ne_of_gt (blk_lt (qk_ BK279)) : gb311 ≠ gb279))
               have n21_ := Aside0.mk ((by rw [hg]; exact Nat.ne_of_lt (blk_lt (qk_ BK288)) : gb288 ≠ gb311))
               have n22_ := Aside0.mk ((by rw [hg]; exact Nat.ne_of_gt (blk_lt (qk_ BK288)) : gb311 ≠ gb288))
               clear HO_276000; clear HO_280000; clear HO_289000; clear HO302; clear BK260; clear BK261; clear BK275; clear BK279; clear BK288; clear HB; have HO_276000 := n0_; have HO_280000 := n1_; have HO_289000 := n2_; have HO302 := n3_; have BK260 := n4_; have BK261 := n5_; have BK275 := n6_; have BK279 := n7_; have BK288 := n8_; have HB := n9_; have BK311 := n10_; have GW311 := n11_; have GE311 := n12_; have NB260_311 := n13_; have NB311_260 := n14_; have NB261_311 := n15_; have NB311_261 := n16_; have NB275_311 := n17_; have NB311_275 := n18_; have NB279_311 := n19_; have NB311_279 := n20_; have NB288_311 := n21_; have NB311_288 := n22_; clear n0_ n1_ n2_ n3_ n4_ n5_ n6_ n7_ n8_ n9_ n10_ n11_ n12_ n13_ n14_ n15_ n16_ n17_ n18_ n19_ n20_ n21_ n22_; clear hb hbox hg
               refine hK.out _ _ ⟨(blk_cell BK260.out 0).trans rfl, (blk_cell BK261.out 0).trans rfl, (blk_cell BK261.out 1).trans rfl, (blk_cell BK261.out 2).trans rfl, (blk_cell BK261.out 3).trans rfl⟩ (fun hHeld => ?_)
               clear hK K
               refine norm_ (a' := ?_) ?_ ?_
               rotate_left
               ·show Act.put _ (some 14) _ = _
                simp only [Act.put, List.setIfInBounds_toArray, List.set_cons_zero, List.set_cons_succ, i64_w, i32_w]
                rfl
               refine one_ (i := 3) (N := some 88) (bm 11 271) rfl rfl (one_of HT_.out (by kernel_rfl)) (by decide) (fun K hK => ?_)
               refine goes_ Try.func39 (by kernel_rfl) rfl #[.agg #[.int .i64 a1_0, .string a1_1, .string a1_2, .string a1_3]] (by rfl) rfl rfl (by (try simp only [List.map_toArray, List.map_cons, List.map_nil]); first | done | rfl | (simp only [List.length_drop, List.length_take]; rfl)) ?_
               with_reducible refine (laws_toAct.calls a1_0 a1_1 a1_2 a1_3 t303 t304 t305 t306 _ A134.out).mono ?_
               rintro e w148 ⟨rfl, hb⟩
               refine ⟨_, rfl, ?_⟩
               have n0_ := Aside0.mk (Kd.R_below (qR_ HO_276000) hb)
               have n1_ := Aside0.mk (Kd.R_below (qR_ HO_280000) hb)
               have n2_ := Aside0.mk (Kd.R_below (qR_ HO_289000) hb)
               have n3_ := Aside0.mk (Kd.R_below (qR_ HO302) hb)
               have n4_ := Aside0.mk (blk_below (qk_ BK260) hb)
               have n5_ := Aside0.mk (blk_below (qk_ BK261) hb)
               have n6_ := Aside0.mk (blk_below (qk_ BK275) hb)
               have n7_ := Aside0.mk (blk_below (qk_ BK279) hb)
               have n8_ := Aside0.mk (blk_below (qk_ BK288) hb)
               have n9_ := Aside0.mk (blk_below (qk_ BK311) hb)
               have n10_ := Aside0.mk (below_step qB_ hb)
               clear HO_276000; clear HO_280000; clear HO_289000; clear HO302; clear BK260; clear BK261; clear BK275; clear BK279; clear BK288; clear BK311; clear HB; have HO_276000 := n0_; have HO_280000 := n1_; have HO_289000 := n2_; have HO302 := n3_; have BK260 := n4_; have BK261 := n5_; have BK275 := n6_; have BK279 := n7_; have BK288 := n8_; have BK311 := n9_; have HB := n10_; clear n0_ n1_ n2_ n3_ n4_ n5_ n6_ n7_ n8_ n9_ n10_; (try clear hb); (try clear hb2); (try clear hk); (try clear hi)
               obtain ⟨Ao149, co149, eo149⟩ := Kd.R_slice HO302.out
               (first | subst eo149 | (injection eo149 with f1_ f2_ f3_; have f4_ := f1_.symm; have f5_ := f3_.symm; clear f1_ f2_ f3_; subst f4_; subst f5_))
               refine hK.out _ _ ⟨(blk_cell BK260.out 0).trans rfl, (blk_cell BK261.out 0).trans rfl, (blk_cell BK261.out 1).trans rfl, (blk_cell BK261.out 2).trans rfl, (blk_cell BK261.out 3).trans rfl⟩ (fun hHeld => ?_)
               clear hK K
               refine norm_ (a' := ?_) ?_ ?_
               rotate_left
               ·show Act.put _ (some 88) _ = _
                simp only [Act.put, List.setIfInBounds_toArray, List.set_cons_zero, List.set_cons_succ, i64_w, i32_w]
                rfl
               refine one_ (i := 4) (N := some 89) (bm 11 287) rfl rfl (one_of HT_.out (by kernel_rfl)) (by decide) (fun K hK => ?_)
               refine goes_ Try.func40 (by kernel_rfl) rfl #[.agg #[.slice Ao149 t300.length co149], .agg #[.int .i64 t303, .string t304, .string t305, .string t306]] (by rfl) rfl rfl (by (try simp only [List.map_toArray, List.map_cons, List.map_nil]); first | done | rfl | (simp only [List.length_drop, List.length_take]; rfl)) ?_
               with_reducible refine (impl_DoAct.calls kj85 _ _ t300 t303 t304 t305 t306 t307 t310 _ ?side1 ?side2 A135.out).mono ?_
               (case side1 => exact qD_ (Kd.R_reads' HO302.out).2.2)
               (case side2 => exact (Kd.R_reads' HO302.out).2.1)
               rintro e w150 ⟨v308, rfl, ho0, hb⟩
               refine ⟨_, rfl, ?_⟩
               have n0_ := Aside0.mk (Kd.R_elder' (qR_ HO_276000) (Kd.R_base ho0) hb)
               have n1_ := Aside0.mk (Kd.R_elder' (qR_ HO_280000) (Kd.R_base ho0) hb)
               have n2_ := Aside0.mk (Kd.R_elder' (qR_ HO_289000) (Kd.R_base ho0) hb)
               have n3_ := Aside0.mk (Kd.R_elder' (qR_ HO302) (Kd.R_base ho0) hb)
               have n4_ := Aside0.mk (Kd.R_lower (Kd.R_new' (Kd.R_new' (Kd.R_new' (Kd.R_new' ho0 (Kd.R_lt (qR_ HO_276000))) (Kd.R_lt (qR_ HO_280000))) (Kd.R_lt (qR_ HO_289000))) (Kd.R_lt (qR_ HO302))) (below_size qB_))
               have n5_ := Aside0.mk (blk_below (qk_ BK260) hb)
               have n6_ := Aside0.mk (blk_below (qk_ BK261) hb)
               have n7_ := Aside0.mk (blk_below (qk_ BK275) hb)
               have n8_ := Aside0.mk (blk_below (qk_ BK279) hb)
               have n9_ := Aside0.mk (blk_below (qk_ BK288) hb)
               have n10_ := Aside0.mk (blk_below (qk_ BK311) hb)
               have n11_ := Aside0.mk (below_step qB_ hb)
               clear HO_276000; clear HO_280000; clear HO_289000; clear HO302; clear BK260; clear BK261; clear BK275; clear BK279; clear BK288; clear BK311; clear HB; have HO_276000 := n0_; have HO_280000 := n1_; have HO_289000 := n2_; have HO302 := n3_; have HO309 := n4_; have BK260 := n5_; have BK261 := n6_; have BK275 := n7_; have BK279 := n8_; have BK288 := n9_; have BK311 := n10_; have HB := n11_; clear n0_ n1_ n2_ n3_ n4_ n5_ n6_ n7_ n8_ n9_ n10_ n11_; (try clear hb); (try clear hb2); (try clear hk); (try clear hi); (try clear ho0)
               refine hK.out _ _ ⟨(blk_cell BK260.out 0).trans rfl, (blk_cell BK261.out 0).trans rfl, (blk_cell BK261.out 1).trans rfl, (blk_cell BK261.out 2).trans rfl, (blk_cell BK261.out 3).trans rfl⟩ (fun hHeld => ?_)
               clear hK K
               refine norm_ (a' := ?_) ?_ ?_
               rotate_left
               ·show Act.put _ (some 89) _ = _
                simp only [Act.put, List.setIfInBounds_toArray, List.set_cons_zero, List.set_cons_succ, i64_w, i32_w]
                rfl
               refine pz_ 5 84 (bm 11 319) ?_; refine pz_ 6 90 (bm 11 383) ?_; refine pz_ 7 91 (bm 11 511) ?_
               exact norm_ (by simp only [putAll, Act.put, List.setIfInBounds_toArray, List.set_cons_zero, List.set_cons_succ]) (hCont (.slice Ao149 t300.length co149, v308, gb311) _ ⟨hHeld, (by (with_reducible repeat (first | apply Kd.R_alloc | apply Kd.R_drewN | apply Kd.R_drew)); exact Kd.R_mono HO302.out (fun _ hk => ⟨hk.2, ⟨hk.1.1.1.2, ⟨hk.1.1.2, hk.1.2⟩⟩⟩)), (by (with_reducible repeat (first | apply Kd.R_alloc | apply Kd.R_drewN | apply Kd.R_drew)); exact Kd.R_mono HO309.out (fun _ hk => ⟨hk.2, ⟨hk.1.1.1.2, ⟨hk.1.1.2, hk.1.2⟩⟩⟩)), (by (with_reducible repeat (first | apply Kd.R_alloc | apply Kd.R_drewN | apply Kd.R_drew)); exact Kd.R_mono HO_276000.out (fun _ hk => ⟨hk.1.2, ⟨hk.2, ⟨hk.1.1.1, hk.1.1.2⟩⟩⟩)), (by (with_reducible repeat (first | apply Kd.R_alloc | apply Kd.R_drewN | apply Kd.R_drew)); exact Kd.R_mono HO_280000.out (fun _ hk => ⟨hk.1.2, ⟨hk.2, ⟨hk.1.1.1, hk.1.1.2⟩⟩⟩)), (by (with_reducible repeat (first | apply Kd.R_alloc | apply Kd.R_drewN | apply Kd.R_drew)); exact Kd.R_mono HO_289000.out (fun _ hk => ⟨hk.1.2, ⟨hk.2, ⟨hk.1.1.1, hk.1.1.2⟩⟩⟩)), (qk_ BK260), (qk_ BK261), (qk_ BK275), (qk_ BK279), (qk_ BK288), (qk_ BK311), GW311.out, GE311.out, NB260_311.out, NB311_260.out, NB261_311.out, NB311_261.out, NB275_311.out, NB311_275.out, NB279_311.out, NB311_279.out, NB288_311.out, NB311_288.out, qB_⟩)
             ·skip
              refine box_step ?hg (N := 14) ?hd (cs := #[.slice none 0 0]) (t := 44) ?hr ?_; (case hd => rfl); (case hg => rfl); (case hr => first | (go_simp; done) | (go_simp; rfl))
              intro gb311 hg w146 hbox hb
              have n0_ := Aside0.mk (Kd.R_below (qR_ HO_276000) hb)
              have n1_ := Aside0.mk (Kd.R_below (qR_ HO_280000) hb)
              have n2_ := Aside0.mk (Kd.R_below (qR_ HO_289000) hb)
              have n3_ := Aside0.mk (blk_below (qk_ BK260) hb)
              have n4_ := Aside0.mk (blk_below (qk_ BK261) hb)
              have n5_ := Aside0.mk (blk_below (qk_ BK275) hb)
              have n6_ := Aside0.mk (blk_below (qk_ BK279) hb)
              have n7_ := Aside0.mk (blk_below (qk_ BK288) hb)
              have n8_ := Aside0.mk (below_step qB_ hb)
              have n9_ := Aside0.mk (hbox)
              have n10_ := Aside0.mk ((qs_ : w.heap.size ≤ gb311))
              have n11_ := Aside0.mk ((qs_ : w.heap.size ≤ gb311))
              have n12_ := Aside0.mk ((by rw [hg]; exact Nat.ne_of_lt (blk_lt (qk_ BK260)) : gb260 ≠ gb311))
              have n13_ := Aside0.mk ((by rw [hg]; exact Nat.ne_of_gt (blk_lt (qk_ BK260)) : gb311 ≠ gb260))
              have n14_ := Aside0.mk ((by rw [hg]; exact Nat.ne_of_lt (blk_lt (qk_ BK261)) : gb261 ≠ gb311))
              have n15_ := Aside0.mk ((by rw [hg]; exact Nat.ne_of_gt (blk_lt (qk_ BK261)) : gb311 ≠ gb261))
              have n16_ := Aside0.mk ((by rw [hg]; exact Nat.ne_of_lt (blk_lt (qk_ BK275)) : gb275 ≠ gb311))
              have n17_ := Aside0.mk ((by rw [hg]; exact Nat.ne_of_gt (blk_lt (qk_ BK275)) : gb311 ≠ gb275))
              have n18_ := Aside0.mk ((by rw [hg]; exact Nat.ne_of_lt (blk_lt (qk_ BK279)) : gb279 ≠ gb311))
              have n19_ := Aside0.mk ((by rw [hg]; exact Nat.ne_of_gt (blk_lt (qk_ BK279)) : gb311 ≠ gb279))
              have n20_ := Aside0.mk ((by rw [hg]; exact Nat.ne_of_lt (blk_lt (qk_ BK288)) : gb288 ≠ gb311))
              have n21_ := Aside0.mk ((by rw [hg]; exact Nat.ne_of_gt (blk_lt (qk_ BK288)) : gb311 ≠ gb288))
              clear HO_276000; clear HO_280000; clear HO_289000; clear BK260; clear BK261; clear BK275; clear BK279; clear BK288; clear HB; have HO_276000 := n0_; have HO_280000 := n1_; have HO_289000 := n2_; have BK260 := n3_; have BK261 := n4_; have BK275 := n5_; have BK279 := n6_; have BK288 := n7_; have HB := n8_; have BK311 := n9_; have GW311 := n10_; have GE311 := n11_; have NB260_311 := n12_; have NB311_260 := n13_; have NB261_311 := n14_; have NB311_261 := n15_; have NB275_311 := n16_; have NB311_275 := n17_; have NB279_311 := n18_; have NB311_279 := n19_; have NB288_311 := n20_; have NB311_288 := n21_; clear n0_ n1_ n2_ n3_ n4_ n5_ n6_ n7_ n8_ n9_ n10_ n11_ n12_ n13_ n14_ n15_ n16_ n17_ n18_ n19_ n20_ n21_; clear hb hbox hg
              refine hK.out _ _ ⟨(blk_cell BK260.out 0).trans rfl, (blk_cell BK261.out 0).trans rfl, (blk_cell BK261.out 1).trans rfl, (blk_cell BK261.out 2).trans rfl, (blk_cell BK261.out 3).trans rfl⟩ (fun hHeld => ?_)
              clear hK K
              refine norm_ (a' := ?_) ?_ ?_
              rotate_left
              ·show Act.put _ (some 14) _ = _
               simp only [Act.put, List.setIfInBounds_toArray, List.set_cons_zero, List.set_cons_succ, i64_w, i32_w]
               rfl
              refine one_ (i := 1) (N := some 86) (bm 11 263) rfl rfl (one_of HT_.out (by kernel_rfl)) (by decide) (fun K hK => ?_)
              refine goes_ Try.func25 (by kernel_rfl) rfl #[.agg #[.slice A0_0 l0_0.length c0_0]] (by rfl) rfl rfl (by (try simp only [List.map_toArray, List.map_cons, List.map_nil]); first | done | rfl | (simp only [List.length_drop, List.length_take]; rfl)) ?_
              with_reducible refine (laws_toDisk.calls kj85 _ _ l0_0 t300 _ ?side1 ?side2 A133.out).mono ?_
              (case side1 => exact qC_ HR0_0 HB)
              (case side2 => exact HC0_0.out)
              rintro e w147 ⟨v301, rfl, ho0, hb⟩
              refine ⟨_, rfl, ?_⟩
              have n0_ := Aside0.mk (Kd.R_elder' (qR_ HO_276000) (Kd.R_base ho0) hb)
              have n1_ := Aside0.mk (Kd.R_elder' (qR_ HO_280000) (Kd.R_base ho0) hb)
              have n2_ := Aside0.mk (Kd.R_elder' (qR_ HO_289000) (Kd.R_base ho0) hb)
              have n3_ := Aside0.mk (Kd.R_lower (Kd.R_new' (Kd.R_new' (Kd.R_new' ho0 (Kd.R_lt (qR_ HO_276000))) (Kd.R_lt (qR_ HO_280000))) (Kd.R_lt (qR_ HO_289000))) (below_size qB_))
              have n4_ := Aside0.mk (blk_below (qk_ BK260) hb)
              have n5_ := Aside0.mk (blk_below (qk_ BK261) hb)
              have n6_ := Aside0.mk (blk_below (qk_ BK275) hb)
              have n7_ := Aside0.mk (blk_below (qk_ BK279) hb)
              have n8_ := Aside0.mk (blk_below (qk_ BK288) hb)
              have n9_ := Aside0.mk (blk_below (qk_ BK311) hb)
              have n10_ := Aside0.mk (below_step qB_ hb)
              clear HO_276000; clear HO_280000; clear HO_289000; clear BK260; clear BK261; clear BK275; clear BK279; clear BK288; clear BK311; clear HB; have HO_276000 := n0_; have HO_280000 := n1_; have HO_289000 := n2_; have HO302 := n3_; have BK260 := n4_; have BK261 := n5_; have BK275 := n6_; have BK279 := n7_; have BK288 := n8_; have BK311 := n9_; have HB := n10_; clear n0_ n1_ n2_ n3_ n4_ n5_ n6_ n7_ n8_ n9_ n10_; (try clear hb); (try clear hb2); (try clear hk); (try clear hi); (try clear ho0)
              refine hK.out _ _ ⟨(blk_cell BK260.out 0).trans rfl, (blk_cell BK261.out 0).trans rfl, (blk_cell BK261.out 1).trans rfl, (blk_cell BK261.out 2).trans rfl, (blk_cell BK261.out 3).trans rfl⟩ (fun hHeld => ?_)
              clear hK K
              refine norm_ (a' := ?_) ?_ ?_
              rotate_left
              ·show Act.put _ (some 86) _ = _
               simp only [Act.put, List.setIfInBounds_toArray, List.set_cons_zero, List.set_cons_succ, i64_w, i32_w]
               rfl
              refine one_ (i := 3) (N := some 88) (bm 11 271) rfl rfl (one_of HT_.out (by kernel_rfl)) (by decide) (fun K hK => ?_)
              refine goes_ Try.func39 (by kernel_rfl) rfl #[.agg #[.int .i64 a1_0, .string a1_1, .string a1_2, .string a1_3]] (by rfl) rfl rfl (by (try simp only [List.map_toArray, List.map_cons, List.map_nil]); first | done | rfl | (simp only [List.length_drop, List.length_take]; rfl)) ?_
              with_reducible refine (laws_toAct.calls a1_0 a1_1 a1_2 a1_3 t303 t304 t305 t306 _ A134.out).mono ?_
              rintro e w148 ⟨rfl, hb⟩
              refine ⟨_, rfl, ?_⟩
              have n0_ := Aside0.mk (Kd.R_below (qR_ HO_276000) hb)
              have n1_ := Aside0.mk (Kd.R_below (qR_ HO_280000) hb)
              have n2_ := Aside0.mk (Kd.R_below (qR_ HO_289000) hb)
              have n3_ := Aside0.mk (Kd.R_below (qR_ HO302) hb)
              have n4_ := Aside0.mk (blk_below (qk_ BK260) hb)
              have n5_ := Aside0.mk (blk_below (qk_ BK261) hb)
              have n6_ := Aside0.mk (blk_below (qk_ BK275) hb)
              have n7_ := Aside0.mk (blk_below (qk_ BK279) hb)
              have n8_ := Aside0.mk (blk_below (qk_ BK288) hb)
              have n9_ := Aside0.mk (blk_below (qk_ BK311) hb)
              have n10_ := Aside0.mk (below_step qB_ hb)
              clear HO_276000; clear HO_280000; clear HO_289000; clear HO302; clear BK260; clear BK261; clear BK275; clear BK279; clear BK288; clear BK311; clear HB; have HO_276000 := n0_; have HO_280000 := n1_; have HO_289000 := n2_; have HO302 := n3_; have BK260 := n4_; have BK261 := n5_; have BK275 := n6_; have BK279 := n7_; have BK288 := n8_; have BK311 := n9_; have HB := n10_; clear n0_ n1_ n2_ n3_ n4_ n5_ n6_ n7_ n8_ n9_ n10_; (try clear hb); (try clear hb2); (try clear hk); (try clear hi)
              obtain ⟨Ao149, co149, eo149⟩ := Kd.R_slice HO302.out
              (first | subst eo149 | (injection eo149 with f1_ f2_ f3_; have f4_ := f1_.symm; have f5_ := f3_.symm; clear f1_ f2_ f3_; subst f4_; subst f5_))
              refine hK.out _ _ ⟨(blk_cell BK260.out 0).trans rfl, (blk_cell BK261.out 0).trans rfl, (blk_cell BK261.out 1).trans rfl, (blk_cell BK261.out 2).trans rfl, (blk_cell BK261.out 3).trans rfl⟩ (fun hHeld => ?_)
              clear hK K
              refine norm_ (a' := ?_) ?_ ?_
              rotate_left
              ·show Act.put _ (some 88) _ = _
               simp only [Act.put, List.setIfInBounds_toArray, List.set_cons_zero, List.set_cons_succ, i64_w, i32_w]
               rfl
              refine one_ (i := 4) (N := some 89) (bm 11 287) rfl rfl (one_of HT_.out (by kernel_rfl)) (by decide) (fun K hK => ?_)
              refine goes_ Try.func40 (by kernel_rfl) rfl #[.agg #[.slice Ao149 t300.length co149], .agg #[.int .i64 t303, .string t304, .string t305, .string t306]] (by rfl) rfl rfl (by (try simp only [List.map_toArray, List.map_cons, List.map_nil]); first | done | rfl | (simp only [List.length_drop, List.length_take]; rfl)) ?_
              with_reducible refine (impl_DoAct.calls kj85 _ _ t300 t303 t304 t305 t306 t307 t310 _ ?side1 ?side2 A135.out).mono ?_
              (case side1 => exact qD_ (Kd.R_reads' HO302.out).2.2)
              (case side2 => exact (Kd.R_reads' HO302.out).2.1)
              rintro e w150 ⟨v308, rfl, ho0, hb⟩
              refine ⟨_, rfl, ?_⟩
              have n0_ := Aside0.mk (Kd.R_elder' (qR_ HO_276000) (Kd.R_base ho0) hb)
              have n1_ := Aside0.mk (Kd.R_elder' (qR_ HO_280000) (Kd.R_base ho0) hb)
              have n2_ := Aside0.mk (Kd.R_elder' (qR_ HO_289000) (Kd.R_base ho0) hb)
              have n3_ := Aside0.mk (Kd.R_elder' (qR_ HO302) (Kd.R_base ho0) hb)
              have n4_ := Aside0.mk (Kd.R_lower (Kd.R_new' (Kd.R_new' (Kd.R_new' (Kd.R_new' ho0 (Kd.R_lt (qR_ HO_276000))) (Kd.R_lt (qR_ HO_280000))) (Kd.R_lt (qR_ HO_289000))) (Kd.R_lt (qR_ HO302))) (below_size qB_))
              have n5_ := Aside0.mk (blk_below (qk_ BK260) hb)
              have n6_ := Aside0.mk (blk_below (qk_ BK261) hb)
              have n7_ := Aside0.mk (blk_below (qk_ BK275) hb)
              have n8_ := Aside0.mk (blk_below (qk_ BK279) hb)
              have n9_ := Aside0.mk (blk_below (qk_ BK288) hb)
              have n10_ := Aside0.mk (blk_below (qk_ BK311) hb)
              have n11_ := Aside0.mk (below_step qB_ hb)
              clear HO_276000; clear HO_280000; clear HO_289000; clear HO302; clear BK260; clear BK261; clear BK275; clear BK279; clear BK288; clear BK311; clear HB; have HO_276000 := n0_; have HO_280000 := n1_; have HO_289000 := n2_; have HO302 := n3_; have HO309 := n4_; have BK260 := n5_; have BK261 := n6_; have BK275 := n7_; have BK279 := n8_; have BK288 := n9_; have BK311 := n10_; have HB := n11_; clear n0_ n1_ n2_ n3_ n4_ n5_ n6_ n7_ n8_ n9_ n10_ n11_; (try clear hb); (try clear hb2); (try clear hk); (try clear hi); (try clear ho0)
              refine hK.out _ _ ⟨(blk_cell BK260.out 0).trans rfl, (blk_cell BK261.out 0).trans rfl, (blk_cell BK261.out 1).trans rfl, (blk_cell BK261.out 2).trans rfl, (blk_cell BK261.out 3).trans rfl⟩ (fun hHeld => ?_)
              clear hK K
              refine norm_ (a' := ?_) ?_ ?_
              rotate_left
              ·show Act.put _ (some 89) _ = _
               simp only [Act.put, List.setIfInBounds_toArray, List.set_cons_zero, List.set_cons_succ, i64_w, i32_w]
               rfl
              refine pz_ 5 84 (bm 11 319) ?_; refine pz_ 6 90 (bm 11 383) ?_; refine pz_ 7 91 (bm 11 511) ?_
              exact norm_ (by simp only [putAll, Act.put, List.setIfInBounds_toArray, List.set_cons_zero, List.set_cons_succ]) (hCont (.slice Ao149 t300.length co149, v308, gb311) _ ⟨hHeld, (by (with_reducible repeat (first | apply Kd.R_alloc | apply Kd.R_drewN | apply Kd.R_drew)); exact Kd.R_mono HO302.out (fun _ hk => ⟨hk.2, ⟨hk.1.1.1.2, ⟨hk.1.1.2, hk.1.2⟩⟩⟩)), (by (with_reducible repeat (first | apply Kd.R_alloc | apply Kd.R_drewN | apply Kd.R_drew)); exact Kd.R_mono HO309.out (fun _ hk => ⟨hk.2, ⟨hk.1.1.1.2, ⟨hk.1.1.2, hk.1.2⟩⟩⟩)), (by (with_reducible repeat (first | apply Kd.R_alloc | apply Kd.R_drewN | apply Kd.R_drew)); exact Kd.R_mono HO_276000.out (fun _ hk => ⟨hk.1.2, ⟨hk.2, ⟨hk.1.1.1, hk.1.1.2⟩⟩⟩)), (by (with_reducible repeat (first | apply Kd.R_alloc | apply Kd.R_drewN | apply Kd.R_drew)); exact Kd.R_mono HO_280000.out (fun _ hk => ⟨hk.1.2, ⟨hk.2, ⟨hk.1.1.1, hk.1.1.2⟩⟩⟩)), (by (with_reducible repeat (first | apply Kd.R_alloc | apply Kd.R_drewN | apply Kd.R_drew)); exact Kd.R_mono HO_289000.out (fun _ hk => ⟨hk.1.2, ⟨hk.2, ⟨hk.1.1.1, hk.1.1.2⟩⟩⟩)), (qk_ BK260), (qk_ BK261), (qk_ BK275), (qk_ BK279), (qk_ BK288), (qk_ BK311), GW311.out, GE311.out, NB260_311.out, NB311_260.out, NB261_311.out, NB311_261.out, NB275_311.out, NB311_275.out, NB279_311.out, NB311_279.out, NB288_311.out, NB311_288.out, qB_⟩)
            rintro ⟨v301, v308, gb311⟩ w151 ⟨hS_, h0_, h1_, h2_, h3_, h4_, h5_, h6_, h7_, h8_, h9_, h10_, h11_, h12_, h13_, h14_, h15_, h16_, h17_, h18_, h19_, h20_, h21_, h22_, h23_⟩
            have n0_ : Aside0 (Kd.R k99 99 w151 w.heap.size (fun k_ => some k_ ≠ (v308 : Value).ownBlock ∧ some k_ ≠ (.slice Ao40 t271.length co40 : Value).ownBlock ∧ some k_ ≠ (.slice Ao46 t295.length co46 : Value).ownBlock ∧ some k_ ≠ (.slice Ao57 t284.length co57 : Value).ownBlock) v301 t300) := ⟨h0_⟩
            have n1_ : Aside0 (Kd.R k99 99 w151 w.heap.size (fun k_ => some k_ ≠ (v301 : Value).ownBlock ∧ some k_ ≠ (.slice Ao40 t271.length co40 : Value).ownBlock ∧ some k_ ≠ (.slice Ao46 t295.length co46 : Value).ownBlock ∧ some k_ ≠ (.slice Ao57 t284.length co57 : Value).ownBlock) v308 t307) := ⟨h1_⟩
            have n2_ : Aside0 (Kd.R k99 99 w151 w.heap.size (fun k_ => some k_ ≠ (v301 : Value).ownBlock ∧ some k_ ≠ (v308 : Value).ownBlock ∧ some k_ ≠ (.slice Ao46 t295.length co46 : Value).ownBlock ∧ some k_ ≠ (.slice Ao57 t284.length co57 : Value).ownBlock) (.slice Ao40 t271.length co40) t271) := ⟨h2_⟩
            have n3_ : Aside0 (Kd.R k99 99 w151 w.heap.size (fun k_ => some k_ ≠ (v301 : Value).ownBlock ∧ some k_ ≠ (v308 : Value).ownBlock ∧ some k_ ≠ (.slice Ao40 t271.length co40 : Value).ownBlock ∧ some k_ ≠ (.slice Ao57 t284.length co57 : Value).ownBlock) (.slice Ao46 t295.length co46) t295) := ⟨h3_⟩
            have n4_ : Aside0 (Kd.R k99 99 w151 w.heap.size (fun k_ => some k_ ≠ (v301 : Value).ownBlock ∧ some k_ ≠ (v308 : Value).ownBlock ∧ some k_ ≠ (.slice Ao40 t271.length co40 : Value).ownBlock ∧ some k_ ≠ (.slice Ao46 t295.length co46 : Value).ownBlock) (.slice Ao57 t284.length co57) t298) := ⟨h4_⟩
            have n5_ : Aside0 (w151.heap[gb260]? = some (.cells #[.slice A0_0 l0_0.length c0_0] 39 (0, 0))) := ⟨h5_⟩
            have n6_ : Aside0 (w151.heap[gb261]? = some (.cells #[.int .i64 a1_0, .string a1_1, .string a1_2, .string a1_3] 57 (0, 0))) := ⟨h6_⟩
            have n7_ : Aside0 (w151.heap[gb275]? = some (.cells #[.slice Ao40 t271.length co40] 44 (0, 0))) := ⟨h7_⟩
            have n8_ : Aside0 (w151.heap[gb279]? = some (.cells #[.slice Ao46 t295.length co46] 44 (0, 0))) := ⟨h8_⟩
            have n9_ : Aside0 (w151.heap[gb288]? = some (.cells #[.slice Ao57 t284.length co57] 44 (0, 0))) := ⟨h9_⟩
            have n10_ : Aside0 (w151.heap[gb311]? = some (.cells #[.slice none 0 0] 44 (0, 0))) := ⟨h10_⟩
            have n11_ : Aside0 (w.heap.size ≤ gb311) := ⟨h11_⟩
            have n12_ : Aside0 (w.heap.size ≤ gb311) := ⟨h12_⟩
            have n13_ : Aside0 (gb260 ≠ gb311) := ⟨h13_⟩
            have n14_ : Aside0 (gb311 ≠ gb260) := ⟨h14_⟩
            have n15_ : Aside0 (gb261 ≠ gb311) := ⟨h15_⟩
            have n16_ : Aside0 (gb311 ≠ gb261) := ⟨h16_⟩
            have n17_ : Aside0 (gb275 ≠ gb311) := ⟨h17_⟩
            have n18_ : Aside0 (gb311 ≠ gb275) := ⟨h18_⟩
            have n19_ : Aside0 (gb279 ≠ gb311) := ⟨h19_⟩
            have n20_ : Aside0 (gb311 ≠ gb279) := ⟨h20_⟩
            have n21_ : Aside0 (gb288 ≠ gb311) := ⟨h21_⟩
            have n22_ : Aside0 (gb311 ≠ gb288) := ⟨h22_⟩
            have n23_ : Aside0 (Below w.heap.size w w151) := ⟨h23_⟩
            clear HO_276000; clear HO_280000; clear HO_289000; clear BK260; clear BK261; clear BK275; clear BK279; clear BK288; clear HB; clear h0_ h1_ h2_ h3_ h4_ h5_ h6_ h7_ h8_ h9_ h10_ h11_ h12_ h13_ h14_ h15_ h16_ h17_ h18_ h19_ h20_ h21_ h22_ h23_; have HO302 := n0_; have HO309 := n1_; have HO_276000 := n2_; have HO_280000 := n3_; have HO_289000 := n4_; have BK260 := n5_; have BK261 := n6_; have BK275 := n7_; have BK279 := n8_; have BK288 := n9_; have BK311 := n10_; have GW311 := n11_; have GE311 := n12_; have NB260_311 := n13_; have NB311_260 := n14_; have NB261_311 := n15_; have NB311_261 := n16_; have NB275_311 := n17_; have NB311_275 := n18_; have NB279_311 := n19_; have NB311_279 := n20_; have NB288_311 := n21_; have NB311_288 := n22_; have HB := n23_; clear n0_ n1_ n2_ n3_ n4_ n5_ n6_ n7_ n8_ n9_ n10_ n11_ n12_ n13_ n14_ n15_ n16_ n17_ n18_ n19_ n20_ n21_ n22_ n23_
            have hHeld : w151.cell? ⟨gb260, 0, none⟩ = some (.slice A0_0 l0_0.length c0_0) ∧ w151.cell? ⟨gb261, 0, none⟩ = some (.int .i64 a1_0) ∧ w151.cell? ⟨gb261, 1, none⟩ = some (.string a1_1) ∧ w151.cell? ⟨gb261, 2, none⟩ = some (.string a1_2) ∧ w151.cell? ⟨gb261, 3, none⟩ = some (.string a1_3) := hS_
            obtain ⟨Ao152, co152, eo152⟩ := Kd.R_slice HO309.out
            (first | subst eo152 | (injection eo152 with f1_ f2_ f3_; have f4_ := f1_.symm; have f5_ := f3_.symm; clear f1_ f2_ f3_; subst f4_; subst f5_))
            refine norm_ (a' := ?_) ?_ ?_
            rotate_left
            ·simp only [putAll, Act.put, List.setIfInBounds_toArray, List.set_cons_zero, List.set_cons_succ]
             rfl
            refine one_ (i := 9) (N := none) (bm 11 1023) rfl rfl (one_of HT_.out (by kernel_rfl)) (by decide) (fun K hK => ?_)
            have hs153 : w151.cell? ⟨gb311, 0, none⟩ = some (.slice none 0 0) := (blk_cell BK311.out 0).trans rfl
            have hfs153 := blk_frozen BK311.out 0
            have hns153_0 := NB260_311.out; have hns153_1 := NB261_311.out; have hns153_2 := NB275_311.out; have hns153_3 := NB279_311.out; have hns153_4 := NB288_311.out; have hms153_0 := NB311_260.out; have hms153_1 := NB311_261.out; have hms153_2 := NB311_275.out; have hms153_3 := NB311_279.out; have hms153_4 := NB311_288.out
            refine skip_ (w1 := ?_) (by rfl) rfl ?_ ?_
            rotate_left
            ·go_simp
             rfl
            refine hK.out _ _ ⟨((cell_far (p := ⟨gb311, _, none⟩) NB260_311.out _).trans (hHeld.1)), ((cell_far (p := ⟨gb311, _, none⟩) NB261_311.out _).trans (hHeld.2.1)), ((cell_far (p := ⟨gb311, _, none⟩) NB261_311.out _).trans (hHeld.2.2.1)), ((cell_far (p := ⟨gb311, _, none⟩) NB261_311.out _).trans (hHeld.2.2.2.1)), ((cell_far (p := ⟨gb311, _, none⟩) NB261_311.out _).trans (hHeld.2.2.2.2))⟩ (fun hHeld => ?_)
            clear hK K; refine pz_ 10 15 (bm 11 2047) ?_
            refine done_ (done_of HT_.out (by kernel_rfl)) ?_
            go_upto_region 28 with (fail)
            go_cut [100] (fun v100 wc => ∃ (kq : Nat) (x100_135 : Bool), v100 = .bool x100_135 ∧ Aside0 (laws_FnExactDoAct.j2 kq t297 x100_135 t298 = some true) ∧ Aside0 (kq ≤ kj85) ∧ Aside0 (Kd.R k99 99 wc w.heap.size (fun k_ => some k_ ≠ ((.slice Ao46 t295.length co46) : Value).ownBlock ∧ some k_ ≠ ((.slice Ao57 t284.length co57) : Value).ownBlock ∧ some k_ ≠ ((.slice Ao152 t307.length co152) : Value).ownBlock) (.slice Ao40 t271.length co40) t271) ∧ Aside0 (Kd.R k99 99 wc w.heap.size (fun k_ => some k_ ≠ ((.slice Ao40 t271.length co40) : Value).ownBlock ∧ some k_ ≠ ((.slice Ao57 t284.length co57) : Value).ownBlock ∧ some k_ ≠ ((.slice Ao152 t307.length co152) : Value).ownBlock) (.slice Ao46 t295.length co46) t295) ∧ Aside0 (Kd.R k99 99 wc w.heap.size (fun k_ => some k_ ≠ ((.slice Ao40 t271.length co40) : Value).ownBlock ∧ some k_ ≠ ((.slice Ao46 t295.length co46) : Value).ownBlock ∧ some k_ ≠ ((.slice Ao152 t307.length co152) : Value).ownBlock) (.slice Ao57 t284.length co57) t298) ∧ Aside0 (Kd.R k99 99 wc w.heap.size (fun k_ => some k_ ≠ ((.slice Ao40 t271.length co40) : Value).ownBlock ∧ some k_ ≠ ((.slice Ao46 t295.length co46) : Value).ownBlock ∧ some k_ ≠ ((.slice Ao57 t284.length co57) : Value).ownBlock) (.slice Ao152 t307.length co152) t307) ∧ Aside0 (wc.heap[gb260]? = some (.cells #[(.slice A0_0 l0_0.length c0_0)] 39 (0, 0))) ∧ Aside0 (wc.heap[gb261]? = some (.cells #[.int .i64 a1_0, .string a1_1, .string a1_2, .string a1_3] 57 (0, 0))) ∧ Aside0 (wc.heap[gb275]? = some (.cells #[(.slice Ao40 t271.length co40)] 44 (0, 0))) ∧ Aside0 (wc.heap[gb279]? = some (.cells #[(.slice Ao46 t295.length co46)] 44 (0, 0))) ∧ Aside0 (wc.heap[gb288]? = some (.cells #[(.slice Ao57 t284.length co57)] 44 (0, 0))) ∧ Aside0 (wc.heap[gb311]? = some (.cells #[(.slice Ao152 t307.length co152)] 44 (0, 0))) ∧ Aside0 (Below w.heap.size w wc))
            case first =>
             have H := HC136.out; clear HC136
             obtain ⟨t312, A1540, H⟩ := Option.bind_eq_some_iff.mp H; have A154 := Aside0.mk A1540; clear A1540
             by_cases c155 : t312 = true
             ·subst c155
              rw [if_pos rfl] at H; have H' := Aside0.mk H; clear H; have hnb156 := NB311_260.out; have hnc156 := NB260_311.out; have hnb157 := NB311_261.out; have hnc157 := NB261_311.out; have hnb158 := NB311_275.out; have hnc158 := NB275_311.out; have hnb159 := NB311_279.out; have hnc159 := NB279_311.out; have hnb160 := NB311_288.out; have hnc160 := NB288_311.out
              obtain ⟨hcz161_0, hfz161_0⟩ := bc1_ BK311
              have hnb162 := NB275_260.out; have hnc162 := NB260_275.out; have hnb163 := NB275_261.out; have hnc163 := NB261_275.out; have hnb164 := NB275_279.out; have hnc164 := NB279_275.out; have hnb165 := NB275_288.out; have hnc165 := NB288_275.out
              obtain ⟨hcz166_0, hfz166_0⟩ := bc1_ BK275
              go_wp2_with (first | ((with_reducible refine gate_callee (f := 28) rfl ?_); refine gl_ (some 94) Try.func28 #[.agg #[.slice Ao152 t307.length co152], .agg #[.slice Ao40 t271.length co40]] ?_; (with_reducible refine (laws_eqDisk.calls kj85 _ _ t307 _ _ t271 true _ ?side1 ?side2 ?side3 ?side4 A154.out).mono ?_); (case side1 => refine (Kd.R_reads' (e := 99) (base := w.heap.size) (ok := fun k_ => (some k_ ≠ (v301 : Value).ownBlock ∧ (some k_ ≠ (.slice Ao40 t271.length co40 : Value).ownBlock ∧ (some k_ ≠ (.slice Ao46 t295.length co46 : Value).ownBlock ∧ some k_ ≠ (.slice Ao57 t284.length co57 : Value).ownBlock)))) (n := t307.length) (c := co152) ?_).2.2; exact (by (with_reducible repeat (first | apply Kd.R_alloc | apply Kd.R_drewN | apply Kd.R_drew)); exact (Kd.R_mono (Kd.R_far (p := ⟨gb311, 0, none⟩) (Kd.R_types HO309.out BK311.out (by decide)) (fun _ hk => hk.2) (.slice Ao152 t307.length co152)) (fun _ h_ => h_.1)))); (case side2 => exact (Kd.R_reads' HO309.out).2.1); (case side3 => refine (Kd.R_reads' (e := 99) (base := w.heap.size) (ok := fun k_ => (some k_ ≠ (v301 : Value).ownBlock ∧ (some k_ ≠ (.slice Ao152 t307.length co152 : Value).ownBlock ∧ (some k_ ≠ (.slice Ao46 t295.length co46 : Value).ownBlock ∧ some k_ ≠ (.slice Ao57 t284.length co57 : Value).ownBlock)))) (n := t271.length) (c := co40) ?_).2.2; exact (by (with_reducible repeat (first | apply Kd.R_alloc | apply Kd.R_drewN | apply Kd.R_drew)); exact (Kd.R_mono (Kd.R_far (p := ⟨gb311, 0, none⟩) (Kd.R_types HO_276000.out BK311.out (by decide)) (fun _ hk => hk.2) (.slice Ao152 t307.length co152)) (fun _ h_ => h_.1)))); (case side4 => exact (Kd.R_reads' HO_276000.out).2.1); rintro e w167 ⟨rfl, hb⟩; refine ⟨_, rfl, ?_⟩; replace HO_276000 := Aside0.mk (Kd.R_below (by (with_reducible repeat (first | apply Kd.R_alloc | apply Kd.R_drewN | apply Kd.R_drew)); exact (Kd.R_mono (Kd.R_far (p := ⟨gb311, 0, none⟩) (Kd.R_types HO_276000.out BK311.out (by decide)) (fun _ hk => hk.2) (.slice Ao152 t307.length co152)) (fun _ h_ => h_.1))) hb); replace HO_280000 := Aside0.mk (Kd.R_below (by (with_reducible repeat (first | apply Kd.R_alloc | apply Kd.R_drewN | apply Kd.R_drew)); exact (Kd.R_mono (Kd.R_far (p := ⟨gb311, 0, none⟩) (Kd.R_types HO_280000.out BK311.out (by decide)) (fun _ hk => hk.2) (.slice Ao152 t307.length co152)) (fun _ h_ => h_.1))) hb); replace HO_289000 := Aside0.mk (Kd.R_below (by (with_reducible repeat (first | apply Kd.R_alloc | apply Kd.R_drewN | apply Kd.R_drew)); exact (Kd.R_mono (Kd.R_far (p := ⟨gb311, 0, none⟩) (Kd.R_types HO_289000.out BK311.out (by decide)) (fun _ hk => hk.2) (.slice Ao152 t307.length co152)) (fun _ h_ => h_.1))) hb); replace HO302 := Aside0.mk (Kd.R_below (by (with_reducible repeat (first | apply Kd.R_alloc | apply Kd.R_drewN | apply Kd.R_drew)); exact (Kd.R_mono (Kd.R_far (p := ⟨gb311, 0, none⟩) (Kd.R_types HO302.out BK311.out (by decide)) (fun _ hk => hk.2) (.slice Ao152 t307.length co152)) (fun _ h_ => h_.1))) hb); replace HO309 := Aside0.mk (Kd.R_below (by (with_reducible repeat (first | apply Kd.R_alloc | apply Kd.R_drewN | apply Kd.R_drew)); exact (Kd.R_mono (Kd.R_far (p := ⟨gb311, 0, none⟩) (Kd.R_types HO309.out BK311.out (by decide)) (fun _ hk => hk.2) (.slice Ao152 t307.length co152)) (fun _ h_ => h_.1))) hb); replace BK260 := Aside0.mk (blk_below (g := gb260) (o := .cells #[.slice A0_0 l0_0.length c0_0] 39 (0, 0)) (by (with_reducible repeat (first | refine blk_drewN ?_ _ | refine blk_drew ?_ | refine blk_alloc ?_ _)); refine blk_far ?_ NB260_311.out _; (with_reducible repeat (first | refine blk_drewN ?_ _ | refine blk_drew ?_ | refine blk_alloc ?_ _)); exact BK260.out) hb); replace BK261 := Aside0.mk (blk_below (g := gb261) (o := .cells #[.int .i64 a1_0, .string a1_1, .string a1_2, .string a1_3] 57 (0, 0)) (by (with_reducible repeat (first | refine blk_drewN ?_ _ | refine blk_drew ?_ | refine blk_alloc ?_ _)); refine blk_far ?_ NB261_311.out _; (with_reducible repeat (first | refine blk_drewN ?_ _ | refine blk_drew ?_ | refine blk_alloc ?_ _)); exact BK261.out) hb); replace BK275 := Aside0.mk (blk_below (g := gb275) (o := .cells #[.slice Ao40 t271.length co40] 44 (0, 0)) (by (with_reducible repeat (first | refine blk_drewN ?_ _ | refine blk_drew ?_ | refine blk_alloc ?_ _)); refine blk_far ?_ NB275_311.out _; (with_reducible repeat (first | refine blk_drewN ?_ _ | refine blk_drew ?_ | refine blk_alloc ?_ _)); exact BK275.out) hb); replace BK279 := Aside0.mk (blk_below (g := gb279) (o := .cells #[.slice Ao46 t295.length co46] 44 (0, 0)) (by (with_reducible repeat (first | refine blk_drewN ?_ _ | refine blk_drew ?_ | refine blk_alloc ?_ _)); refine blk_far ?_ NB279_311.out _; (with_reducible repeat (first | refine blk_drewN ?_ _ | refine blk_drew ?_ | refine blk_alloc ?_ _)); exact BK279.out) hb); replace BK288 := Aside0.mk (blk_below (g := gb288) (o := .cells #[.slice Ao57 t284.length co57] 44 (0, 0)) (by (with_reducible repeat (first | refine blk_drewN ?_ _ | refine blk_drew ?_ | refine blk_alloc ?_ _)); refine blk_far ?_ NB288_311.out _; (with_reducible repeat (first | refine blk_drewN ?_ _ | refine blk_drew ?_ | refine blk_alloc ?_ _)); exact BK288.out) hb); replace BK311 := Aside0.mk (blk_below (g := gb311) (o := .cells #[.slice Ao152 t307.length co152] 44 (0, 0)) (by (with_reducible repeat (first | refine blk_drewN ?_ _ | refine blk_drew ?_ | refine blk_alloc ?_ _)); refine blk_put (cs := #[.slice none 0 0]) ?_ 0 _ rfl; (with_reducible repeat (first | refine blk_drewN ?_ _ | refine blk_drew ?_ | refine blk_alloc ?_ _)); exact BK311.out) hb); replace HB := Aside0.mk (below_step qB_ hb); (try clear hb); (try clear hb2); (try clear hk); (try clear hi)))
              go_meet
              case rel => exact ⟨_, ((t310 != t274)), qe_, H', ⟨by have := HJ24.out; have := HJ85.out; first | omega | exact Nat.le_refl _⟩, ⟨by (try simp only [hl280000_85]); (with_reducible repeat (first | apply Kd.R_alloc | apply Kd.R_drewN | apply Kd.R_drew)); exact Kd.R_mono HO_276000.out (fun _ hk => ⟨hk.2.2.1, ⟨hk.2.2.2, hk.2.1⟩⟩)⟩, ⟨by (try simp only [hl280000_85]); (with_reducible repeat (first | apply Kd.R_alloc | apply Kd.R_drewN | apply Kd.R_drew)); exact Kd.R_mono HO_280000.out (fun _ hk => ⟨hk.2.2.1, ⟨hk.2.2.2, hk.2.1⟩⟩)⟩, ⟨by (try simp only [hl280000_85]); (with_reducible repeat (first | apply Kd.R_alloc | apply Kd.R_drewN | apply Kd.R_drew)); exact Kd.R_mono HO_289000.out (fun _ hk => ⟨hk.2.2.1, ⟨hk.2.2.2, hk.2.1⟩⟩)⟩, ⟨by (try simp only [hl280000_85]); (with_reducible repeat (first | apply Kd.R_alloc | apply Kd.R_drewN | apply Kd.R_drew)); exact Kd.R_mono HO309.out (fun _ hk => ⟨hk.2.1, ⟨hk.2.2.1, hk.2.2.2⟩⟩)⟩, ⟨by (try simp only [hl280000_85]); (with_reducible repeat (first | refine blk_drewN ?_ _ | refine blk_drew ?_ | refine blk_alloc ?_ _)); exact BK260.out⟩, ⟨by (try simp only [hl280000_85]); (with_reducible repeat (first | refine blk_drewN ?_ _ | refine blk_drew ?_ | refine blk_alloc ?_ _)); exact BK261.out⟩, ⟨by (try simp only [hl280000_85]); (with_reducible repeat (first | refine blk_drewN ?_ _ | refine blk_drew ?_ | refine blk_alloc ?_ _)); exact BK275.out⟩, ⟨by (try simp only [hl280000_85]); (with_reducible repeat (first | refine blk_drewN ?_ _ | refine blk_drew ?_ | refine blk_alloc ?_ _)); exact BK279.out⟩, ⟨by (try simp only [hl280000_85]); (with_reducible repeat (first | refine blk_drewN ?_ _ | refine blk_drew ?_ | refine blk_alloc ?_ _)); exact BK288.out⟩, ⟨by (try simp only [hl280000_85]); (with_reducible repeat (first | refine blk_drewN ?_ _ | refine blk_drew ?_ | refine blk_alloc ?_ _)); exact BK311.out⟩, ⟨qB_⟩⟩
             ·replace c155 := Bool.eq_false_iff.mpr c155
              subst c155
              rw [if_neg (show ¬ (false = true) by decide)] at H; have H' := Aside0.mk H; clear H; have hnb168 := NB311_260.out; have hnc168 := NB260_311.out; have hnb169 := NB311_261.out; have hnc169 := NB261_311.out; have hnb170 := NB311_275.out; have hnc170 := NB275_311.out; have hnb171 := NB311_279.out; have hnc171 := NB279_311.out; have hnb172 := NB311_288.out; have hnc172 := NB288_311.out
              obtain ⟨hcz173_0, hfz173_0⟩ := bc1_ BK311
              have hnb174 := NB275_260.out; have hnc174 := NB260_275.out; have hnb175 := NB275_261.out; have hnc175 := NB261_275.out; have hnb176 := NB275_279.out; have hnc176 := NB279_275.out; have hnb177 := NB275_288.out; have hnc177 := NB288_275.out
              obtain ⟨hcz178_0, hfz178_0⟩ := bc1_ BK275
              go_wp2_with (first | ((with_reducible refine gate_callee (f := 28) rfl ?_); refine gl_ (some 94) Try.func28 #[.agg #[.slice Ao152 t307.length co152], .agg #[.slice Ao40 t271.length co40]] ?_; (with_reducible refine (laws_eqDisk.calls kj85 _ _ t307 _ _ t271 false _ ?side1 ?side2 ?side3 ?side4 A154.out).mono ?_); (case side1 => refine (Kd.R_reads' (e := 99) (base := w.heap.size) (ok := fun k_ => (some k_ ≠ (v301 : Value).ownBlock ∧ (some k_ ≠ (.slice Ao40 t271.length co40 : Value).ownBlock ∧ (some k_ ≠ (.slice Ao46 t295.length co46 : Value).ownBlock ∧ some k_ ≠ (.slice Ao57 t284.length co57 : Value).ownBlock)))) (n := t307.length) (c := co152) ?_).2.2; exact (by (with_reducible repeat (first | apply Kd.R_alloc | apply Kd.R_drewN | apply Kd.R_drew)); exact (Kd.R_mono (Kd.R_far (p := ⟨gb311, 0, none⟩) (Kd.R_types HO309.out BK311.out (by decide)) (fun _ hk => hk.2) (.slice Ao152 t307.length co152)) (fun _ h_ => h_.1)))); (case side2 => exact (Kd.R_reads' HO309.out).2.1); (case side3 => refine (Kd.R_reads' (e := 99) (base := w.heap.size) (ok := fun k_ => (some k_ ≠ (v301 : Value).ownBlock ∧ (some k_ ≠ (.slice Ao152 t307.length co152 : Value).ownBlock ∧ (some k_ ≠ (.slice Ao46 t295.length co46 : Value).ownBlock ∧ some k_ ≠ (.slice Ao57 t284.length co57 : Value).ownBlock)))) (n := t271.length) (c := co40) ?_).2.2; exact (by (with_reducible repeat (first | apply Kd.R_alloc | apply Kd.R_drewN | apply Kd.R_drew)); exact (Kd.R_mono (Kd.R_far (p := ⟨gb311, 0, none⟩) (Kd.R_types HO_276000.out BK311.out (by decide)) (fun _ hk => hk.2) (.slice Ao152 t307.length co152)) (fun _ h_ => h_.1)))); (case side4 => exact (Kd.R_reads' HO_276000.out).2.1); rintro e w179 ⟨rfl, hb⟩; refine ⟨_, rfl, ?_⟩; replace HO_276000 := Aside0.mk (Kd.R_below (by (with_reducible repeat (first | apply Kd.R_alloc | apply Kd.R_drewN | apply Kd.R_drew)); exact (Kd.R_mono (Kd.R_far (p := ⟨gb311, 0, none⟩) (Kd.R_types HO_276000.out BK311.out (by decide)) (fun _ hk => hk.2) (.slice Ao152 t307.length co152)) (fun _ h_ => h_.1))) hb); replace HO_280000 := Aside0.mk (Kd.R_below (by (with_reducible repeat (first | apply Kd.R_alloc | apply Kd.R_drewN | apply Kd.R_drew)); exact (Kd.R_mono (Kd.R_far (p := ⟨gb311, 0, none⟩) (Kd.R_types HO_280000.out BK311.out (by decide)) (fun _ hk => hk.2) (.slice Ao152 t307.length co152)) (fun _ h_ => h_.1))) hb); replace HO_289000 := Aside0.mk (Kd.R_below (by (with_reducible repeat (first | apply Kd.R_alloc | apply Kd.R_drewN | apply Kd.R_drew)); exact (Kd.R_mono (Kd.R_far (p := ⟨gb311, 0, none⟩) (Kd.R_types HO_289000.out BK311.out (by decide)) (fun _ hk => hk.2) (.slice Ao152 t307.length co152)) (fun _ h_ => h_.1))) hb); replace HO302 := Aside0.mk (Kd.R_below (by (with_reducible repeat (first | apply Kd.R_alloc | apply Kd.R_drewN | apply Kd.R_drew)); exact (Kd.R_mono (Kd.R_far (p := ⟨gb311, 0, none⟩) (Kd.R_types HO302.out BK311.out (by decide)) (fun _ hk => hk.2) (.slice Ao152 t307.length co152)) (fun _ h_ => h_.1))) hb); replace HO309 := Aside0.mk (Kd.R_below (by (with_reducible repeat (first | apply Kd.R_alloc | apply Kd.R_drewN | apply Kd.R_drew)); exact (Kd.R_mono (Kd.R_far (p := ⟨gb311, 0, none⟩) (Kd.R_types HO309.out BK311.out (by decide)) (fun _ hk => hk.2) (.slice Ao152 t307.length co152)) (fun _ h_ => h_.1))) hb); replace BK260 := Aside0.mk (blk_below (g := gb260) (o := .cells #[.slice A0_0 l0_0.length c0_0] 39 (0, 0)) (by (with_reducible repeat (first | refine blk_drewN ?_ _ | refine blk_drew ?_ | refine blk_alloc ?_ _)); refine blk_far ?_ NB260_311.out _; (with_reducible repeat (first | refine blk_drewN ?_ _ | refine blk_drew ?_ | refine blk_alloc ?_ _)); exact BK260.out) hb); replace BK261 := Aside0.mk (blk_below (g := gb261) (o := .cells #[.int .i64 a1_0, .string a1_1, .string a1_2, .string a1_3] 57 (0, 0)) (by (with_reducible repeat (first | refine blk_drewN ?_ _ | refine blk_drew ?_ | refine blk_alloc ?_ _)); refine blk_far ?_ NB261_311.out _; (with_reducible repeat (first | refine blk_drewN ?_ _ | refine blk_drew ?_ | refine blk_alloc ?_ _)); exact BK261.out) hb); replace BK275 := Aside0.mk (blk_below (g := gb275) (o := .cells #[.slice Ao40 t271.length co40] 44 (0, 0)) (by (with_reducible repeat (first | refine blk_drewN ?_ _ | refine blk_drew ?_ | refine blk_alloc ?_ _)); refine blk_far ?_ NB275_311.out _; (with_reducible repeat (first | refine blk_drewN ?_ _ | refine blk_drew ?_ | refine blk_alloc ?_ _)); exact BK275.out) hb); replace BK279 := Aside0.mk (blk_below (g := gb279) (o := .cells #[.slice Ao46 t295.length co46] 44 (0, 0)) (by (with_reducible repeat (first | refine blk_drewN ?_ _ | refine blk_drew ?_ | refine blk_alloc ?_ _)); refine blk_far ?_ NB279_311.out _; (with_reducible repeat (first | refine blk_drewN ?_ _ | refine blk_drew ?_ | refine blk_alloc ?_ _)); exact BK279.out) hb); replace BK288 := Aside0.mk (blk_below (g := gb288) (o := .cells #[.slice Ao57 t284.length co57] 44 (0, 0)) (by (with_reducible repeat (first | refine blk_drewN ?_ _ | refine blk_drew ?_ | refine blk_alloc ?_ _)); refine blk_far ?_ NB288_311.out _; (with_reducible repeat (first | refine blk_drewN ?_ _ | refine blk_drew ?_ | refine blk_alloc ?_ _)); exact BK288.out) hb); replace BK311 := Aside0.mk (blk_below (g := gb311) (o := .cells #[.slice Ao152 t307.length co152] 44 (0, 0)) (by (with_reducible repeat (first | refine blk_drewN ?_ _ | refine blk_drew ?_ | refine blk_alloc ?_ _)); refine blk_put (cs := #[.slice none 0 0]) ?_ 0 _ rfl; (with_reducible repeat (first | refine blk_drewN ?_ _ | refine blk_drew ?_ | refine blk_alloc ?_ _)); exact BK311.out) hb); replace HB := Aside0.mk (below_step qB_ hb); (try clear hb); (try clear hb2); (try clear hk); (try clear hi)))
              go_meet
              case rel => exact ⟨_, (true), qe_, H', ⟨by have := HJ24.out; have := HJ85.out; first | omega | exact Nat.le_refl _⟩, ⟨by (try simp only [hl280000_85]); (with_reducible repeat (first | apply Kd.R_alloc | apply Kd.R_drewN | apply Kd.R_drew)); exact Kd.R_mono HO_276000.out (fun _ hk => ⟨hk.2.2.1, ⟨hk.2.2.2, hk.2.1⟩⟩)⟩, ⟨by (try simp only [hl280000_85]); (with_reducible repeat (first | apply Kd.R_alloc | apply Kd.R_drewN | apply Kd.R_drew)); exact Kd.R_mono HO_280000.out (fun _ hk => ⟨hk.2.2.1, ⟨hk.2.2.2, hk.2.1⟩⟩)⟩, ⟨by (try simp only [hl280000_85]); (with_reducible repeat (first | apply Kd.R_alloc | apply Kd.R_drewN | apply Kd.R_drew)); exact Kd.R_mono HO_289000.out (fun _ hk => ⟨hk.2.2.1, ⟨hk.2.2.2, hk.2.1⟩⟩)⟩, ⟨by (try simp only [hl280000_85]); (with_reducible repeat (first | apply Kd.R_alloc | apply Kd.R_drewN | apply Kd.R_drew)); exact Kd.R_mono HO309.out (fun _ hk => ⟨hk.2.1, ⟨hk.2.2.1, hk.2.2.2⟩⟩)⟩, ⟨by (try simp only [hl280000_85]); (with_reducible repeat (first | refine blk_drewN ?_ _ | refine blk_drew ?_ | refine blk_alloc ?_ _)); exact BK260.out⟩, ⟨by (try simp only [hl280000_85]); (with_reducible repeat (first | refine blk_drewN ?_ _ | refine blk_drew ?_ | refine blk_alloc ?_ _)); exact BK261.out⟩, ⟨by (try simp only [hl280000_85]); (with_reducible repeat (first | refine blk_drewN ?_ _ | refine blk_drew ?_ | refine blk_alloc ?_ _)); exact BK275.out⟩, ⟨by (try simp only [hl280000_85]); (with_reducible repeat (first | refine blk_drewN ?_ _ | refine blk_drew ?_ | refine blk_alloc ?_ _)); exact BK279.out⟩, ⟨by (try simp only [hl280000_85]); (with_reducible repeat (first | refine blk_drewN ?_ _ | refine blk_drew ?_ | refine blk_alloc ?_ _)); exact BK288.out⟩, ⟨by (try simp only [hl280000_85]); (with_reducible repeat (first | refine blk_drewN ?_ _ | refine blk_drew ?_ | refine blk_alloc ?_ _)); exact BK311.out⟩, ⟨qB_⟩⟩
            case rest =>
             clear HC136; (try clear c1); (try clear c2); (try clear p2); (try clear c3); (try clear c4); (try clear c15); (try clear c16); (try clear c17); (try clear c25); (try clear c28); (try clear c39); (try clear c40); (try clear c155); (try clear c156); (try clear c157); (try clear c158); (try clear c159); (try clear c160); (try clear c162); (try clear c163); (try clear c164); (try clear c165); (try clear c168); (try clear c169); (try clear c170); (try clear c171); (try clear c172); (try clear c174); (try clear c175); (try clear c176); (try clear c177); (try clear hcz161_0); (try clear hcz166_0); (try clear hcz173_0); (try clear hcz178_0); (try clear hfz161_0); (try clear hfz166_0); (try clear hfz173_0); (try clear hfz178_0)
             obtain ⟨kq, x100_135, rfl, HA, HJ135, HO_276000, HO_280000, HO_289000, HO_312000, BK260, BK261, BK275, BK279, BK288, BK311, HB⟩ := hcut
             have hl289000_135 := (Kd.R_reads' HO_289000.out).1
             rw [hl289000_135] at HO_289000
             (try simp only [hl289000_135])
             (try simp only [hl289000_135] at BK260)
             (try simp only [hl289000_135] at BK261)
             (try simp only [hl289000_135] at BK275)
             (try simp only [hl289000_135] at BK279)
             (try simp only [hl289000_135] at BK288)
             (try simp only [hl289000_135] at BK311)
             (try simp only [hl289000_135] at HO_276000)
             (try simp only [hl289000_135] at HO_280000)
             (try simp only [hl289000_135] at HO_312000)
             cases kq with
             | zero => exact absurd HA.out (by simp [laws_FnExactDoAct.j2])
             | succ kj135 =>
              have H := HA.out; clear HA
              simp only [laws_FnExactDoAct.j2] at H
              by_cases c180 : x100_135 = true
              ·subst c180
               rw [if_pos rfl] at H
               exact absurd (Option.some.inj H) (by decide)
              ·replace c180 := Bool.eq_false_iff.mpr c180
               subst c180
               rw [if_neg (show ¬ (false = true) by decide)] at H
               obtain ⟨t313, A1810, H⟩ := Option.bind_eq_some_iff.mp H; have A181 := Aside0.mk A1810; clear A1810
               by_cases c182 : t313 < 0
               ·rw [if_pos c182] at H
                have c182b0 : decide (t313 < 0) = true := decide_eq_true c182
                clear c182
                exact absurd (Option.some.inj H) (by decide)
               ·rw [if_neg c182] at H
                have c182b0 : decide (t313 < 0) = false := decide_eq_false c182
                clear c182
                by_cases c190 : t313 = t297
                ·rw [if_pos c190] at H
                 have c190b0 : (t313 == t297) = true := beq_iff_eq.mpr c190
                 have c190b1 : (t313 != t297) = false := bne_eq_false_iff_eq.mpr c190
                 clear c190; clear H; have hnb191 := NB288_260.out; have hnc191 := NB260_288.out; have hnb192 := NB288_261.out; have hnc192 := NB261_288.out; have hnb193 := NB288_275.out; have hnc193 := NB275_288.out; have hnb194 := NB288_279.out; have hnc194 := NB279_288.out; have hnb195 := NB288_311.out; have hnc195 := NB311_288.out
                 obtain ⟨hcz196_0, hfz196_0⟩ := bc1_ BK288
                 go_wp2_with (first | ((with_reducible refine gate_callee (f := 32) rfl ?_); refine gl_ (some 103) Try.func32 #[.agg #[.slice Ao57 t298.length co57], .int .i64 1] ?_; (with_reducible refine (laws_heldDisk.calls kj135 _ _ t298 1 t313 _ ?side1 ?side2 A181.out).mono ?_); (case side1 => exact qD_ (Kd.R_reads' HO_289000.out).2.2); (case side2 => exact (Kd.R_reads' HO_289000.out).2.1); rintro e w197 ⟨rfl, hb⟩; refine ⟨_, rfl, ?_⟩; replace HO_276000 := Aside0.mk (Kd.R_below (qR_ HO_276000) hb); replace HO_280000 := Aside0.mk (Kd.R_below (qR_ HO_280000) hb); replace HO_289000 := Aside0.mk (Kd.R_below (qR_ HO_289000) hb); replace HO_312000 := Aside0.mk (Kd.R_below (qR_ HO_312000) hb); replace BK260 := Aside0.mk (blk_below (qk_ BK260) hb); replace BK261 := Aside0.mk (blk_below (qk_ BK261) hb); replace BK275 := Aside0.mk (blk_below (qk_ BK275) hb); replace BK279 := Aside0.mk (blk_below (qk_ BK279) hb); replace BK288 := Aside0.mk (blk_below (qk_ BK288) hb); replace BK311 := Aside0.mk (blk_below (qk_ BK311) hb); replace HB := Aside0.mk (below_step qB_ hb); (try clear hb); (try clear hb2); (try clear hk); (try clear hi)))
                 go_ret
                 exact ⟨qr_, qB_⟩
                ·rw [if_neg c190] at H
                 have c190b0 : (t313 == t297) = false := beq_eq_false_iff_ne.mpr c190
                 have c190b1 : (t313 != t297) = true := bne_iff_ne.mpr c190
                 exact absurd (Option.some.inj H) (by decide)
           ·rw [if_neg c132] at H
            have c132b0 : (t299 == t297) = false := beq_eq_false_iff_ne.mpr c132
            have c132b1 : (t299 != t297) = true := bne_iff_ne.mpr c132
            exact absurd (Option.some.inj H) (by decide)
      ·replace c84 := Bool.eq_false_iff.mpr c84
       subst c84
       rw [if_neg (show ¬ (false = true) by decide)] at H
       exact absurd (Option.some.inj H) (by decide)

end Go.Proofs.Ytacnlodcbbhahaa.QFnExactDoAct
