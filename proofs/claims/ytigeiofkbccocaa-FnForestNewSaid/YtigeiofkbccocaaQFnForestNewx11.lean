-- printed for this claim by a program of the session's own (no text of the kit's print)
import Derived.Test.YtigeiofkbccocaaQFnForestNewx0
import Derived.Test.YtigeiofkbccocaaQFnForestNewx2
import Derived.Test.YtigeiofkbccocaaQFnForestNewx7
import Derived.Test.YtigeiofkbccocaaQFnForestNewx10
namespace Go.Proofs.Ytigeiofkbccocaa.QFnForestNew
open Go.RowKit Go.Proofs.YtigeiofkbccocaaW.PrintWords Go.Proofs.YtigeiofkbccocaaW.PrintLast Go.Proofs.YtigeiofkbccocaaW.PrintMore
attribute [local go_sem] max2_int min2_int max_two min_two max_three min_three max_four min_four   -- for this text's walks alone
set_option linter.unusedVariables false
set_option linter.unusedSimpArgs false

/-! ### laws_FnForestNew: function 13 -/
def laws_FnForestNew.l0 : Nat → Int → Int → Int → List (List Int) → Option (Bool)
  | 0, _, _, _, _ => none
  | k + 1, x3, x8, x335000, x335001 => if x8 < x3 then ((impl_TreeOf.f k x335000 x335001 x8).bind fun t344 => (if t344 = x8 then ((impl_SizeOf.f k x335000 x335001 x8).bind fun t345 => (if t345 = 1 then (laws_FnForestNew.l0 k x3 (wrap64 (x8 + 1)) x335000 x335001) else (some false))) else (some false))) else (if (x335001.length : Int) = x3 then ((impl_EdgesOf.f k x335000 x335001).bind fun t341 => (some ((t341.length : Int) == 0))) else (some false))
def laws_FnForestNew.f (k : Nat) (l0 : List Int) : Option (Bool) := (laws_big.f l0).bind fun t327 => (if t327 = true then (some true) else ((spec_DrawForestNew.f k l0).bind fun t328 => ((impl_ForestNew.f k t328).bind fun bt329 => ((spec_ForestNew.f k t328).bind fun bt335 => (if (bt329.2.2 != bt335.2.2) = true then (some false) else (if bt329.2.2 = true then (laws_FnForestNew.l0 k t328 0 bt329.1 bt329.2.1) else (some ((bt329.2.1.length : Int) == 0))))))))
theorem laws_FnForestNew.mono_l : ∀ k, (∀ y0 y1 y2 y3, LeO (laws_FnForestNew.l0 k y0 y1 y2 y3) (laws_FnForestNew.l0 (k + 1) y0 y1 y2 y3))
  | 0 => fun _ _ _ _ r h => by simp [laws_FnForestNew.l0] at h
  | k + 1 => by
    have ih0 := laws_FnForestNew.mono_l k
    · intro y0 y1 y2 y3
      unfold laws_FnForestNew.l0
      repeat' first
      | (with_reducible exact ih0 _ _ _ _)
      | (with_reducible exact impl_EdgesOf.mono _ _ _)
      | (with_reducible exact impl_ForestNew.mono _ _)
      | (with_reducible exact impl_SizeOf.mono _ _ _ _)
      | (with_reducible exact impl_TreeOf.mono _ _ _ _)
      | (with_reducible exact spec_DrawForestNew.mono _ _)
      | (with_reducible exact spec_ForestNew.mono _ _)
      | (with_reducible exact LeO.refl _)
      | (with_reducible exact LeO.none _)
      | (with_reducible refine LeO.ite ?_ ?_)
      | (with_reducible refine LeO.bind ?_ (fun _ => ?_))
      | exact ih0 _ _ _ _
      | exact impl_EdgesOf.mono _ _ _
      | exact impl_ForestNew.mono _ _
      | exact impl_SizeOf.mono _ _ _ _
      | exact impl_TreeOf.mono _ _ _ _
      | exact spec_DrawForestNew.mono _ _
      | exact spec_ForestNew.mono _ _
      | exact LeO.none _
      | refine LeO.ite ?_ ?_
      | refine LeO.bind ?_ (fun _ => ?_)
theorem laws_FnForestNew.mono : ∀ a0 k, LeO (laws_FnForestNew.f k a0) (laws_FnForestNew.f (k + 1) a0) := by
  intro a0 k
  have ih0 := laws_FnForestNew.mono_l k
  unfold laws_FnForestNew.f
  repeat' first
      | (with_reducible exact ih0 _ _ _ _)
      | (with_reducible exact impl_EdgesOf.mono _ _ _)
      | (with_reducible exact impl_ForestNew.mono _ _)
      | (with_reducible exact impl_SizeOf.mono _ _ _ _)
      | (with_reducible exact impl_TreeOf.mono _ _ _ _)
      | (with_reducible exact spec_DrawForestNew.mono _ _)
      | (with_reducible exact spec_ForestNew.mono _ _)
      | (with_reducible exact LeO.refl _)
      | (with_reducible exact LeO.none _)
      | (with_reducible refine LeO.ite ?_ ?_)
      | (with_reducible refine LeO.bind ?_ (fun _ => ?_))
      | exact ih0 _ _ _ _
      | exact impl_EdgesOf.mono _ _ _
      | exact impl_ForestNew.mono _ _
      | exact impl_SizeOf.mono _ _ _ _
      | exact impl_TreeOf.mono _ _ _ _
      | exact spec_DrawForestNew.mono _ _
      | exact spec_ForestNew.mono _ _
      | exact LeO.none _
      | refine LeO.ite ?_ ?_
      | refine LeO.bind ?_ (fun _ => ?_)
set_option maxHeartbeats 8000000 in
set_option maxRecDepth 100000 in
theorem laws_FnForestNew.calls (k : Nat) (A0 : Option Addr) (c0 : Nat) (l0 : List Int) (r : Bool) (w : World) (hr0 : Kd.C (Kd.int .u8) w A0 l0.length l0) (hc0 : l0.length ≤ c0) (h : laws_FnForestNew.f k l0 = some r) :
  Calls Try.prog 13 #[.slice A0 l0.length c0] w fun e w' => e = .returned (.bool r) ∧ Below w.heap.size w w' := by
 have hu89 := Try.underlying89
 have HR0 := Aside0.mk hr0
 have HC0 := Aside0.mk hc0
 clear hr0 hc0
 have HB := Aside0.mk (Below.refl w.heap.size w)
 have H : ((laws_big.f l0).bind fun t327 => (if t327 = true then (some true) else ((spec_DrawForestNew.f k l0).bind fun t328 => ((impl_ForestNew.f k t328).bind fun bt329 => ((spec_ForestNew.f k t328).bind fun bt335 => (if (bt329.2.2 != bt335.2.2) = true then (some false) else (if bt329.2.2 = true then (laws_FnForestNew.l0 k t328 0 bt329.1 bt329.2.1) else (some ((bt329.2.1.length : Int) == 0))))))))) = some r := h
 clear h
 obtain ⟨t327, A20, H⟩ := Option.bind_eq_some_iff.mp H; have A2 := Aside0.mk A20; clear A20
 by_cases c3 : t327 = true
 ·subst c3
  rw [if_pos rfl] at H
  obtain rfl := Option.some.inj H
  go_enter Try.func13, Try.ntmps13
  go_wp2_with (first | ((with_reducible refine gate_callee (f := 28) rfl ?_); refine gl_ (some 10) Try.func28 #[.slice A0 l0.length c0] ?_; (with_reducible refine (laws_big.calls _ _ l0 true _ ?side1 ?side2 A2.out).mono ?_); (case side1 => exact qD_ HR0.out); (case side2 => exact HC0.out); rintro e w' ⟨rfl, ⟨nd, rfl⟩⟩; refine ⟨_, rfl, ?_⟩))
  go_ret
  exact ⟨qr_, qB_⟩
 ·replace c3 := Bool.eq_false_iff.mpr c3
  subst c3
  rw [if_neg (show ¬ (false = true) by decide)] at H
  obtain ⟨t328, A40, H⟩ := Option.bind_eq_some_iff.mp H; have A4 := Aside0.mk A40; clear A40
  replace H := Option.bind_eq_some_iff.mp H
  obtain ⟨⟨t329, t330, t333⟩, A50, H⟩ := H
  replace H : ((spec_ForestNew.f k t328).bind fun bt335 => (if (t333 != bt335.2.2) = true then (some false) else (if t333 = true then (laws_FnForestNew.l0 k t328 0 t329 t330) else (some ((t330.length : Int) == 0))))) = some r := H
  have A5 := Aside0.mk A50
  clear A50
  replace H := Option.bind_eq_some_iff.mp H
  obtain ⟨⟨t335, t336, t339⟩, A60, H⟩ := H
  replace H : (if (t333 != t339) = true then (some false) else (if t333 = true then (laws_FnForestNew.l0 k t328 0 t329 t330) else (some ((t330.length : Int) == 0)))) = some r := H
  have A6 := Aside0.mk A60
  clear A60
  by_cases c7 : (t333 != t339) = true
  ·rw [if_pos c7] at H
   have c7b0 : (t333 != t339) = true := c7
   (try (have c7b1 : decide (t333 = t339) = false := by simpa using c7))
   (try (have c7b2 : (t333 == t339) = false := by simpa using c7))
   (try (have c7b3 : ¬ (t333 = t339) := by simpa using c7))
   clear c7
   obtain rfl := Option.some.inj H
   go_enter Try.func13, Try.ntmps13
   go_wp2_with (first | ((with_reducible refine gate_callee (f := 28) rfl ?_); refine gl_ (some 10) Try.func28 #[.slice A0 l0.length c0] ?_; (with_reducible refine (laws_big.calls _ _ l0 false _ ?side1 ?side2 A2.out).mono ?_); (case side1 => exact qD_ HR0.out); (case side2 => exact HC0.out); rintro e w' ⟨rfl, ⟨nd, rfl⟩⟩; refine ⟨_, rfl, ?_⟩) | ((with_reducible refine gate_callee (f := 56) rfl ?_); refine gl_ (some 12) Try.func56 #[.slice A0 l0.length c0] ?_; (with_reducible refine (spec_DrawForestNew.calls k _ _ l0 t328 _ ?side1 ?side2 A4.out).mono ?_); (case side1 => exact qD_ HR0.out); (case side2 => exact HC0.out); rintro e w8 ⟨rfl, hb⟩; refine ⟨_, rfl, ?_⟩; replace HB := Aside0.mk (below_step qB_ hb); (try clear hb); (try clear hb2); (try clear hk); (try clear hi)) | ((with_reducible refine gate_callee (f := 57) rfl ?_); refine gl_ (some 15) Try.func57 #[.int .i64 t328] ?_; (with_reducible refine (impl_ForestNew.calls k t328 t329 t330 t333 _ A5.out).mono ?_); rintro e w9 ⟨v331, rfl, ho0, hb⟩; refine ⟨_, rfl, ?_⟩; have HO332 := Aside0.mk (Kd.S_lower ho0 (below_size qB_)); replace HB := Aside0.mk (below_step qB_ hb); (try clear hb); (try clear hb2); (try clear hk); (try clear hi); (try clear ho0)) | ((with_reducible refine gate_dst (N := 4) rfl ?_); (try (refine gate_guard (by rfl) ?_; dsimp only)); refine bx_ 4 (cs := #[.int .i64 0, .slice none 0 0]) (t := 89) ?_; intro gb334 hg w10 hbox hb; have BK334 := Aside0.mk (hbox); have GW334 := Aside0.mk ((qs_ : w.heap.size ≤ gb334)); have GE334 := Aside0.mk ((qs_ : w.heap.size ≤ gb334)); replace HO332 := Aside0.mk (Kd.S_below (qS_ HO332) hb); replace HB := Aside0.mk (below_step qB_ hb); clear hb hbox hg; obtain ⟨hcz11_0, hcz11_1, hfz11_0, hfz11_1⟩ := bc2_ BK334; obtain ⟨Ao12, co12, eo12⟩ := Kd.S_slice HO332.out; subst eo12) | ((with_reducible refine gate_callee (f := 58) rfl ?_); refine gl_ (some 20) Try.func58 #[.int .i64 t328] ?_; (with_reducible refine (spec_ForestNew.calls k t328 t335 t336 t339 _ A6.out).mono ?_); rintro e w13 ⟨v337, rfl, ho0, hb⟩; refine ⟨_, rfl, ?_⟩; have HO338 := Aside0.mk (Kd.S_lower (Kd.S_new' ho0 (Kd.S_lt (by (with_reducible repeat (first | apply Kd.S_alloc | apply Kd.S_drewN | apply Kd.S_drew)); exact (Kd.S_mono (Kd.S_far (p := ⟨gb334, 1, none⟩) (Kd.S_far (p := ⟨gb334, 0, none⟩) (Kd.S_types HO332.out BK334.out (by decide)) (fun _ hk => hk.2) (.int .i64 t329)) (fun _ hk => hk.2) (.slice Ao12 t330.length co12)) (fun _ h_ => h_.1))))) (below_size qB_)); replace HO332 := Aside0.mk (Kd.S_elder' (by (with_reducible repeat (first | apply Kd.S_alloc | apply Kd.S_drewN | apply Kd.S_drew)); exact (Kd.S_mono (Kd.S_far (p := ⟨gb334, 1, none⟩) (Kd.S_far (p := ⟨gb334, 0, none⟩) (Kd.S_types HO332.out BK334.out (by decide)) (fun _ hk => hk.2) (.int .i64 t329)) (fun _ hk => hk.2) (.slice Ao12 t330.length co12)) (fun _ h_ => h_.1))) (Kd.S_base ho0) hb); replace BK334 := Aside0.mk (blk_below (g := gb334) (o := .cells #[.int .i64 t329, .slice Ao12 t330.length co12] 89 (0, 0)) (by (with_reducible repeat (first | refine blk_drewN ?_ _ | refine blk_drew ?_ | refine blk_alloc ?_ _)); refine blk_put (cs := #[.int .i64 t329, .slice none 0 0]) ?_ 1 _ rfl; (with_reducible repeat (first | refine blk_drewN ?_ _ | refine blk_drew ?_ | refine blk_alloc ?_ _)); refine blk_put (cs := #[.int .i64 0, .slice none 0 0]) ?_ 0 _ rfl; (with_reducible repeat (first | refine blk_drewN ?_ _ | refine blk_drew ?_ | refine blk_alloc ?_ _)); exact BK334.out) hb); replace HB := Aside0.mk (below_step qB_ hb); (try clear hb); (try clear hb2); (try clear hk); (try clear hi); (try clear ho0)) | ((with_reducible refine gate_dst (N := 6) rfl ?_); (try (refine gate_guard (by rfl) ?_; dsimp only)); refine bx_ 6 (cs := #[.int .i64 0, .slice none 0 0]) (t := 89) ?_; intro gb340 hg w14 hbox hb; have BK340 := Aside0.mk (hbox); have GW340 := Aside0.mk ((qs_ : w.heap.size ≤ gb340)); have GE340 := Aside0.mk ((qs_ : w.heap.size ≤ gb340)); have NB334_340 := Aside0.mk ((by rw [hg]; exact Nat.ne_of_lt (blk_lt (qk_ BK334)) : gb334 ≠ gb340)); have NB340_334 := Aside0.mk ((by rw [hg]; exact Nat.ne_of_gt (blk_lt (qk_ BK334)) : gb340 ≠ gb334)); replace HO332 := Aside0.mk (Kd.S_below (qS_ HO332) hb); replace HO338 := Aside0.mk (Kd.S_below (qS_ HO338) hb); replace BK334 := Aside0.mk (blk_below (qk_ BK334) hb); replace HB := Aside0.mk (below_step qB_ hb); clear hb hbox hg; have hnb15 := NB340_334.out; have hnc15 := NB334_340.out; obtain ⟨hcz16_0, hcz16_1, hfz16_0, hfz16_1⟩ := bc2_ BK340; obtain ⟨Ao17, co17, eo17⟩ := Kd.S_slice HO338.out; subst eo17))
   go_ret
   exact ⟨qr_, qB_⟩
  ·rw [if_neg c7] at H
   have c7b0 : (t333 != t339) = false := by simpa using c7
   (try (have c7b1 : decide (t333 = t339) = true := by simpa using c7))
   (try (have c7b2 : (t333 == t339) = true := by simpa using c7))
   clear c7
   by_cases c18 : t333 = true
   ·subst c18
    rw [if_pos rfl] at H; have H' := Aside0.mk H; clear H
    go_enter Try.func13, Try.ntmps13
    go_wp2_with (first | ((with_reducible refine gate_callee (f := 28) rfl ?_); refine gl_ (some 10) Try.func28 #[.slice A0 l0.length c0] ?_; (with_reducible refine (laws_big.calls _ _ l0 false _ ?side1 ?side2 A2.out).mono ?_); (case side1 => exact qD_ HR0.out); (case side2 => exact HC0.out); rintro e w' ⟨rfl, ⟨nd, rfl⟩⟩; refine ⟨_, rfl, ?_⟩) | ((with_reducible refine gate_callee (f := 56) rfl ?_); refine gl_ (some 12) Try.func56 #[.slice A0 l0.length c0] ?_; (with_reducible refine (spec_DrawForestNew.calls k _ _ l0 t328 _ ?side1 ?side2 A4.out).mono ?_); (case side1 => exact qD_ HR0.out); (case side2 => exact HC0.out); rintro e w19 ⟨rfl, hb⟩; refine ⟨_, rfl, ?_⟩; replace HB := Aside0.mk (below_step qB_ hb); (try clear hb); (try clear hb2); (try clear hk); (try clear hi)) | ((with_reducible refine gate_callee (f := 57) rfl ?_); refine gl_ (some 15) Try.func57 #[.int .i64 t328] ?_; (with_reducible refine (impl_ForestNew.calls k t328 t329 t330 true _ A5.out).mono ?_); rintro e w20 ⟨v331, rfl, ho0, hb⟩; refine ⟨_, rfl, ?_⟩; have HO332 := Aside0.mk (Kd.S_lower ho0 (below_size qB_)); replace HB := Aside0.mk (below_step qB_ hb); (try clear hb); (try clear hb2); (try clear hk); (try clear hi); (try clear ho0)) | ((with_reducible refine gate_dst (N := 4) rfl ?_); (try (refine gate_guard (by rfl) ?_; dsimp only)); refine bx_ 4 (cs := #[.int .i64 0, .slice none 0 0]) (t := 89) ?_; intro gb334 hg w21 hbox hb; have BK334 := Aside0.mk (hbox); have GW334 := Aside0.mk ((qs_ : w.heap.size ≤ gb334)); have GE334 := Aside0.mk ((qs_ : w.heap.size ≤ gb334)); replace HO332 := Aside0.mk (Kd.S_below (qS_ HO332) hb); replace HB := Aside0.mk (below_step qB_ hb); clear hb hbox hg; obtain ⟨hcz22_0, hcz22_1, hfz22_0, hfz22_1⟩ := bc2_ BK334; obtain ⟨Ao23, co23, eo23⟩ := Kd.S_slice HO332.out; subst eo23) | ((with_reducible refine gate_callee (f := 58) rfl ?_); refine gl_ (some 20) Try.func58 #[.int .i64 t328] ?_; (with_reducible refine (spec_ForestNew.calls k t328 t335 t336 t339 _ A6.out).mono ?_); rintro e w24 ⟨v337, rfl, ho0, hb⟩; refine ⟨_, rfl, ?_⟩; have HO338 := Aside0.mk (Kd.S_lower (Kd.S_new' ho0 (Kd.S_lt (by (with_reducible repeat (first | apply Kd.S_alloc | apply Kd.S_drewN | apply Kd.S_drew)); exact (Kd.S_mono (Kd.S_far (p := ⟨gb334, 1, none⟩) (Kd.S_far (p := ⟨gb334, 0, none⟩) (Kd.S_types HO332.out BK334.out (by decide)) (fun _ hk => hk.2) (.int .i64 t329)) (fun _ hk => hk.2) (.slice Ao23 t330.length co23)) (fun _ h_ => h_.1))))) (below_size qB_)); replace HO332 := Aside0.mk (Kd.S_elder' (by (with_reducible repeat (first | apply Kd.S_alloc | apply Kd.S_drewN | apply Kd.S_drew)); exact (Kd.S_mono (Kd.S_far (p := ⟨gb334, 1, none⟩) (Kd.S_far (p := ⟨gb334, 0, none⟩) (Kd.S_types HO332.out BK334.out (by decide)) (fun _ hk => hk.2) (.int .i64 t329)) (fun _ hk => hk.2) (.slice Ao23 t330.length co23)) (fun _ h_ => h_.1))) (Kd.S_base ho0) hb); replace BK334 := Aside0.mk (blk_below (g := gb334) (o := .cells #[.int .i64 t329, .slice Ao23 t330.length co23] 89 (0, 0)) (by (with_reducible repeat (first | refine blk_drewN ?_ _ | refine blk_drew ?_ | refine blk_alloc ?_ _)); refine blk_put (cs := #[.int .i64 t329, .slice none 0 0]) ?_ 1 _ rfl; (with_reducible repeat (first | refine blk_drewN ?_ _ | refine blk_drew ?_ | refine blk_alloc ?_ _)); refine blk_put (cs := #[.int .i64 0, .slice none 0 0]) ?_ 0 _ rfl; (with_reducible repeat (first | refine blk_drewN ?_ _ | refine blk_drew ?_ | refine blk_alloc ?_ _)); exact BK334.out) hb); replace HB := Aside0.mk (below_step qB_ hb); (try clear hb); (try clear hb2); (try clear hk); (try clear hi); (try clear ho0)) | ((with_reducible refine gate_dst (N := 6) rfl ?_); (try (refine gate_guard (by rfl) ?_; dsimp only)); refine bx_ 6 (cs := #[.int .i64 0, .slice none 0 0]) (t := 89) ?_; intro gb340 hg w25 hbox hb; have BK340 := Aside0.mk (hbox); have GW340 := Aside0.mk ((qs_ : w.heap.size ≤ gb340)); have GE340 := Aside0.mk ((qs_ : w.heap.size ≤ gb340)); have NB334_340 := Aside0.mk ((by rw [hg]; exact Nat.ne_of_lt (blk_lt (qk_ BK334)) : gb334 ≠ gb340)); have NB340_334 := Aside0.mk ((by rw [hg]; exact Nat.ne_of_gt (blk_lt (qk_ BK334)) : gb340 ≠ gb334)); replace HO332 := Aside0.mk (Kd.S_below (qS_ HO332) hb); replace HO338 := Aside0.mk (Kd.S_below (qS_ HO338) hb); replace BK334 := Aside0.mk (blk_below (qk_ BK334) hb); replace HB := Aside0.mk (below_step qB_ hb); clear hb hbox hg; have hnb26 := NB340_334.out; have hnc26 := NB334_340.out; obtain ⟨hcz27_0, hcz27_1, hfz27_0, hfz27_1⟩ := bc2_ BK340; obtain ⟨Ao28, co28, eo28⟩ := Kd.S_slice HO338.out; subst eo28))
    go_loopg [8] k (fun kq v8 w' => ∃ (x8_1 : Int), v8 = .int .i64 x8_1 ∧ Aside0 (laws_FnForestNew.l0 kq t328 x8_1 t329 t330 = some r) ∧ Aside0 (kq ≤ k) ∧ Aside0 (Kd.S (Kd.slice 3 (Kd.int .i64)) 22 w' w.heap.size (fun k_ => some k_ ≠ ((.slice Ao28 t336.length co28) : Value).ownBlock) (.slice Ao23 t330.length co23) t330) ∧ Aside0 (Kd.S (Kd.slice 3 (Kd.int .i64)) 22 w' w.heap.size (fun k_ => some k_ ≠ ((.slice Ao23 t330.length co23) : Value).ownBlock) (.slice Ao28 t336.length co28) t336) ∧ Aside0 (w'.heap[gb334]? = some (.cells #[.int .i64 t329, (.slice Ao23 t330.length co23)] 89 (0, 0))) ∧ Aside0 (w'.heap[gb340]? = some (.cells #[.int .i64 t335, (.slice Ao28 t336.length co28)] 89 (0, 0))) ∧ Aside0 (Below w.heap.size w w'))
    case atStart => exact ⟨(0), qe_, H', ⟨Nat.le_refl _⟩, ⟨by (with_reducible repeat (first | apply Kd.S_alloc | apply Kd.S_drewN | apply Kd.S_drew)); exact Kd.S_mono (Kd.S_far (p := ⟨gb340, 1, none⟩) (Kd.S_far (p := ⟨gb340, 0, none⟩) (Kd.S_types HO332.out BK340.out (by decide)) (fun _ hk => hk.2) (.int .i64 t335)) (fun _ hk => hk.2) (.slice Ao28 t336.length co28)) (fun _ hk => hk.1.2)⟩, ⟨by (with_reducible repeat (first | apply Kd.S_alloc | apply Kd.S_drewN | apply Kd.S_drew)); exact Kd.S_mono (Kd.S_far (p := ⟨gb340, 1, none⟩) (Kd.S_far (p := ⟨gb340, 0, none⟩) (Kd.S_types HO338.out BK340.out (by decide)) (fun _ hk => hk.2) (.int .i64 t335)) (fun _ hk => hk.2) (.slice Ao28 t336.length co28)) (fun _ hk => hk.1.2)⟩, ⟨by (with_reducible repeat (first | refine blk_drewN ?_ _ | refine blk_drew ?_ | refine blk_alloc ?_ _)); refine blk_far ?_ NB334_340.out _; (with_reducible repeat (first | refine blk_drewN ?_ _ | refine blk_drew ?_ | refine blk_alloc ?_ _)); refine blk_far ?_ NB334_340.out _; (with_reducible repeat (first | refine blk_drewN ?_ _ | refine blk_drew ?_ | refine blk_alloc ?_ _)); exact BK334.out⟩, ⟨by (with_reducible repeat (first | refine blk_drewN ?_ _ | refine blk_drew ?_ | refine blk_alloc ?_ _)); refine blk_put (cs := #[.int .i64 t335, .slice none 0 0]) ?_ 1 _ rfl; (with_reducible repeat (first | refine blk_drewN ?_ _ | refine blk_drew ?_ | refine blk_alloc ?_ _)); refine blk_put (cs := #[.int .i64 0, .slice none 0 0]) ?_ 0 _ rfl; (with_reducible repeat (first | refine blk_drewN ?_ _ | refine blk_drew ?_ | refine blk_alloc ?_ _)); exact BK340.out⟩, ⟨qB_⟩⟩
    case round =>
     clear H'
     (try clear c1); (try clear c2); (try clear p2); (try clear c3); (try clear c5); (try clear c7); (try clear c7b0); (try clear c7b1); (try clear c7b2); (try clear c13); (try clear c15); (try clear c18); (try clear c26); (try clear c28); (try clear hcz11_0); (try clear hcz11_1); (try clear hcz16_0); (try clear hcz16_1); (try clear hcz22_0); (try clear hcz22_1); (try clear hcz27_0); (try clear hcz27_1); (try clear hfz11_0); (try clear hfz11_1); (try clear hfz16_0); (try clear hfz16_1); (try clear hfz22_0); (try clear hfz22_1); (try clear hfz27_0); (try clear hfz27_1)
     obtain ⟨x8_1, rfl, HA, HK1, HO_335001, HO_341001, BK334, BK340, HB⟩ := hrel
     cases gk with
     | zero => exact absurd HA.out (by simp [laws_FnForestNew.l0])
     | succ k1 =>
      have H := HA.out; clear HA
      simp only [laws_FnForestNew.l0] at H
      by_cases c29 : x8_1 < t328
      ·rw [if_pos c29] at H
       have c29b0 : decide (x8_1 < t328) = true := decide_eq_true c29
       clear c29
       obtain ⟨t344, A300, H⟩ := Option.bind_eq_some_iff.mp H; have A30 := Aside0.mk A300; clear A300
       by_cases c31 : t344 = x8_1
       ·rw [if_pos c31] at H
        have c31b0 : (t344 == x8_1) = true := beq_iff_eq.mpr c31
        have c31b1 : (t344 != x8_1) = false := bne_eq_false_iff_eq.mpr c31
        clear c31
        obtain ⟨t345, A320, H⟩ := Option.bind_eq_some_iff.mp H; have A32 := Aside0.mk A320; clear A320
        by_cases c33 : t345 = 1
        ·rw [if_pos c33] at H
         have c33b0 : (t345 == 1) = true := beq_iff_eq.mpr c33
         have c33b1 : (t345 != 1) = false := bne_eq_false_iff_eq.mpr c33
         clear c33; have H' := Aside0.mk H; clear H; have hnb34 := NB334_340.out; have hnc34 := NB340_334.out
         obtain ⟨hcz35_0, hcz35_1, hfz35_0, hfz35_1⟩ := bc2_ BK334
         go_wp2_with (first | ((with_reducible refine gate_callee (f := 59) rfl ?_); refine gl_ (some 39) Try.func59 #[.agg #[.int .i64 t329, .slice Ao23 t330.length co23], .int .i64 x8_1] ?_; (with_reducible refine (impl_TreeOf.calls k1 t329 _ _ t330 x8_1 t344 _ ?side1 ?side2 A30.out).mono ?_); (case side1 => exact qD_ (Kd.S_reads' HO_335001.out).2.2); (case side2 => exact (Kd.S_reads' HO_335001.out).2.1); rintro e w36 ⟨rfl, hb⟩; refine ⟨_, rfl, ?_⟩; replace HO_335001 := Aside0.mk (Kd.S_below (qS_ HO_335001) hb); replace HO_341001 := Aside0.mk (Kd.S_below (qS_ HO_341001) hb); replace BK334 := Aside0.mk (blk_below (qk_ BK334) hb); replace BK340 := Aside0.mk (blk_below (qk_ BK340) hb); replace HB := Aside0.mk (below_step qB_ hb); (try clear hb); (try clear hb2); (try clear hk); (try clear hi); obtain ⟨hcz37_0, hcz37_1, hfz37_0, hfz37_1⟩ := bc2_ BK334) | (go_at_call 60; (with_reducible refine (impl_SizeOf.calls k1 t329 _ _ t330 x8_1 t345 _ ?side1 ?side2 A32.out).mono ?_); (case side1 => exact qD_ (Kd.S_reads' HO_335001.out).2.2); (case side2 => exact (Kd.S_reads' HO_335001.out).2.1); rintro e w38 ⟨rfl, hb⟩; replace HO_335001 := Aside0.mk (Kd.S_below (qS_ HO_335001) hb); replace HO_341001 := Aside0.mk (Kd.S_below (qS_ HO_341001) hb); replace BK334 := Aside0.mk (blk_below (qk_ BK334) hb); replace BK340 := Aside0.mk (blk_below (qk_ BK340) hb); replace HB := Aside0.mk (below_step qB_ hb); (try clear hb); (try clear hb2); (try clear hk); (try clear hi)))
         go_roundg k1
         case measure => have := HK1.out; omega
         case rel => exact ⟨(wrap64 (x8_1 + 1)), qe_, H', ⟨by have := HK1.out; omega⟩, ⟨by (with_reducible repeat (first | apply Kd.S_alloc | apply Kd.S_drewN | apply Kd.S_drew)); first | exact HO_335001.out | (have h_ := HO_335001.out; simp only [own_slice] at h_ ⊢; exact h_)⟩, ⟨by (with_reducible repeat (first | apply Kd.S_alloc | apply Kd.S_drewN | apply Kd.S_drew)); first | exact HO_341001.out | (have h_ := HO_341001.out; simp only [own_slice] at h_ ⊢; exact h_)⟩, ⟨qk_ BK334⟩, ⟨qk_ BK340⟩, ⟨qB_⟩⟩
        ·rw [if_neg c33] at H
         have c33b0 : (t345 == 1) = false := beq_eq_false_iff_ne.mpr c33
         have c33b1 : (t345 != 1) = true := bne_iff_ne.mpr c33
         obtain rfl := Option.some.inj H
         have hnb39 := NB334_340.out; have hnc39 := NB340_334.out
         obtain ⟨hcz40_0, hcz40_1, hfz40_0, hfz40_1⟩ := bc2_ BK334
         go_wp2_with (first | ((with_reducible refine gate_callee (f := 59) rfl ?_); refine gl_ (some 39) Try.func59 #[.agg #[.int .i64 t329, .slice Ao23 t330.length co23], .int .i64 x8_1] ?_; (with_reducible refine (impl_TreeOf.calls k1 t329 _ _ t330 x8_1 t344 _ ?side1 ?side2 A30.out).mono ?_); (case side1 => exact qD_ (Kd.S_reads' HO_335001.out).2.2); (case side2 => exact (Kd.S_reads' HO_335001.out).2.1); rintro e w41 ⟨rfl, hb⟩; refine ⟨_, rfl, ?_⟩; replace HO_335001 := Aside0.mk (Kd.S_below (qS_ HO_335001) hb); replace HO_341001 := Aside0.mk (Kd.S_below (qS_ HO_341001) hb); replace BK334 := Aside0.mk (blk_below (qk_ BK334) hb); replace BK340 := Aside0.mk (blk_below (qk_ BK340) hb); replace HB := Aside0.mk (below_step qB_ hb); (try clear hb); (try clear hb2); (try clear hk); (try clear hi); obtain ⟨hcz42_0, hcz42_1, hfz42_0, hfz42_1⟩ := bc2_ BK334) | (go_at_call 60; (with_reducible refine (impl_SizeOf.calls k1 t329 _ _ t330 x8_1 t345 _ ?side1 ?side2 A32.out).mono ?_); (case side1 => exact qD_ (Kd.S_reads' HO_335001.out).2.2); (case side2 => exact (Kd.S_reads' HO_335001.out).2.1); rintro e w43 ⟨rfl, hb⟩; replace HO_335001 := Aside0.mk (Kd.S_below (qS_ HO_335001) hb); replace HO_341001 := Aside0.mk (Kd.S_below (qS_ HO_341001) hb); replace BK334 := Aside0.mk (blk_below (qk_ BK334) hb); replace BK340 := Aside0.mk (blk_below (qk_ BK340) hb); replace HB := Aside0.mk (below_step qB_ hb); (try clear hb); (try clear hb2); (try clear hk); (try clear hi)))
         go_ret
         exact ⟨qr_, qB_⟩
       ·rw [if_neg c31] at H
        have c31b0 : (t344 == x8_1) = false := beq_eq_false_iff_ne.mpr c31
        have c31b1 : (t344 != x8_1) = true := bne_iff_ne.mpr c31
        obtain rfl := Option.some.inj H
        have hnb44 := NB334_340.out; have hnc44 := NB340_334.out
        obtain ⟨hcz45_0, hcz45_1, hfz45_0, hfz45_1⟩ := bc2_ BK334
        go_wp2_with (first | ((with_reducible refine gate_callee (f := 59) rfl ?_); refine gl_ (some 39) Try.func59 #[.agg #[.int .i64 t329, .slice Ao23 t330.length co23], .int .i64 x8_1] ?_; (with_reducible refine (impl_TreeOf.calls k1 t329 _ _ t330 x8_1 t344 _ ?side1 ?side2 A30.out).mono ?_); (case side1 => exact qD_ (Kd.S_reads' HO_335001.out).2.2); (case side2 => exact (Kd.S_reads' HO_335001.out).2.1); rintro e w46 ⟨rfl, hb⟩; refine ⟨_, rfl, ?_⟩; replace HO_335001 := Aside0.mk (Kd.S_below (qS_ HO_335001) hb); replace HO_341001 := Aside0.mk (Kd.S_below (qS_ HO_341001) hb); replace BK334 := Aside0.mk (blk_below (qk_ BK334) hb); replace BK340 := Aside0.mk (blk_below (qk_ BK340) hb); replace HB := Aside0.mk (below_step qB_ hb); (try clear hb); (try clear hb2); (try clear hk); (try clear hi)))
        go_ret
        exact ⟨qr_, qB_⟩
      ·rw [if_neg c29] at H
       have c29b0 : decide (x8_1 < t328) = false := decide_eq_false c29
       clear c29
       by_cases c47 : (t330.length : Int) = t328
       ·rw [if_pos c47] at H
        have c47b0 : ((t330.length : Int) == t328) = true := beq_iff_eq.mpr c47
        have c47b1 : ((t330.length : Int) != t328) = false := bne_eq_false_iff_eq.mpr c47
        clear c47
        obtain ⟨t341, A480, H⟩ := Option.bind_eq_some_iff.mp H; have A48 := Aside0.mk A480; clear A480
        obtain rfl := Option.some.inj H
        have hnb49 := NB334_340.out; have hnc49 := NB340_334.out
        obtain ⟨hcz50_0, hcz50_1, hfz50_0, hfz50_1⟩ := bc2_ BK334
        go_wp2_with (first | (go_at_call 61; (with_reducible refine (impl_EdgesOf.calls k1 t329 _ _ t330 t341 _ ?side1 ?side2 A48.out).mono ?_); (case side1 => exact qD_ (Kd.S_reads' HO_335001.out).2.2); (case side2 => exact (Kd.S_reads' HO_335001.out).2.1); rintro e w51 ⟨v342, rfl, ho0, hb⟩; have HO343 := Aside0.mk (Kd.R_lower ho0 (below_size qB_)); replace HO_335001 := Aside0.mk (Kd.S_below (qS_ HO_335001) hb); replace HO_341001 := Aside0.mk (Kd.S_below (qS_ HO_341001) hb); replace BK334 := Aside0.mk (blk_below (qk_ BK334) hb); replace BK340 := Aside0.mk (blk_below (qk_ BK340) hb); replace HB := Aside0.mk (below_step qB_ hb); (try clear hb); (try clear hb2); (try clear hk); (try clear hi); (try clear ho0); obtain ⟨Ao52, co52, eo52⟩ := Kd.R_slice HO343.out; subst eo52))
        go_ret
        exact ⟨qr_, qB_⟩
       ·rw [if_neg c47] at H
        have c47b0 : ((t330.length : Int) == t328) = false := beq_eq_false_iff_ne.mpr c47
        have c47b1 : ((t330.length : Int) != t328) = true := bne_iff_ne.mpr c47
        obtain rfl := Option.some.inj H
        have hnb53 := NB334_340.out; have hnc53 := NB340_334.out
        obtain ⟨hcz54_0, hcz54_1, hfz54_0, hfz54_1⟩ := bc2_ BK334
        go_wp2
        go_ret
        exact ⟨qr_, qB_⟩
   ·replace c18 := Bool.eq_false_iff.mpr c18
    subst c18
    rw [if_neg (show ¬ (false = true) by decide)] at H
    obtain rfl := Option.some.inj H
    go_enter Try.func13, Try.ntmps13
    go_wp2_with (first | ((with_reducible refine gate_callee (f := 28) rfl ?_); refine gl_ (some 10) Try.func28 #[.slice A0 l0.length c0] ?_; (with_reducible refine (laws_big.calls _ _ l0 false _ ?side1 ?side2 A2.out).mono ?_); (case side1 => exact qD_ HR0.out); (case side2 => exact HC0.out); rintro e w' ⟨rfl, ⟨nd, rfl⟩⟩; refine ⟨_, rfl, ?_⟩) | ((with_reducible refine gate_callee (f := 56) rfl ?_); refine gl_ (some 12) Try.func56 #[.slice A0 l0.length c0] ?_; (with_reducible refine (spec_DrawForestNew.calls k _ _ l0 t328 _ ?side1 ?side2 A4.out).mono ?_); (case side1 => exact qD_ HR0.out); (case side2 => exact HC0.out); rintro e w55 ⟨rfl, hb⟩; refine ⟨_, rfl, ?_⟩; replace HB := Aside0.mk (below_step qB_ hb); (try clear hb); (try clear hb2); (try clear hk); (try clear hi)) | ((with_reducible refine gate_callee (f := 57) rfl ?_); refine gl_ (some 15) Try.func57 #[.int .i64 t328] ?_; (with_reducible refine (impl_ForestNew.calls k t328 t329 t330 false _ A5.out).mono ?_); rintro e w56 ⟨v331, rfl, ho0, hb⟩; refine ⟨_, rfl, ?_⟩; have HO332 := Aside0.mk (Kd.S_lower ho0 (below_size qB_)); replace HB := Aside0.mk (below_step qB_ hb); (try clear hb); (try clear hb2); (try clear hk); (try clear hi); (try clear ho0)) | ((with_reducible refine gate_dst (N := 4) rfl ?_); (try (refine gate_guard (by rfl) ?_; dsimp only)); refine bx_ 4 (cs := #[.int .i64 0, .slice none 0 0]) (t := 89) ?_; intro gb334 hg w57 hbox hb; have BK334 := Aside0.mk (hbox); have GW334 := Aside0.mk ((qs_ : w.heap.size ≤ gb334)); have GE334 := Aside0.mk ((qs_ : w.heap.size ≤ gb334)); replace HO332 := Aside0.mk (Kd.S_below (qS_ HO332) hb); replace HB := Aside0.mk (below_step qB_ hb); clear hb hbox hg; obtain ⟨hcz58_0, hcz58_1, hfz58_0, hfz58_1⟩ := bc2_ BK334; obtain ⟨Ao59, co59, eo59⟩ := Kd.S_slice HO332.out; subst eo59) | ((with_reducible refine gate_callee (f := 58) rfl ?_); refine gl_ (some 20) Try.func58 #[.int .i64 t328] ?_; (with_reducible refine (spec_ForestNew.calls k t328 t335 t336 t339 _ A6.out).mono ?_); rintro e w60 ⟨v337, rfl, ho0, hb⟩; refine ⟨_, rfl, ?_⟩; have HO338 := Aside0.mk (Kd.S_lower (Kd.S_new' ho0 (Kd.S_lt (by (with_reducible repeat (first | apply Kd.S_alloc | apply Kd.S_drewN | apply Kd.S_drew)); exact (Kd.S_mono (Kd.S_far (p := ⟨gb334, 1, none⟩) (Kd.S_far (p := ⟨gb334, 0, none⟩) (Kd.S_types HO332.out BK334.out (by decide)) (fun _ hk => hk.2) (.int .i64 t329)) (fun _ hk => hk.2) (.slice Ao59 t330.length co59)) (fun _ h_ => h_.1))))) (below_size qB_)); replace HO332 := Aside0.mk (Kd.S_elder' (by (with_reducible repeat (first | apply Kd.S_alloc | apply Kd.S_drewN | apply Kd.S_drew)); exact (Kd.S_mono (Kd.S_far (p := ⟨gb334, 1, none⟩) (Kd.S_far (p := ⟨gb334, 0, none⟩) (Kd.S_types HO332.out BK334.out (by decide)) (fun _ hk => hk.2) (.int .i64 t329)) (fun _ hk => hk.2) (.slice Ao59 t330.length co59)) (fun _ h_ => h_.1))) (Kd.S_base ho0) hb); replace BK334 := Aside0.mk (blk_below (g := gb334) (o := .cells #[.int .i64 t329, .slice Ao59 t330.length co59] 89 (0, 0)) (by (with_reducible repeat (first | refine blk_drewN ?_ _ | refine blk_drew ?_ | refine blk_alloc ?_ _)); refine blk_put (cs := #[.int .i64 t329, .slice none 0 0]) ?_ 1 _ rfl; (with_reducible repeat (first | refine blk_drewN ?_ _ | refine blk_drew ?_ | refine blk_alloc ?_ _)); refine blk_put (cs := #[.int .i64 0, .slice none 0 0]) ?_ 0 _ rfl; (with_reducible repeat (first | refine blk_drewN ?_ _ | refine blk_drew ?_ | refine blk_alloc ?_ _)); exact BK334.out) hb); replace HB := Aside0.mk (below_step qB_ hb); (try clear hb); (try clear hb2); (try clear hk); (try clear hi); (try clear ho0)) | ((with_reducible refine gate_dst (N := 6) rfl ?_); (try (refine gate_guard (by rfl) ?_; dsimp only)); refine bx_ 6 (cs := #[.int .i64 0, .slice none 0 0]) (t := 89) ?_; intro gb340 hg w61 hbox hb; have BK340 := Aside0.mk (hbox); have GW340 := Aside0.mk ((qs_ : w.heap.size ≤ gb340)); have GE340 := Aside0.mk ((qs_ : w.heap.size ≤ gb340)); have NB334_340 := Aside0.mk ((by rw [hg]; exact Nat.ne_of_lt (blk_lt (qk_ BK334)) : gb334 ≠ gb340)); have NB340_334 := Aside0.mk ((by rw [hg]; exact Nat.ne_of_gt (blk_lt (qk_ BK334)) : gb340 ≠ gb334)); replace HO332 := Aside0.mk (Kd.S_below (qS_ HO332) hb); replace HO338 := Aside0.mk (Kd.S_below (qS_ HO338) hb); replace BK334 := Aside0.mk (blk_below (qk_ BK334) hb); replace HB := Aside0.mk (below_step qB_ hb); clear hb hbox hg; have hnb62 := NB340_334.out; have hnc62 := NB334_340.out; obtain ⟨hcz63_0, hcz63_1, hfz63_0, hfz63_1⟩ := bc2_ BK340; obtain ⟨Ao64, co64, eo64⟩ := Kd.S_slice HO338.out; subst eo64; obtain ⟨hcz65_0, hcz65_1, hfz65_0, hfz65_1⟩ := bc2_ BK334))
    go_ret
    exact ⟨qr_, qB_⟩

/-- THE ONE PURE STATEMENT of laws_FnForestNew: yours. -/
def laws_FnForestNew.Pure : Prop := ∀ (l0 : List Int), l0.length ≤ maxLen → l0.length * 1 ≤ 140737488351232 → (∀ x ∈ l0, (Lit.int .u8 x).wf = true) → ∃ k, laws_FnForestNew.f k l0 = some true
theorem laws_FnForestNew.walk (P : laws_FnForestNew.Pure) (a0 : Option Addr) (len0 cap0 : Nat) (z0 : List Int) (w : World) (w0 : (a0 = none ∧ len0 = 0 ∧ cap0 = 0 ∧ z0 = []) ∨ ∃ x, a0 = some x ∧ len0 ≤ cap0 ∧ cap0 ≤ maxLen ∧ z0.length = cap0 ∧ (∀ i, i < z0.length → w.cell? (x.add i) = some (.int .u8 (z0.getD i 0))) ∧ ∀ n ∈ z0, (Lit.int .u8 n).wf = true) (y0 : len0 * 1 ≤ 140737488351232) :
    Calls Try.prog 13 #[.slice a0 len0 cap0] w fun e w' => e = .returned (.bool true) ∧ Below w.heap.size w w' := by
  obtain ⟨l0, rfl, hr0, hm0, hw0, hc0⟩ := ReadsInt.ofRowC w0
  obtain ⟨k, h⟩ := P l0 hm0 y0 hw0
  refine (laws_FnForestNew.calls k _ _ l0 true w (Kd.C_of_reads (d := (0 : Int)) (h1 := fun _ => rfl) hr0) hc0 h).mono ?_
  rintro e w' ⟨rfl, hd⟩
  exact ⟨rfl, hd⟩

end Go.Proofs.Ytigeiofkbccocaa.QFnForestNew
