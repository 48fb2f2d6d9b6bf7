-- printed for this claim by a program of the session's own (no text of the kit's print)
import Derived.Test.YtbkklafkoegdpaaQFnExactWebLabelsx0
import Derived.Test.YtbkklafkoegdpaaQFnExactWebLabelsx2
import Derived.Test.YtbkklafkoegdpaaQFnExactWebLabelsx12
import Derived.Test.YtbkklafkoegdpaaQFnExactWebLabelsx17
namespace Go.Proofs.Ytbkklafkoegdpaa.QFnExactWebLabels
open Go.RowKit Go.Proofs.YtbkklafkoegdpaaW.PrintWords Go.Proofs.YtbkklafkoegdpaaW.PrintLast Go.Proofs.YtbkklafkoegdpaaW.PrintMore
attribute [local go_sem] max2_int min2_int max_two min_two max_three min_three max_four min_four   -- for this text's walks alone
set_option linter.unusedVariables false
set_option linter.unusedSimpArgs false

/-! ### laws_FnExactWebLabels: function 8 -/
def laws_FnExactWebLabels.j0 : Nat → List Int → List Int → Bool → Int → List (S120) → Option (Bool)
  | 0, _, _, _, _, _ => none
  | k + 1, x4, x6, x42, x428000, x428001 => if x42 = true then (some false) else ((laws_markIntS.f k x6 1).bind fun bt453 => ((laws_heldIntS.f k bt453.2 1).bind fun t455 => (if t455 < 0 then (some false) else (if t455 = bt453.1 then ((laws_toWeb.f k x428000 x428001).bind fun bt456 => ((impl_WebLabels.f k bt456.1 bt456.2).bind fun t460 => ((laws_eqIntS.f k t460 x4).bind fun t463 => (if t463 = true then ((laws_heldIntS.f k bt453.2 1).bind fun t464 => (if t464 < 0 then (some false) else (if t464 = bt453.1 then (some true) else (some false)))) else (some false))))) else (some false)))))
def laws_FnExactWebLabels.f (k : Nat) (a0_0 : Int) (l0_1 : List (S120)) : Option (Bool) := (laws_szWeb.f a0_0 l0_1 1048576).bind fun t428 => (if t428 < 0 then (some true) else ((laws_toWeb.f k a0_0 l0_1).bind fun bt429 => ((spec_WebLabels.f k bt429.1 bt429.2).bind fun t433 => ((laws_toWeb.f k a0_0 l0_1).bind fun bt436 => ((impl_WebLabels.f k bt436.1 bt436.2).bind fun t441 => ((laws_eqIntS.f k t441 t433).bind fun t444 => (if t444 = true then ((laws_toWeb.f k a0_0 l0_1).bind fun bt445 => ((laws_eqWeb.f k bt436.1 bt436.2 bt445.1 bt445.2).bind fun t449 => (if t449 = true then ((laws_markWeb.f k bt436.1 bt436.2 1).bind fun bt450 => (if bt450.1 < 0 then (laws_FnExactWebLabels.j0 k t433 t441 true a0_0 l0_1) else ((laws_eqIntS.f k t441 t433).bind fun t452 => (laws_FnExactWebLabels.j0 k t433 t441 (!t452) a0_0 l0_1)))) else (some false)))) else (some false))))))))
theorem laws_FnExactWebLabels.mono_l : ∀ k, (∀ y0 y1 y2 y3 y4, LeO (laws_FnExactWebLabels.j0 k y0 y1 y2 y3 y4) (laws_FnExactWebLabels.j0 (k + 1) y0 y1 y2 y3 y4))
  | 0 => fun _ _ _ _ _ r h => by simp [laws_FnExactWebLabels.j0] at h
  | k + 1 => by
    have ih0 := laws_FnExactWebLabels.mono_l k
    · intro y0 y1 y2 y3 y4
      unfold laws_FnExactWebLabels.j0
      repeat' first
      | (with_reducible exact ih0 _ _ _ _ _)
      | (with_reducible exact impl_WebLabels.mono _ _ _)
      | (with_reducible exact laws_eqIntS.mono _ _ _)
      | (with_reducible exact laws_eqWeb.mono _ _ _ _ _)
      | (with_reducible exact laws_heldIntS.mono _ _ _)
      | (with_reducible exact laws_markIntS.mono _ _ _)
      | (with_reducible exact laws_markWeb.mono _ _ _ _)
      | (with_reducible exact laws_toWeb.mono _ _ _)
      | (with_reducible exact spec_WebLabels.mono _ _ _)
      | (with_reducible exact LeO.refl _)
      | (with_reducible exact LeO.none _)
      | (with_reducible refine LeO.ite ?_ ?_)
      | (with_reducible refine LeO.bind ?_ (fun _ => ?_))
      | exact ih0 _ _ _ _ _
      | exact impl_WebLabels.mono _ _ _
      | exact laws_eqIntS.mono _ _ _
      | exact laws_eqWeb.mono _ _ _ _ _
      | exact laws_heldIntS.mono _ _ _
      | exact laws_markIntS.mono _ _ _
      | exact laws_markWeb.mono _ _ _ _
      | exact laws_toWeb.mono _ _ _
      | exact spec_WebLabels.mono _ _ _
      | exact LeO.none _
      | refine LeO.ite ?_ ?_
      | refine LeO.bind ?_ (fun _ => ?_)
theorem laws_FnExactWebLabels.mono : ∀ a0 a1 k, LeO (laws_FnExactWebLabels.f k a0 a1) (laws_FnExactWebLabels.f (k + 1) a0 a1) := by
  intro a0 a1 k
  have ih0 := laws_FnExactWebLabels.mono_l k
  unfold laws_FnExactWebLabels.f
  repeat' first
      | (with_reducible exact ih0 _ _ _ _ _)
      | (with_reducible exact impl_WebLabels.mono _ _ _)
      | (with_reducible exact laws_eqIntS.mono _ _ _)
      | (with_reducible exact laws_eqWeb.mono _ _ _ _ _)
      | (with_reducible exact laws_heldIntS.mono _ _ _)
      | (with_reducible exact laws_markIntS.mono _ _ _)
      | (with_reducible exact laws_markWeb.mono _ _ _ _)
      | (with_reducible exact laws_toWeb.mono _ _ _)
      | (with_reducible exact spec_WebLabels.mono _ _ _)
      | (with_reducible exact LeO.refl _)
      | (with_reducible exact LeO.none _)
      | (with_reducible refine LeO.ite ?_ ?_)
      | (with_reducible refine LeO.bind ?_ (fun _ => ?_))
      | exact ih0 _ _ _ _ _
      | exact impl_WebLabels.mono _ _ _
      | exact laws_eqIntS.mono _ _ _
      | exact laws_eqWeb.mono _ _ _ _ _
      | exact laws_heldIntS.mono _ _ _
      | exact laws_markIntS.mono _ _ _
      | exact laws_markWeb.mono _ _ _ _
      | exact laws_toWeb.mono _ _ _
      | exact spec_WebLabels.mono _ _ _
      | exact LeO.none _
      | refine LeO.ite ?_ ?_
      | refine LeO.bind ?_ (fun _ => ?_)
set_option maxHeartbeats 8000000 in
set_option maxRecDepth 100000 in
theorem laws_FnExactWebLabels.calls (k : Nat) (a0_0 : Int) (A0_1 : Option Addr) (c0_1 : Nat) (l0_1 : List (S120)) (w : World) (hr0_1 : Kd.C k120 w A0_1 l0_1.length l0_1) (hc0_1 : l0_1.length ≤ c0_1) (h : laws_FnExactWebLabels.f k a0_0 l0_1 = some true) :
  Calls Try.prog 8 #[.agg #[.int .i64 a0_0, .slice A0_1 l0_1.length c0_1]] w fun e w' => e = .returned (.bool true) ∧ Below w.heap.size w w' := by
 have hu24 := Try.underlying24; have hu29 := Try.underlying29
 have HR0_1 := Aside0.mk hr0_1
 have HC0_1 := Aside0.mk hc0_1
 clear hr0_1 hc0_1
 have HB := Aside0.mk (Below.refl w.heap.size w)
 have H : ((laws_szWeb.f a0_0 l0_1 1048576).bind fun t428 => (if t428 < 0 then (some true) else ((laws_toWeb.f k a0_0 l0_1).bind fun bt429 => ((spec_WebLabels.f k bt429.1 bt429.2).bind fun t433 => ((laws_toWeb.f k a0_0 l0_1).bind fun bt436 => ((impl_WebLabels.f k bt436.1 bt436.2).bind fun t441 => ((laws_eqIntS.f k t441 t433).bind fun t444 => (if t444 = true then ((laws_toWeb.f k a0_0 l0_1).bind fun bt445 => ((laws_eqWeb.f k bt436.1 bt436.2 bt445.1 bt445.2).bind fun t449 => (if t449 = true then ((laws_markWeb.f k bt436.1 bt436.2 1).bind fun bt450 => (if bt450.1 < 0 then (laws_FnExactWebLabels.j0 k t433 t441 true a0_0 l0_1) else ((laws_eqIntS.f k t441 t433).bind fun t452 => (laws_FnExactWebLabels.j0 k t433 t441 (!t452) a0_0 l0_1)))) else (some false)))) else (some false))))))))) = some true := h
 clear h
 obtain ⟨t428, A20, H⟩ := Option.bind_eq_some_iff.mp H; have A2 := Aside0.mk A20; clear A20
 by_cases c3 : t428 < 0
 ·rw [if_pos c3] at H
  have c3b0 : decide (t428 < 0) = true := decide_eq_true c3
  clear c3; clear H
  go_enter Try.func8, Try.ntmps8
  go_wp2_with (first | ((with_reducible refine gate_dst (N := 1) rfl ?_); refine bx_ 1 (cs := #[.int .i64 a0_0, .slice A0_1 l0_1.length c0_1]) (t := 24) ?_; intro gb427 hg w4 hbox hb; have BK427 := Aside0.mk (hbox); have GW427 := Aside0.mk ((qs_ : w.heap.size ≤ gb427)); have GE427 := Aside0.mk ((qs_ : w.heap.size ≤ gb427)); replace HB := Aside0.mk (below_step qB_ hb); clear hb hbox hg; obtain ⟨hcz5_0, hcz5_1, hfz5_0, hfz5_1⟩ := bc2_ BK427) | ((with_reducible refine gate_callee (f := 13) rfl ?_); refine gl_ (some 13) Try.func13 #[.agg #[.int .i64 a0_0, .slice A0_1 l0_1.length c0_1], .int .i64 1048576] ?_; (with_reducible refine (laws_szWeb.calls a0_0 _ _ l0_1 1048576 t428 _ ?side1 ?side2 A2.out).mono ?_); (case side1 => exact qC_ HR0_1 HB); (case side2 => exact HC0_1.out); rintro e w6 ⟨rfl, hb⟩; refine ⟨_, rfl, ?_⟩; replace BK427 := Aside0.mk (blk_below (qk_ BK427) hb); replace HB := Aside0.mk (below_step qB_ hb); (try clear hb); (try clear hb2); (try clear hk); (try clear hi)))
  go_ret
  exact ⟨qr_, qB_⟩
 ·rw [if_neg c3] at H
  have c3b0 : decide (t428 < 0) = false := decide_eq_false c3
  clear c3
  replace H := Option.bind_eq_some_iff.mp H
  obtain ⟨⟨t429, t430⟩, A70, H⟩ := H
  replace H : ((spec_WebLabels.f k t429 t430).bind fun t433 => ((laws_toWeb.f k a0_0 l0_1).bind fun bt436 => ((impl_WebLabels.f k bt436.1 bt436.2).bind fun t441 => ((laws_eqIntS.f k t441 t433).bind fun t444 => (if t444 = true then ((laws_toWeb.f k a0_0 l0_1).bind fun bt445 => ((laws_eqWeb.f k bt436.1 bt436.2 bt445.1 bt445.2).bind fun t449 => (if t449 = true then ((laws_markWeb.f k bt436.1 bt436.2 1).bind fun bt450 => (if bt450.1 < 0 then (laws_FnExactWebLabels.j0 k t433 t441 true a0_0 l0_1) else ((laws_eqIntS.f k t441 t433).bind fun t452 => (laws_FnExactWebLabels.j0 k t433 t441 (!t452) a0_0 l0_1)))) else (some false)))) else (some false)))))) = some true := H
  have A7 := Aside0.mk A70
  clear A70
  obtain ⟨t433, A80, H⟩ := Option.bind_eq_some_iff.mp H; have A8 := Aside0.mk A80; clear A80
  replace H := Option.bind_eq_some_iff.mp H
  obtain ⟨⟨t436, t437⟩, A90, H⟩ := H
  replace H : ((impl_WebLabels.f k t436 t437).bind fun t441 => ((laws_eqIntS.f k t441 t433).bind fun t444 => (if t444 = true then ((laws_toWeb.f k a0_0 l0_1).bind fun bt445 => ((laws_eqWeb.f k t436 t437 bt445.1 bt445.2).bind fun t449 => (if t449 = true then ((laws_markWeb.f k t436 t437 1).bind fun bt450 => (if bt450.1 < 0 then (laws_FnExactWebLabels.j0 k t433 t441 true a0_0 l0_1) else ((laws_eqIntS.f k t441 t433).bind fun t452 => (laws_FnExactWebLabels.j0 k t433 t441 (!t452) a0_0 l0_1)))) else (some false)))) else (some false)))) = some true := H
  have A9 := Aside0.mk A90
  clear A90
  obtain ⟨t441, A100, H⟩ := Option.bind_eq_some_iff.mp H; have A10 := Aside0.mk A100; clear A100
  obtain ⟨t444, A110, H⟩ := Option.bind_eq_some_iff.mp H; have A11 := Aside0.mk A110; clear A110
  by_cases c12 : t444 = true
  ·subst c12
   rw [if_pos rfl] at H
   replace H := Option.bind_eq_some_iff.mp H
   obtain ⟨⟨t445, t446⟩, A130, H⟩ := H
   replace H : ((laws_eqWeb.f k t436 t437 t445 t446).bind fun t449 => (if t449 = true then ((laws_markWeb.f k t436 t437 1).bind fun bt450 => (if bt450.1 < 0 then (laws_FnExactWebLabels.j0 k t433 t441 true a0_0 l0_1) else ((laws_eqIntS.f k t441 t433).bind fun t452 => (laws_FnExactWebLabels.j0 k t433 t441 (!t452) a0_0 l0_1)))) else (some false))) = some true := H
   have A13 := Aside0.mk A130
   clear A130
   obtain ⟨t449, A140, H⟩ := Option.bind_eq_some_iff.mp H; have A14 := Aside0.mk A140; clear A140
   by_cases c15 : t449 = true
   ·subst c15
    rw [if_pos rfl] at H
    replace H := Option.bind_eq_some_iff.mp H
    obtain ⟨⟨t450, t451⟩, A160, H⟩ := H
    replace H : (if t450 < 0 then (laws_FnExactWebLabels.j0 k t433 t441 true a0_0 l0_1) else ((laws_eqIntS.f k t441 t433).bind fun t452 => (laws_FnExactWebLabels.j0 k t433 t441 (!t452) a0_0 l0_1))) = some true := H
    have A16 := Aside0.mk A160
    clear A160
    have HC17 := Aside0.mk H
    clear H
    go_enter Try.func8, Try.ntmps8
    try go_wp2_with (first | ((with_reducible refine gate_dst (N := 1) rfl ?_); refine bx_ 1 (cs := #[.int .i64 a0_0, .slice A0_1 l0_1.length c0_1]) (t := 24) ?_; intro gb427 hg w18 hbox hb; have BK427 := Aside0.mk (hbox); have GW427 := Aside0.mk ((qs_ : w.heap.size ≤ gb427)); have GE427 := Aside0.mk ((qs_ : w.heap.size ≤ gb427)); replace HB := Aside0.mk (below_step qB_ hb); clear hb hbox hg; obtain ⟨hcz19_0, hcz19_1, hfz19_0, hfz19_1⟩ := bc2_ BK427) | ((with_reducible refine gate_callee (f := 13) rfl ?_); refine gl_ (some 13) Try.func13 #[.agg #[.int .i64 a0_0, .slice A0_1 l0_1.length c0_1], .int .i64 1048576] ?_; (with_reducible refine (laws_szWeb.calls a0_0 _ _ l0_1 1048576 t428 _ ?side1 ?side2 A2.out).mono ?_); (case side1 => exact qC_ HR0_1 HB); (case side2 => exact HC0_1.out); rintro e w20 ⟨rfl, hb⟩; refine ⟨_, rfl, ?_⟩; replace BK427 := Aside0.mk (blk_below (qk_ BK427) hb); replace HB := Aside0.mk (below_step qB_ hb); (try clear hb); (try clear hb2); (try clear hk); (try clear hi); obtain ⟨hcz21_0, hcz21_1, hfz21_0, hfz21_1⟩ := bc2_ BK427) | ((with_reducible refine gate_callee (f := 15) rfl ?_); refine gl_ (some 17) Try.func15 #[.agg #[.int .i64 a0_0, .slice A0_1 l0_1.length c0_1]] ?_; (with_reducible refine (laws_toWeb.calls k a0_0 _ _ l0_1 t429 t430 _ ?side1 ?side2 A7.out).mono ?_); (case side1 => exact qC_ HR0_1 HB); (case side2 => exact HC0_1.out); rintro e w22 ⟨v431, rfl, ho0, hb⟩; refine ⟨_, rfl, ?_⟩; have HO432 := Aside0.mk (Kd.R_lower ho0 (below_size qB_)); replace BK427 := Aside0.mk (blk_below (qk_ BK427) hb); replace HB := Aside0.mk (below_step qB_ hb); (try clear hb); (try clear hb2); (try clear hk); (try clear hi); (try clear ho0); obtain ⟨Ao23, co23, eo23⟩ := Kd.R_slice HO432.out; subst eo23) | ((with_reducible refine gate_callee (f := 32) rfl ?_); refine gl_ (some 18) Try.func32 #[.agg #[.int .i64 t429, .slice Ao23 t430.length co23]] ?_; (with_reducible refine (spec_WebLabels.calls k t429 _ _ t430 t433 _ ?side1 ?side2 A8.out).mono ?_); (case side1 => exact qD_ (Kd.R_reads' HO432.out).2.2); (case side2 => exact (Kd.R_reads' HO432.out).2.1); rintro e w24 ⟨v434, rfl, ho0, hb⟩; refine ⟨_, rfl, ?_⟩; have HO435 := Aside0.mk (Kd.R_lower ho0 (below_size qB_)); replace HO432 := Aside0.mk (Kd.R_below (qR_ HO432) hb); replace BK427 := Aside0.mk (blk_below (qk_ BK427) hb); replace HB := Aside0.mk (below_step qB_ hb); (try clear hb); (try clear hb2); (try clear hk); (try clear hi); (try clear ho0); obtain ⟨hcz25_0, hcz25_1, hfz25_0, hfz25_1⟩ := bc2_ BK427) | ((with_reducible refine gate_callee (f := 15) rfl ?_); refine gl_ (some 20) Try.func15 #[.agg #[.int .i64 a0_0, .slice A0_1 l0_1.length c0_1]] ?_; (with_reducible refine (laws_toWeb.calls k a0_0 _ _ l0_1 t436 t437 _ ?side1 ?side2 A9.out).mono ?_); (case side1 => exact qC_ HR0_1 HB); (case side2 => exact HC0_1.out); rintro e w26 ⟨v438, rfl, ho0, hb⟩; refine ⟨_, rfl, ?_⟩; have HO439 := Aside0.mk (Kd.R_lower (Kd.R_new' ho0 (Kd.R_lt (qR_ HO432))) (below_size qB_)); replace HO432 := Aside0.mk (Kd.R_elder' (qR_ HO432) (Kd.R_base ho0) hb); replace HO435 := Aside0.mk (Kd.R_below (qR_ HO435) hb); replace BK427 := Aside0.mk (blk_below (qk_ BK427) hb); replace HB := Aside0.mk (below_step qB_ hb); (try clear hb); (try clear hb2); (try clear hk); (try clear hi); (try clear ho0)) | ((with_reducible refine gate_dst (N := 5) rfl ?_); refine bx_ 5 (cs := #[.int .i64 0, .slice none 0 0]) (t := 29) ?_; intro gb440 hg w27 hbox hb; have BK440 := Aside0.mk (hbox); have GW440 := Aside0.mk ((qs_ : w.heap.size ≤ gb440)); have GE440 := Aside0.mk ((qs_ : w.heap.size ≤ gb440)); have NB427_440 := Aside0.mk ((by rw [hg]; exact Nat.ne_of_lt (blk_lt (qk_ BK427)) : gb427 ≠ gb440)); have NB440_427 := Aside0.mk ((by rw [hg]; exact Nat.ne_of_gt (blk_lt (qk_ BK427)) : gb440 ≠ gb427)); replace HO432 := Aside0.mk (Kd.R_below (qR_ HO432) hb); replace HO435 := Aside0.mk (Kd.R_below (qR_ HO435) hb); replace HO439 := Aside0.mk (Kd.R_below (qR_ HO439) hb); replace BK427 := Aside0.mk (blk_below (qk_ BK427) hb); replace HB := Aside0.mk (below_step qB_ hb); clear hb hbox hg; have hnb28 := NB440_427.out; have hnc28 := NB427_440.out; obtain ⟨hcz29_0, hcz29_1, hfz29_0, hfz29_1⟩ := bc2_ BK440; obtain ⟨Ao30, co30, eo30⟩ := Kd.R_slice HO439.out; subst eo30) | ((with_reducible refine gate_callee (f := 33) rfl ?_); refine gl_ (some 22) Try.func33 #[.agg #[.int .i64 t436, .slice Ao30 t437.length co30]] ?_; (with_reducible refine (impl_WebLabels.calls k t436 _ _ t437 t441 _ ?side1 ?side2 A10.out).mono ?_); (case side1 => refine (Kd.R_reads' (e := 72) (base := w.heap.size) (ok := fun k_ => (True ∧ some k_ ≠ (.slice Ao23 t430.length co23 : Value).ownBlock)) (n := t437.length) (c := co30) ?_).2.2; exact (by (with_reducible repeat (first | apply Kd.R_alloc | apply Kd.R_drewN | apply Kd.R_drew)); exact (Kd.R_mono (Kd.R_far (p := ⟨gb440, 1, none⟩) (Kd.R_far (p := ⟨gb440, 0, none⟩) (Kd.R_types HO439.out BK440.out (by decide)) (fun _ hk => hk.2) (.int .i64 t436)) (fun _ hk => hk.2) (.slice Ao30 t437.length co30)) (fun _ h_ => h_.1)))); (case side2 => exact (Kd.R_reads' HO439.out).2.1); rintro e w31 ⟨v442, rfl, ho0, hb⟩; refine ⟨_, rfl, ?_⟩; have HO443 := Aside0.mk (Kd.R_lower (Kd.R_new' ho0 (Kd.R_lt (by (with_reducible repeat (first | apply Kd.R_alloc | apply Kd.R_drewN | apply Kd.R_drew)); exact (Kd.R_mono (Kd.R_far (p := ⟨gb440, 1, none⟩) (Kd.R_far (p := ⟨gb440, 0, none⟩) (Kd.R_types HO435.out BK440.out (by decide)) (fun _ hk => hk.2) (.int .i64 t436)) (fun _ hk => hk.2) (.slice Ao30 t437.length co30)) (fun _ h_ => h_.1))))) (below_size qB_)); replace HO432 := Aside0.mk (Kd.R_below (by (with_reducible repeat (first | apply Kd.R_alloc | apply Kd.R_drewN | apply Kd.R_drew)); exact (Kd.R_mono (Kd.R_far (p := ⟨gb440, 1, none⟩) (Kd.R_far (p := ⟨gb440, 0, none⟩) (Kd.R_types HO432.out BK440.out (by decide)) (fun _ hk => hk.2) (.int .i64 t436)) (fun _ hk => hk.2) (.slice Ao30 t437.length co30)) (fun _ h_ => h_.1))) hb); replace HO435 := Aside0.mk (Kd.R_elder' (by (with_reducible repeat (first | apply Kd.R_alloc | apply Kd.R_drewN | apply Kd.R_drew)); exact (Kd.R_mono (Kd.R_far (p := ⟨gb440, 1, none⟩) (Kd.R_far (p := ⟨gb440, 0, none⟩) (Kd.R_types HO435.out BK440.out (by decide)) (fun _ hk => hk.2) (.int .i64 t436)) (fun _ hk => hk.2) (.slice Ao30 t437.length co30)) (fun _ h_ => h_.1))) (Kd.R_base ho0) hb); replace HO439 := Aside0.mk (Kd.R_below (by (with_reducible repeat (first | apply Kd.R_alloc | apply Kd.R_drewN | apply Kd.R_drew)); exact (Kd.R_mono (Kd.R_far (p := ⟨gb440, 1, none⟩) (Kd.R_far (p := ⟨gb440, 0, none⟩) (Kd.R_types HO439.out BK440.out (by decide)) (fun _ hk => hk.2) (.int .i64 t436)) (fun _ hk => hk.2) (.slice Ao30 t437.length co30)) (fun _ h_ => h_.1))) hb); replace BK427 := Aside0.mk (blk_below (g := gb427) (o := .cells #[.int .i64 a0_0, .slice A0_1 l0_1.length c0_1] 24 (0, 0)) (by (with_reducible repeat (first | refine blk_drewN ?_ _ | refine blk_drew ?_ | refine blk_alloc ?_ _)); refine blk_far ?_ NB427_440.out _; (with_reducible repeat (first | refine blk_drewN ?_ _ | refine blk_drew ?_ | refine blk_alloc ?_ _)); refine blk_far ?_ NB427_440.out _; (with_reducible repeat (first | refine blk_drewN ?_ _ | refine blk_drew ?_ | refine blk_alloc ?_ _)); exact BK427.out) hb); replace BK440 := Aside0.mk (blk_below (g := gb440) (o := .cells #[.int .i64 t436, .slice Ao30 t437.length co30] 29 (0, 0)) (by (with_reducible repeat (first | refine blk_drewN ?_ _ | refine blk_drew ?_ | refine blk_alloc ?_ _)); refine blk_put (cs := #[.int .i64 t436, .slice none 0 0]) ?_ 1 _ rfl; (with_reducible repeat (first | refine blk_drewN ?_ _ | refine blk_drew ?_ | refine blk_alloc ?_ _)); refine blk_put (cs := #[.int .i64 0, .slice none 0 0]) ?_ 0 _ rfl; (with_reducible repeat (first | refine blk_drewN ?_ _ | refine blk_drew ?_ | refine blk_alloc ?_ _)); exact BK440.out) hb); replace HB := Aside0.mk (below_step qB_ hb); (try clear hb); (try clear hb2); (try clear hk); (try clear hi); (try clear ho0); obtain ⟨Ao32, co32, eo32⟩ := Kd.R_slice HO443.out; subst eo32; obtain ⟨Ao33, co33, eo33⟩ := Kd.R_slice HO435.out; subst eo33) | ((with_reducible refine gate_callee (f := 34) rfl ?_); refine gl_ (some 25) Try.func34 #[.slice Ao32 t441.length co32, .slice Ao33 t433.length co33] ?_; (with_reducible refine (laws_eqIntS.calls k _ _ t441 _ _ t433 true _ ?side1 ?side2 ?side3 ?side4 A11.out).mono ?_); (case side1 => exact qD_ (Kd.R_reads' HO443.out).2.2); (case side2 => exact (Kd.R_reads' HO443.out).2.1); (case side3 => exact qD_ (Kd.R_reads' HO435.out).2.2); (case side4 => exact (Kd.R_reads' HO435.out).2.1); rintro e w' ⟨rfl, ⟨nd, rfl⟩⟩; refine ⟨_, rfl, ?_⟩))
    (try (rw [drewN_self w31]; generalize hq_ : World.drewN w31 _ = w31; have n0_ : Aside0 (Kd.R k72 72 w31 w.heap.size (fun k_ => some k_ ≠ (.slice Ao30 t437.length co30 : Value).ownBlock) (.slice Ao23 t430.length co23) t430) := ⟨by rw [← hq_]; exact (by (with_reducible repeat (first | apply Kd.R_alloc | apply Kd.R_drewN | apply Kd.R_drew)); exact Kd.R_mono HO432.out (fun _ hk => hk.2))⟩; have n1_ : Aside0 (Kd.R (Kd.int .i64) 3 w31 w.heap.size (fun k_ => some k_ ≠ (.slice Ao32 t441.length co32 : Value).ownBlock) (.slice Ao33 t433.length co33) t433) := ⟨by rw [← hq_]; exact (by (with_reducible repeat (first | apply Kd.R_alloc | apply Kd.R_drewN | apply Kd.R_drew)); exact Kd.R_mono HO435.out (fun _ hk => hk.2))⟩; have n2_ : Aside0 (Kd.R k72 72 w31 w.heap.size (fun k_ => some k_ ≠ (.slice Ao23 t430.length co23 : Value).ownBlock) (.slice Ao30 t437.length co30) t437) := ⟨by rw [← hq_]; exact (by (with_reducible repeat (first | apply Kd.R_alloc | apply Kd.R_drewN | apply Kd.R_drew)); exact Kd.R_mono HO439.out (fun _ hk => hk.2))⟩; have n3_ : Aside0 (Kd.R (Kd.int .i64) 3 w31 w.heap.size (fun k_ => some k_ ≠ (.slice Ao33 t433.length co33 : Value).ownBlock) (.slice Ao32 t441.length co32) t441) := ⟨by rw [← hq_]; exact (by (with_reducible repeat (first | apply Kd.R_alloc | apply Kd.R_drewN | apply Kd.R_drew)); exact Kd.R_mono HO443.out (fun _ hk => hk.2))⟩; have n4_ : Aside0 (w31.heap[gb427]? = some (.cells #[.int .i64 a0_0, .slice A0_1 l0_1.length c0_1] 24 (0, 0))) := ⟨by rw [← hq_]; exact (qk_ BK427)⟩; have n5_ : Aside0 (w31.heap[gb440]? = some (.cells #[.int .i64 t436, .slice Ao30 t437.length co30] 29 (0, 0))) := ⟨by rw [← hq_]; exact (qk_ BK440)⟩; have n6_ : Aside0 (Below w.heap.size w w31) := ⟨by rw [← hq_]; exact qB_⟩; clear HO432 HO435 HO439 HO443 BK427 BK440 HB hq_; have HO432 := n0_; have HO435 := n1_; have HO439 := n2_; have HO443 := n3_; have BK427 := n4_; have BK440 := n5_; have HB := n6_; clear n0_ n1_ n2_ n3_ n4_ n5_ n6_; have hcr_gb427_0 : w31.cell? ⟨gb427, 0, none⟩ = some (.int .i64 a0_0) := (blk_cell BK427.out 0).trans rfl; have hfr_gb427_0 := blk_frozen BK427.out 0; have hcr_gb427_1 : w31.cell? ⟨gb427, 1, none⟩ = some (.slice A0_1 l0_1.length c0_1) := (blk_cell BK427.out 1).trans rfl; have hfr_gb427_1 := blk_frozen BK427.out 1; have hcr_gb440_0 : w31.cell? ⟨gb440, 0, none⟩ = some (.int .i64 t436) := (blk_cell BK440.out 0).trans rfl; have hfr_gb440_0 := blk_frozen BK440.out 0; have hcr_gb440_1 : w31.cell? ⟨gb440, 1, none⟩ = some (.slice Ao30 t437.length co30) := (blk_cell BK440.out 1).trans rfl; have hfr_gb440_1 := blk_frozen BK440.out 1))
    have n0_ := Aside0.mk (Kd.R_drew HO432.out)
    have n1_ := Aside0.mk (Kd.R_drew HO435.out)
    have n2_ := Aside0.mk (Kd.R_drew HO439.out)
    have n3_ := Aside0.mk (Kd.R_drew HO443.out)
    have n4_ := Aside0.mk (blk_drew BK427.out)
    have n5_ := Aside0.mk (blk_drew BK440.out)
    have n6_ := Aside0.mk (below_drew1 HB.out)
    clear HO432; clear HO435; clear HO439; clear HO443; clear BK427; clear BK440; clear HB; have HO432 := n0_; have HO435 := n1_; have HO439 := n2_; have HO443 := n3_; have BK427 := n4_; have BK440 := n5_; have HB := n6_; clear n0_ n1_ n2_ n3_ n4_ n5_ n6_
    refine start_ (n := 5) (S := fun w' => w'.cell? ⟨gb440, 0, none⟩ = some (.int .i64 t436) ∧ w'.cell? ⟨gb440, 1, none⟩ = some (.slice Ao30 t437.length co30) ∧ w'.cell? ⟨gb427, 0, none⟩ = some (.int .i64 a0_0) ∧ w'.cell? ⟨gb427, 1, none⟩ = some (.slice A0_1 l0_1.length c0_1)) (ds := []) (bm 5 0) (by kernel_rfl) rfl (by kernel_rfl) ⟨(blk_cell BK440.out 0).trans rfl, (blk_cell BK440.out 1).trans rfl, (blk_cell BK427.out 0).trans rfl, (blk_cell BK427.out 1).trans rfl⟩ (fun hHeld => ?_)
    generalize w31.drew = w34 at HO432 HO435 HO439 HO443 BK427 BK440 HB hHeld ⊢
    refine take_ (i := 0) (N := some 27) (v := ?_) (a' := ?_) (bm 5 1) rfl rfl (by kernel_rfl) (fun _ _ _ h => h) (Or.inl ⟨by rfl, ?_⟩) hHeld ?_ ?_
    rotate_left
    ·rintro w' ⟨s0, s1, s2, s3⟩
     go_simp
     with_reducible rfl
    rotate_left
    ·simp only [Act.put, List.setIfInBounds_toArray, List.set_cons_zero, List.set_cons_succ, i64_w, i32_w]
     rfl
    refine take_ (i := 1) (N := some 28) (v := ?_) (a' := ?_) (bm 5 3) rfl rfl (by kernel_rfl) (fun _ _ _ h => h) (Or.inl ⟨by rfl, ?_⟩) hHeld ?_ ?_
    rotate_left
    ·rintro w' ⟨s0, s1, s2, s3⟩
     go_simp
     with_reducible rfl
    rotate_left
    ·simp only [Act.put, List.setIfInBounds_toArray, List.set_cons_zero, List.set_cons_succ, i64_w, i32_w]
     rfl
    refine one_ (i := 2) (N := some 29) (bm 5 7) rfl rfl (by kernel_rfl) (by decide) (fun K hK => ?_)
    refine goes_ Try.func15 (by kernel_rfl) rfl #[.agg #[.int .i64 a0_0, .slice A0_1 l0_1.length c0_1]] (by rfl) rfl rfl (by (try simp only [List.map_toArray, List.map_cons, List.map_nil]); first | done | rfl | (simp only [List.length_drop, List.length_take]; rfl)) ?_
    with_reducible refine (laws_toWeb.calls k a0_0 _ _ l0_1 t445 t446 _ ?side1 ?side2 A13.out).mono ?_
    (case side1 => exact qC_ HR0_1 HB)
    (case side2 => exact HC0_1.out)
    rintro e w35 ⟨v447, rfl, ho0, hb⟩
    refine ⟨_, rfl, ?_⟩
    have n0_ := Aside0.mk (Kd.R_elder' (qR_ HO432) (Kd.R_base ho0) hb)
    have n1_ := Aside0.mk (Kd.R_below (qR_ HO435) hb)
    have n2_ := Aside0.mk (Kd.R_elder' (qR_ HO439) (Kd.R_base ho0) hb)
    have n3_ := Aside0.mk (Kd.R_below (qR_ HO443) hb)
    have n4_ := Aside0.mk (Kd.R_lower (Kd.R_new' (Kd.R_new' ho0 (Kd.R_lt (qR_ HO432))) (Kd.R_lt (qR_ HO439))) (below_size qB_))
    have n5_ := Aside0.mk (blk_below (qk_ BK427) hb)
    have n6_ := Aside0.mk (blk_below (qk_ BK440) hb)
    have n7_ := Aside0.mk (below_step qB_ hb)
    clear HO432; clear HO435; clear HO439; clear HO443; clear BK427; clear BK440; clear HB; have HO432 := n0_; have HO435 := n1_; have HO439 := n2_; have HO443 := n3_; have HO448 := n4_; have BK427 := n5_; have BK440 := n6_; have HB := n7_; clear n0_ n1_ n2_ n3_ n4_ n5_ n6_ n7_; (try clear hb); (try clear hb2); (try clear hk); (try clear hi); (try clear ho0)
    obtain ⟨Ao36, co36, eo36⟩ := Kd.R_slice HO448.out
    (first | subst eo36 | (injection eo36 with f1_ f2_ f3_; have f4_ := f1_.symm; have f5_ := f3_.symm; clear f1_ f2_ f3_; subst f4_; subst f5_))
    refine hK.out _ _ ⟨(blk_cell BK440.out 0).trans rfl, (blk_cell BK440.out 1).trans rfl, (blk_cell BK427.out 0).trans rfl, (blk_cell BK427.out 1).trans rfl⟩ (fun hHeld => ?_)
    clear hK K
    refine norm_ (a' := ?_) ?_ ?_
    rotate_left
    ·show Act.put _ (some 29) _ = _
     simp only [Act.put, List.setIfInBounds_toArray, List.set_cons_zero, List.set_cons_succ, i64_w, i32_w]
     rfl
    refine one_ (i := 3) (N := some 30) (bm 5 15) rfl rfl (by kernel_rfl) (by decide) (fun K hK => ?_)
    refine goes_ Try.func17 (by kernel_rfl) rfl #[.agg #[.int .i64 t436, .slice Ao30 t437.length co30], .agg #[.int .i64 t445, .slice Ao36 t446.length co36]] (by rfl) rfl rfl (by (try simp only [List.map_toArray, List.map_cons, List.map_nil]); first | done | rfl | (simp only [List.length_drop, List.length_take]; rfl)) ?_
    with_reducible refine (laws_eqWeb.calls k t436 _ _ t437 t445 _ _ t446 true _ ?side1 ?side2 ?side3 ?side4 A14.out).mono ?_
    (case side1 => exact qD_ (Kd.R_reads' HO439.out).2.2)
    (case side2 => exact (Kd.R_reads' HO439.out).2.1)
    (case side3 => exact qD_ (Kd.R_reads' HO448.out).2.2)
    (case side4 => exact (Kd.R_reads' HO448.out).2.1)
    rintro e w37 ⟨rfl, hb⟩
    refine ⟨_, rfl, ?_⟩
    have n0_ := Aside0.mk (Kd.R_below (qR_ HO432) hb)
    have n1_ := Aside0.mk (Kd.R_below (qR_ HO435) hb)
    have n2_ := Aside0.mk (Kd.R_below (qR_ HO439) hb)
    have n3_ := Aside0.mk (Kd.R_below (qR_ HO443) hb)
    have n4_ := Aside0.mk (Kd.R_below (qR_ HO448) hb)
    have n5_ := Aside0.mk (blk_below (qk_ BK427) hb)
    have n6_ := Aside0.mk (blk_below (qk_ BK440) hb)
    have n7_ := Aside0.mk (below_step qB_ hb)
    clear HO432; clear HO435; clear HO439; clear HO443; clear HO448; clear BK427; clear BK440; clear HB; have HO432 := n0_; have HO435 := n1_; have HO439 := n2_; have HO443 := n3_; have HO448 := n4_; have BK427 := n5_; have BK440 := n6_; have HB := n7_; clear n0_ n1_ n2_ n3_ n4_ n5_ n6_ n7_; (try clear hb); (try clear hb2); (try clear hk); (try clear hi)
    refine hK.out _ _ ⟨(blk_cell BK440.out 0).trans rfl, (blk_cell BK440.out 1).trans rfl, (blk_cell BK427.out 0).trans rfl, (blk_cell BK427.out 1).trans rfl⟩ (fun hHeld => ?_)
    clear hK K
    refine norm_ (a' := ?_) ?_ ?_
    rotate_left
    ·show Act.put _ (some 30) _ = _
     simp only [Act.put, List.setIfInBounds_toArray, List.set_cons_zero, List.set_cons_succ, i64_w, i32_w]
     rfl
    refine pure_ (i := 4) (N := some 31) (v := ?_) (a' := ?_) (bm 5 31) rfl rfl (by kernel_rfl) (fun _ _ _ h => h) (Or.inl ⟨by rfl, ?_⟩) ?_ ?_
    rotate_left
    ·intro w'
     go_simp
     with_reducible rfl
    rotate_left
    ·simp only [Act.put, List.setIfInBounds_toArray, List.set_cons_zero, List.set_cons_succ, i64_w, i32_w]
     rfl
    refine done_ (by kernel_rfl) ?_
    obtain ⟨hcz38_0, hcz38_1, hfz38_0, hfz38_1⟩ := bc2_ BK440
    go_upto_region 14 with (first | ((with_reducible refine gate_callee (f := 35) rfl ?_); refine gl_ (some 34) Try.func35 #[.agg #[.int .i64 t436, .slice Ao30 t437.length co30], .int .i64 1] ?_; (with_reducible refine (laws_markWeb.calls k t436 (fun k_ => some k_ = (.slice Ao30 t437.length co30 : Value).ownBlock) (.slice Ao30 t437.length co30) t437 1 t450 t451 w _ ?side1 ?side2 A16.out).mono ?_); (case side1 => repeat (first | (with_reducible first | exact HB.out | apply below_alloc | apply pw_below_drewN | apply below_drew1 | refine below_set ?_ GE427.out | refine below_set ?_ GE440.out) | exact HB.out)); (case side2 => exact Kd.R_tight rfl HO439.out); rintro e w39 ⟨rfl, hy0, hb, hkp⟩; refine ⟨_, rfl, ?_⟩; have n0_ := Aside0.mk (blk_kept (qk_ BK427) hkp (fun hs_ => (fun e_ => (Kd.R_ne HO439.out BK427.out (by decide)) e_) hs_)); have n1_ := Aside0.mk (Kd.R_mono (ok' := fun k_ => some k_ ≠ (.slice Ao30 t437.length co30 : Value).ownBlock ∧ some k_ ≠ (.slice Ao36 t446.length co36 : Value).ownBlock) (Kd.R_keptB (HO432.out) hkp (fun k_ hk_ hs_ => by first | exact (hk_.1.2) hs_ | exact (hk_.1) hs_ | exact (hk_.2) hs_ | exact (hk_.1.1) hs_ | exact (hk_.1.2) hs_ | exact (hk_.2.1) hs_ | exact (hk_.2.2) hs_ | exact (hk_.1.1.1) hs_ | exact (hk_.1.1.2) hs_ | exact (hk_.1.2.1) hs_ | exact (hk_.1.2.2) hs_ | exact (hk_.2.1.1) hs_ | exact (hk_.2.1.2) hs_ | exact (hk_.2.2.1) hs_ | exact (hk_.2.2.2) hs_ | exact (hk_.1.1.1.1) hs_ | exact (hk_.1.1.1.2) hs_ | exact (hk_.1.1.2.1) hs_ | exact (hk_.1.1.2.2) hs_ | exact (hk_.1.2.1.1) hs_ | exact (hk_.1.2.1.2) hs_ | exact (hk_.1.2.2.1) hs_ | exact (hk_.1.2.2.2) hs_ | exact (hk_.2.1.1.1) hs_ | exact (hk_.2.1.1.2) hs_ | exact (hk_.2.1.2.1) hs_ | exact (hk_.2.1.2.2) hs_ | exact (hk_.2.2.1.1) hs_ | exact (hk_.2.2.1.2) hs_ | exact (hk_.2.2.2.1) hs_ | exact (hk_.2.2.2.2) hs_)) (fun k_ hk_ => by first | exact ⟨hk_.1.1.2, hk_.1.2⟩ | (refine ⟨?_, ?_⟩ <;> first | exact hk_.1 | exact hk_.2 | exact hk_.1.1 | exact hk_.1.2 | exact hk_.2.1 | exact hk_.2.2 | exact hk_.1.1.1 | exact hk_.1.1.2 | exact hk_.1.2.1 | exact hk_.1.2.2 | exact hk_.2.1.1 | exact hk_.2.1.2 | exact hk_.2.2.1 | exact hk_.2.2.2 | exact hk_.1.1.1.1 | exact hk_.1.1.1.2 | exact hk_.1.1.2.1 | exact hk_.1.1.2.2 | exact hk_.1.2.1.1 | exact hk_.1.2.1.2 | exact hk_.1.2.2.1 | exact hk_.1.2.2.2 | exact hk_.2.1.1.1 | exact hk_.2.1.1.2 | exact hk_.2.1.2.1 | exact hk_.2.1.2.2 | exact hk_.2.2.1.1 | exact hk_.2.2.1.2 | exact hk_.2.2.2.1 | exact hk_.2.2.2.2))); have n2_ := Aside0.mk (Kd.R_mono (ok' := fun k_ => some k_ ≠ (.slice Ao32 t441.length co32 : Value).ownBlock) (Kd.R_keptB ((Kd.R_apart' HO435.out (Kd.R_typed HO439.out) (by decide))) hkp (fun k_ hk_ hs_ => by first | exact (hk_.2) hs_ | exact (hk_.1) hs_ | exact (hk_.2) hs_ | exact (hk_.1.1) hs_ | exact (hk_.1.2) hs_ | exact (hk_.2.1) hs_ | exact (hk_.2.2) hs_ | exact (hk_.1.1.1) hs_ | exact (hk_.1.1.2) hs_ | exact (hk_.1.2.1) hs_ | exact (hk_.1.2.2) hs_ | exact (hk_.2.1.1) hs_ | exact (hk_.2.1.2) hs_ | exact (hk_.2.2.1) hs_ | exact (hk_.2.2.2) hs_ | exact (hk_.1.1.1.1) hs_ | exact (hk_.1.1.1.2) hs_ | exact (hk_.1.1.2.1) hs_ | exact (hk_.1.1.2.2) hs_ | exact (hk_.1.2.1.1) hs_ | exact (hk_.1.2.1.2) hs_ | exact (hk_.1.2.2.1) hs_ | exact (hk_.1.2.2.2) hs_ | exact (hk_.2.1.1.1) hs_ | exact (hk_.2.1.1.2) hs_ | exact (hk_.2.1.2.1) hs_ | exact (hk_.2.1.2.2) hs_ | exact (hk_.2.2.1.1) hs_ | exact (hk_.2.2.1.2) hs_ | exact (hk_.2.2.2.1) hs_ | exact (hk_.2.2.2.2) hs_)) (fun k_ hk_ => by first | exact hk_.1.1.2 | exact hk_.1 | exact hk_.2 | exact hk_.1.1 | exact hk_.1.2 | exact hk_.2.1 | exact hk_.2.2 | exact hk_.1.1.1 | exact hk_.1.1.2 | exact hk_.1.2.1 | exact hk_.1.2.2 | exact hk_.2.1.1 | exact hk_.2.1.2 | exact hk_.2.2.1 | exact hk_.2.2.2 | exact hk_.1.1.1.1 | exact hk_.1.1.1.2 | exact hk_.1.1.2.1 | exact hk_.1.1.2.2 | exact hk_.1.2.1.1 | exact hk_.1.2.1.2 | exact hk_.1.2.2.1 | exact hk_.1.2.2.2 | exact hk_.2.1.1.1 | exact hk_.2.1.1.2 | exact hk_.2.1.2.1 | exact hk_.2.1.2.2 | exact hk_.2.2.1.1 | exact hk_.2.2.1.2 | exact hk_.2.2.2.1 | exact hk_.2.2.2.2)); have n3_ := Aside0.mk (Kd.R_reok rfl hy0 (fun k_ e_ => HO439.out.1 k_ e_)); have n4_ := Aside0.mk (blk_kept (qk_ BK440) hkp (fun hs_ => (fun e_ => (Kd.R_ne HO439.out BK440.out (by decide)) e_) hs_)); have n5_ := Aside0.mk (Kd.R_mono (ok' := fun k_ => some k_ ≠ (.slice Ao33 t433.length co33 : Value).ownBlock) (Kd.R_keptB ((Kd.R_apart' HO443.out (Kd.R_typed HO439.out) (by decide))) hkp (fun k_ hk_ hs_ => by first | exact (hk_.2) hs_ | exact (hk_.1) hs_ | exact (hk_.2) hs_ | exact (hk_.1.1) hs_ | exact (hk_.1.2) hs_ | exact (hk_.2.1) hs_ | exact (hk_.2.2) hs_ | exact (hk_.1.1.1) hs_ | exact (hk_.1.1.2) hs_ | exact (hk_.1.2.1) hs_ | exact (hk_.1.2.2) hs_ | exact (hk_.2.1.1) hs_ | exact (hk_.2.1.2) hs_ | exact (hk_.2.2.1) hs_ | exact (hk_.2.2.2) hs_ | exact (hk_.1.1.1.1) hs_ | exact (hk_.1.1.1.2) hs_ | exact (hk_.1.1.2.1) hs_ | exact (hk_.1.1.2.2) hs_ | exact (hk_.1.2.1.1) hs_ | exact (hk_.1.2.1.2) hs_ | exact (hk_.1.2.2.1) hs_ | exact (hk_.1.2.2.2) hs_ | exact (hk_.2.1.1.1) hs_ | exact (hk_.2.1.1.2) hs_ | exact (hk_.2.1.2.1) hs_ | exact (hk_.2.1.2.2) hs_ | exact (hk_.2.2.1.1) hs_ | exact (hk_.2.2.1.2) hs_ | exact (hk_.2.2.2.1) hs_ | exact (hk_.2.2.2.2) hs_)) (fun k_ hk_ => by first | exact hk_.1.1.2 | exact hk_.1 | exact hk_.2 | exact hk_.1.1 | exact hk_.1.2 | exact hk_.2.1 | exact hk_.2.2 | exact hk_.1.1.1 | exact hk_.1.1.2 | exact hk_.1.2.1 | exact hk_.1.2.2 | exact hk_.2.1.1 | exact hk_.2.1.2 | exact hk_.2.2.1 | exact hk_.2.2.2 | exact hk_.1.1.1.1 | exact hk_.1.1.1.2 | exact hk_.1.1.2.1 | exact hk_.1.1.2.2 | exact hk_.1.2.1.1 | exact hk_.1.2.1.2 | exact hk_.1.2.2.1 | exact hk_.1.2.2.2 | exact hk_.2.1.1.1 | exact hk_.2.1.1.2 | exact hk_.2.1.2.1 | exact hk_.2.1.2.2 | exact hk_.2.2.1.1 | exact hk_.2.2.1.2 | exact hk_.2.2.2.1 | exact hk_.2.2.2.2)); have n6_ := Aside0.mk (Kd.R_mono (ok' := fun k_ => some k_ ≠ (.slice Ao23 t430.length co23 : Value).ownBlock ∧ some k_ ≠ (.slice Ao30 t437.length co30 : Value).ownBlock) (Kd.R_keptB (HO448.out) hkp (fun k_ hk_ hs_ => by first | exact (hk_.2) hs_ | exact (hk_.1) hs_ | exact (hk_.2) hs_ | exact (hk_.1.1) hs_ | exact (hk_.1.2) hs_ | exact (hk_.2.1) hs_ | exact (hk_.2.2) hs_ | exact (hk_.1.1.1) hs_ | exact (hk_.1.1.2) hs_ | exact (hk_.1.2.1) hs_ | exact (hk_.1.2.2) hs_ | exact (hk_.2.1.1) hs_ | exact (hk_.2.1.2) hs_ | exact (hk_.2.2.1) hs_ | exact (hk_.2.2.2) hs_ | exact (hk_.1.1.1.1) hs_ | exact (hk_.1.1.1.2) hs_ | exact (hk_.1.1.2.1) hs_ | exact (hk_.1.1.2.2) hs_ | exact (hk_.1.2.1.1) hs_ | exact (hk_.1.2.1.2) hs_ | exact (hk_.1.2.2.1) hs_ | exact (hk_.1.2.2.2) hs_ | exact (hk_.2.1.1.1) hs_ | exact (hk_.2.1.1.2) hs_ | exact (hk_.2.1.2.1) hs_ | exact (hk_.2.1.2.2) hs_ | exact (hk_.2.2.1.1) hs_ | exact (hk_.2.2.1.2) hs_ | exact (hk_.2.2.2.1) hs_ | exact (hk_.2.2.2.2) hs_)) (fun k_ hk_ => by first | exact ⟨hk_.1.1.2, hk_.1.2⟩ | (refine ⟨?_, ?_⟩ <;> first | exact hk_.1 | exact hk_.2 | exact hk_.1.1 | exact hk_.1.2 | exact hk_.2.1 | exact hk_.2.2 | exact hk_.1.1.1 | exact hk_.1.1.2 | exact hk_.1.2.1 | exact hk_.1.2.2 | exact hk_.2.1.1 | exact hk_.2.1.2 | exact hk_.2.2.1 | exact hk_.2.2.2 | exact hk_.1.1.1.1 | exact hk_.1.1.1.2 | exact hk_.1.1.2.1 | exact hk_.1.1.2.2 | exact hk_.1.2.1.1 | exact hk_.1.2.1.2 | exact hk_.1.2.2.1 | exact hk_.1.2.2.2 | exact hk_.2.1.1.1 | exact hk_.2.1.1.2 | exact hk_.2.1.2.1 | exact hk_.2.1.2.2 | exact hk_.2.2.1.1 | exact hk_.2.2.1.2 | exact hk_.2.2.2.1 | exact hk_.2.2.2.2))); have n7_ := Aside0.mk (hb); clear BK427; clear HO432; clear HO435; clear HO439; clear BK440; clear HO443; clear HO448; clear HB; have BK427 := n0_; have HO432 := n1_; have HO435 := n2_; have HO439 := n3_; have BK440 := n4_; have HO443 := n5_; have HO448 := n6_; have HB := n7_; clear n0_ n1_ n2_ n3_ n4_ n5_ n6_ n7_; (try clear hb); (try clear hkp); (try clear hy0)))
    (try simp only [Act.put, List.setIfInBounds_toArray, List.set_cons_zero, List.set_cons_succ])
    go_cut [42] (fun v42 wc => ∃ (kq : Nat) (x42_16 : Bool), v42 = .bool x42_16 ∧ Aside0 (laws_FnExactWebLabels.j0 kq t433 t441 x42_16 a0_0 l0_1 = some true) ∧ Aside0 (kq ≤ k) ∧ Aside0 (Kd.R (Kd.int .i64) 3 wc w.heap.size (fun k_ => some k_ ≠ ((.slice Ao32 t441.length co32) : Value).ownBlock) (.slice Ao33 t433.length co33) t433) ∧ Aside0 (Kd.R (Kd.int .i64) 3 wc w.heap.size (fun k_ => some k_ ≠ ((.slice Ao33 t433.length co33) : Value).ownBlock) (.slice Ao32 t441.length co32) t441) ∧ Aside0 (Kd.R k72 72 wc w.heap.size (fun _ => True) (.slice Ao30 t437.length co30) t451) ∧ Aside0 (wc.heap[gb427]? = some (.cells #[.int .i64 a0_0, (.slice A0_1 l0_1.length c0_1)] 24 (0, 0))) ∧ Aside0 (wc.heap[gb440]? = some (.cells #[.int .i64 t436, (.slice Ao30 t437.length co30)] 29 (0, 0))) ∧ Aside0 (Below w.heap.size w wc))
    case first =>
     have H := HC17.out; clear HC17
     by_cases c40 : t450 < 0
     ·rw [if_pos c40] at H
      have c40b0 : decide (t450 < 0) = true := decide_eq_true c40
      clear c40
      (first | rw [c40b0] | (simp only [i64_w, i32_w]; rw [c40b0]) | skip)
      have H' := Aside0.mk H; clear H
      go_wp2
      go_meet
      case rel => exact ⟨_, (true), qe_, H', ⟨qo_⟩, ⟨by (with_reducible repeat (first | apply Kd.R_alloc | apply Kd.R_drewN | apply Kd.R_drew)); first | exact HO435.out | (have h_ := HO435.out; simp only [own_slice] at h_ ⊢; exact h_)⟩, ⟨by (with_reducible repeat (first | apply Kd.R_alloc | apply Kd.R_drewN | apply Kd.R_drew)); first | exact HO443.out | (have h_ := HO443.out; simp only [own_slice] at h_ ⊢; exact h_)⟩, ⟨by (with_reducible repeat (first | apply Kd.R_alloc | apply Kd.R_drewN | apply Kd.R_drew)); exact Kd.R_mono HO439.out (fun _ hk => trivial)⟩, ⟨qk_ BK427⟩, ⟨qk_ BK440⟩, ⟨qB_⟩⟩
     ·rw [if_neg c40] at H
      have c40b0 : decide (t450 < 0) = false := decide_eq_false c40
      clear c40
      (first | rw [c40b0] | (simp only [i64_w, i32_w]; rw [c40b0]) | skip)
      obtain ⟨t452, A410, H⟩ := Option.bind_eq_some_iff.mp H; have A41 := Aside0.mk A410; clear A410
      have H' := Aside0.mk H; clear H
      go_wp2_with (first | (go_at_call 34; (with_reducible refine (laws_eqIntS.calls k _ _ t441 _ _ t433 t452 _ ?side1 ?side2 ?side3 ?side4 A41.out).mono ?_); (case side1 => exact qD_ (Kd.R_reads' HO443.out).2.2); (case side2 => exact (Kd.R_reads' HO443.out).2.1); (case side3 => exact qD_ (Kd.R_reads' HO435.out).2.2); (case side4 => exact (Kd.R_reads' HO435.out).2.1); rintro e w' ⟨rfl, ⟨nd, rfl⟩⟩))
      go_meet
      case rel => exact ⟨_, (!t452), qe_, H', ⟨qo_⟩, ⟨by (with_reducible repeat (first | apply Kd.R_alloc | apply Kd.R_drewN | apply Kd.R_drew)); first | exact HO435.out | (have h_ := HO435.out; simp only [own_slice] at h_ ⊢; exact h_)⟩, ⟨by (with_reducible repeat (first | apply Kd.R_alloc | apply Kd.R_drewN | apply Kd.R_drew)); first | exact HO443.out | (have h_ := HO443.out; simp only [own_slice] at h_ ⊢; exact h_)⟩, ⟨by (with_reducible repeat (first | apply Kd.R_alloc | apply Kd.R_drewN | apply Kd.R_drew)); exact Kd.R_mono HO439.out (fun _ hk => trivial)⟩, ⟨qk_ BK427⟩, ⟨qk_ BK440⟩, ⟨qB_⟩⟩
    case rest =>
     clear HC17; (try clear c1); (try clear c2); (try clear p2); (try clear c3); (try clear c3b0); (try clear c4); (try clear c8); (try clear c12); (try clear c13); (try clear c15); (try clear c17); (try clear c28); (try clear c32); (try clear c33); (try clear c34); (try clear c35); (try clear c40); (try clear c40b0); (try clear hcz19_0); (try clear hcz19_1); (try clear hcz21_0); (try clear hcz21_1); (try clear hcz25_0); (try clear hcz25_1); (try clear hcz29_0); (try clear hcz29_1); (try clear hcz38_0); (try clear hcz38_1); (try clear hcz5_0); (try clear hcz5_1); (try clear hfz19_0); (try clear hfz19_1); (try clear hfz21_0); (try clear hfz21_1); (try clear hfz25_0); (try clear hfz25_1); (try clear hfz29_0); (try clear hfz29_1); (try clear hfz38_0); (try clear hfz38_1); (try clear hfz5_0); (try clear hfz5_1)
     obtain ⟨kq, x42_16, rfl, HA, HJ16, HO_4, HO_6, HO_441001, BK427, BK440, HB⟩ := hcut
     have hl441001_16 := (Kd.R_reads' HO_441001.out).1
     rw [hl441001_16] at HO_441001
     (try simp only [hl441001_16])
     (try simp only [hl441001_16] at BK427)
     (try simp only [hl441001_16] at BK440)
     (try simp only [hl441001_16] at HO_4)
     (try simp only [hl441001_16] at HO_6)
     cases kq with
     | zero => exact absurd HA.out (by simp [laws_FnExactWebLabels.j0])
     | succ kj16 =>
      have H := HA.out; clear HA
      simp only [laws_FnExactWebLabels.j0] at H
      by_cases c42 : x42_16 = true
      ·subst c42
       rw [if_pos rfl] at H
       exact absurd (Option.some.inj H) (by decide)
      ·replace c42 := Bool.eq_false_iff.mpr c42
       subst c42
       rw [if_neg (show ¬ (false = true) by decide)] at H
       replace H := Option.bind_eq_some_iff.mp H
       obtain ⟨⟨t453, t454⟩, A430, H⟩ := H
       replace H : ((laws_heldIntS.f kj16 t454 1).bind fun t455 => (if t455 < 0 then (some false) else (if t455 = t453 then ((laws_toWeb.f kj16 a0_0 l0_1).bind fun bt456 => ((impl_WebLabels.f kj16 bt456.1 bt456.2).bind fun t460 => ((laws_eqIntS.f kj16 t460 t433).bind fun t463 => (if t463 = true then ((laws_heldIntS.f kj16 t454 1).bind fun t464 => (if t464 < 0 then (some false) else (if t464 = t453 then (some true) else (some false)))) else (some false))))) else (some false)))) = some true := H
       have A43 := Aside0.mk A430
       clear A430
       obtain ⟨t455, A440, H⟩ := Option.bind_eq_some_iff.mp H; have A44 := Aside0.mk A440; clear A440
       by_cases c45 : t455 < 0
       ·rw [if_pos c45] at H
        have c45b0 : decide (t455 < 0) = true := decide_eq_true c45
        clear c45
        exact absurd (Option.some.inj H) (by decide)
       ·rw [if_neg c45] at H
        have c45b0 : decide (t455 < 0) = false := decide_eq_false c45
        clear c45
        by_cases c47 : t455 = t453
        ·rw [if_pos c47] at H
         have c47b0 : (t455 == t453) = true := beq_iff_eq.mpr c47
         have c47b1 : (t455 != t453) = false := bne_eq_false_iff_eq.mpr c47
         clear c47
         replace H := Option.bind_eq_some_iff.mp H
         obtain ⟨⟨t456, t457⟩, A480, H⟩ := H
         replace H : ((impl_WebLabels.f kj16 t456 t457).bind fun t460 => ((laws_eqIntS.f kj16 t460 t433).bind fun t463 => (if t463 = true then ((laws_heldIntS.f kj16 t454 1).bind fun t464 => (if t464 < 0 then (some false) else (if t464 = t453 then (some true) else (some false)))) else (some false)))) = some true := H
         have A48 := Aside0.mk A480
         clear A480
         obtain ⟨t460, A490, H⟩ := Option.bind_eq_some_iff.mp H; have A49 := Aside0.mk A490; clear A490
         obtain ⟨t463, A500, H⟩ := Option.bind_eq_some_iff.mp H; have A50 := Aside0.mk A500; clear A500
         by_cases c51 : t463 = true
         ·subst c51
          rw [if_pos rfl] at H
          obtain ⟨t464, A520, H⟩ := Option.bind_eq_some_iff.mp H; have A52 := Aside0.mk A520; clear A520
          by_cases c53 : t464 < 0
          ·rw [if_pos c53] at H
           have c53b0 : decide (t464 < 0) = true := decide_eq_true c53
           clear c53
           exact absurd (Option.some.inj H) (by decide)
          ·rw [if_neg c53] at H
           have c53b0 : decide (t464 < 0) = false := decide_eq_false c53
           clear c53
           by_cases c61 : t464 = t453
           ·rw [if_pos c61] at H
            have c61b0 : (t464 == t453) = true := beq_iff_eq.mpr c61
            have c61b1 : (t464 != t453) = false := bne_eq_false_iff_eq.mpr c61
            clear c61; clear H
            go_wp2_with (first | ((with_reducible refine gate_callee (f := 36) rfl ?_); refine gl_ (some 45) Try.func36 #[.slice Ao32 t441.length co32, .int .i64 1] ?_; (with_reducible refine (laws_markIntS.calls kj16 (fun k_ => some k_ = (.slice Ao32 t441.length co32 : Value).ownBlock) (.slice Ao32 t441.length co32) t441 1 t453 t454 w _ ?side1 ?side2 A43.out).mono ?_); (case side1 => repeat (first | (with_reducible first | exact HB.out | apply below_alloc | apply pw_below_drewN | apply below_drew1 | refine below_set ?_ GE427.out | refine below_set ?_ GE440.out) | exact HB.out)); (case side2 => exact Kd.R_tight rfl HO_6.out); rintro e w62 ⟨rfl, hy0, hb, hkp⟩; refine ⟨_, rfl, ?_⟩; have n0_ := Aside0.mk (Kd.R_mono (ok' := fun k_ => some k_ ≠ (.slice Ao32 t441.length co32 : Value).ownBlock) (Kd.R_keptB (HO_4.out) hkp (fun k_ hk_ hs_ => (hk_) hs_)) (fun k_ hk_ => by first | exact hk_.1 | exact hk_.1 | exact hk_.2 | exact hk_.1.1 | exact hk_.1.2 | exact hk_.2.1 | exact hk_.2.2 | exact hk_.1.1.1 | exact hk_.1.1.2 | exact hk_.1.2.1 | exact hk_.1.2.2 | exact hk_.2.1.1 | exact hk_.2.1.2 | exact hk_.2.2.1 | exact hk_.2.2.2 | exact hk_.1.1.1.1 | exact hk_.1.1.1.2 | exact hk_.1.1.2.1 | exact hk_.1.1.2.2 | exact hk_.1.2.1.1 | exact hk_.1.2.1.2 | exact hk_.1.2.2.1 | exact hk_.1.2.2.2 | exact hk_.2.1.1.1 | exact hk_.2.1.1.2 | exact hk_.2.1.2.1 | exact hk_.2.1.2.2 | exact hk_.2.2.1.1 | exact hk_.2.2.1.2 | exact hk_.2.2.2.1 | exact hk_.2.2.2.2)); have n1_ := Aside0.mk (Kd.R_reok rfl hy0 (fun k_ e_ => HO_6.out.1 k_ e_)); have n2_ := Aside0.mk (Kd.R_mono (ok' := fun k_ => True) (Kd.R_keptB ((Kd.R_apart' HO_441001.out (Kd.R_typed HO_6.out) (by decide))) hkp (fun k_ hk_ hs_ => by first | exact (hk_.2) hs_ | exact (hk_.1) hs_ | exact (hk_.2) hs_ | exact (hk_.1.1) hs_ | exact (hk_.1.2) hs_ | exact (hk_.2.1) hs_ | exact (hk_.2.2) hs_ | exact (hk_.1.1.1) hs_ | exact (hk_.1.1.2) hs_ | exact (hk_.1.2.1) hs_ | exact (hk_.1.2.2) hs_ | exact (hk_.2.1.1) hs_ | exact (hk_.2.1.2) hs_ | exact (hk_.2.2.1) hs_ | exact (hk_.2.2.2) hs_ | exact (hk_.1.1.1.1) hs_ | exact (hk_.1.1.1.2) hs_ | exact (hk_.1.1.2.1) hs_ | exact (hk_.1.1.2.2) hs_ | exact (hk_.1.2.1.1) hs_ | exact (hk_.1.2.1.2) hs_ | exact (hk_.1.2.2.1) hs_ | exact (hk_.1.2.2.2) hs_ | exact (hk_.2.1.1.1) hs_ | exact (hk_.2.1.1.2) hs_ | exact (hk_.2.1.2.1) hs_ | exact (hk_.2.1.2.2) hs_ | exact (hk_.2.2.1.1) hs_ | exact (hk_.2.2.1.2) hs_ | exact (hk_.2.2.2.1) hs_ | exact (hk_.2.2.2.2) hs_)) (fun k_ hk_ => trivial)); have n3_ := Aside0.mk (blk_kept (qk_ BK427) hkp (fun hs_ => (fun e_ => (Kd.R_ne HO_6.out BK427.out (by decide)) e_) hs_)); have n4_ := Aside0.mk (blk_kept (qk_ BK440) hkp (fun hs_ => (fun e_ => (Kd.R_ne HO_6.out BK440.out (by decide)) e_) hs_)); have n5_ := Aside0.mk (hb); clear HO_4; clear HO_6; clear HO_441001; clear BK427; clear BK440; clear HB; have HO_4 := n0_; have HO_6 := n1_; have HO_441001 := n2_; have BK427 := n3_; have BK440 := n4_; have HB := n5_; clear n0_ n1_ n2_ n3_ n4_ n5_; (try clear hb); (try clear hkp); (try clear hy0)) | ((with_reducible refine gate_callee (f := 37) rfl ?_); refine goesL_ (some 48) rfl rfl Try.func37 (by kernel_rfl) rfl #[.slice Ao32 t454.length co32, .int .i64 1] rfl (by (try simp only [List.map_toArray, List.map_cons, List.map_nil]); first | done | (rw [show t454.length = t441.length from (Kd.R_reads' HO_6.out).1.symm] <;> rfl) | rfl | (simp only [List.length_drop, List.length_take]; rfl)) ?_; (with_reducible refine (laws_heldIntS.calls kj16 _ _ t454 1 t455 _ ?side1 ?side2 A44.out).mono ?_); (case side1 => exact qD_ (Kd.R_reads' HO_6.out).2.2); (case side2 => rw [show t454.length = t441.length from (Kd.R_reads' HO_6.out).1.symm]; exact (Kd.R_reads' HO_6.out).2.1); rintro e w' ⟨rfl, ⟨nd, rfl⟩⟩; refine ⟨_, rfl, ?_⟩; have hnb63 := NB427_440.out; have hnc63 := NB440_427.out; obtain ⟨hcz64_0, hcz64_1, hfz64_0, hfz64_1⟩ := bc2_ BK427) | ((with_reducible refine gate_callee (f := 15) rfl ?_); refine gl_ (some 55) Try.func15 #[.agg #[.int .i64 a0_0, .slice A0_1 l0_1.length c0_1]] ?_; (with_reducible refine (laws_toWeb.calls kj16 a0_0 _ _ l0_1 t456 t457 _ ?side1 ?side2 A48.out).mono ?_); (case side1 => repeat (first | exact (Kd.C_below HR0_1.out qB_) | (with_reducible refine Kd.C_alloc ?_ _) | (with_reducible refine Kd.C_drewN ?_ _) | (with_reducible refine Kd.C_drew ?_))); (case side2 => exact HC0_1.out); rintro e w65 ⟨v458, rfl, ho0, hb⟩; refine ⟨_, rfl, ?_⟩; have HO459 := Aside0.mk (Kd.R_lower (Kd.R_new' ho0 (Kd.R_lt (qR_ HO_441001))) (below_size qB_)); replace HO_4 := Aside0.mk (Kd.R_below (qR_ HO_4) hb); replace HO_6 := Aside0.mk (Kd.R_below (qR_ HO_6) hb); replace HO_441001 := Aside0.mk (Kd.R_elder' (qR_ HO_441001) (Kd.R_base ho0) hb); replace BK427 := Aside0.mk (blk_below (qk_ BK427) hb); replace BK440 := Aside0.mk (blk_below (qk_ BK440) hb); replace HB := Aside0.mk (below_step qB_ hb); (try clear hb); (try clear hb2); (try clear hk); (try clear hi); (try clear ho0); obtain ⟨Ao66, co66, eo66⟩ := Kd.R_slice HO459.out; subst eo66) | ((with_reducible refine gate_callee (f := 33) rfl ?_); refine gl_ (some 56) Try.func33 #[.agg #[.int .i64 t456, .slice Ao66 t457.length co66]] ?_; (with_reducible refine (impl_WebLabels.calls kj16 t456 _ _ t457 t460 _ ?side1 ?side2 A49.out).mono ?_); (case side1 => exact qD_ (Kd.R_reads' HO459.out).2.2); (case side2 => exact (Kd.R_reads' HO459.out).2.1); rintro e w67 ⟨v461, rfl, ho0, hb⟩; refine ⟨_, rfl, ?_⟩; have HO462 := Aside0.mk (Kd.R_lower (Kd.R_new' (Kd.R_new' ho0 (Kd.R_lt (qR_ HO_4))) (Kd.R_lt (qR_ HO_6))) (below_size qB_)); replace HO_4 := Aside0.mk (Kd.R_elder' (qR_ HO_4) (Kd.R_base ho0) hb); replace HO_6 := Aside0.mk (Kd.R_elder' (qR_ HO_6) (Kd.R_base ho0) hb); replace HO_441001 := Aside0.mk (Kd.R_below (qR_ HO_441001) hb); replace HO459 := Aside0.mk (Kd.R_below (qR_ HO459) hb); replace BK427 := Aside0.mk (blk_below (qk_ BK427) hb); replace BK440 := Aside0.mk (blk_below (qk_ BK440) hb); replace HB := Aside0.mk (below_step qB_ hb); (try clear hb); (try clear hb2); (try clear hk); (try clear hi); (try clear ho0); obtain ⟨Ao68, co68, eo68⟩ := Kd.R_slice HO462.out; subst eo68) | ((with_reducible refine gate_callee (f := 34) rfl ?_); refine gl_ (some 59) Try.func34 #[.slice Ao68 t460.length co68, .slice Ao33 t433.length co33] ?_; (with_reducible refine (laws_eqIntS.calls kj16 _ _ t460 _ _ t433 true _ ?side1 ?side2 ?side3 ?side4 A50.out).mono ?_); (case side1 => exact qD_ (Kd.R_reads' HO462.out).2.2); (case side2 => exact (Kd.R_reads' HO462.out).2.1); (case side3 => exact qD_ (Kd.R_reads' HO_4.out).2.2); (case side4 => exact (Kd.R_reads' HO_4.out).2.1); rintro e w' ⟨rfl, ⟨nd, rfl⟩⟩; refine ⟨_, rfl, ?_⟩) | ((with_reducible refine gate_callee (f := 37) rfl ?_); refine goesL_ (some 63) rfl rfl Try.func37 (by kernel_rfl) rfl #[.slice Ao32 t454.length co32, .int .i64 1] rfl (by (try simp only [List.map_toArray, List.map_cons, List.map_nil]); first | done | (rw [show t454.length = t441.length from (Kd.R_reads' HO_6.out).1.symm] <;> rfl) | rfl | (simp only [List.length_drop, List.length_take]; rfl)) ?_; (with_reducible refine (laws_heldIntS.calls kj16 _ _ t454 1 t464 _ ?side1 ?side2 A52.out).mono ?_); (case side1 => exact qD_ (Kd.R_reads' HO_6.out).2.2); (case side2 => rw [show t454.length = t441.length from (Kd.R_reads' HO_6.out).1.symm]; exact (Kd.R_reads' HO_6.out).2.1); rintro e w' ⟨rfl, ⟨nd, rfl⟩⟩; refine ⟨_, rfl, ?_⟩))
            go_ret
            exact ⟨qr_, qB_⟩
           ·rw [if_neg c61] at H
            have c61b0 : (t464 == t453) = false := beq_eq_false_iff_ne.mpr c61
            have c61b1 : (t464 != t453) = true := bne_iff_ne.mpr c61
            exact absurd (Option.some.inj H) (by decide)
         ·replace c51 := Bool.eq_false_iff.mpr c51
          subst c51
          rw [if_neg (show ¬ (false = true) by decide)] at H
          exact absurd (Option.some.inj H) (by decide)
        ·rw [if_neg c47] at H
         have c47b0 : (t455 == t453) = false := beq_eq_false_iff_ne.mpr c47
         have c47b1 : (t455 != t453) = true := bne_iff_ne.mpr c47
         exact absurd (Option.some.inj H) (by decide)
   ·replace c15 := Bool.eq_false_iff.mpr c15
    subst c15
    rw [if_neg (show ¬ (false = true) by decide)] at H
    exact absurd (Option.some.inj H) (by decide)
  ·replace c12 := Bool.eq_false_iff.mpr c12
   subst c12
   rw [if_neg (show ¬ (false = true) by decide)] at H
   exact absurd (Option.some.inj H) (by decide)

end Go.Proofs.Ytbkklafkoegdpaa.QFnExactWebLabels
