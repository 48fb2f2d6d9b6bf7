-- printed for this claim by a program of the session's own (no text of the kit's print)
import Derived.Test.YtbkklafkoegdpaaQFnExactWebTogetherx0
import Derived.Test.YtbkklafkoegdpaaQFnExactWebTogetherx2
import Derived.Test.YtbkklafkoegdpaaQFnExactWebTogetherx12
import Derived.Test.YtbkklafkoegdpaaQFnExactWebTogetherx15
import Derived.Test.YtbkklafkoegdpaaQFnExactWebTogetherx16
namespace Go.Proofs.Ytbkklafkoegdpaa.QFnExactWebTogether
open Go.RowKit Go.Proofs.YtbkklafkoegdpaaW.PrintWords Go.Proofs.YtbkklafkoegdpaaW.PrintLast Go.Proofs.YtbkklafkoegdpaaW.PrintMore
attribute [local go_sem] max2_int min2_int max_two min_two max_three min_three max_four min_four   -- for this text's walks alone
set_option linter.unusedVariables false
set_option linter.unusedSimpArgs false

/-! ### impl_WebTogether: function 29 -/
def impl_WebTogether.f (k : Nat) (a0_0 : Int) (l0_1 : List (S72)) (a1 : Int) (a2 : Int) : Option (Bool) := (impl_WebOk.f k a0_0 l0_1).bind fun t420 => (if t420 = true then ((impl_in.f a1 0 (wrap64 (a0_0 - 1))).bind fun t421 => (if t421 = true then ((impl_in.f a2 0 (wrap64 (a0_0 - 1))).bind fun t422 => (if t422 = true then ((impl_labelsAt.f k a0_0 l0_1 0).bind fun t423 => (if 0 ≤ a1 then (if a1 < (t423.length : Int) then (if 0 ≤ a2 then (if a2 < (t423.length : Int) then (some ((rd t423 a1) == (rd t423 a2))) else (none)) else (none)) else (none)) else (none))) else (some false))) else (some false))) else (some false))
theorem impl_WebTogether.mono : ∀ a0 a1 a2 a3 k, LeO (impl_WebTogether.f k a0 a1 a2 a3) (impl_WebTogether.f (k + 1) a0 a1 a2 a3) := by
  intro a0 a1 a2 a3 k
  unfold impl_WebTogether.f
  repeat' first
      | (with_reducible exact impl_WebOk.mono _ _ _)
      | (with_reducible exact impl_labelsAt.mono _ _ _ _)
      | (with_reducible exact LeO.refl _)
      | (with_reducible exact LeO.none _)
      | (with_reducible refine LeO.ite ?_ ?_)
      | (with_reducible refine LeO.bind ?_ (fun _ => ?_))
      | exact impl_WebOk.mono _ _ _
      | exact impl_labelsAt.mono _ _ _ _
      | exact LeO.none _
      | refine LeO.ite ?_ ?_
      | refine LeO.bind ?_ (fun _ => ?_)
set_option maxHeartbeats 8000000 in
set_option maxRecDepth 100000 in
theorem impl_WebTogether.calls (k : Nat) (a0_0 : Int) (A0_1 : Option Addr) (c0_1 : Nat) (l0_1 : List (S72)) (a1 : Int) (a2 : Int) (r : Bool) (w : World) (hr0_1 : Kd.C k72 w A0_1 l0_1.length l0_1) (hc0_1 : l0_1.length ≤ c0_1) (h : impl_WebTogether.f k a0_0 l0_1 a1 a2 = some r) :
  Calls Try.prog 29 #[.agg #[.int .i64 a0_0, .slice A0_1 l0_1.length c0_1], .int .i64 a1, .int .i64 a2] w fun e w' => e = .returned (.bool r) ∧ Below w.heap.size w w' := by
 have hu29 := Try.underlying29
 have HR0_1 := Aside0.mk hr0_1
 have HC0_1 := Aside0.mk hc0_1
 clear hr0_1 hc0_1
 have HB := Aside0.mk (Below.refl w.heap.size w)
 have H : ((impl_WebOk.f k a0_0 l0_1).bind fun t420 => (if t420 = true then ((impl_in.f a1 0 (wrap64 (a0_0 - 1))).bind fun t421 => (if t421 = true then ((impl_in.f a2 0 (wrap64 (a0_0 - 1))).bind fun t422 => (if t422 = true then ((impl_labelsAt.f k a0_0 l0_1 0).bind fun t423 => (if 0 ≤ a1 then (if a1 < (t423.length : Int) then (if 0 ≤ a2 then (if a2 < (t423.length : Int) then (some ((rd t423 a1) == (rd t423 a2))) else (none)) else (none)) else (none)) else (none))) else (some false))) else (some false))) else (some false))) = some r := h
 clear h
 obtain ⟨t420, A40, H⟩ := Option.bind_eq_some_iff.mp H; have A4 := Aside0.mk A40; clear A40
 by_cases c5 : t420 = true
 ·subst c5
  rw [if_pos rfl] at H
  obtain ⟨t421, A60, H⟩ := Option.bind_eq_some_iff.mp H; have A6 := Aside0.mk A60; clear A60
  by_cases c7 : t421 = true
  ·subst c7
   rw [if_pos rfl] at H
   obtain ⟨t422, A80, H⟩ := Option.bind_eq_some_iff.mp H; have A8 := Aside0.mk A80; clear A80
   by_cases c9 : t422 = true
   ·subst c9
    rw [if_pos rfl] at H
    obtain ⟨t423, A100, H⟩ := Option.bind_eq_some_iff.mp H; have A10 := Aside0.mk A100; clear A100
    by_cases c11 : 0 ≤ a1
    ·rw [if_pos c11] at H
     have c11b0 : decide (0 ≤ a1) = true := decide_eq_true c11
     clear c11
     by_cases c12 : a1 < (t423.length : Int)
     ·rw [if_pos c12] at H
      have c12b0 : decide (a1 < (t423.length : Int)) = true := decide_eq_true c12
      clear c12
      by_cases c13 : 0 ≤ a2
      ·rw [if_pos c13] at H
       have c13b0 : decide (0 ≤ a2) = true := decide_eq_true c13
       clear c13
       by_cases c14 : a2 < (t423.length : Int)
       ·rw [if_pos c14] at H
        have c14b0 : decide (a2 < (t423.length : Int)) = true := decide_eq_true c14
        clear c14
        obtain rfl := Option.some.inj H
        go_enter Try.func29, Try.ntmps29
        go_wp2_with (first | ((with_reducible refine gate_dst (N := 3) rfl ?_); refine bx_ 3 (cs := #[.int .i64 a0_0, .slice A0_1 l0_1.length c0_1]) (t := 29) ?_; intro gb419 hg w15 hbox hb; have BK419 := Aside0.mk (hbox); have GW419 := Aside0.mk ((qs_ : w.heap.size ≤ gb419)); have GE419 := Aside0.mk ((qs_ : w.heap.size ≤ gb419)); replace HB := Aside0.mk (below_step qB_ hb); clear hb hbox hg; obtain ⟨hcz16_0, hcz16_1, hfz16_0, hfz16_1⟩ := bc2_ BK419) | (go_at_call 16; (with_reducible refine (impl_WebOk.calls k a0_0 _ _ l0_1 true _ ?side1 ?side2 A4.out).mono ?_); (case side1 => exact qC_ HR0_1 HB); (case side2 => exact HC0_1.out); rintro e w17 ⟨rfl, hb⟩; replace BK419 := Aside0.mk (blk_below (qk_ BK419) hb); replace HB := Aside0.mk (below_step qB_ hb); (try clear hb); (try clear hb2); (try clear hk); (try clear hi); obtain ⟨hcz18_0, hcz18_1, hfz18_0, hfz18_1⟩ := bc2_ BK419) | (go_at_call 66; (with_reducible refine (impl_in.calls a1 0 (wrap64 (a0_0 - 1)) true _ A6.out).mono ?_); rintro e w' ⟨rfl, ⟨nd, rfl⟩⟩; (try first | exact ⟨rfl, _, World.drewN_drewN _ _ _⟩ | exact ⟨rfl, _, Eq.trans (World.drewN_drewN _ _ _) (congrArg (World.drewN _) (Nat.add_assoc _ _ _))⟩)) | (go_at_call 66; (with_reducible refine (impl_in.calls a2 0 (wrap64 (a0_0 - 1)) true _ A8.out).mono ?_); rintro e w' ⟨rfl, ⟨nd, rfl⟩⟩; (try first | exact ⟨rfl, _, World.drewN_drewN _ _ _⟩ | exact ⟨rfl, _, Eq.trans (World.drewN_drewN _ _ _) (congrArg (World.drewN _) (Nat.add_assoc _ _ _))⟩)) | (go_at_call 67; (with_reducible refine (impl_labelsAt.calls k a0_0 _ _ l0_1 0 t423 _ ?side1 ?side2 A10.out).mono ?_); (case side1 => repeat (first | exact (Kd.C_below HR0_1.out qB_) | (with_reducible refine Kd.C_alloc ?_ _) | (with_reducible refine Kd.C_drewN ?_ _) | (with_reducible refine Kd.C_drew ?_))); (case side2 => exact HC0_1.out); rintro e w19 ⟨v424, rfl, ho0, hb⟩; have HO425 := Aside0.mk (Kd.R_lower ho0 (below_size qB_)); replace BK419 := Aside0.mk (blk_below (qk_ BK419) hb); replace HB := Aside0.mk (below_step qB_ hb); (try clear hb); (try clear hb2); (try clear hk); (try clear hi); (try clear ho0); obtain ⟨Ao20, co20, eo20⟩ := Kd.R_slice HO425.out; subst eo20; have p426 : 0 ≤ (a1 : Int) := of_decide_eq_true qa_; have q426 : a1 < (t423.length : Int) := of_decide_eq_true qa_; obtain ⟨ad426, e426, hx426_0⟩ := Kd.at_int (Kd.R_reads' HO425.out).2.2 a1 p426 q426; cases e426; replace p426 := eq_true p426; replace q426 := eq_true q426; have p427 : 0 ≤ (a2 : Int) := of_decide_eq_true qa_; have q427 : a2 < (t423.length : Int) := of_decide_eq_true qa_; obtain ⟨ad427, e427, hx427_0⟩ := Kd.at_int (Kd.R_reads' HO425.out).2.2 a2 p427 q427; obtain rfl : ad426 = ad427 := (by injection e427); replace p427 := eq_true p427; replace q427 := eq_true q427))
        repeat (go_quiet (first | ((with_reducible refine gate_dst (N := 3) rfl ?_); refine bx_ 3 (cs := #[.int .i64 a0_0, .slice A0_1 l0_1.length c0_1]) (t := 29) ?_; intro gb419 hg w15 hbox hb; have BK419 := Aside0.mk (hbox); have GW419 := Aside0.mk ((qs_ : w.heap.size ≤ gb419)); have GE419 := Aside0.mk ((qs_ : w.heap.size ≤ gb419)); replace HB := Aside0.mk (below_step qB_ hb); clear hb hbox hg; obtain ⟨hcz16_0, hcz16_1, hfz16_0, hfz16_1⟩ := bc2_ BK419) | (go_at_call 16; (with_reducible refine (impl_WebOk.calls k a0_0 _ _ l0_1 true _ ?side1 ?side2 A4.out).mono ?_); (case side1 => exact qC_ HR0_1 HB); (case side2 => exact HC0_1.out); rintro e w17 ⟨rfl, hb⟩; replace BK419 := Aside0.mk (blk_below (qk_ BK419) hb); replace HB := Aside0.mk (below_step qB_ hb); (try clear hb); (try clear hb2); (try clear hk); (try clear hi); obtain ⟨hcz18_0, hcz18_1, hfz18_0, hfz18_1⟩ := bc2_ BK419) | (go_at_call 66; (with_reducible refine (impl_in.calls a1 0 (wrap64 (a0_0 - 1)) true _ A6.out).mono ?_); rintro e w' ⟨rfl, ⟨nd, rfl⟩⟩; (try first | exact ⟨rfl, _, World.drewN_drewN _ _ _⟩ | exact ⟨rfl, _, Eq.trans (World.drewN_drewN _ _ _) (congrArg (World.drewN _) (Nat.add_assoc _ _ _))⟩)) | (go_at_call 66; (with_reducible refine (impl_in.calls a2 0 (wrap64 (a0_0 - 1)) true _ A8.out).mono ?_); rintro e w' ⟨rfl, ⟨nd, rfl⟩⟩; (try first | exact ⟨rfl, _, World.drewN_drewN _ _ _⟩ | exact ⟨rfl, _, Eq.trans (World.drewN_drewN _ _ _) (congrArg (World.drewN _) (Nat.add_assoc _ _ _))⟩)) | (go_at_call 67; (with_reducible refine (impl_labelsAt.calls k a0_0 _ _ l0_1 0 t423 _ ?side1 ?side2 A10.out).mono ?_); (case side1 => repeat (first | exact (Kd.C_below HR0_1.out qB_) | (with_reducible refine Kd.C_alloc ?_ _) | (with_reducible refine Kd.C_drewN ?_ _) | (with_reducible refine Kd.C_drew ?_))); (case side2 => exact HC0_1.out); rintro e w19 ⟨v424, rfl, ho0, hb⟩; have HO425 := Aside0.mk (Kd.R_lower ho0 (below_size qB_)); replace BK419 := Aside0.mk (blk_below (qk_ BK419) hb); replace HB := Aside0.mk (below_step qB_ hb); (try clear hb); (try clear hb2); (try clear hk); (try clear hi); (try clear ho0); obtain ⟨Ao20, co20, eo20⟩ := Kd.R_slice HO425.out; subst eo20; have p426 : 0 ≤ (a1 : Int) := of_decide_eq_true qa_; have q426 : a1 < (t423.length : Int) := of_decide_eq_true qa_; obtain ⟨ad426, e426, hx426_0⟩ := Kd.at_int (Kd.R_reads' HO425.out).2.2 a1 p426 q426; cases e426; replace p426 := eq_true p426; replace q426 := eq_true q426; have p427 : 0 ≤ (a2 : Int) := of_decide_eq_true qa_; have q427 : a2 < (t423.length : Int) := of_decide_eq_true qa_; obtain ⟨ad427, e427, hx427_0⟩ := Kd.at_int (Kd.R_reads' HO425.out).2.2 a2 p427 q427; obtain rfl : ad426 = ad427 := (by injection e427); replace p427 := eq_true p427; replace q427 := eq_true q427)); try go_wp2_with (first | ((with_reducible refine gate_dst (N := 3) rfl ?_); refine bx_ 3 (cs := #[.int .i64 a0_0, .slice A0_1 l0_1.length c0_1]) (t := 29) ?_; intro gb419 hg w15 hbox hb; have BK419 := Aside0.mk (hbox); have GW419 := Aside0.mk ((qs_ : w.heap.size ≤ gb419)); have GE419 := Aside0.mk ((qs_ : w.heap.size ≤ gb419)); replace HB := Aside0.mk (below_step qB_ hb); clear hb hbox hg; obtain ⟨hcz16_0, hcz16_1, hfz16_0, hfz16_1⟩ := bc2_ BK419) | (go_at_call 16; (with_reducible refine (impl_WebOk.calls k a0_0 _ _ l0_1 true _ ?side1 ?side2 A4.out).mono ?_); (case side1 => exact qC_ HR0_1 HB); (case side2 => exact HC0_1.out); rintro e w17 ⟨rfl, hb⟩; replace BK419 := Aside0.mk (blk_below (qk_ BK419) hb); replace HB := Aside0.mk (below_step qB_ hb); (try clear hb); (try clear hb2); (try clear hk); (try clear hi); obtain ⟨hcz18_0, hcz18_1, hfz18_0, hfz18_1⟩ := bc2_ BK419) | (go_at_call 66; (with_reducible refine (impl_in.calls a1 0 (wrap64 (a0_0 - 1)) true _ A6.out).mono ?_); rintro e w' ⟨rfl, ⟨nd, rfl⟩⟩; (try first | exact ⟨rfl, _, World.drewN_drewN _ _ _⟩ | exact ⟨rfl, _, Eq.trans (World.drewN_drewN _ _ _) (congrArg (World.drewN _) (Nat.add_assoc _ _ _))⟩)) | (go_at_call 66; (with_reducible refine (impl_in.calls a2 0 (wrap64 (a0_0 - 1)) true _ A8.out).mono ?_); rintro e w' ⟨rfl, ⟨nd, rfl⟩⟩; (try first | exact ⟨rfl, _, World.drewN_drewN _ _ _⟩ | exact ⟨rfl, _, Eq.trans (World.drewN_drewN _ _ _) (congrArg (World.drewN _) (Nat.add_assoc _ _ _))⟩)) | (go_at_call 67; (with_reducible refine (impl_labelsAt.calls k a0_0 _ _ l0_1 0 t423 _ ?side1 ?side2 A10.out).mono ?_); (case side1 => repeat (first | exact (Kd.C_below HR0_1.out qB_) | (with_reducible refine Kd.C_alloc ?_ _) | (with_reducible refine Kd.C_drewN ?_ _) | (with_reducible refine Kd.C_drew ?_))); (case side2 => exact HC0_1.out); rintro e w19 ⟨v424, rfl, ho0, hb⟩; have HO425 := Aside0.mk (Kd.R_lower ho0 (below_size qB_)); replace BK419 := Aside0.mk (blk_below (qk_ BK419) hb); replace HB := Aside0.mk (below_step qB_ hb); (try clear hb); (try clear hb2); (try clear hk); (try clear hi); (try clear ho0); obtain ⟨Ao20, co20, eo20⟩ := Kd.R_slice HO425.out; subst eo20; have p426 : 0 ≤ (a1 : Int) := of_decide_eq_true qa_; have q426 : a1 < (t423.length : Int) := of_decide_eq_true qa_; obtain ⟨ad426, e426, hx426_0⟩ := Kd.at_int (Kd.R_reads' HO425.out).2.2 a1 p426 q426; cases e426; replace p426 := eq_true p426; replace q426 := eq_true q426; have p427 : 0 ≤ (a2 : Int) := of_decide_eq_true qa_; have q427 : a2 < (t423.length : Int) := of_decide_eq_true qa_; obtain ⟨ad427, e427, hx427_0⟩ := Kd.at_int (Kd.R_reads' HO425.out).2.2 a2 p427 q427; obtain rfl : ad426 = ad427 := (by injection e427); replace p427 := eq_true p427; replace q427 := eq_true q427)))
        go_ret
        exact ⟨qr_, qB_⟩
       ·rw [if_neg c14] at H
        exact absurd H (by simp)
      ·rw [if_neg c13] at H
       exact absurd H (by simp)
     ·rw [if_neg c12] at H
      exact absurd H (by simp)
    ·rw [if_neg c11] at H
     exact absurd H (by simp)
   ·replace c9 := Bool.eq_false_iff.mpr c9
    subst c9
    rw [if_neg (show ¬ (false = true) by decide)] at H
    obtain rfl := Option.some.inj H
    go_enter Try.func29, Try.ntmps29
    go_wp2_with (first | ((with_reducible refine gate_dst (N := 3) rfl ?_); refine bx_ 3 (cs := #[.int .i64 a0_0, .slice A0_1 l0_1.length c0_1]) (t := 29) ?_; intro gb419 hg w21 hbox hb; have BK419 := Aside0.mk (hbox); have GW419 := Aside0.mk ((qs_ : w.heap.size ≤ gb419)); have GE419 := Aside0.mk ((qs_ : w.heap.size ≤ gb419)); replace HB := Aside0.mk (below_step qB_ hb); clear hb hbox hg; obtain ⟨hcz22_0, hcz22_1, hfz22_0, hfz22_1⟩ := bc2_ BK419) | (go_at_call 16; (with_reducible refine (impl_WebOk.calls k a0_0 _ _ l0_1 true _ ?side1 ?side2 A4.out).mono ?_); (case side1 => exact qC_ HR0_1 HB); (case side2 => exact HC0_1.out); rintro e w23 ⟨rfl, hb⟩; replace BK419 := Aside0.mk (blk_below (qk_ BK419) hb); replace HB := Aside0.mk (below_step qB_ hb); (try clear hb); (try clear hb2); (try clear hk); (try clear hi); obtain ⟨hcz24_0, hcz24_1, hfz24_0, hfz24_1⟩ := bc2_ BK419) | (go_at_call 66; (with_reducible refine (impl_in.calls a1 0 (wrap64 (a0_0 - 1)) true _ A6.out).mono ?_); rintro e w' ⟨rfl, ⟨nd, rfl⟩⟩; (try first | exact ⟨rfl, _, World.drewN_drewN _ _ _⟩ | exact ⟨rfl, _, Eq.trans (World.drewN_drewN _ _ _) (congrArg (World.drewN _) (Nat.add_assoc _ _ _))⟩)) | (go_at_call 66; (with_reducible refine (impl_in.calls a2 0 (wrap64 (a0_0 - 1)) false _ A8.out).mono ?_); rintro e w' ⟨rfl, ⟨nd, rfl⟩⟩; (try first | exact ⟨rfl, _, World.drewN_drewN _ _ _⟩ | exact ⟨rfl, _, Eq.trans (World.drewN_drewN _ _ _) (congrArg (World.drewN _) (Nat.add_assoc _ _ _))⟩)))
    repeat (go_quiet (first | ((with_reducible refine gate_dst (N := 3) rfl ?_); refine bx_ 3 (cs := #[.int .i64 a0_0, .slice A0_1 l0_1.length c0_1]) (t := 29) ?_; intro gb419 hg w21 hbox hb; have BK419 := Aside0.mk (hbox); have GW419 := Aside0.mk ((qs_ : w.heap.size ≤ gb419)); have GE419 := Aside0.mk ((qs_ : w.heap.size ≤ gb419)); replace HB := Aside0.mk (below_step qB_ hb); clear hb hbox hg; obtain ⟨hcz22_0, hcz22_1, hfz22_0, hfz22_1⟩ := bc2_ BK419) | (go_at_call 16; (with_reducible refine (impl_WebOk.calls k a0_0 _ _ l0_1 true _ ?side1 ?side2 A4.out).mono ?_); (case side1 => exact qC_ HR0_1 HB); (case side2 => exact HC0_1.out); rintro e w23 ⟨rfl, hb⟩; replace BK419 := Aside0.mk (blk_below (qk_ BK419) hb); replace HB := Aside0.mk (below_step qB_ hb); (try clear hb); (try clear hb2); (try clear hk); (try clear hi); obtain ⟨hcz24_0, hcz24_1, hfz24_0, hfz24_1⟩ := bc2_ BK419) | (go_at_call 66; (with_reducible refine (impl_in.calls a1 0 (wrap64 (a0_0 - 1)) true _ A6.out).mono ?_); rintro e w' ⟨rfl, ⟨nd, rfl⟩⟩; (try first | exact ⟨rfl, _, World.drewN_drewN _ _ _⟩ | exact ⟨rfl, _, Eq.trans (World.drewN_drewN _ _ _) (congrArg (World.drewN _) (Nat.add_assoc _ _ _))⟩)) | (go_at_call 66; (with_reducible refine (impl_in.calls a2 0 (wrap64 (a0_0 - 1)) false _ A8.out).mono ?_); rintro e w' ⟨rfl, ⟨nd, rfl⟩⟩; (try first | exact ⟨rfl, _, World.drewN_drewN _ _ _⟩ | exact ⟨rfl, _, Eq.trans (World.drewN_drewN _ _ _) (congrArg (World.drewN _) (Nat.add_assoc _ _ _))⟩))); try go_wp2_with (first | ((with_reducible refine gate_dst (N := 3) rfl ?_); refine bx_ 3 (cs := #[.int .i64 a0_0, .slice A0_1 l0_1.length c0_1]) (t := 29) ?_; intro gb419 hg w21 hbox hb; have BK419 := Aside0.mk (hbox); have GW419 := Aside0.mk ((qs_ : w.heap.size ≤ gb419)); have GE419 := Aside0.mk ((qs_ : w.heap.size ≤ gb419)); replace HB := Aside0.mk (below_step qB_ hb); clear hb hbox hg; obtain ⟨hcz22_0, hcz22_1, hfz22_0, hfz22_1⟩ := bc2_ BK419) | (go_at_call 16; (with_reducible refine (impl_WebOk.calls k a0_0 _ _ l0_1 true _ ?side1 ?side2 A4.out).mono ?_); (case side1 => exact qC_ HR0_1 HB); (case side2 => exact HC0_1.out); rintro e w23 ⟨rfl, hb⟩; replace BK419 := Aside0.mk (blk_below (qk_ BK419) hb); replace HB := Aside0.mk (below_step qB_ hb); (try clear hb); (try clear hb2); (try clear hk); (try clear hi); obtain ⟨hcz24_0, hcz24_1, hfz24_0, hfz24_1⟩ := bc2_ BK419) | (go_at_call 66; (with_reducible refine (impl_in.calls a1 0 (wrap64 (a0_0 - 1)) true _ A6.out).mono ?_); rintro e w' ⟨rfl, ⟨nd, rfl⟩⟩; (try first | exact ⟨rfl, _, World.drewN_drewN _ _ _⟩ | exact ⟨rfl, _, Eq.trans (World.drewN_drewN _ _ _) (congrArg (World.drewN _) (Nat.add_assoc _ _ _))⟩)) | (go_at_call 66; (with_reducible refine (impl_in.calls a2 0 (wrap64 (a0_0 - 1)) false _ A8.out).mono ?_); rintro e w' ⟨rfl, ⟨nd, rfl⟩⟩; (try first | exact ⟨rfl, _, World.drewN_drewN _ _ _⟩ | exact ⟨rfl, _, Eq.trans (World.drewN_drewN _ _ _) (congrArg (World.drewN _) (Nat.add_assoc _ _ _))⟩))))
    go_ret
    exact ⟨qr_, qB_⟩
  ·replace c7 := Bool.eq_false_iff.mpr c7
   subst c7
   rw [if_neg (show ¬ (false = true) by decide)] at H
   obtain rfl := Option.some.inj H
   go_enter Try.func29, Try.ntmps29
   go_wp2_with (first | ((with_reducible refine gate_dst (N := 3) rfl ?_); refine bx_ 3 (cs := #[.int .i64 a0_0, .slice A0_1 l0_1.length c0_1]) (t := 29) ?_; intro gb419 hg w25 hbox hb; have BK419 := Aside0.mk (hbox); have GW419 := Aside0.mk ((qs_ : w.heap.size ≤ gb419)); have GE419 := Aside0.mk ((qs_ : w.heap.size ≤ gb419)); replace HB := Aside0.mk (below_step qB_ hb); clear hb hbox hg; obtain ⟨hcz26_0, hcz26_1, hfz26_0, hfz26_1⟩ := bc2_ BK419) | (go_at_call 16; (with_reducible refine (impl_WebOk.calls k a0_0 _ _ l0_1 true _ ?side1 ?side2 A4.out).mono ?_); (case side1 => exact qC_ HR0_1 HB); (case side2 => exact HC0_1.out); rintro e w27 ⟨rfl, hb⟩; replace BK419 := Aside0.mk (blk_below (qk_ BK419) hb); replace HB := Aside0.mk (below_step qB_ hb); (try clear hb); (try clear hb2); (try clear hk); (try clear hi); obtain ⟨hcz28_0, hcz28_1, hfz28_0, hfz28_1⟩ := bc2_ BK419) | (go_at_call 66; (with_reducible refine (impl_in.calls a1 0 (wrap64 (a0_0 - 1)) false _ A6.out).mono ?_); rintro e w' ⟨rfl, ⟨nd, rfl⟩⟩; (try first | exact ⟨rfl, _, World.drewN_drewN _ _ _⟩ | exact ⟨rfl, _, Eq.trans (World.drewN_drewN _ _ _) (congrArg (World.drewN _) (Nat.add_assoc _ _ _))⟩)))
   repeat (go_quiet (first | ((with_reducible refine gate_dst (N := 3) rfl ?_); refine bx_ 3 (cs := #[.int .i64 a0_0, .slice A0_1 l0_1.length c0_1]) (t := 29) ?_; intro gb419 hg w25 hbox hb; have BK419 := Aside0.mk (hbox); have GW419 := Aside0.mk ((qs_ : w.heap.size ≤ gb419)); have GE419 := Aside0.mk ((qs_ : w.heap.size ≤ gb419)); replace HB := Aside0.mk (below_step qB_ hb); clear hb hbox hg; obtain ⟨hcz26_0, hcz26_1, hfz26_0, hfz26_1⟩ := bc2_ BK419) | (go_at_call 16; (with_reducible refine (impl_WebOk.calls k a0_0 _ _ l0_1 true _ ?side1 ?side2 A4.out).mono ?_); (case side1 => exact qC_ HR0_1 HB); (case side2 => exact HC0_1.out); rintro e w27 ⟨rfl, hb⟩; replace BK419 := Aside0.mk (blk_below (qk_ BK419) hb); replace HB := Aside0.mk (below_step qB_ hb); (try clear hb); (try clear hb2); (try clear hk); (try clear hi); obtain ⟨hcz28_0, hcz28_1, hfz28_0, hfz28_1⟩ := bc2_ BK419) | (go_at_call 66; (with_reducible refine (impl_in.calls a1 0 (wrap64 (a0_0 - 1)) false _ A6.out).mono ?_); rintro e w' ⟨rfl, ⟨nd, rfl⟩⟩; (try first | exact ⟨rfl, _, World.drewN_drewN _ _ _⟩ | exact ⟨rfl, _, Eq.trans (World.drewN_drewN _ _ _) (congrArg (World.drewN _) (Nat.add_assoc _ _ _))⟩))); try go_wp2_with (first | ((with_reducible refine gate_dst (N := 3) rfl ?_); refine bx_ 3 (cs := #[.int .i64 a0_0, .slice A0_1 l0_1.length c0_1]) (t := 29) ?_; intro gb419 hg w25 hbox hb; have BK419 := Aside0.mk (hbox); have GW419 := Aside0.mk ((qs_ : w.heap.size ≤ gb419)); have GE419 := Aside0.mk ((qs_ : w.heap.size ≤ gb419)); replace HB := Aside0.mk (below_step qB_ hb); clear hb hbox hg; obtain ⟨hcz26_0, hcz26_1, hfz26_0, hfz26_1⟩ := bc2_ BK419) | (go_at_call 16; (with_reducible refine (impl_WebOk.calls k a0_0 _ _ l0_1 true _ ?side1 ?side2 A4.out).mono ?_); (case side1 => exact qC_ HR0_1 HB); (case side2 => exact HC0_1.out); rintro e w27 ⟨rfl, hb⟩; replace BK419 := Aside0.mk (blk_below (qk_ BK419) hb); replace HB := Aside0.mk (below_step qB_ hb); (try clear hb); (try clear hb2); (try clear hk); (try clear hi); obtain ⟨hcz28_0, hcz28_1, hfz28_0, hfz28_1⟩ := bc2_ BK419) | (go_at_call 66; (with_reducible refine (impl_in.calls a1 0 (wrap64 (a0_0 - 1)) false _ A6.out).mono ?_); rintro e w' ⟨rfl, ⟨nd, rfl⟩⟩; (try first | exact ⟨rfl, _, World.drewN_drewN _ _ _⟩ | exact ⟨rfl, _, Eq.trans (World.drewN_drewN _ _ _) (congrArg (World.drewN _) (Nat.add_assoc _ _ _))⟩))))
   go_ret
   exact ⟨qr_, qB_⟩
 ·replace c5 := Bool.eq_false_iff.mpr c5
  subst c5
  rw [if_neg (show ¬ (false = true) by decide)] at H
  obtain rfl := Option.some.inj H
  go_enter Try.func29, Try.ntmps29
  go_wp2_with (first | ((with_reducible refine gate_dst (N := 3) rfl ?_); refine bx_ 3 (cs := #[.int .i64 a0_0, .slice A0_1 l0_1.length c0_1]) (t := 29) ?_; intro gb419 hg w29 hbox hb; have BK419 := Aside0.mk (hbox); have GW419 := Aside0.mk ((qs_ : w.heap.size ≤ gb419)); have GE419 := Aside0.mk ((qs_ : w.heap.size ≤ gb419)); replace HB := Aside0.mk (below_step qB_ hb); clear hb hbox hg; obtain ⟨hcz30_0, hcz30_1, hfz30_0, hfz30_1⟩ := bc2_ BK419) | (go_at_call 16; (with_reducible refine (impl_WebOk.calls k a0_0 _ _ l0_1 false _ ?side1 ?side2 A4.out).mono ?_); (case side1 => exact qC_ HR0_1 HB); (case side2 => exact HC0_1.out); rintro e w31 ⟨rfl, hb⟩; replace BK419 := Aside0.mk (blk_below (qk_ BK419) hb); replace HB := Aside0.mk (below_step qB_ hb); (try clear hb); (try clear hb2); (try clear hk); (try clear hi)))
  repeat (go_quiet (first | ((with_reducible refine gate_dst (N := 3) rfl ?_); refine bx_ 3 (cs := #[.int .i64 a0_0, .slice A0_1 l0_1.length c0_1]) (t := 29) ?_; intro gb419 hg w29 hbox hb; have BK419 := Aside0.mk (hbox); have GW419 := Aside0.mk ((qs_ : w.heap.size ≤ gb419)); have GE419 := Aside0.mk ((qs_ : w.heap.size ≤ gb419)); replace HB := Aside0.mk (below_step qB_ hb); clear hb hbox hg; obtain ⟨hcz30_0, hcz30_1, hfz30_0, hfz30_1⟩ := bc2_ BK419) | (go_at_call 16; (with_reducible refine (impl_WebOk.calls k a0_0 _ _ l0_1 false _ ?side1 ?side2 A4.out).mono ?_); (case side1 => exact qC_ HR0_1 HB); (case side2 => exact HC0_1.out); rintro e w31 ⟨rfl, hb⟩; replace BK419 := Aside0.mk (blk_below (qk_ BK419) hb); replace HB := Aside0.mk (below_step qB_ hb); (try clear hb); (try clear hb2); (try clear hk); (try clear hi))); try go_wp2_with (first | ((with_reducible refine gate_dst (N := 3) rfl ?_); refine bx_ 3 (cs := #[.int .i64 a0_0, .slice A0_1 l0_1.length c0_1]) (t := 29) ?_; intro gb419 hg w29 hbox hb; have BK419 := Aside0.mk (hbox); have GW419 := Aside0.mk ((qs_ : w.heap.size ≤ gb419)); have GE419 := Aside0.mk ((qs_ : w.heap.size ≤ gb419)); replace HB := Aside0.mk (below_step qB_ hb); clear hb hbox hg; obtain ⟨hcz30_0, hcz30_1, hfz30_0, hfz30_1⟩ := bc2_ BK419) | (go_at_call 16; (with_reducible refine (impl_WebOk.calls k a0_0 _ _ l0_1 false _ ?side1 ?side2 A4.out).mono ?_); (case side1 => exact qC_ HR0_1 HB); (case side2 => exact HC0_1.out); rintro e w31 ⟨rfl, hb⟩; replace BK419 := Aside0.mk (blk_below (qk_ BK419) hb); replace HB := Aside0.mk (below_step qB_ hb); (try clear hb); (try clear hb2); (try clear hk); (try clear hi))))
  go_ret
  exact ⟨qr_, qB_⟩

/-! ### laws_FnExactWebTogether: function 6 -/
def laws_FnExactWebTogether.f (k : Nat) (a0_0 : Int) (l0_1 : List (S120)) (a1 : Int) (a2 : Int) : Option (Bool) := (laws_szWeb.f a0_0 l0_1 1048576).bind fun t429 => (if t429 < 0 then (some true) else ((laws_toWeb.f k a0_0 l0_1).bind fun bt430 => ((spec_WebTogether.f k bt430.1 bt430.2 a1 a2).bind fun t434 => ((laws_toWeb.f k a0_0 l0_1).bind fun bt435 => ((impl_WebTogether.f k bt435.1 bt435.2 a1 a2).bind fun t440 => (if (t440 != t434) = true then (some false) else ((laws_toWeb.f k a0_0 l0_1).bind fun bt441 => ((laws_eqWeb.f k bt435.1 bt435.2 bt441.1 bt441.2).bind fun t445 => (if t445 = true then (some true) else (some false))))))))))
theorem laws_FnExactWebTogether.mono : ∀ a0 a1 a2 a3 k, LeO (laws_FnExactWebTogether.f k a0 a1 a2 a3) (laws_FnExactWebTogether.f (k + 1) a0 a1 a2 a3) := by
  intro a0 a1 a2 a3 k
  unfold laws_FnExactWebTogether.f
  repeat' first
      | (with_reducible exact impl_WebTogether.mono _ _ _ _ _)
      | (with_reducible exact laws_eqWeb.mono _ _ _ _ _)
      | (with_reducible exact laws_toWeb.mono _ _ _)
      | (with_reducible exact spec_WebTogether.mono _ _ _ _ _)
      | (with_reducible exact LeO.refl _)
      | (with_reducible exact LeO.none _)
      | (with_reducible refine LeO.ite ?_ ?_)
      | (with_reducible refine LeO.bind ?_ (fun _ => ?_))
      | exact impl_WebTogether.mono _ _ _ _ _
      | exact laws_eqWeb.mono _ _ _ _ _
      | exact laws_toWeb.mono _ _ _
      | exact spec_WebTogether.mono _ _ _ _ _
      | exact LeO.none _
      | refine LeO.ite ?_ ?_
      | refine LeO.bind ?_ (fun _ => ?_)
set_option maxHeartbeats 8000000 in
set_option maxRecDepth 100000 in
theorem laws_FnExactWebTogether.calls (k : Nat) (a0_0 : Int) (A0_1 : Option Addr) (c0_1 : Nat) (l0_1 : List (S120)) (a1 : Int) (a2 : Int) (w : World) (hr0_1 : Kd.C k120 w A0_1 l0_1.length l0_1) (hc0_1 : l0_1.length ≤ c0_1) (h : laws_FnExactWebTogether.f k a0_0 l0_1 a1 a2 = some true) :
  Calls Try.prog 6 #[.agg #[.int .i64 a0_0, .slice A0_1 l0_1.length c0_1], .int .i64 a1, .int .i64 a2] w fun e w' => e = .returned (.bool true) ∧ Below w.heap.size w w' := by
 have hu24 := Try.underlying24; have hu29 := Try.underlying29
 have HR0_1 := Aside0.mk hr0_1
 have HC0_1 := Aside0.mk hc0_1
 clear hr0_1 hc0_1
 have HB := Aside0.mk (Below.refl w.heap.size w)
 have H : ((laws_szWeb.f a0_0 l0_1 1048576).bind fun t429 => (if t429 < 0 then (some true) else ((laws_toWeb.f k a0_0 l0_1).bind fun bt430 => ((spec_WebTogether.f k bt430.1 bt430.2 a1 a2).bind fun t434 => ((laws_toWeb.f k a0_0 l0_1).bind fun bt435 => ((impl_WebTogether.f k bt435.1 bt435.2 a1 a2).bind fun t440 => (if (t440 != t434) = true then (some false) else ((laws_toWeb.f k a0_0 l0_1).bind fun bt441 => ((laws_eqWeb.f k bt435.1 bt435.2 bt441.1 bt441.2).bind fun t445 => (if t445 = true then (some true) else (some false))))))))))) = some true := h
 clear h
 obtain ⟨t429, A40, H⟩ := Option.bind_eq_some_iff.mp H; have A4 := Aside0.mk A40; clear A40
 by_cases c5 : t429 < 0
 ·rw [if_pos c5] at H
  have c5b0 : decide (t429 < 0) = true := decide_eq_true c5
  clear c5; clear H
  go_enter Try.func6, Try.ntmps6
  go_wp2_with (first | ((with_reducible refine gate_dst (N := 3) rfl ?_); refine bx_ 3 (cs := #[.int .i64 a0_0, .slice A0_1 l0_1.length c0_1]) (t := 24) ?_; intro gb428 hg w6 hbox hb; have BK428 := Aside0.mk (hbox); have GW428 := Aside0.mk ((qs_ : w.heap.size ≤ gb428)); have GE428 := Aside0.mk ((qs_ : w.heap.size ≤ gb428)); replace HB := Aside0.mk (below_step qB_ hb); clear hb hbox hg; obtain ⟨hcz7_0, hcz7_1, hfz7_0, hfz7_1⟩ := bc2_ BK428) | ((with_reducible refine gate_callee (f := 13) rfl ?_); refine gl_ (some 13) Try.func13 #[.agg #[.int .i64 a0_0, .slice A0_1 l0_1.length c0_1], .int .i64 1048576] ?_; (with_reducible refine (laws_szWeb.calls a0_0 _ _ l0_1 1048576 t429 _ ?side1 ?side2 A4.out).mono ?_); (case side1 => exact qC_ HR0_1 HB); (case side2 => exact HC0_1.out); rintro e w8 ⟨rfl, hb⟩; refine ⟨_, rfl, ?_⟩; replace BK428 := Aside0.mk (blk_below (qk_ BK428) hb); replace HB := Aside0.mk (below_step qB_ hb); (try clear hb); (try clear hb2); (try clear hk); (try clear hi)))
  go_ret
  exact ⟨qr_, qB_⟩
 ·rw [if_neg c5] at H
  have c5b0 : decide (t429 < 0) = false := decide_eq_false c5
  clear c5
  replace H := Option.bind_eq_some_iff.mp H
  obtain ⟨⟨t430, t431⟩, A90, H⟩ := H
  replace H : ((spec_WebTogether.f k t430 t431 a1 a2).bind fun t434 => ((laws_toWeb.f k a0_0 l0_1).bind fun bt435 => ((impl_WebTogether.f k bt435.1 bt435.2 a1 a2).bind fun t440 => (if (t440 != t434) = true then (some false) else ((laws_toWeb.f k a0_0 l0_1).bind fun bt441 => ((laws_eqWeb.f k bt435.1 bt435.2 bt441.1 bt441.2).bind fun t445 => (if t445 = true then (some true) else (some false)))))))) = some true := H
  have A9 := Aside0.mk A90
  clear A90
  obtain ⟨t434, A100, H⟩ := Option.bind_eq_some_iff.mp H; have A10 := Aside0.mk A100; clear A100
  replace H := Option.bind_eq_some_iff.mp H
  obtain ⟨⟨t435, t436⟩, A110, H⟩ := H
  replace H : ((impl_WebTogether.f k t435 t436 a1 a2).bind fun t440 => (if (t440 != t434) = true then (some false) else ((laws_toWeb.f k a0_0 l0_1).bind fun bt441 => ((laws_eqWeb.f k t435 t436 bt441.1 bt441.2).bind fun t445 => (if t445 = true then (some true) else (some false)))))) = some true := H
  have A11 := Aside0.mk A110
  clear A110
  obtain ⟨t440, A120, H⟩ := Option.bind_eq_some_iff.mp H; have A12 := Aside0.mk A120; clear A120
  by_cases c13 : (t440 != t434) = true
  ·rw [if_pos c13] at H
   have c13b0 : (t440 != t434) = true := c13
   (try (have c13b1 : decide (t440 = t434) = false := by simpa using c13))
   (try (have c13b2 : (t440 == t434) = false := by simpa using c13))
   (try (have c13b3 : ¬ (t440 = t434) := by simpa using c13))
   clear c13
   exact absurd (Option.some.inj H) (by decide)
  ·rw [if_neg c13] at H
   have c13b0 : (t440 != t434) = false := by simpa using c13
   (try (have c13b1 : decide (t440 = t434) = true := by simpa using c13))
   (try (have c13b2 : (t440 == t434) = true := by simpa using c13))
   clear c13
   replace H := Option.bind_eq_some_iff.mp H
   obtain ⟨⟨t441, t442⟩, A280, H⟩ := H
   replace H : ((laws_eqWeb.f k t435 t436 t441 t442).bind fun t445 => (if t445 = true then (some true) else (some false))) = some true := H
   have A28 := Aside0.mk A280
   clear A280
   obtain ⟨t445, A290, H⟩ := Option.bind_eq_some_iff.mp H; have A29 := Aside0.mk A290; clear A290
   by_cases c30 : t445 = true
   ·subst c30
    have H1 : (some true : Option Bool) = some true := rfl
    clear H; have H := H1; clear H1; clear H
    go_enter Try.func6, Try.ntmps6
    try go_wp2_with (first | ((with_reducible refine gate_dst (N := 3) rfl ?_); refine bx_ 3 (cs := #[.int .i64 a0_0, .slice A0_1 l0_1.length c0_1]) (t := 24) ?_; intro gb428 hg w31 hbox hb; have BK428 := Aside0.mk (hbox); have GW428 := Aside0.mk ((qs_ : w.heap.size ≤ gb428)); have GE428 := Aside0.mk ((qs_ : w.heap.size ≤ gb428)); replace HB := Aside0.mk (below_step qB_ hb); clear hb hbox hg; obtain ⟨hcz32_0, hcz32_1, hfz32_0, hfz32_1⟩ := bc2_ BK428) | ((with_reducible refine gate_callee (f := 13) rfl ?_); refine gl_ (some 13) Try.func13 #[.agg #[.int .i64 a0_0, .slice A0_1 l0_1.length c0_1], .int .i64 1048576] ?_; (with_reducible refine (laws_szWeb.calls a0_0 _ _ l0_1 1048576 t429 _ ?side1 ?side2 A4.out).mono ?_); (case side1 => exact qC_ HR0_1 HB); (case side2 => exact HC0_1.out); rintro e w33 ⟨rfl, hb⟩; refine ⟨_, rfl, ?_⟩; replace BK428 := Aside0.mk (blk_below (qk_ BK428) hb); replace HB := Aside0.mk (below_step qB_ hb); (try clear hb); (try clear hb2); (try clear hk); (try clear hi); obtain ⟨hcz34_0, hcz34_1, hfz34_0, hfz34_1⟩ := bc2_ BK428) | ((with_reducible refine gate_callee (f := 15) rfl ?_); refine gl_ (some 17) Try.func15 #[.agg #[.int .i64 a0_0, .slice A0_1 l0_1.length c0_1]] ?_; (with_reducible refine (laws_toWeb.calls k a0_0 _ _ l0_1 t430 t431 _ ?side1 ?side2 A9.out).mono ?_); (case side1 => exact qC_ HR0_1 HB); (case side2 => exact HC0_1.out); rintro e w35 ⟨v432, rfl, ho0, hb⟩; refine ⟨_, rfl, ?_⟩; have HO433 := Aside0.mk (Kd.R_lower ho0 (below_size qB_)); replace BK428 := Aside0.mk (blk_below (qk_ BK428) hb); replace HB := Aside0.mk (below_step qB_ hb); (try clear hb); (try clear hb2); (try clear hk); (try clear hi); (try clear ho0); obtain ⟨Ao36, co36, eo36⟩ := Kd.R_slice HO433.out; subst eo36) | ((with_reducible refine gate_callee (f := 28) rfl ?_); refine gl_ (some 20) Try.func28 #[.agg #[.int .i64 t430, .slice Ao36 t431.length co36], .int .i64 a1, .int .i64 a2] ?_; (with_reducible refine (spec_WebTogether.calls k t430 _ _ t431 a1 a2 t434 _ ?side1 ?side2 A10.out).mono ?_); (case side1 => exact qD_ (Kd.R_reads' HO433.out).2.2); (case side2 => exact (Kd.R_reads' HO433.out).2.1); rintro e w37 ⟨rfl, hb⟩; refine ⟨_, rfl, ?_⟩; replace HO433 := Aside0.mk (Kd.R_below (qR_ HO433) hb); replace BK428 := Aside0.mk (blk_below (qk_ BK428) hb); replace HB := Aside0.mk (below_step qB_ hb); (try clear hb); (try clear hb2); (try clear hk); (try clear hi); obtain ⟨hcz38_0, hcz38_1, hfz38_0, hfz38_1⟩ := bc2_ BK428) | ((with_reducible refine gate_callee (f := 15) rfl ?_); refine gl_ (some 22) Try.func15 #[.agg #[.int .i64 a0_0, .slice A0_1 l0_1.length c0_1]] ?_; (with_reducible refine (laws_toWeb.calls k a0_0 _ _ l0_1 t435 t436 _ ?side1 ?side2 A11.out).mono ?_); (case side1 => exact qC_ HR0_1 HB); (case side2 => exact HC0_1.out); rintro e w39 ⟨v437, rfl, ho0, hb⟩; refine ⟨_, rfl, ?_⟩; have HO438 := Aside0.mk (Kd.R_lower (Kd.R_new' ho0 (Kd.R_lt (qR_ HO433))) (below_size qB_)); replace HO433 := Aside0.mk (Kd.R_elder' (qR_ HO433) (Kd.R_base ho0) hb); replace BK428 := Aside0.mk (blk_below (qk_ BK428) hb); replace HB := Aside0.mk (below_step qB_ hb); (try clear hb); (try clear hb2); (try clear hk); (try clear hi); (try clear ho0)) | ((with_reducible refine gate_dst (N := 9) rfl ?_); refine bx_ 9 (cs := #[.int .i64 0, .slice none 0 0]) (t := 29) ?_; intro gb439 hg w40 hbox hb; have BK439 := Aside0.mk (hbox); have GW439 := Aside0.mk ((qs_ : w.heap.size ≤ gb439)); have GE439 := Aside0.mk ((qs_ : w.heap.size ≤ gb439)); have NB428_439 := Aside0.mk ((by rw [hg]; exact Nat.ne_of_lt (blk_lt (qk_ BK428)) : gb428 ≠ gb439)); have NB439_428 := Aside0.mk ((by rw [hg]; exact Nat.ne_of_gt (blk_lt (qk_ BK428)) : gb439 ≠ gb428)); replace HO433 := Aside0.mk (Kd.R_below (qR_ HO433) hb); replace HO438 := Aside0.mk (Kd.R_below (qR_ HO438) hb); replace BK428 := Aside0.mk (blk_below (qk_ BK428) hb); replace HB := Aside0.mk (below_step qB_ hb); clear hb hbox hg; have hnb41 := NB439_428.out; have hnc41 := NB428_439.out; obtain ⟨hcz42_0, hcz42_1, hfz42_0, hfz42_1⟩ := bc2_ BK439; obtain ⟨Ao43, co43, eo43⟩ := Kd.R_slice HO438.out; subst eo43) | ((with_reducible refine gate_callee (f := 29) rfl ?_); refine gl_ (some 26) Try.func29 #[.agg #[.int .i64 t435, .slice Ao43 t436.length co43], .int .i64 a1, .int .i64 a2] ?_; (with_reducible refine (impl_WebTogether.calls k t435 _ _ t436 a1 a2 t440 _ ?side1 ?side2 A12.out).mono ?_); (case side1 => refine (Kd.R_reads' (e := 72) (base := w.heap.size) (ok := fun k_ => (True ∧ some k_ ≠ (.slice Ao36 t431.length co36 : Value).ownBlock)) (n := t436.length) (c := co43) ?_).2.2; exact (by (with_reducible repeat (first | apply Kd.R_alloc | apply Kd.R_drewN | apply Kd.R_drew)); exact (Kd.R_mono (Kd.R_far (p := ⟨gb439, 1, none⟩) (Kd.R_far (p := ⟨gb439, 0, none⟩) (Kd.R_types HO438.out BK439.out (by decide)) (fun _ hk => hk.2) (.int .i64 t435)) (fun _ hk => hk.2) (.slice Ao43 t436.length co43)) (fun _ h_ => h_.1)))); (case side2 => exact (Kd.R_reads' HO438.out).2.1); rintro e w44 ⟨rfl, hb⟩; refine ⟨_, rfl, ?_⟩; replace HO433 := Aside0.mk (Kd.R_below (by (with_reducible repeat (first | apply Kd.R_alloc | apply Kd.R_drewN | apply Kd.R_drew)); exact (Kd.R_mono (Kd.R_far (p := ⟨gb439, 1, none⟩) (Kd.R_far (p := ⟨gb439, 0, none⟩) (Kd.R_types HO433.out BK439.out (by decide)) (fun _ hk => hk.2) (.int .i64 t435)) (fun _ hk => hk.2) (.slice Ao43 t436.length co43)) (fun _ h_ => h_.1))) hb); replace HO438 := Aside0.mk (Kd.R_below (by (with_reducible repeat (first | apply Kd.R_alloc | apply Kd.R_drewN | apply Kd.R_drew)); exact (Kd.R_mono (Kd.R_far (p := ⟨gb439, 1, none⟩) (Kd.R_far (p := ⟨gb439, 0, none⟩) (Kd.R_types HO438.out BK439.out (by decide)) (fun _ hk => hk.2) (.int .i64 t435)) (fun _ hk => hk.2) (.slice Ao43 t436.length co43)) (fun _ h_ => h_.1))) hb); replace BK428 := Aside0.mk (blk_below (g := gb428) (o := .cells #[.int .i64 a0_0, .slice A0_1 l0_1.length c0_1] 24 (0, 0)) (by (with_reducible repeat (first | refine blk_drewN ?_ _ | refine blk_drew ?_ | refine blk_alloc ?_ _)); refine blk_far ?_ NB428_439.out _; (with_reducible repeat (first | refine blk_drewN ?_ _ | refine blk_drew ?_ | refine blk_alloc ?_ _)); refine blk_far ?_ NB428_439.out _; (with_reducible repeat (first | refine blk_drewN ?_ _ | refine blk_drew ?_ | refine blk_alloc ?_ _)); exact BK428.out) hb); replace BK439 := Aside0.mk (blk_below (g := gb439) (o := .cells #[.int .i64 t435, .slice Ao43 t436.length co43] 29 (0, 0)) (by (with_reducible repeat (first | refine blk_drewN ?_ _ | refine blk_drew ?_ | refine blk_alloc ?_ _)); refine blk_put (cs := #[.int .i64 t435, .slice none 0 0]) ?_ 1 _ rfl; (with_reducible repeat (first | refine blk_drewN ?_ _ | refine blk_drew ?_ | refine blk_alloc ?_ _)); refine blk_put (cs := #[.int .i64 0, .slice none 0 0]) ?_ 0 _ rfl; (with_reducible repeat (first | refine blk_drewN ?_ _ | refine blk_drew ?_ | refine blk_alloc ?_ _)); exact BK439.out) hb); replace HB := Aside0.mk (below_step qB_ hb); (try clear hb); (try clear hb2); (try clear hk); (try clear hi)))
    have n0_ := Aside0.mk (Kd.R_drew HO433.out)
    have n1_ := Aside0.mk (Kd.R_drew HO438.out)
    have n2_ := Aside0.mk (blk_drew BK428.out)
    have n3_ := Aside0.mk (blk_drew BK439.out)
    have n4_ := Aside0.mk (below_drew1 HB.out)
    clear HO433; clear HO438; clear BK428; clear BK439; clear HB; have HO433 := n0_; have HO438 := n1_; have BK428 := n2_; have BK439 := n3_; have HB := n4_; clear n0_ n1_ n2_ n3_ n4_
    refine start_ (n := 5) (S := fun w' => w'.cell? ⟨gb439, 0, none⟩ = some (.int .i64 t435) ∧ w'.cell? ⟨gb439, 1, none⟩ = some (.slice Ao43 t436.length co43) ∧ w'.cell? ⟨gb428, 0, none⟩ = some (.int .i64 a0_0) ∧ w'.cell? ⟨gb428, 1, none⟩ = some (.slice A0_1 l0_1.length c0_1)) (ds := []) (bm 5 0) (by kernel_rfl) rfl (by kernel_rfl) ⟨(blk_cell BK439.out 0).trans rfl, (blk_cell BK439.out 1).trans rfl, (blk_cell BK428.out 0).trans rfl, (blk_cell BK428.out 1).trans rfl⟩ (fun hHeld => ?_)
    generalize w44.drew = w45 at HO433 HO438 BK428 BK439 HB hHeld ⊢
    refine take_ (i := 0) (N := some 30) (v := ?_) (a' := ?_) (bm 5 1) rfl rfl (by kernel_rfl) (fun _ _ _ h => h) (Or.inl ⟨by rfl, ?_⟩) hHeld ?_ ?_
    rotate_left
    ·rintro w' ⟨s0, s1, s2, s3⟩
     go_simp
     with_reducible rfl
    rotate_left
    ·simp only [Act.put, List.setIfInBounds_toArray, List.set_cons_zero, List.set_cons_succ, i64_w, i32_w]
     rfl
    refine take_ (i := 1) (N := some 31) (v := ?_) (a' := ?_) (bm 5 3) rfl rfl (by kernel_rfl) (fun _ _ _ h => h) (Or.inl ⟨by rfl, ?_⟩) hHeld ?_ ?_
    rotate_left
    ·rintro w' ⟨s0, s1, s2, s3⟩
     go_simp
     with_reducible rfl
    rotate_left
    ·simp only [Act.put, List.setIfInBounds_toArray, List.set_cons_zero, List.set_cons_succ, i64_w, i32_w]
     rfl
    refine one_ (i := 2) (N := some 32) (bm 5 7) rfl rfl (by kernel_rfl) (by decide) (fun K hK => ?_)
    refine goes_ Try.func15 (by kernel_rfl) rfl #[.agg #[.int .i64 a0_0, .slice A0_1 l0_1.length c0_1]] (by rfl) rfl rfl (by (try simp only [List.map_toArray, List.map_cons, List.map_nil]); first | done | rfl | (simp only [List.length_drop, List.length_take]; rfl)) ?_
    with_reducible refine (laws_toWeb.calls k a0_0 _ _ l0_1 t441 t442 _ ?side1 ?side2 A28.out).mono ?_
    (case side1 => exact qC_ HR0_1 HB)
    (case side2 => exact HC0_1.out)
    rintro e w46 ⟨v443, rfl, ho0, hb⟩
    refine ⟨_, rfl, ?_⟩
    have n0_ := Aside0.mk (Kd.R_elder' (qR_ HO433) (Kd.R_base ho0) hb)
    have n1_ := Aside0.mk (Kd.R_elder' (qR_ HO438) (Kd.R_base ho0) hb)
    have n2_ := Aside0.mk (Kd.R_lower (Kd.R_new' (Kd.R_new' ho0 (Kd.R_lt (qR_ HO433))) (Kd.R_lt (qR_ HO438))) (below_size qB_))
    have n3_ := Aside0.mk (blk_below (qk_ BK428) hb)
    have n4_ := Aside0.mk (blk_below (qk_ BK439) hb)
    have n5_ := Aside0.mk (below_step qB_ hb)
    clear HO433; clear HO438; clear BK428; clear BK439; clear HB; have HO433 := n0_; have HO438 := n1_; have HO444 := n2_; have BK428 := n3_; have BK439 := n4_; have HB := n5_; clear n0_ n1_ n2_ n3_ n4_ n5_; (try clear hb); (try clear hb2); (try clear hk); (try clear hi); (try clear ho0)
    obtain ⟨Ao47, co47, eo47⟩ := Kd.R_slice HO444.out
    (first | subst eo47 | (injection eo47 with f1_ f2_ f3_; have f4_ := f1_.symm; have f5_ := f3_.symm; clear f1_ f2_ f3_; subst f4_; subst f5_))
    refine hK.out _ _ ⟨(blk_cell BK439.out 0).trans rfl, (blk_cell BK439.out 1).trans rfl, (blk_cell BK428.out 0).trans rfl, (blk_cell BK428.out 1).trans rfl⟩ (fun hHeld => ?_)
    clear hK K
    refine norm_ (a' := ?_) ?_ ?_
    rotate_left
    ·show Act.put _ (some 32) _ = _
     simp only [Act.put, List.setIfInBounds_toArray, List.set_cons_zero, List.set_cons_succ, i64_w, i32_w]
     rfl
    refine one_ (i := 3) (N := some 33) (bm 5 15) rfl rfl (by kernel_rfl) (by decide) (fun K hK => ?_)
    refine goes_ Try.func17 (by kernel_rfl) rfl #[.agg #[.int .i64 t435, .slice Ao43 t436.length co43], .agg #[.int .i64 t441, .slice Ao47 t442.length co47]] (by rfl) rfl rfl (by (try simp only [List.map_toArray, List.map_cons, List.map_nil]); first | done | rfl | (simp only [List.length_drop, List.length_take]; rfl)) ?_
    with_reducible refine (laws_eqWeb.calls k t435 _ _ t436 t441 _ _ t442 true _ ?side1 ?side2 ?side3 ?side4 A29.out).mono ?_
    (case side1 => exact qD_ (Kd.R_reads' HO438.out).2.2)
    (case side2 => exact (Kd.R_reads' HO438.out).2.1)
    (case side3 => exact qD_ (Kd.R_reads' HO444.out).2.2)
    (case side4 => exact (Kd.R_reads' HO444.out).2.1)
    rintro e w48 ⟨rfl, hb⟩
    refine ⟨_, rfl, ?_⟩
    have n0_ := Aside0.mk (Kd.R_below (qR_ HO433) hb)
    have n1_ := Aside0.mk (Kd.R_below (qR_ HO438) hb)
    have n2_ := Aside0.mk (Kd.R_below (qR_ HO444) hb)
    have n3_ := Aside0.mk (blk_below (qk_ BK428) hb)
    have n4_ := Aside0.mk (blk_below (qk_ BK439) hb)
    have n5_ := Aside0.mk (below_step qB_ hb)
    clear HO433; clear HO438; clear HO444; clear BK428; clear BK439; clear HB; have HO433 := n0_; have HO438 := n1_; have HO444 := n2_; have BK428 := n3_; have BK439 := n4_; have HB := n5_; clear n0_ n1_ n2_ n3_ n4_ n5_; (try clear hb); (try clear hb2); (try clear hk); (try clear hi)
    refine hK.out _ _ ⟨(blk_cell BK439.out 0).trans rfl, (blk_cell BK439.out 1).trans rfl, (blk_cell BK428.out 0).trans rfl, (blk_cell BK428.out 1).trans rfl⟩ (fun hHeld => ?_)
    clear hK K
    refine norm_ (a' := ?_) ?_ ?_
    rotate_left
    ·show Act.put _ (some 33) _ = _
     simp only [Act.put, List.setIfInBounds_toArray, List.set_cons_zero, List.set_cons_succ, i64_w, i32_w]
     rfl
    refine pure_ (i := 4) (N := some 34) (v := ?_) (a' := ?_) (bm 5 31) rfl rfl (by kernel_rfl) (fun _ _ _ h => h) (Or.inl ⟨by rfl, ?_⟩) ?_ ?_
    rotate_left
    ·intro w'
     go_simp
     with_reducible rfl
    rotate_left
    ·simp only [Act.put, List.setIfInBounds_toArray, List.set_cons_zero, List.set_cons_succ, i64_w, i32_w]
     rfl
    refine done_ (by kernel_rfl) ?_
    try go_wp2
    go_ret
    exact ⟨qr_, qB_⟩
   ·replace c30 := Bool.eq_false_iff.mpr c30
    subst c30
    rw [if_neg (show ¬ (false = true) by decide)] at H
    exact absurd (Option.some.inj H) (by decide)

end Go.Proofs.Ytbkklafkoegdpaa.QFnExactWebTogether
