-- printed for this claim by a program of the session's own (no text of the kit's print)
import Derived.Test.YtigeiofkbccocaaQFnExactAddEdgex0
import Derived.Test.YtigeiofkbccocaaQFnExactAddEdgex6
import Derived.Test.YtigeiofkbccocaaQFnExactAddEdgex8
import Derived.Test.YtigeiofkbccocaaQFnExactAddEdgex9
namespace Go.Proofs.Ytigeiofkbccocaa.QFnExactAddEdge
open Go.RowKit Go.Proofs.YtigeiofkbccocaaW.PrintWords Go.Proofs.YtigeiofkbccocaaW.PrintLast Go.Proofs.YtigeiofkbccocaaW.PrintMore
attribute [local go_sem] max2_int min2_int max_two min_two max_three min_three max_four min_four   -- for this text's walks alone
set_option linter.unusedVariables false
set_option linter.unusedSimpArgs false

/-! ### impl_AddEdge: function 53 -/
def impl_AddEdge.f (k : Nat) (a0_0 : Int) (l0_1 : List (S79)) (a1_0 : Int) (a1_1 : Int) : Option (Int × (List (S79)) × Bool) := (impl_GraphOk.f k a0_0 l0_1).bind fun t249 => (if t249 = true then ((impl_EdgeOk.f a0_0 a1_0 a1_1).bind fun t250 => (if t250 = true then ((impl_HasEdge.f k a0_0 l0_1 a1_0 a1_1).bind fun t251 => (if t251 = true then (some (0, ([] : List (S79)), false)) else ((impl_withEdge.f k l0_1 a1_0 a1_1).bind fun t252 => (some (a0_0, t252, true))))) else (some (0, ([] : List (S79)), false)))) else (some (0, ([] : List (S79)), false)))
theorem impl_AddEdge.mono : ∀ a0 a1 a2 a3 k, LeO (impl_AddEdge.f k a0 a1 a2 a3) (impl_AddEdge.f (k + 1) a0 a1 a2 a3) := by
  intro a0 a1 a2 a3 k
  unfold impl_AddEdge.f
  repeat' first
      | (with_reducible exact impl_GraphOk.mono _ _ _)
      | (with_reducible exact impl_HasEdge.mono _ _ _ _ _)
      | (with_reducible exact impl_withEdge.mono _ _ _ _)
      | (with_reducible exact LeO.refl _)
      | (with_reducible exact LeO.none _)
      | (with_reducible refine LeO.ite ?_ ?_)
      | (with_reducible refine LeO.bind ?_ (fun _ => ?_))
      | exact impl_GraphOk.mono _ _ _
      | exact impl_HasEdge.mono _ _ _ _ _
      | exact impl_withEdge.mono _ _ _ _
      | exact LeO.none _
      | refine LeO.ite ?_ ?_
      | refine LeO.bind ?_ (fun _ => ?_)
def impl_AddEdge.T3 : Bool × List (List Nat × List Nat) := (true, [([], []), ([0], [0]), ([], []), ([2], [2]), ([], []), ([3, 4], [3, 4]), ([1, 5], [1, 5]), ([6, 5, 0, 1, 2, 3, 4, 5, 6], [6]), ([7, 0, 1, 2, 3, 4, 5, 6, 7], [])])
def impl_AddEdge.B3 : List Nat := [0, 1, 0, 4, 0, 28, 63, 127, 255]
theorem impl_AddEdge.tab3 : rtab .any (opsOf Try.f53 3) = impl_AddEdge.T3 := by kernel_rfl
theorem impl_AddEdge.bits3 : waitsOk impl_AddEdge.T3.2 impl_AddEdge.B3 = true := by kernel_rfl
set_option maxHeartbeats 8000000 in
set_option maxRecDepth 100000 in
theorem impl_AddEdge.calls (k : Nat) (a0_0 : Int) (A0_1 : Option Addr) (c0_1 : Nat) (l0_1 : List (S79)) (a1_0 : Int) (a1_1 : Int) (r1 : Int) (r2 : List (S79)) (r3 : Bool) (w : World) (hr0_1 : Kd.C k79 w A0_1 l0_1.length l0_1) (hc0_1 : l0_1.length ≤ c0_1) (h : impl_AddEdge.f k a0_0 l0_1 a1_0 a1_1 = some (r1, r2, r3)) :
  Calls Try.prog 53 #[.agg #[.int .i64 a0_0, .slice A0_1 l0_1.length c0_1], .agg #[.int .i64 a1_0, .int .i64 a1_1]] w fun e w' => ∃ v1_ : Value, e = .returned (.tuple #[.agg #[.int .i64 r1, v1_], .bool r3]) ∧ Kd.R k79 79 w' w.heap.size (fun _ => True) v1_ r2 ∧ Below w.heap.size w w' := by
 have hu58 := Try.underlying58; have hu79 := Try.underlying79
 have HR0_1 := Aside0.mk hr0_1
 have HC0_1 := Aside0.mk hc0_1
 clear hr0_1 hc0_1
 have HB := Aside0.mk (Below.refl w.heap.size w)
 have H : ((impl_GraphOk.f k a0_0 l0_1).bind fun t249 => (if t249 = true then ((impl_EdgeOk.f a0_0 a1_0 a1_1).bind fun t250 => (if t250 = true then ((impl_HasEdge.f k a0_0 l0_1 a1_0 a1_1).bind fun t251 => (if t251 = true then (some (0, ([] : List (S79)), false)) else ((impl_withEdge.f k l0_1 a1_0 a1_1).bind fun t252 => (some (a0_0, t252, true))))) else (some (0, ([] : List (S79)), false)))) else (some (0, ([] : List (S79)), false)))) = some (r1, r2, r3) := h
 clear h
 obtain ⟨t249, A30, H⟩ := Option.bind_eq_some_iff.mp H; have A3 := Aside0.mk A30; clear A30
 by_cases c4 : t249 = true
 ·subst c4
  rw [if_pos rfl] at H
  obtain ⟨t250, A50, H⟩ := Option.bind_eq_some_iff.mp H; have A5 := Aside0.mk A50; clear A50
  by_cases c6 : t250 = true
  ·subst c6
   rw [if_pos rfl] at H
   obtain ⟨t251, A70, H⟩ := Option.bind_eq_some_iff.mp H; have A7 := Aside0.mk A70; clear A70
   by_cases c8 : t251 = true
   ·subst c8
    rw [if_pos rfl] at H
    simp only [Option.some.injEq, Prod.mk.injEq] at H
    obtain ⟨rfl, rfl, rfl⟩ := H
    go_enter Try.func53, Try.ntmps53
    go_wp2_with (first | ((with_reducible refine gate_dst (N := 2) rfl ?_); refine bx_ 2 (cs := #[.int .i64 a0_0, .slice A0_1 l0_1.length c0_1]) (t := 58) ?_; intro gb246 hg w9 hbox hb; have BK246 := Aside0.mk (hbox); have GW246 := Aside0.mk ((qs_ : w.heap.size ≤ gb246)); have GE246 := Aside0.mk ((qs_ : w.heap.size ≤ gb246)); replace HB := Aside0.mk (below_step qB_ hb); clear hb hbox hg) | ((with_reducible refine gate_dst (N := 3) rfl ?_); refine bx_ 3 (cs := #[.int .i64 a1_0, .int .i64 a1_1]) (t := 79) ?_; intro gb247 hg w10 hbox hb; have BK247 := Aside0.mk (hbox); have GW247 := Aside0.mk ((qs_ : w.heap.size ≤ gb247)); have GE247 := Aside0.mk ((qs_ : w.heap.size ≤ gb247)); have NB246_247 := Aside0.mk ((by rw [hg]; exact Nat.ne_of_lt (blk_lt (qk_ BK246)) : gb246 ≠ gb247)); have NB247_246 := Aside0.mk ((by rw [hg]; exact Nat.ne_of_gt (blk_lt (qk_ BK246)) : gb247 ≠ gb246)); replace BK246 := Aside0.mk (blk_below (qk_ BK246) hb); replace HB := Aside0.mk (below_step qB_ hb); clear hb hbox hg) | ((with_reducible refine gate_dst (N := 4) rfl ?_); refine bx_ 4 (cs := #[.int .i64 0, .slice none 0 0]) (t := 58) ?_; intro gb248 hg w11 hbox hb; have BK248 := Aside0.mk (hbox); have GW248 := Aside0.mk ((qs_ : w.heap.size ≤ gb248)); have GE248 := Aside0.mk ((qs_ : w.heap.size ≤ gb248)); have NB246_248 := Aside0.mk ((by rw [hg]; exact Nat.ne_of_lt (blk_lt (qk_ BK246)) : gb246 ≠ gb248)); have NB248_246 := Aside0.mk ((by rw [hg]; exact Nat.ne_of_gt (blk_lt (qk_ BK246)) : gb248 ≠ gb246)); have NB247_248 := Aside0.mk ((by rw [hg]; exact Nat.ne_of_lt (blk_lt (qk_ BK247)) : gb247 ≠ gb248)); have NB248_247 := Aside0.mk ((by rw [hg]; exact Nat.ne_of_gt (blk_lt (qk_ BK247)) : gb248 ≠ gb247)); replace BK246 := Aside0.mk (blk_below (qk_ BK246) hb); replace BK247 := Aside0.mk (blk_below (qk_ BK247) hb); replace HB := Aside0.mk (below_step qB_ hb); clear hb hbox hg; have hnb12 := NB246_247.out; have hnc12 := NB247_246.out; have hnb13 := NB246_248.out; have hnc13 := NB248_246.out; obtain ⟨hcz14_0, hcz14_1, hfz14_0, hfz14_1⟩ := bc2_ BK246) | ((with_reducible refine gate_callee (f := 89) rfl ?_); refine gl_ (some 7) Try.func89 #[.agg #[.int .i64 a0_0, .slice A0_1 l0_1.length c0_1]] ?_; (with_reducible refine (impl_GraphOk.calls k a0_0 _ _ l0_1 true _ ?side1 ?side2 A3.out).mono ?_); (case side1 => exact qC_ HR0_1 HB); (case side2 => exact HC0_1.out); rintro e w15 ⟨rfl, hb⟩; refine ⟨_, rfl, ?_⟩; replace BK246 := Aside0.mk (blk_below (qk_ BK246) hb); replace BK247 := Aside0.mk (blk_below (qk_ BK247) hb); replace BK248 := Aside0.mk (blk_below (qk_ BK248) hb); replace HB := Aside0.mk (below_step qB_ hb); (try clear hb); (try clear hb2); (try clear hk); (try clear hi); obtain ⟨hcz16_0, hcz16_1, hfz16_0, hfz16_1⟩ := bc2_ BK246; have hnb17 := NB247_248.out; have hnc17 := NB248_247.out; obtain ⟨hcz18_0, hcz18_1, hfz18_0, hfz18_1⟩ := bc2_ BK247) | (go_at_call 106; (with_reducible refine (impl_EdgeOk.calls a0_0 a1_0 a1_1 true _ A5.out).mono ?_); rintro e w19 ⟨rfl, hb⟩; replace BK246 := Aside0.mk (blk_below (qk_ BK246) hb); replace BK247 := Aside0.mk (blk_below (qk_ BK247) hb); replace BK248 := Aside0.mk (blk_below (qk_ BK248) hb); replace HB := Aside0.mk (below_step qB_ hb); (try clear hb); (try clear hb2); (try clear hk); (try clear hi); obtain ⟨hcz20_0, hcz20_1, hfz20_0, hfz20_1⟩ := bc2_ BK246; obtain ⟨hcz21_0, hcz21_1, hfz21_0, hfz21_1⟩ := bc2_ BK247) | (go_at_call 99; (with_reducible refine (impl_HasEdge.calls k a0_0 _ _ l0_1 a1_0 a1_1 true _ ?side1 ?side2 A7.out).mono ?_); (case side1 => exact qC_ HR0_1 HB); (case side2 => exact HC0_1.out); rintro e w22 ⟨rfl, hb⟩; replace BK246 := Aside0.mk (blk_below (qk_ BK246) hb); replace BK247 := Aside0.mk (blk_below (qk_ BK247) hb); replace BK248 := Aside0.mk (blk_below (qk_ BK248) hb); replace HB := Aside0.mk (below_step qB_ hb); (try clear hb); (try clear hb2); (try clear hk); (try clear hi); obtain ⟨hcz23_0, hcz23_1, hfz23_0, hfz23_1⟩ := bc2_ BK248))
    refine bodyPost_ret (results_ct rfl _ _ gb248 58 #[.int .i64 0, .slice none 0 0] (0, 0) _ rfl (by (with_reducible repeat (first | refine blk_drewN ?_ _ | refine blk_drew ?_ | refine blk_alloc ?_ _)); refine blk_put (cs := #[.int .i64 0, .slice none 0 0]) ?_ 1 _ rfl; (with_reducible repeat (first | refine blk_drewN ?_ _ | refine blk_drew ?_ | refine blk_alloc ?_ _)); refine blk_put (cs := #[.int .i64 0, .slice none 0 0]) ?_ 0 _ rfl; (with_reducible repeat (first | refine blk_drewN ?_ _ | refine blk_drew ?_ | refine blk_alloc ?_ _)); exact BK248.out) Try.underlying58 rfl (by kernel_rfl)) rfl ?_
    exact ⟨_, qr_, by first | exact Kd.R_nil _ _ _ _ _ | exact Kd.N_nil _ _ _ _ _ | exact Kd.V_nil _ _ _ _ _ | exact Kd.Q_nil _ _ _ _ _ | exact Kd.S_nil _ _ _ _ _, qB_⟩
   ·replace c8 := Bool.eq_false_iff.mpr c8
    subst c8
    rw [if_neg (show ¬ (false = true) by decide)] at H
    obtain ⟨t252, A240, H⟩ := Option.bind_eq_some_iff.mp H; have A24 := Aside0.mk A240; clear A240
    simp only [Option.some.injEq, Prod.mk.injEq] at H
    obtain ⟨rfl, rfl, rfl⟩ := H
    go_enter Try.func53, Try.ntmps53
    try go_wp2_with (first | ((with_reducible refine gate_dst (N := 2) rfl ?_); refine bx_ 2 (cs := #[.int .i64 a0_0, .slice A0_1 l0_1.length c0_1]) (t := 58) ?_; intro gb246 hg w25 hbox hb; have BK246 := Aside0.mk (hbox); have GW246 := Aside0.mk ((qs_ : w.heap.size ≤ gb246)); have GE246 := Aside0.mk ((qs_ : w.heap.size ≤ gb246)); replace HB := Aside0.mk (below_step qB_ hb); clear hb hbox hg) | ((with_reducible refine gate_dst (N := 3) rfl ?_); refine bx_ 3 (cs := #[.int .i64 a1_0, .int .i64 a1_1]) (t := 79) ?_; intro gb247 hg w26 hbox hb; have BK247 := Aside0.mk (hbox); have GW247 := Aside0.mk ((qs_ : w.heap.size ≤ gb247)); have GE247 := Aside0.mk ((qs_ : w.heap.size ≤ gb247)); have NB246_247 := Aside0.mk ((by rw [hg]; exact Nat.ne_of_lt (blk_lt (qk_ BK246)) : gb246 ≠ gb247)); have NB247_246 := Aside0.mk ((by rw [hg]; exact Nat.ne_of_gt (blk_lt (qk_ BK246)) : gb247 ≠ gb246)); replace BK246 := Aside0.mk (blk_below (qk_ BK246) hb); replace HB := Aside0.mk (below_step qB_ hb); clear hb hbox hg) | ((with_reducible refine gate_dst (N := 4) rfl ?_); refine bx_ 4 (cs := #[.int .i64 0, .slice none 0 0]) (t := 58) ?_; intro gb248 hg w27 hbox hb; have BK248 := Aside0.mk (hbox); have GW248 := Aside0.mk ((qs_ : w.heap.size ≤ gb248)); have GE248 := Aside0.mk ((qs_ : w.heap.size ≤ gb248)); have NB246_248 := Aside0.mk ((by rw [hg]; exact Nat.ne_of_lt (blk_lt (qk_ BK246)) : gb246 ≠ gb248)); have NB248_246 := Aside0.mk ((by rw [hg]; exact Nat.ne_of_gt (blk_lt (qk_ BK246)) : gb248 ≠ gb246)); have NB247_248 := Aside0.mk ((by rw [hg]; exact Nat.ne_of_lt (blk_lt (qk_ BK247)) : gb247 ≠ gb248)); have NB248_247 := Aside0.mk ((by rw [hg]; exact Nat.ne_of_gt (blk_lt (qk_ BK247)) : gb248 ≠ gb247)); replace BK246 := Aside0.mk (blk_below (qk_ BK246) hb); replace BK247 := Aside0.mk (blk_below (qk_ BK247) hb); replace HB := Aside0.mk (below_step qB_ hb); clear hb hbox hg; have hnb28 := NB246_247.out; have hnc28 := NB247_246.out; have hnb29 := NB246_248.out; have hnc29 := NB248_246.out; obtain ⟨hcz30_0, hcz30_1, hfz30_0, hfz30_1⟩ := bc2_ BK246) | ((with_reducible refine gate_callee (f := 89) rfl ?_); refine gl_ (some 7) Try.func89 #[.agg #[.int .i64 a0_0, .slice A0_1 l0_1.length c0_1]] ?_; (with_reducible refine (impl_GraphOk.calls k a0_0 _ _ l0_1 true _ ?side1 ?side2 A3.out).mono ?_); (case side1 => exact qC_ HR0_1 HB); (case side2 => exact HC0_1.out); rintro e w31 ⟨rfl, hb⟩; refine ⟨_, rfl, ?_⟩; replace BK246 := Aside0.mk (blk_below (qk_ BK246) hb); replace BK247 := Aside0.mk (blk_below (qk_ BK247) hb); replace BK248 := Aside0.mk (blk_below (qk_ BK248) hb); replace HB := Aside0.mk (below_step qB_ hb); (try clear hb); (try clear hb2); (try clear hk); (try clear hi); obtain ⟨hcz32_0, hcz32_1, hfz32_0, hfz32_1⟩ := bc2_ BK246; have hnb33 := NB247_248.out; have hnc33 := NB248_247.out; obtain ⟨hcz34_0, hcz34_1, hfz34_0, hfz34_1⟩ := bc2_ BK247) | (go_at_call 106; (with_reducible refine (impl_EdgeOk.calls a0_0 a1_0 a1_1 true _ A5.out).mono ?_); rintro e w35 ⟨rfl, hb⟩; replace BK246 := Aside0.mk (blk_below (qk_ BK246) hb); replace BK247 := Aside0.mk (blk_below (qk_ BK247) hb); replace BK248 := Aside0.mk (blk_below (qk_ BK248) hb); replace HB := Aside0.mk (below_step qB_ hb); (try clear hb); (try clear hb2); (try clear hk); (try clear hi); obtain ⟨hcz36_0, hcz36_1, hfz36_0, hfz36_1⟩ := bc2_ BK246; obtain ⟨hcz37_0, hcz37_1, hfz37_0, hfz37_1⟩ := bc2_ BK247) | (go_at_call 99; (with_reducible refine (impl_HasEdge.calls k a0_0 _ _ l0_1 a1_0 a1_1 false _ ?side1 ?side2 A7.out).mono ?_); (case side1 => exact qC_ HR0_1 HB); (case side2 => exact HC0_1.out); rintro e w38 ⟨rfl, hb⟩; replace BK246 := Aside0.mk (blk_below (qk_ BK246) hb); replace BK247 := Aside0.mk (blk_below (qk_ BK247) hb); replace BK248 := Aside0.mk (blk_below (qk_ BK248) hb); replace HB := Aside0.mk (below_step qB_ hb); (try clear hb); (try clear hb2); (try clear hk); (try clear hi)))
    have n0_ := Aside0.mk (blk_drew BK246.out)
    have n1_ := Aside0.mk (blk_drew BK247.out)
    have n2_ := Aside0.mk (blk_drew BK248.out)
    have n3_ := Aside0.mk (below_drew1 HB.out)
    clear BK246; clear BK247; clear BK248; clear HB; have BK246 := n0_; have BK247 := n1_; have BK248 := n2_; have HB := n3_; clear n0_ n1_ n2_ n3_
    refine start_ (n := 9) (S := fun w' => w'.cell? ⟨gb246, 0, none⟩ = some (.int .i64 a0_0) ∧ w'.cell? ⟨gb246, 1, none⟩ = some (.slice A0_1 l0_1.length c0_1) ∧ w'.cell? ⟨gb247, 0, none⟩ = some (.int .i64 a1_0) ∧ w'.cell? ⟨gb247, 1, none⟩ = some (.int .i64 a1_1)) (ds := []) (bm 9 0) (by kernel_rfl) rfl (by kernel_rfl) ⟨(blk_cell BK246.out 0).trans rfl, (blk_cell BK246.out 1).trans rfl, (blk_cell BK247.out 0).trans rfl, (blk_cell BK247.out 1).trans rfl⟩ (fun hHeld => ?_); refine with_tabW impl_AddEdge.tab3 impl_AddEdge.bits3 (fun HT_ HW_ => ?_)
    generalize w38.drew = w39 at BK246 BK247 BK248 HB hHeld ⊢
    refine pz_ 0 22 (bm 9 1) ?_; refine pz_ 2 24 (bm 9 5) ?_; refine tz4_ 1 23 (bm 9 7) ?_; refine tz4_ 3 25 (bm 9 15) ?_; refine tz4_ 4 26 (bm 9 31) ?_
    refine one_ (i := 5) (N := some 27) (bm 9 63) rfl rfl (one_of HT_.out (by kernel_rfl)) (by decide) (fun K hK => ?_)
    refine goes_ Try.func107 (by kernel_rfl) rfl #[.slice A0_1 l0_1.length c0_1, .agg #[.int .i64 a1_0, .int .i64 a1_1]] (by rfl) rfl rfl (by (try simp only [List.map_toArray, List.map_cons, List.map_nil]); first | done | rfl | (simp only [List.length_drop, List.length_take]; rfl)) ?_
    with_reducible refine (impl_withEdge.calls k _ _ l0_1 a1_0 a1_1 t252 _ ?side1 ?side2 A24.out).mono ?_
    (case side1 => exact qC_ HR0_1 HB)
    (case side2 => exact HC0_1.out)
    rintro e w40 ⟨v253, rfl, ho0, hb⟩
    refine ⟨_, rfl, ?_⟩
    have n0_ := Aside0.mk (Kd.R_lower (Kd.R_newB ho0 (qk_ BK247)) (below_size qB_))
    have n1_ := Aside0.mk (blk_below (qk_ BK246) hb)
    have n2_ := Aside0.mk (blk_below (qk_ BK247) hb)
    have n3_ := Aside0.mk (blk_below (qk_ BK248) hb)
    have n4_ := Aside0.mk (below_step qB_ hb)
    clear BK246; clear BK247; clear BK248; clear HB; have HO254 := n0_; have BK246 := n1_; have BK247 := n2_; have BK248 := n3_; have HB := n4_; clear n0_ n1_ n2_ n3_ n4_; (try clear hb); (try clear hb2); (try clear hk); (try clear hi); (try clear ho0)
    obtain ⟨Ao41, co41, eo41⟩ := Kd.R_slice HO254.out
    (first | subst eo41 | (injection eo41 with f1_ f2_ f3_; have f4_ := f1_.symm; have f5_ := f3_.symm; clear f1_ f2_ f3_; subst f4_; subst f5_))
    refine hK.out _ _ ⟨(blk_cell BK246.out 0).trans rfl, (blk_cell BK246.out 1).trans rfl, (blk_cell BK247.out 0).trans rfl, (blk_cell BK247.out 1).trans rfl⟩ (fun hHeld => ?_)
    clear hK K
    refine norm_ (a' := ?_) ?_ ?_
    rotate_left
    ·show Act.put _ (some 27) _ = _
     simp only [Act.put, List.setIfInBounds_toArray, List.set_cons_zero, List.set_cons_succ, i64_w, i32_w]
     rfl
    refine pz_ 6 28 (bm 9 127) ?_
    refine one_ (i := 7) (N := none) (bm 9 255) rfl rfl (one_of HT_.out (by kernel_rfl)) (by decide) (fun K hK => ?_)
    have hs42 : w40.cell? ⟨gb248, 0, none⟩ = some (.int .i64 0) := (blk_cell BK248.out 0).trans rfl
    have hfs42 := blk_frozen BK248.out 0
    have hns42_0 := NB246_248.out; have hns42_1 := NB247_248.out; have hms42_0 := NB248_246.out; have hms42_1 := NB248_247.out
    have hs43 : w40.cell? ⟨gb248, 1, none⟩ = some (.slice none 0 0) := (blk_cell BK248.out 1).trans rfl
    have hfs43 := blk_frozen BK248.out 1
    have hns43_0 := NB246_248.out; have hns43_1 := NB247_248.out; have hms43_0 := NB248_246.out; have hms43_1 := NB248_247.out
    refine skip_ (w1 := ?_) (by rfl) rfl ?_ ?_
    rotate_left
    ·go_simp
     rfl
    refine hK.out _ _ ⟨((cell_far (p := ⟨gb248, _, none⟩) NB246_248.out _).trans (((cell_far (p := ⟨gb248, _, none⟩) NB246_248.out _).trans (hHeld.1)))), ((cell_far (p := ⟨gb248, _, none⟩) NB246_248.out _).trans (((cell_far (p := ⟨gb248, _, none⟩) NB246_248.out _).trans (hHeld.2.1)))), ((cell_far (p := ⟨gb248, _, none⟩) NB247_248.out _).trans (((cell_far (p := ⟨gb248, _, none⟩) NB247_248.out _).trans (hHeld.2.2.1)))), ((cell_far (p := ⟨gb248, _, none⟩) NB247_248.out _).trans (((cell_far (p := ⟨gb248, _, none⟩) NB247_248.out _).trans (hHeld.2.2.2))))⟩ (fun hHeld => ?_)
    clear hK K; refine pz_ 8 5 (bm 9 511) ?_
    refine done_ (done_of HT_.out (by kernel_rfl)) ?_
    try go_wp2
    refine bodyPost_ret (results_ct rfl _ _ gb248 58 #[.int .i64 a0_0, .slice Ao41 t252.length co41] (0, 0) _ rfl (by (with_reducible repeat (first | refine blk_drewN ?_ _ | refine blk_drew ?_ | refine blk_alloc ?_ _)); refine blk_put (cs := #[.int .i64 a0_0, .slice none 0 0]) ?_ 1 _ rfl; (with_reducible repeat (first | refine blk_drewN ?_ _ | refine blk_drew ?_ | refine blk_alloc ?_ _)); refine blk_put (cs := #[.int .i64 0, .slice none 0 0]) ?_ 0 _ rfl; (with_reducible repeat (first | refine blk_drewN ?_ _ | refine blk_drew ?_ | refine blk_alloc ?_ _)); exact BK248.out) Try.underlying58 rfl (by kernel_rfl)) rfl ?_
    exact ⟨_, qr_, by (with_reducible repeat (first | apply Kd.R_alloc | apply Kd.R_drewN | apply Kd.R_drew)); exact Kd.R_mono (Kd.R_far (p := ⟨gb248, 1, none⟩) (Kd.R_far (p := ⟨gb248, 0, none⟩) (Kd.R_types HO254.out BK248.out (by decide)) (fun _ hk => hk.2) (.int .i64 a0_0)) (fun _ hk => hk.2) (.slice Ao41 t252.length co41)) (fun _ hk => trivial), qB_⟩
  ·replace c6 := Bool.eq_false_iff.mpr c6
   subst c6
   rw [if_neg (show ¬ (false = true) by decide)] at H
   simp only [Option.some.injEq, Prod.mk.injEq] at H
   obtain ⟨rfl, rfl, rfl⟩ := H
   go_enter Try.func53, Try.ntmps53
   go_wp2_with (first | ((with_reducible refine gate_dst (N := 2) rfl ?_); refine bx_ 2 (cs := #[.int .i64 a0_0, .slice A0_1 l0_1.length c0_1]) (t := 58) ?_; intro gb246 hg w44 hbox hb; have BK246 := Aside0.mk (hbox); have GW246 := Aside0.mk ((qs_ : w.heap.size ≤ gb246)); have GE246 := Aside0.mk ((qs_ : w.heap.size ≤ gb246)); replace HB := Aside0.mk (below_step qB_ hb); clear hb hbox hg) | ((with_reducible refine gate_dst (N := 3) rfl ?_); refine bx_ 3 (cs := #[.int .i64 a1_0, .int .i64 a1_1]) (t := 79) ?_; intro gb247 hg w45 hbox hb; have BK247 := Aside0.mk (hbox); have GW247 := Aside0.mk ((qs_ : w.heap.size ≤ gb247)); have GE247 := Aside0.mk ((qs_ : w.heap.size ≤ gb247)); have NB246_247 := Aside0.mk ((by rw [hg]; exact Nat.ne_of_lt (blk_lt (qk_ BK246)) : gb246 ≠ gb247)); have NB247_246 := Aside0.mk ((by rw [hg]; exact Nat.ne_of_gt (blk_lt (qk_ BK246)) : gb247 ≠ gb246)); replace BK246 := Aside0.mk (blk_below (qk_ BK246) hb); replace HB := Aside0.mk (below_step qB_ hb); clear hb hbox hg) | ((with_reducible refine gate_dst (N := 4) rfl ?_); refine bx_ 4 (cs := #[.int .i64 0, .slice none 0 0]) (t := 58) ?_; intro gb248 hg w46 hbox hb; have BK248 := Aside0.mk (hbox); have GW248 := Aside0.mk ((qs_ : w.heap.size ≤ gb248)); have GE248 := Aside0.mk ((qs_ : w.heap.size ≤ gb248)); have NB246_248 := Aside0.mk ((by rw [hg]; exact Nat.ne_of_lt (blk_lt (qk_ BK246)) : gb246 ≠ gb248)); have NB248_246 := Aside0.mk ((by rw [hg]; exact Nat.ne_of_gt (blk_lt (qk_ BK246)) : gb248 ≠ gb246)); have NB247_248 := Aside0.mk ((by rw [hg]; exact Nat.ne_of_lt (blk_lt (qk_ BK247)) : gb247 ≠ gb248)); have NB248_247 := Aside0.mk ((by rw [hg]; exact Nat.ne_of_gt (blk_lt (qk_ BK247)) : gb248 ≠ gb247)); replace BK246 := Aside0.mk (blk_below (qk_ BK246) hb); replace BK247 := Aside0.mk (blk_below (qk_ BK247) hb); replace HB := Aside0.mk (below_step qB_ hb); clear hb hbox hg; have hnb47 := NB246_247.out; have hnc47 := NB247_246.out; have hnb48 := NB246_248.out; have hnc48 := NB248_246.out; obtain ⟨hcz49_0, hcz49_1, hfz49_0, hfz49_1⟩ := bc2_ BK246) | ((with_reducible refine gate_callee (f := 89) rfl ?_); refine gl_ (some 7) Try.func89 #[.agg #[.int .i64 a0_0, .slice A0_1 l0_1.length c0_1]] ?_; (with_reducible refine (impl_GraphOk.calls k a0_0 _ _ l0_1 true _ ?side1 ?side2 A3.out).mono ?_); (case side1 => exact qC_ HR0_1 HB); (case side2 => exact HC0_1.out); rintro e w50 ⟨rfl, hb⟩; refine ⟨_, rfl, ?_⟩; replace BK246 := Aside0.mk (blk_below (qk_ BK246) hb); replace BK247 := Aside0.mk (blk_below (qk_ BK247) hb); replace BK248 := Aside0.mk (blk_below (qk_ BK248) hb); replace HB := Aside0.mk (below_step qB_ hb); (try clear hb); (try clear hb2); (try clear hk); (try clear hi); obtain ⟨hcz51_0, hcz51_1, hfz51_0, hfz51_1⟩ := bc2_ BK246; have hnb52 := NB247_248.out; have hnc52 := NB248_247.out; obtain ⟨hcz53_0, hcz53_1, hfz53_0, hfz53_1⟩ := bc2_ BK247) | (go_at_call 106; (with_reducible refine (impl_EdgeOk.calls a0_0 a1_0 a1_1 false _ A5.out).mono ?_); rintro e w54 ⟨rfl, hb⟩; replace BK246 := Aside0.mk (blk_below (qk_ BK246) hb); replace BK247 := Aside0.mk (blk_below (qk_ BK247) hb); replace BK248 := Aside0.mk (blk_below (qk_ BK248) hb); replace HB := Aside0.mk (below_step qB_ hb); (try clear hb); (try clear hb2); (try clear hk); (try clear hi); obtain ⟨hcz55_0, hcz55_1, hfz55_0, hfz55_1⟩ := bc2_ BK248))
   refine bodyPost_ret (results_ct rfl _ _ gb248 58 #[.int .i64 0, .slice none 0 0] (0, 0) _ rfl (by (with_reducible repeat (first | refine blk_drewN ?_ _ | refine blk_drew ?_ | refine blk_alloc ?_ _)); refine blk_put (cs := #[.int .i64 0, .slice none 0 0]) ?_ 1 _ rfl; (with_reducible repeat (first | refine blk_drewN ?_ _ | refine blk_drew ?_ | refine blk_alloc ?_ _)); refine blk_put (cs := #[.int .i64 0, .slice none 0 0]) ?_ 0 _ rfl; (with_reducible repeat (first | refine blk_drewN ?_ _ | refine blk_drew ?_ | refine blk_alloc ?_ _)); exact BK248.out) Try.underlying58 rfl (by kernel_rfl)) rfl ?_
   exact ⟨_, qr_, by first | exact Kd.R_nil _ _ _ _ _ | exact Kd.N_nil _ _ _ _ _ | exact Kd.V_nil _ _ _ _ _ | exact Kd.Q_nil _ _ _ _ _ | exact Kd.S_nil _ _ _ _ _, qB_⟩
 ·replace c4 := Bool.eq_false_iff.mpr c4
  subst c4
  rw [if_neg (show ¬ (false = true) by decide)] at H
  simp only [Option.some.injEq, Prod.mk.injEq] at H
  obtain ⟨rfl, rfl, rfl⟩ := H
  go_enter Try.func53, Try.ntmps53
  go_wp2_with (first | ((with_reducible refine gate_dst (N := 2) rfl ?_); refine bx_ 2 (cs := #[.int .i64 a0_0, .slice A0_1 l0_1.length c0_1]) (t := 58) ?_; intro gb246 hg w56 hbox hb; have BK246 := Aside0.mk (hbox); have GW246 := Aside0.mk ((qs_ : w.heap.size ≤ gb246)); have GE246 := Aside0.mk ((qs_ : w.heap.size ≤ gb246)); replace HB := Aside0.mk (below_step qB_ hb); clear hb hbox hg) | ((with_reducible refine gate_dst (N := 3) rfl ?_); refine bx_ 3 (cs := #[.int .i64 a1_0, .int .i64 a1_1]) (t := 79) ?_; intro gb247 hg w57 hbox hb; have BK247 := Aside0.mk (hbox); have GW247 := Aside0.mk ((qs_ : w.heap.size ≤ gb247)); have GE247 := Aside0.mk ((qs_ : w.heap.size ≤ gb247)); have NB246_247 := Aside0.mk ((by rw [hg]; exact Nat.ne_of_lt (blk_lt (qk_ BK246)) : gb246 ≠ gb247)); have NB247_246 := Aside0.mk ((by rw [hg]; exact Nat.ne_of_gt (blk_lt (qk_ BK246)) : gb247 ≠ gb246)); replace BK246 := Aside0.mk (blk_below (qk_ BK246) hb); replace HB := Aside0.mk (below_step qB_ hb); clear hb hbox hg) | ((with_reducible refine gate_dst (N := 4) rfl ?_); refine bx_ 4 (cs := #[.int .i64 0, .slice none 0 0]) (t := 58) ?_; intro gb248 hg w58 hbox hb; have BK248 := Aside0.mk (hbox); have GW248 := Aside0.mk ((qs_ : w.heap.size ≤ gb248)); have GE248 := Aside0.mk ((qs_ : w.heap.size ≤ gb248)); have NB246_248 := Aside0.mk ((by rw [hg]; exact Nat.ne_of_lt (blk_lt (qk_ BK246)) : gb246 ≠ gb248)); have NB248_246 := Aside0.mk ((by rw [hg]; exact Nat.ne_of_gt (blk_lt (qk_ BK246)) : gb248 ≠ gb246)); have NB247_248 := Aside0.mk ((by rw [hg]; exact Nat.ne_of_lt (blk_lt (qk_ BK247)) : gb247 ≠ gb248)); have NB248_247 := Aside0.mk ((by rw [hg]; exact Nat.ne_of_gt (blk_lt (qk_ BK247)) : gb248 ≠ gb247)); replace BK246 := Aside0.mk (blk_below (qk_ BK246) hb); replace BK247 := Aside0.mk (blk_below (qk_ BK247) hb); replace HB := Aside0.mk (below_step qB_ hb); clear hb hbox hg; have hnb59 := NB246_247.out; have hnc59 := NB247_246.out; have hnb60 := NB246_248.out; have hnc60 := NB248_246.out; obtain ⟨hcz61_0, hcz61_1, hfz61_0, hfz61_1⟩ := bc2_ BK246) | ((with_reducible refine gate_callee (f := 89) rfl ?_); refine gl_ (some 7) Try.func89 #[.agg #[.int .i64 a0_0, .slice A0_1 l0_1.length c0_1]] ?_; (with_reducible refine (impl_GraphOk.calls k a0_0 _ _ l0_1 false _ ?side1 ?side2 A3.out).mono ?_); (case side1 => exact qC_ HR0_1 HB); (case side2 => exact HC0_1.out); rintro e w62 ⟨rfl, hb⟩; refine ⟨_, rfl, ?_⟩; replace BK246 := Aside0.mk (blk_below (qk_ BK246) hb); replace BK247 := Aside0.mk (blk_below (qk_ BK247) hb); replace BK248 := Aside0.mk (blk_below (qk_ BK248) hb); replace HB := Aside0.mk (below_step qB_ hb); (try clear hb); (try clear hb2); (try clear hk); (try clear hi); have hnb63 := NB248_247.out; have hnc63 := NB247_248.out; obtain ⟨hcz64_0, hcz64_1, hfz64_0, hfz64_1⟩ := bc2_ BK248))
  refine bodyPost_ret (results_ct rfl _ _ gb248 58 #[.int .i64 0, .slice none 0 0] (0, 0) _ rfl (by (with_reducible repeat (first | refine blk_drewN ?_ _ | refine blk_drew ?_ | refine blk_alloc ?_ _)); refine blk_put (cs := #[.int .i64 0, .slice none 0 0]) ?_ 1 _ rfl; (with_reducible repeat (first | refine blk_drewN ?_ _ | refine blk_drew ?_ | refine blk_alloc ?_ _)); refine blk_put (cs := #[.int .i64 0, .slice none 0 0]) ?_ 0 _ rfl; (with_reducible repeat (first | refine blk_drewN ?_ _ | refine blk_drew ?_ | refine blk_alloc ?_ _)); exact BK248.out) Try.underlying58 rfl (by kernel_rfl)) rfl ?_
  exact ⟨_, qr_, by first | exact Kd.R_nil _ _ _ _ _ | exact Kd.N_nil _ _ _ _ _ | exact Kd.V_nil _ _ _ _ _ | exact Kd.Q_nil _ _ _ _ _ | exact Kd.S_nil _ _ _ _ _, qB_⟩

end Go.Proofs.Ytigeiofkbccocaa.QFnExactAddEdge
