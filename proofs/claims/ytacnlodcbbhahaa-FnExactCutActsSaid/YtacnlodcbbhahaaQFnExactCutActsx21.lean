-- printed for this claim by a program of the session's own (no text of the kit's print)
import Derived.Test.YtacnlodcbbhahaaQFnExactCutActsx0
import Derived.Test.YtacnlodcbbhahaaQFnExactCutActsx20
namespace Go.Proofs.Ytacnlodcbbhahaa.QFnExactCutActs
open Go.RowKit Go.Proofs.YtacnlodcbbhahaaW.PrintWords Go.Proofs.YtacnlodcbbhahaaW.PrintLast Go.Proofs.YtacnlodcbbhahaaW.PrintMore
attribute [local go_sem] max2_int min2_int max_two min_two max_three min_three max_four min_four   -- for this text's walks alone
set_option linter.unusedVariables false
set_option linter.unusedSimpArgs false

/-! ### spec_DoActs: function 48 -/
def spec_DoActs.l0 : Nat → List (S60) → Int → List (S99) → Option ((List (S99)) × Int)
  | 0, _, _, _ => none
  | k + 1, x1, x7, x368000 => if x7 < (x1.length : Int) then (if 0 ≤ x7 then ((spec_DoAct.f k x368000 ((rd_T60 x1 x7).f0) ((rd_T60 x1 x7).f1) ((rd_T60 x1 x7).f2) ((rd_T60 x1 x7).f3)).bind fun bt369 => (if bt369.2 = true then (spec_DoActs.l0 k x1 (wrap64 (x7 + 1)) bt369.1) else (some (x368000, x7)))) else (none)) else (some (x368000, (x1.length : Int)))
def spec_DoActs.f (k : Nat) (l0_0 : List (S99)) (l1 : List (S60)) : Option ((List (S99)) × Int) := (some (([] : List (S99)) : List (S99))).bind fun y361 => (if y361.length + l0_0.length < 3518437208883 then (spec_DoActs.l0 k l1 0 (y361 ++ l0_0)) else (none))
theorem spec_DoActs.mono_l : ∀ k, (∀ y0 y1 y2, LeO (spec_DoActs.l0 k y0 y1 y2) (spec_DoActs.l0 (k + 1) y0 y1 y2))
  | 0 => fun _ _ _ r h => by simp [spec_DoActs.l0] at h
  | k + 1 => by
    have ih0 := spec_DoActs.mono_l k
    · intro y0 y1 y2
      unfold spec_DoActs.l0
      repeat' first | (with_reducible first | exact ih0 _ _ _ | exact spec_DoAct.mono _ _ _ _ _ _ | exact LeO.refl _ | exact LeO.none _ | refine LeO.ite ?_ ?_ | refine LeO.bind ?_ (fun _ => ?_)) | exact LeO.none _ | refine LeO.ite ?_ ?_ | refine LeO.bind ?_ (fun _ => ?_)
theorem spec_DoActs.mono : ∀ a0 a1 k, LeO (spec_DoActs.f k a0 a1) (spec_DoActs.f (k + 1) a0 a1) := by
  intro a0 a1 k
  have ih0 := spec_DoActs.mono_l k
  unfold spec_DoActs.f
  repeat' first | (with_reducible first | exact ih0 _ _ _ | exact spec_DoAct.mono _ _ _ _ _ _ | exact LeO.refl _ | exact LeO.none _ | refine LeO.ite ?_ ?_ | refine LeO.bind ?_ (fun _ => ?_)) | exact LeO.none _ | refine LeO.ite ?_ ?_ | refine LeO.bind ?_ (fun _ => ?_)
def spec_DoActs.T5 : Bool × List (List Nat × List Nat) := (true, [([], []), ([], []), ([], []), ([1, 2], [1, 2]), ([3], [3]), ([0, 4], [0, 4]), ([5], [5]), ([6], [6]), ([6], [6]), ([], []), ([9, 7, 5, 0, 1, 2, 3, 4, 5, 6, 7, 9], [7, 9]), ([8, 10, 0, 1, 2, 3, 4, 5, 6, 7, 8, 9, 10], [8])])
def spec_DoActs.B5 : List Nat := [0, 0, 0, 6, 14, 31, 63, 127, 127, 0, 767, 2047]
theorem spec_DoActs.tab5 : rtab .any (opsOf Try.f48 5) = spec_DoActs.T5 := by kernel_rfl
theorem spec_DoActs.bits5 : waitsOk spec_DoActs.T5.2 spec_DoActs.B5 = true := by kernel_rfl
set_option maxHeartbeats 8000000 in
set_option maxRecDepth 100000 in
theorem spec_DoActs.calls (k : Nat) (A0_0 : Option Addr) (c0_0 : Nat) (l0_0 : List (S99)) (A1 : Option Addr) (c1 : Nat) (l1 : List (S60)) (r1 : List (S99)) (r2 : Int) (w : World) (hr0_0 : Kd.C k99 w A0_0 l0_0.length l0_0) (hc0_0 : l0_0.length ≤ c0_0) (hr1 : Kd.C k60 w A1 l1.length l1) (hc1 : l1.length ≤ c1) (h : spec_DoActs.f k l0_0 l1 = some (r1, r2)) :
  Calls Try.prog 48 #[.agg #[.slice A0_0 l0_0.length c0_0], .slice A1 l1.length c1] w fun e w' => ∃ v0_ : Value, e = .returned (.tuple #[.agg #[v0_], .int .i64 r2]) ∧ Kd.R k99 99 w' w.heap.size (fun _ => True) v0_ r1 ∧ Below w.heap.size w w' := by
 have hu44 := Try.underlying44; have hu60 := Try.underlying60
 have HR0_0 := am_ hr0_0
 have HC0_0 := am_ hc0_0
 clear hr0_0 hc0_0
 have HR1 := am_ hr1
 have HC1 := am_ hc1
 clear hr1 hc1
 have HB := am_ (Below.refl w.heap.size w)
 have H : ((some (([] : List (S99)) : List (S99))).bind fun y361 => (if y361.length + l0_0.length < 3518437208883 then (spec_DoActs.l0 k l1 0 (y361 ++ l0_0)) else (none))) = some (r1, r2) := h
 clear h
 obtain ⟨y361, hy361⟩ : ∃ y_ : List (S99), y_ = (([] : List (S99))) := ⟨_, rfl⟩
 replace H : (if y361.length + l0_0.length < 3518437208883 then (spec_DoActs.l0 k l1 0 (y361 ++ l0_0)) else (none)) = some (r1, r2) := by first | (rw [hy361]; with_reducible exact H) | (have H2_ := (Option.bind_some _ _).symm.trans H; rw [hy361]; with_reducible exact H2_) | (have H2_ := (Option.bind_some _ _).symm.trans H; with_reducible exact H2_) | with_reducible exact H | (rw [hy361]; exact H) | exact H
 have Ny361 := am_ hy361
 clear hy361
 by_cases c3 : y361.length + l0_0.length < 3518437208883
 ·rw [if_pos c3] at H
  have LMc3 := am_ c3
  clear c3
  obtain ⟨y364, hy364⟩ : ∃ y_ : List (S99), y_ = (y361 ++ l0_0) := ⟨_, rfl⟩
  replace H : (spec_DoActs.l0 k l1 0 y364) = some (r1, r2) := by first | (rw [hy364]; with_reducible exact H) | (have H2_ := (Option.bind_some _ _).symm.trans H; rw [hy364]; with_reducible exact H2_) | (have H2_ := (Option.bind_some _ _).symm.trans H; with_reducible exact H2_) | with_reducible exact H | (rw [hy364]; exact H) | exact H
  have Ny364 := am_ hy364
  clear hy364; have H' := am_ H; clear H
  go_enter Try.func48, Try.ntmps48
  go_wp2_with (first | ((with_reducible refine gate_dst (N := 2) rfl ?_); refine bx_ 2 (cs := #[.slice A0_0 l0_0.length c0_0]) (t := 44) ?_; intro gb359 hg w4 hbox hb; have BK359 := am_ (hbox); have GW359 := am_ ((qs_ : w.heap.size ≤ gb359)); have GE359 := GW359; replace HB := hs_ hb; clear hb hbox hg) | ((with_reducible refine gate_dst (N := 4) rfl ?_); refine bx_ 4 (cs := #[.slice none 0 0]) (t := 44) ?_; intro gb360 hg w5 hbox hb; have BK360 := am_ (hbox); have GW360 := am_ ((qs_ : w.heap.size ≤ gb360)); have GE360 := GW360; obtain ⟨NB359_360, NB360_359⟩ := qn_ BK359 hg; replace BK359 := qbl_ BK359 hb; replace HB := hs_ hb; clear hb hbox hg) | ((with_reducible refine gate_dst (N := 10) rfl ?_); refine Kd.R_lit k99 _ 99 ?hg (N := 10) ?hd (xs := ([] : List (S99))) (inner := []) (ok := fun _ => True) (okp := fun _ => True) ?hr ?hp (fun _ hk => hk) trivial (Below.refl _ _) (Nat.le_refl _) (by simp) ?_; (case hd => rfl); (case hg => rfl); (case hr => first | (go_simp; done) | (go_simp; rfl)); (case hp => exact (Reps.none _ _)); intro v362 w6 ho7 hb hg_ hnew_; clear hg_ hnew_; (first | rw [← Ny361.out] at ho7 | (simp only [Int.reduceToNat] at ho7; rw [← Ny361.out] at ho7)); have HO363 := am_ (Kd.R_lower ho7 (below_size qB_)); replace BK359 := qbl_ BK359 hb; replace BK360 := qbl_ BK360 hb; replace HB := hs_ hb; clear hb ho7; obtain ⟨hnb8, hnc8⟩ := nn_ NB359_360; obtain ⟨hcz9_0, hfz9_0⟩ := bc1_ BK359) | ((with_reducible refine gate_builtin (b := .append) (xs := #[.tmp 10, .tmp 12]) rfl ?_); at_builtin; refine Kd.R_append_rows k99 (w0 := w) w.heap.size rfl (.tmp 10) (.tmp 12) 42 99 (.agg #[(.string ⟨#[]⟩), (.string ⟨#[]⟩), (.int .i64 0)]) 40 rfl Try.underlying42 info99 rfl (by decide) (by omega) v362 y361 l0_0 _ _ _ (fun _ => True) (fun _ => False) rfl rfl ?aO ?aR (fun _ _ h => h) (fun _ h => h.elim) ?aF ?aB ?aS ?aL ?_; (case aR => repeat (first | exact (Kd.C_below HR0_0.out HB.out) | (with_reducible refine Kd.C_alloc ?_ _) | (with_reducible refine Kd.C_drewN ?_ _) | (with_reducible refine Kd.C_drew ?_))); (case aB => exact qB_); (case aF => exact (fun _ _ => trivial)); (case aO => exact (qR_ HO363)); (case aS => exact (below_size qB_)); (case aL => have := LMc3.out; omega); intro v365 w10 ho hb hg hat; rw [← Ny364.out] at ho; have HO366 := am_ (ho); replace BK359 := am_ (blk_grown (qk_ BK359) hg (Kd.R_ne HO363.out BK359.out (by decide))); replace BK360 := am_ (blk_grown (qk_ BK360) hg (Kd.R_ne HO363.out BK360.out (by decide))); replace HB := am_ (hb); clear HO363; clear ho hb hg hat; obtain ⟨Ao11, co11, eo11⟩ := Kd.R_slice HO366.out; subst eo11) | ((with_reducible refine gate_dst (N := 6) rfl ?_); refine bx_ 6 (cs := #[.slice none 0 0]) (t := 44) ?_; intro gb367 hg w12 hbox hb; have BK367 := am_ (hbox); have GW367 := am_ ((qs_ : w.heap.size ≤ gb367)); have GE367 := GW367; obtain ⟨NB359_367, NB367_359⟩ := qn_ BK359 hg; obtain ⟨NB360_367, NB367_360⟩ := qn_ BK360 hg; replace HO366 := am_ (Kd.R_below (qR_ HO366) hb); replace BK359 := qbl_ BK359 hb; replace BK360 := qbl_ BK360 hb; replace HB := hs_ hb; clear hb hbox hg; obtain ⟨hnb13, hnc13⟩ := nn_ NB367_359; obtain ⟨hnb14, hnc14⟩ := nn_ NB367_360; obtain ⟨hcz15_0, hfz15_0⟩ := bc1_ BK367))
  go_loopg [7] k (fun kq v7 w' => ∃ (x7_1 : Int) (x368000_1 : List (S99)) (u368000 : Value), v7 = .int .i64 x7_1 ∧ Aside0 (spec_DoActs.l0 kq l1 x7_1 x368000_1 = some (r1, r2)) ∧ Aside0 (kq ≤ k) ∧ Aside0 (Kd.R k99 99 w' w.heap.size (fun _ => True) u368000 x368000_1) ∧ Aside0 (w'.heap[gb359]? = some (.cells #[(.slice A0_0 l0_0.length c0_0)] 44 (0, 0))) ∧ Aside0 (w'.heap[gb360]? = some (.cells #[(.slice none 0 0)] 44 (0, 0))) ∧ Aside0 (w'.heap[gb367]? = some (.cells #[u368000] 44 (0, 0))) ∧ Aside0 (Below w.heap.size w w'))
  case atStart => exact ⟨(0), (y364), (.slice Ao11 y364.length co11), qe_, H', ⟨Nat.le_refl _⟩, ⟨by (with_reducible repeat (first | apply Kd.R_alloc | apply Kd.R_drewN | apply Kd.R_drew)); exact Kd.R_mono (Kd.R_far (p := ⟨gb367, 0, none⟩) (Kd.R_types HO366.out BK367.out (by decide)) (fun _ hk => hk.2) (.slice Ao11 y364.length co11)) (fun _ hk => trivial)⟩, ⟨qf_ BK359⟩, ⟨qf_ BK360⟩, ⟨by (with_reducible repeat (first | refine blk_drewN ?_ _ | refine blk_drew ?_ | refine blk_alloc ?_ _)); refine blk_put (cs := #[.slice none 0 0]) ?_ 0 _ rfl; exact qf_ BK367⟩, ⟨qB_⟩⟩
  case round =>
   clear H'
   (try clear c1); (try clear p2); (try clear c3); (try clear c4); (try clear c8); (try clear c13); (try clear c14); (try clear hcz15_0); (try clear hcz9_0); (try clear hfz15_0); (try clear hfz9_0)
   obtain ⟨x7_1, x368000_1, u368000, rfl, HA, HK1, HO_368000, BK359, BK360, BK367, HB⟩ := hrel
   cases gk with
   | zero => exact absurd HA.out (by simp [spec_DoActs.l0])
   | succ k1 =>
    have H := HA.out; clear HA
    simp only [spec_DoActs.l0] at H
    by_cases c16 : x7_1 < (l1.length : Int)
    ·rw [if_pos c16] at H
     have c16b0 : decide (x7_1 < (l1.length : Int)) = true := decide_eq_true c16
     clear c16
     by_cases c17 : 0 ≤ x7_1
     ·rw [if_pos c17] at H
      have c17b0 : decide (0 ≤ x7_1) = true := decide_eq_true c17
      clear c17
      replace H := Option.bind_eq_some_iff.mp H
      obtain ⟨⟨t369, t372⟩, A180, H⟩ := H
      replace H : (if t372 = true then (spec_DoActs.l0 k1 l1 (wrap64 (x7_1 + 1)) t369) else (some (x368000_1, x7_1))) = some (r1, r2) := H
      have A18 := am_ A180
      clear A180
      by_cases c19 : t372 = true
      ·subst c19
       rw [if_pos rfl] at H; have H' := am_ H; clear H
       obtain ⟨Ao20, co20, eo20⟩ := Kd.R_slice HO_368000.out
       subst eo20
       try go_wp2
       replace HO_368000 := am_ (Kd.R_drew HO_368000.out); replace BK359 := am_ (blk_drew BK359.out); replace BK360 := am_ (blk_drew BK360.out); replace BK367 := am_ (blk_drew BK367.out); replace HB := am_ (below_drew1 HB.out)
       have p368 : 0 ≤ (x7_1 : Int) := of_decide_eq_true qa_
       have q368 : x7_1 < (l1.length : Int) := of_decide_eq_true qa_
       obtain ⟨ad368, e368, hx368_0, hx368_1, hx368_2, hx368_3⟩ := at_T60 HR1.out x7_1 p368 q368
       have hw368_3 := hx368_3; have hw368_2 := hx368_2; have hw368_1 := hx368_1; have hw368_0 := hx368_0; cases e368
       replace hx368_0 := qx_ HB hx368_0
       replace hx368_1 := qx_ HB hx368_1
       replace hx368_2 := qx_ HB hx368_2
       replace hx368_3 := qx_ HB hx368_3
       replace p368 := eq_true p368; replace q368 := eq_true q368
       refine start_ (n := 12) (S := fun w' => w'.cell? ⟨gb367, 0, none⟩ = some (.slice Ao20 x368000_1.length co20) ∧ w'.cell? (ad368.add ((x7_1).toNat * 4)) = some (.int .i64 ((rd_T60 l1 x7_1).f0)) ∧ w'.cell? ⟨(ad368.add ((x7_1).toNat * 4)).block, (ad368.add ((x7_1).toNat * 4)).off + 1, none⟩ = some (.string ((rd_T60 l1 x7_1).f1)) ∧ w'.cell? ⟨(ad368.add ((x7_1).toNat * 4)).block, (ad368.add ((x7_1).toNat * 4)).off + 2, none⟩ = some (.string ((rd_T60 l1 x7_1).f2)) ∧ w'.cell? ⟨(ad368.add ((x7_1).toNat * 4)).block, (ad368.add ((x7_1).toNat * 4)).off + 3, none⟩ = some (.string ((rd_T60 l1 x7_1).f3))) (ds := []) (bm 12 0) (by kernel_rfl) rfl (by kernel_rfl) ⟨bl_ BK367 0, ((qx_ HB hw368_0).trans rfl), ((qx_ HB hw368_1).trans rfl), ((qx_ HB hw368_2).trans rfl), ((qx_ HB hw368_3).trans rfl)⟩ (fun hHeld => ?_); refine with_tabW spec_DoActs.tab5 spec_DoActs.bits5 (fun HT_ HW_ => ?_)
       generalize wr.drew = w21 at HO_368000 BK359 BK360 BK367 HB hx368_0 hx368_1 hx368_2 hx368_3 hHeld ⊢
       refine pz_ 1 23 (bm 12 2) ?_; refine pz_ 2 24 (bm 12 6) ?_; refine pz_ 3 25 (bm 12 14) ?_; refine tz5_ 0 22 (bm 12 15) ?_; refine tz5_ 4 26 (bm 12 31) ?_
       refine join_ (σ := Value × Nat) 2 #[true, true, true, true, true, true, true, true, true, true, false, false] (fun s_ => [(27, .tuple #[.agg #[s_.1], .bool true]), (8, .pointer (some ⟨s_.2, 0, none⟩)), (21, .tuple #[.agg #[s_.1], .bool true]), (28, .agg #[s_.1]), (29, .bool true)]) (fun s_ w' => (w'.cell? ⟨gb367, 0, none⟩ = some (.slice Ao20 x368000_1.length co20) ∧ w'.cell? (ad368.add ((x7_1).toNat * 4)) = some (.int .i64 ((rd_T60 l1 x7_1).f0)) ∧ w'.cell? ⟨(ad368.add ((x7_1).toNat * 4)).block, (ad368.add ((x7_1).toNat * 4)).off + 1, none⟩ = some (.string ((rd_T60 l1 x7_1).f1)) ∧ w'.cell? ⟨(ad368.add ((x7_1).toNat * 4)).block, (ad368.add ((x7_1).toNat * 4)).off + 2, none⟩ = some (.string ((rd_T60 l1 x7_1).f2)) ∧ w'.cell? ⟨(ad368.add ((x7_1).toNat * 4)).block, (ad368.add ((x7_1).toNat * 4)).off + 3, none⟩ = some (.string ((rd_T60 l1 x7_1).f3))) ∧ (Kd.R k99 99 w' w.heap.size (fun k_ => some k_ ≠ (.slice Ao20 x368000_1.length co20 : Value).ownBlock) s_.1 t369) ∧ (Kd.R k99 99 w' w.heap.size (fun k_ => some k_ ≠ (s_.1 : Value).ownBlock) (.slice Ao20 x368000_1.length co20) x368000_1) ∧ (w'.heap[gb359]? = some (.cells #[.slice A0_0 l0_0.length c0_0] 44 (0, 0))) ∧ (w'.heap[gb360]? = some (.cells #[.slice none 0 0] 44 (0, 0))) ∧ (w'.heap[gb367]? = some (.cells #[.slice Ao20 x368000_1.length co20] 44 (0, 0))) ∧ (w'.heap[s_.2]? = some (.cells #[.slice none 0 0] 44 (0, 0))) ∧ (w.heap.size ≤ s_.2) ∧ (w.heap.size ≤ s_.2) ∧ (gb359 ≠ s_.2) ∧ (s_.2 ≠ gb359) ∧ (gb360 ≠ s_.2) ∧ (s_.2 ≠ gb360) ∧ (gb367 ≠ s_.2) ∧ (s_.2 ≠ gb367) ∧ (Below w.heap.size w w')) ?_ ?_
       rotate_left
       ·intro hCont
        refine two_ (i := 5) (j := 9) (Ni := some 27) (Nj := some 8) (bm 12 63) #[true, true, true, true, true, false, false, false, false, true, false, false] rfl rfl rfl rfl (two_of HT_.out (by kernel_rfl)) (by decide) (by decide) (fun K hK => ?_) (fun K hK => ?_)
        ·skip
         refine goes_ Try.func38 (by kernel_rfl) rfl #[.agg #[.slice Ao20 x368000_1.length co20], .agg #[.int .i64 ((rd_T60 l1 x7_1).f0), .string ((rd_T60 l1 x7_1).f1), .string ((rd_T60 l1 x7_1).f2), .string ((rd_T60 l1 x7_1).f3)]] (by rfl) rfl rfl (by (try simp only [List.map_toArray, List.map_cons, List.map_nil]); first | done | rfl | (simp only [List.length_drop, List.length_take]; rfl)) ?_
         with_reducible refine (spec_DoAct.calls k1 _ _ x368000_1 ((rd_T60 l1 x7_1).f0) ((rd_T60 l1 x7_1).f1) ((rd_T60 l1 x7_1).f2) ((rd_T60 l1 x7_1).f3) t369 true _ ?side1 ?side2 A18.out).mono ?_
         (case side1 => exact qD_ (Kd.R_reads' HO_368000.out).2.2)
         (case side2 => exact (Kd.R_reads' HO_368000.out).2.1)
         rintro e w22 ⟨v370, rfl, ho0, hb⟩
         refine ⟨_, rfl, ?_⟩
         have HO371 := am_ (Kd.R_lower (Kd.R_new' ho0 (Kd.R_lt (qR_ HO_368000))) (below_size qB_)); replace HO_368000 := am_ (Kd.R_elder' (qR_ HO_368000) (Kd.R_base ho0) hb); replace BK359 := qbl_ BK359 hb; replace BK360 := qbl_ BK360 hb; replace BK367 := qbl_ BK367 hb; replace HB := am_ (below_step qB_ hb); (try clear hb); (try clear hb2); (try clear hk); (try clear hi); (try clear ho0)
         refine hK.out _ _ ⟨bl_ BK367 0, ((qx_ HB hw368_0).trans rfl), ((qx_ HB hw368_1).trans rfl), ((qx_ HB hw368_2).trans rfl), ((qx_ HB hw368_3).trans rfl)⟩ (fun hHeld => ?_)
         clear hK K
         refine nm_ 27 ?_
         refine pz_ 6 21 (bm 12 127) ?_; refine pz_ 7 28 (bm 12 255) ?_; refine pz_ 8 29 (bm 12 511) ?_
         refine o1_ 9 (some 8) (bm 12 1023) (fun K hK => ?_)
         refine box_step ?hg (N := 8) ?hd (cs := #[.slice none 0 0]) (t := 44) ?hr ?_; (case hd => rfl); (case hg => rfl); (case hr => first | (go_simp; done) | (go_simp; rfl))
         intro gb373 hg w23 hbox hb
         have n0_ := am_ (Kd.R_below (qR_ HO_368000) hb)
         have n1_ := am_ (Kd.R_below (qR_ HO371) hb)
         have n2_ := qbl_ BK359 hb
         have n3_ := qbl_ BK360 hb
         have n4_ := qbl_ BK367 hb
         have n5_ := am_ (below_step qB_ hb)
         have n6_ := am_ (hbox)
         have n7_ := am_ ((qs_ : w.heap.size ≤ gb373))
         have n8_ := am_ ((qs_ : w.heap.size ≤ gb373))
         have n9_ := am_ ((by rw [hg]; exact Nat.ne_of_lt (blk_lt (qk_ BK359)) : gb359 ≠ gb373))
         have n10_ := am_ ((by rw [hg]; exact Nat.ne_of_gt (blk_lt (qk_ BK359)) : gb373 ≠ gb359))
         have n11_ := am_ ((by rw [hg]; exact Nat.ne_of_lt (blk_lt (qk_ BK360)) : gb360 ≠ gb373))
         have n12_ := am_ ((by rw [hg]; exact Nat.ne_of_gt (blk_lt (qk_ BK360)) : gb373 ≠ gb360))
         have n13_ := am_ ((by rw [hg]; exact Nat.ne_of_lt (blk_lt (qk_ BK367)) : gb367 ≠ gb373))
         have n14_ := am_ ((by rw [hg]; exact Nat.ne_of_gt (blk_lt (qk_ BK367)) : gb373 ≠ gb367))
         clear HO_368000; clear HO371; clear BK359; clear BK360; clear BK367; clear HB; have HO_368000 := n0_; have HO371 := n1_; have BK359 := n2_; have BK360 := n3_; have BK367 := n4_; have HB := n5_; have BK373 := n6_; have GW373 := n7_; have GE373 := n8_; have NB359_373 := n9_; have NB373_359 := n10_; have NB360_373 := n11_; have NB373_360 := n12_; have NB367_373 := n13_; have NB373_367 := n14_; clear n0_ n1_ n2_ n3_ n4_ n5_ n6_ n7_ n8_ n9_ n10_ n11_ n12_ n13_ n14_; clear hb hbox hg
         refine hK.out _ _ ⟨bl_ BK367 0, ((qx_ HB hw368_0).trans rfl), ((qx_ HB hw368_1).trans rfl), ((qx_ HB hw368_2).trans rfl), ((qx_ HB hw368_3).trans rfl)⟩ (fun hHeld => ?_)
         clear hK K
         refine nm_ 8 ?_
         exact norm_ (by simp only [putAll, Act.put, sA_, sB_, sC_]) (hCont (v370, gb373) _ ⟨hHeld, (by (with_reducible repeat (first | apply Kd.R_alloc | apply Kd.R_drewN | apply Kd.R_drew)); exact Kd.R_mono HO371.out (fun _ hk => hk.2)), (by (with_reducible repeat (first | apply Kd.R_alloc | apply Kd.R_drewN | apply Kd.R_drew)); exact Kd.R_mono HO_368000.out (fun _ hk => hk.2)), (qk_ BK359), (qk_ BK360), (qk_ BK367), (qk_ BK373), GW373.out, GE373.out, NB359_373.out, NB373_359.out, NB360_373.out, NB373_360.out, NB367_373.out, NB373_367.out, qB_⟩)
        skip
        refine box_step ?hg (N := 8) ?hd (cs := #[.slice none 0 0]) (t := 44) ?hr ?_; (case hd => rfl); (case hg => rfl); (case hr => first | (go_simp; done) | (go_simp; rfl))
        intro gb373 hg w22 hbox hb
        have n0_ := am_ (Kd.R_below (qR_ HO_368000) hb)
        have n1_ := qbl_ BK359 hb
        have n2_ := qbl_ BK360 hb
        have n3_ := qbl_ BK367 hb
        have n4_ := am_ (below_step qB_ hb)
        have n5_ := am_ (hbox)
        have n6_ := am_ ((qs_ : w.heap.size ≤ gb373))
        have n7_ := am_ ((qs_ : w.heap.size ≤ gb373))
        have n8_ := am_ ((by rw [hg]; exact Nat.ne_of_lt (blk_lt (qk_ BK359)) : gb359 ≠ gb373))
        have n9_ := am_ ((by rw [hg]; exact Nat.ne_of_gt (blk_lt (qk_ BK359)) : gb373 ≠ gb359))
        have n10_ := am_ ((by rw [hg]; exact Nat.ne_of_lt (blk_lt (qk_ BK360)) : gb360 ≠ gb373))
        have n11_ := am_ ((by rw [hg]; exact Nat.ne_of_gt (blk_lt (qk_ BK360)) : gb373 ≠ gb360))
        have n12_ := am_ ((by rw [hg]; exact Nat.ne_of_lt (blk_lt (qk_ BK367)) : gb367 ≠ gb373))
        have n13_ := am_ ((by rw [hg]; exact Nat.ne_of_gt (blk_lt (qk_ BK367)) : gb373 ≠ gb367))
        clear HO_368000; clear BK359; clear BK360; clear BK367; clear HB; have HO_368000 := n0_; have BK359 := n1_; have BK360 := n2_; have BK367 := n3_; have HB := n4_; have BK373 := n5_; have GW373 := n6_; have GE373 := n7_; have NB359_373 := n8_; have NB373_359 := n9_; have NB360_373 := n10_; have NB373_360 := n11_; have NB367_373 := n12_; have NB373_367 := n13_; clear n0_ n1_ n2_ n3_ n4_ n5_ n6_ n7_ n8_ n9_ n10_ n11_ n12_ n13_; clear hb hbox hg
        refine hK.out _ _ ⟨bl_ BK367 0, ((qx_ HB hw368_0).trans rfl), ((qx_ HB hw368_1).trans rfl), ((qx_ HB hw368_2).trans rfl), ((qx_ HB hw368_3).trans rfl)⟩ (fun hHeld => ?_)
        clear hK K
        refine nm_ 8 ?_
        refine o1_ 5 (some 27) (bm 12 575) (fun K hK => ?_)
        refine goes_ Try.func38 (by kernel_rfl) rfl #[.agg #[.slice Ao20 x368000_1.length co20], .agg #[.int .i64 ((rd_T60 l1 x7_1).f0), .string ((rd_T60 l1 x7_1).f1), .string ((rd_T60 l1 x7_1).f2), .string ((rd_T60 l1 x7_1).f3)]] (by rfl) rfl rfl (by (try simp only [List.map_toArray, List.map_cons, List.map_nil]); first | done | rfl | (simp only [List.length_drop, List.length_take]; rfl)) ?_
        with_reducible refine (spec_DoAct.calls k1 _ _ x368000_1 ((rd_T60 l1 x7_1).f0) ((rd_T60 l1 x7_1).f1) ((rd_T60 l1 x7_1).f2) ((rd_T60 l1 x7_1).f3) t369 true _ ?side1 ?side2 A18.out).mono ?_
        (case side1 => exact qD_ (Kd.R_reads' HO_368000.out).2.2)
        (case side2 => exact (Kd.R_reads' HO_368000.out).2.1)
        rintro e w23 ⟨v370, rfl, ho0, hb⟩
        refine ⟨_, rfl, ?_⟩
        have HO371 := am_ (Kd.R_lower (Kd.R_new' ho0 (Kd.R_lt (qR_ HO_368000))) (below_size qB_)); replace HO_368000 := am_ (Kd.R_elder' (qR_ HO_368000) (Kd.R_base ho0) hb); replace BK359 := qbl_ BK359 hb; replace BK360 := qbl_ BK360 hb; replace BK367 := qbl_ BK367 hb; replace BK373 := qbl_ BK373 hb; replace HB := am_ (below_step qB_ hb); (try clear hb); (try clear hb2); (try clear hk); (try clear hi); (try clear ho0)
        refine hK.out _ _ ⟨bl_ BK367 0, ((qx_ HB hw368_0).trans rfl), ((qx_ HB hw368_1).trans rfl), ((qx_ HB hw368_2).trans rfl), ((qx_ HB hw368_3).trans rfl)⟩ (fun hHeld => ?_)
        clear hK K
        refine nm_ 27 ?_
        refine pz_ 6 21 (bm 12 639) ?_; refine pz_ 7 28 (bm 12 767) ?_; refine pz_ 8 29 (bm 12 1023) ?_
        exact norm_ (by simp only [putAll, Act.put, sA_, sB_, sC_]) (hCont (v370, gb373) _ ⟨hHeld, (by (with_reducible repeat (first | apply Kd.R_alloc | apply Kd.R_drewN | apply Kd.R_drew)); exact Kd.R_mono HO371.out (fun _ hk => hk.2)), (by (with_reducible repeat (first | apply Kd.R_alloc | apply Kd.R_drewN | apply Kd.R_drew)); exact Kd.R_mono HO_368000.out (fun _ hk => hk.2)), (qk_ BK359), (qk_ BK360), (qk_ BK367), (qk_ BK373), GW373.out, GE373.out, NB359_373.out, NB373_359.out, NB360_373.out, NB373_360.out, NB367_373.out, NB373_367.out, qB_⟩)
       rintro ⟨v370, gb373⟩ w24 ⟨hS_, h0_, h1_, h2_, h3_, h4_, h5_, h6_, h7_, h8_, h9_, h10_, h11_, h12_, h13_, h14_⟩
       have n0_ : Aside0 (Kd.R k99 99 w24 w.heap.size (fun k_ => some k_ ≠ (.slice Ao20 x368000_1.length co20 : Value).ownBlock) v370 t369) := ⟨h0_⟩
       have n1_ : Aside0 (Kd.R k99 99 w24 w.heap.size (fun k_ => some k_ ≠ (v370 : Value).ownBlock) (.slice Ao20 x368000_1.length co20) x368000_1) := ⟨h1_⟩
       have n2_ : Aside0 (w24.heap[gb359]? = some (.cells #[.slice A0_0 l0_0.length c0_0] 44 (0, 0))) := ⟨h2_⟩
       have n3_ : Aside0 (w24.heap[gb360]? = some (.cells #[.slice none 0 0] 44 (0, 0))) := ⟨h3_⟩
       have n4_ : Aside0 (w24.heap[gb367]? = some (.cells #[.slice Ao20 x368000_1.length co20] 44 (0, 0))) := ⟨h4_⟩
       have n5_ : Aside0 (w24.heap[gb373]? = some (.cells #[.slice none 0 0] 44 (0, 0))) := ⟨h5_⟩
       have n6_ : Aside0 (w.heap.size ≤ gb373) := ⟨h6_⟩
       have n7_ : Aside0 (w.heap.size ≤ gb373) := ⟨h7_⟩
       have n8_ : Aside0 (gb359 ≠ gb373) := ⟨h8_⟩
       have n9_ : Aside0 (gb373 ≠ gb359) := ⟨h9_⟩
       have n10_ : Aside0 (gb360 ≠ gb373) := ⟨h10_⟩
       have n11_ : Aside0 (gb373 ≠ gb360) := ⟨h11_⟩
       have n12_ : Aside0 (gb367 ≠ gb373) := ⟨h12_⟩
       have n13_ : Aside0 (gb373 ≠ gb367) := ⟨h13_⟩
       have n14_ : Aside0 (Below w.heap.size w w24) := ⟨h14_⟩
       clear HO_368000; clear BK359; clear BK360; clear BK367; clear HB; clear h0_ h1_ h2_ h3_ h4_ h5_ h6_ h7_ h8_ h9_ h10_ h11_ h12_ h13_ h14_; have HO371 := n0_; have HO_368000 := n1_; have BK359 := n2_; have BK360 := n3_; have BK367 := n4_; have BK373 := n5_; have GW373 := n6_; have GE373 := n7_; have NB359_373 := n8_; have NB373_359 := n9_; have NB360_373 := n10_; have NB373_360 := n11_; have NB367_373 := n12_; have NB373_367 := n13_; have HB := n14_; clear n0_ n1_ n2_ n3_ n4_ n5_ n6_ n7_ n8_ n9_ n10_ n11_ n12_ n13_ n14_
       have hHeld : w24.cell? ⟨gb367, 0, none⟩ = some (.slice Ao20 x368000_1.length co20) ∧ w24.cell? (ad368.add ((x7_1).toNat * 4)) = some (.int .i64 ((rd_T60 l1 x7_1).f0)) ∧ w24.cell? ⟨(ad368.add ((x7_1).toNat * 4)).block, (ad368.add ((x7_1).toNat * 4)).off + 1, none⟩ = some (.string ((rd_T60 l1 x7_1).f1)) ∧ w24.cell? ⟨(ad368.add ((x7_1).toNat * 4)).block, (ad368.add ((x7_1).toNat * 4)).off + 2, none⟩ = some (.string ((rd_T60 l1 x7_1).f2)) ∧ w24.cell? ⟨(ad368.add ((x7_1).toNat * 4)).block, (ad368.add ((x7_1).toNat * 4)).off + 3, none⟩ = some (.string ((rd_T60 l1 x7_1).f3)) := hS_
       obtain ⟨Ao25, co25, eo25⟩ := Kd.R_slice HO371.out
       (first | subst eo25 | (injection eo25 with f1_ f2_ f3_; have f4_ := f1_.symm; have f5_ := f3_.symm; clear f1_ f2_ f3_; subst f4_; subst f5_))
       refine norm_ (a' := ?_) ?_ ?_
       rotate_left
       ·simp only [putAll, Act.put, sA_, sB_, sC_]
        rfl
       refine o1_ 10 none (bm 12 2047) (fun K hK => ?_)
       have hs26 : w24.cell? ⟨gb373, 0, none⟩ = some (.slice none 0 0) := bl_ BK373 0
       have hfs26 := blk_frozen BK373.out 0
       have hns26_0 := NB359_373.out; have hns26_1 := NB360_373.out; have hns26_2 := NB367_373.out; have hms26_0 := NB373_359.out; have hms26_1 := NB373_360.out; have hms26_2 := NB373_367.out
       refine skip_ (w1 := ?_) (by rfl) rfl ?_ ?_
       rotate_left
       ·go_simp
        rfl
       refine hK.out _ _ ⟨((cell_far (p := ⟨gb373, _, none⟩) NB367_373.out _).trans (hHeld.1)), ((cell_far (p := ⟨gb373, _, none⟩) (by first | exact Nat.ne_of_lt (Nat.lt_of_lt_of_le (by have := World.block_lt_of_cell? _ _ hw368_0; first | rwa [add_block] at this | exact this) GW373.out) | (rw [add_block]; exact Nat.ne_of_lt (Nat.lt_of_lt_of_le (by have := World.block_lt_of_cell? _ _ hw368_0; first | rwa [add_block] at this | exact this) GW373.out)) | (show (Addr.add _ _).block ≠ _; rw [add_block]; exact Nat.ne_of_lt (Nat.lt_of_lt_of_le (by have := World.block_lt_of_cell? _ _ hw368_0; first | rwa [add_block] at this | exact this) GW373.out)) | (dsimp only; exact Nat.ne_of_lt (Nat.lt_of_lt_of_le (by have := World.block_lt_of_cell? _ _ hw368_0; first | rwa [add_block] at this | exact this) GW373.out))) _).trans (hHeld.2.1)), ((cell_far (p := ⟨gb373, _, none⟩) (by first | exact Nat.ne_of_lt (Nat.lt_of_lt_of_le (by have := World.block_lt_of_cell? _ _ hw368_1; first | rwa [add_block] at this | exact this) GW373.out) | (rw [add_block]; exact Nat.ne_of_lt (Nat.lt_of_lt_of_le (by have := World.block_lt_of_cell? _ _ hw368_1; first | rwa [add_block] at this | exact this) GW373.out)) | (show (Addr.add _ _).block ≠ _; rw [add_block]; exact Nat.ne_of_lt (Nat.lt_of_lt_of_le (by have := World.block_lt_of_cell? _ _ hw368_1; first | rwa [add_block] at this | exact this) GW373.out)) | (dsimp only; exact Nat.ne_of_lt (Nat.lt_of_lt_of_le (by have := World.block_lt_of_cell? _ _ hw368_1; first | rwa [add_block] at this | exact this) GW373.out))) _).trans (hHeld.2.2.1)), ((cell_far (p := ⟨gb373, _, none⟩) (by first | exact Nat.ne_of_lt (Nat.lt_of_lt_of_le (by have := World.block_lt_of_cell? _ _ hw368_2; first | rwa [add_block] at this | exact this) GW373.out) | (rw [add_block]; exact Nat.ne_of_lt (Nat.lt_of_lt_of_le (by have := World.block_lt_of_cell? _ _ hw368_2; first | rwa [add_block] at this | exact this) GW373.out)) | (show (Addr.add _ _).block ≠ _; rw [add_block]; exact Nat.ne_of_lt (Nat.lt_of_lt_of_le (by have := World.block_lt_of_cell? _ _ hw368_2; first | rwa [add_block] at this | exact this) GW373.out)) | (dsimp only; exact Nat.ne_of_lt (Nat.lt_of_lt_of_le (by have := World.block_lt_of_cell? _ _ hw368_2; first | rwa [add_block] at this | exact this) GW373.out))) _).trans (hHeld.2.2.2.1)), ((cell_far (p := ⟨gb373, _, none⟩) (by first | exact Nat.ne_of_lt (Nat.lt_of_lt_of_le (by have := World.block_lt_of_cell? _ _ hw368_3; first | rwa [add_block] at this | exact this) GW373.out) | (rw [add_block]; exact Nat.ne_of_lt (Nat.lt_of_lt_of_le (by have := World.block_lt_of_cell? _ _ hw368_3; first | rwa [add_block] at this | exact this) GW373.out)) | (show (Addr.add _ _).block ≠ _; rw [add_block]; exact Nat.ne_of_lt (Nat.lt_of_lt_of_le (by have := World.block_lt_of_cell? _ _ hw368_3; first | rwa [add_block] at this | exact this) GW373.out)) | (dsimp only; exact Nat.ne_of_lt (Nat.lt_of_lt_of_le (by have := World.block_lt_of_cell? _ _ hw368_3; first | rwa [add_block] at this | exact this) GW373.out))) _).trans (hHeld.2.2.2.2))⟩ (fun hHeld => ?_)
       clear hK K; refine pz_ 11 9 (bm 12 4095) ?_
       refine done_ (done_of HT_.out (by kernel_rfl)) ?_
       obtain ⟨hnb27, hnc27⟩ := nn_ NB373_359; obtain ⟨hnb28, hnc28⟩ := nn_ NB373_360; obtain ⟨hnb29, hnc29⟩ := nn_ NB373_367
       obtain ⟨hcz30_0, hfz30_0⟩ := bc1_ BK373
       obtain ⟨hnb31, hnc31⟩ := nn_ NB367_359; obtain ⟨hnb32, hnc32⟩ := nn_ NB367_360
       obtain ⟨hcz33_0, hfz33_0⟩ := bc1_ BK367
       try go_wp2
       go_roundg k1
       case measure => have := HK1.out; omega
       case rel => exact ⟨(wrap64 (x7_1 + 1)), (t369), (.slice Ao25 t369.length co25), qe_, H', ⟨by have := HK1.out; omega⟩, ⟨by (with_reducible repeat (first | apply Kd.R_alloc | apply Kd.R_drewN | apply Kd.R_drew)); exact Kd.R_mono (Kd.R_far (p := ⟨gb367, 0, none⟩) (Kd.R_far (p := ⟨gb373, 0, none⟩) (Kd.R_types (Kd.R_types HO371.out BK373.out (by decide)) BK367.out (by decide)) (fun _ hk => hk.1.2) (.slice Ao25 t369.length co25)) (fun _ hk => hk.2) (.slice Ao25 t369.length co25)) (fun _ hk => trivial)⟩, ⟨qf_ BK359⟩, ⟨qf_ BK360⟩, ⟨by (with_reducible repeat (first | refine blk_drewN ?_ _ | refine blk_drew ?_ | refine blk_alloc ?_ _)); refine blk_put (cs := #[.slice Ao20 x368000_1.length co20]) ?_ 0 _ rfl; exact qf_ BK367⟩, ⟨qB_⟩⟩
      replace c19 := Bool.eq_false_iff.mpr c19
      subst c19
      rw [if_neg (show ¬ (false = true) by decide)] at H
      simp only [Option.some.injEq, Prod.mk.injEq] at H
      obtain ⟨rfl, rfl⟩ := H
      obtain ⟨Ao34, co34, eo34⟩ := Kd.R_slice HO_368000.out
      subst eo34
      try go_wp2
      replace HO_368000 := am_ (Kd.R_drew HO_368000.out); replace BK359 := am_ (blk_drew BK359.out); replace BK360 := am_ (blk_drew BK360.out); replace BK367 := am_ (blk_drew BK367.out); replace HB := am_ (below_drew1 HB.out)
      have p368 : 0 ≤ (x7_1 : Int) := of_decide_eq_true qa_
      have q368 : x7_1 < (l1.length : Int) := of_decide_eq_true qa_
      obtain ⟨ad368, e368, hx368_0, hx368_1, hx368_2, hx368_3⟩ := at_T60 HR1.out x7_1 p368 q368
      have hw368_3 := hx368_3; have hw368_2 := hx368_2; have hw368_1 := hx368_1; have hw368_0 := hx368_0; cases e368
      replace hx368_0 := qx_ HB hx368_0
      replace hx368_1 := qx_ HB hx368_1
      replace hx368_2 := qx_ HB hx368_2
      replace hx368_3 := qx_ HB hx368_3
      replace p368 := eq_true p368; replace q368 := eq_true q368
      refine start_ (n := 12) (S := fun w' => w'.cell? ⟨gb367, 0, none⟩ = some (.slice Ao34 x368000_1.length co34) ∧ w'.cell? (ad368.add ((x7_1).toNat * 4)) = some (.int .i64 ((rd_T60 l1 x7_1).f0)) ∧ w'.cell? ⟨(ad368.add ((x7_1).toNat * 4)).block, (ad368.add ((x7_1).toNat * 4)).off + 1, none⟩ = some (.string ((rd_T60 l1 x7_1).f1)) ∧ w'.cell? ⟨(ad368.add ((x7_1).toNat * 4)).block, (ad368.add ((x7_1).toNat * 4)).off + 2, none⟩ = some (.string ((rd_T60 l1 x7_1).f2)) ∧ w'.cell? ⟨(ad368.add ((x7_1).toNat * 4)).block, (ad368.add ((x7_1).toNat * 4)).off + 3, none⟩ = some (.string ((rd_T60 l1 x7_1).f3))) (ds := []) (bm 12 0) (by kernel_rfl) rfl (by kernel_rfl) ⟨bl_ BK367 0, ((qx_ HB hw368_0).trans rfl), ((qx_ HB hw368_1).trans rfl), ((qx_ HB hw368_2).trans rfl), ((qx_ HB hw368_3).trans rfl)⟩ (fun hHeld => ?_); refine with_tabW spec_DoActs.tab5 spec_DoActs.bits5 (fun HT_ HW_ => ?_)
      generalize wr.drew = w35 at HO_368000 BK359 BK360 BK367 HB hx368_0 hx368_1 hx368_2 hx368_3 hHeld ⊢
      refine pz_ 1 23 (bm 12 2) ?_; refine pz_ 2 24 (bm 12 6) ?_; refine pz_ 3 25 (bm 12 14) ?_; refine tz5_ 0 22 (bm 12 15) ?_; refine tz5_ 4 26 (bm 12 31) ?_
      refine join_ (σ := Value × Nat) 2 #[true, true, true, true, true, true, true, true, true, true, false, false] (fun s_ => [(27, .tuple #[.agg #[s_.1], .bool false]), (8, .pointer (some ⟨s_.2, 0, none⟩)), (21, .tuple #[.agg #[s_.1], .bool false]), (28, .agg #[s_.1]), (29, .bool false)]) (fun s_ w' => (w'.cell? ⟨gb367, 0, none⟩ = some (.slice Ao34 x368000_1.length co34) ∧ w'.cell? (ad368.add ((x7_1).toNat * 4)) = some (.int .i64 ((rd_T60 l1 x7_1).f0)) ∧ w'.cell? ⟨(ad368.add ((x7_1).toNat * 4)).block, (ad368.add ((x7_1).toNat * 4)).off + 1, none⟩ = some (.string ((rd_T60 l1 x7_1).f1)) ∧ w'.cell? ⟨(ad368.add ((x7_1).toNat * 4)).block, (ad368.add ((x7_1).toNat * 4)).off + 2, none⟩ = some (.string ((rd_T60 l1 x7_1).f2)) ∧ w'.cell? ⟨(ad368.add ((x7_1).toNat * 4)).block, (ad368.add ((x7_1).toNat * 4)).off + 3, none⟩ = some (.string ((rd_T60 l1 x7_1).f3))) ∧ (Kd.R k99 99 w' w.heap.size (fun k_ => some k_ ≠ (.slice Ao34 x368000_1.length co34 : Value).ownBlock) s_.1 t369) ∧ (Kd.R k99 99 w' w.heap.size (fun k_ => some k_ ≠ (s_.1 : Value).ownBlock) (.slice Ao34 x368000_1.length co34) x368000_1) ∧ (w'.heap[gb359]? = some (.cells #[.slice A0_0 l0_0.length c0_0] 44 (0, 0))) ∧ (w'.heap[gb360]? = some (.cells #[.slice none 0 0] 44 (0, 0))) ∧ (w'.heap[gb367]? = some (.cells #[.slice Ao34 x368000_1.length co34] 44 (0, 0))) ∧ (w'.heap[s_.2]? = some (.cells #[.slice none 0 0] 44 (0, 0))) ∧ (w.heap.size ≤ s_.2) ∧ (w.heap.size ≤ s_.2) ∧ (gb359 ≠ s_.2) ∧ (s_.2 ≠ gb359) ∧ (gb360 ≠ s_.2) ∧ (s_.2 ≠ gb360) ∧ (gb367 ≠ s_.2) ∧ (s_.2 ≠ gb367) ∧ (Below w.heap.size w w')) ?_ ?_
      rotate_left
      ·intro hCont
       refine two_ (i := 5) (j := 9) (Ni := some 27) (Nj := some 8) (bm 12 63) #[true, true, true, true, true, false, false, false, false, true, false, false] rfl rfl rfl rfl (two_of HT_.out (by kernel_rfl)) (by decide) (by decide) (fun K hK => ?_) (fun K hK => ?_)
       ·skip
        refine goes_ Try.func38 (by kernel_rfl) rfl #[.agg #[.slice Ao34 x368000_1.length co34], .agg #[.int .i64 ((rd_T60 l1 x7_1).f0), .string ((rd_T60 l1 x7_1).f1), .string ((rd_T60 l1 x7_1).f2), .string ((rd_T60 l1 x7_1).f3)]] (by rfl) rfl rfl (by (try simp only [List.map_toArray, List.map_cons, List.map_nil]); first | done | rfl | (simp only [List.length_drop, List.length_take]; rfl)) ?_
        with_reducible refine (spec_DoAct.calls k1 _ _ x368000_1 ((rd_T60 l1 x7_1).f0) ((rd_T60 l1 x7_1).f1) ((rd_T60 l1 x7_1).f2) ((rd_T60 l1 x7_1).f3) t369 false _ ?side1 ?side2 A18.out).mono ?_
        (case side1 => exact qD_ (Kd.R_reads' HO_368000.out).2.2)
        (case side2 => exact (Kd.R_reads' HO_368000.out).2.1)
        rintro e w36 ⟨v370, rfl, ho0, hb⟩
        refine ⟨_, rfl, ?_⟩
        have HO371 := am_ (Kd.R_lower (Kd.R_new' ho0 (Kd.R_lt (qR_ HO_368000))) (below_size qB_)); replace HO_368000 := am_ (Kd.R_elder' (qR_ HO_368000) (Kd.R_base ho0) hb); replace BK359 := qbl_ BK359 hb; replace BK360 := qbl_ BK360 hb; replace BK367 := qbl_ BK367 hb; replace HB := am_ (below_step qB_ hb); (try clear hb); (try clear hb2); (try clear hk); (try clear hi); (try clear ho0)
        refine hK.out _ _ ⟨bl_ BK367 0, ((qx_ HB hw368_0).trans rfl), ((qx_ HB hw368_1).trans rfl), ((qx_ HB hw368_2).trans rfl), ((qx_ HB hw368_3).trans rfl)⟩ (fun hHeld => ?_)
        clear hK K
        refine nm_ 27 ?_
        refine pz_ 6 21 (bm 12 127) ?_; refine pz_ 7 28 (bm 12 255) ?_; refine pz_ 8 29 (bm 12 511) ?_
        refine o1_ 9 (some 8) (bm 12 1023) (fun K hK => ?_)
        refine box_step ?hg (N := 8) ?hd (cs := #[.slice none 0 0]) (t := 44) ?hr ?_; (case hd => rfl); (case hg => rfl); (case hr => first | (go_simp; done) | (go_simp; rfl))
        intro gb373 hg w37 hbox hb
        have n0_ := am_ (Kd.R_below (qR_ HO_368000) hb)
        have n1_ := am_ (Kd.R_below (qR_ HO371) hb)
        have n2_ := qbl_ BK359 hb
        have n3_ := qbl_ BK360 hb
        have n4_ := qbl_ BK367 hb
        have n5_ := am_ (below_step qB_ hb)
        have n6_ := am_ (hbox)
        have n7_ := am_ ((qs_ : w.heap.size ≤ gb373))
        have n8_ := am_ ((qs_ : w.heap.size ≤ gb373))
        have n9_ := am_ ((by rw [hg]; exact Nat.ne_of_lt (blk_lt (qk_ BK359)) : gb359 ≠ gb373))
        have n10_ := am_ ((by rw [hg]; exact Nat.ne_of_gt (blk_lt (qk_ BK359)) : gb373 ≠ gb359))
        have n11_ := am_ ((by rw [hg]; exact Nat.ne_of_lt (blk_lt (qk_ BK360)) : gb360 ≠ gb373))
        have n12_ := am_ ((by rw [hg]; exact Nat.ne_of_gt (blk_lt (qk_ BK360)) : gb373 ≠ gb360))
        have n13_ := am_ ((by rw [hg]; exact Nat.ne_of_lt (blk_lt (qk_ BK367)) : gb367 ≠ gb373))
        have n14_ := am_ ((by rw [hg]; exact Nat.ne_of_gt (blk_lt (qk_ BK367)) : gb373 ≠ gb367))
        clear HO_368000; clear HO371; clear BK359; clear BK360; clear BK367; clear HB; have HO_368000 := n0_; have HO371 := n1_; have BK359 := n2_; have BK360 := n3_; have BK367 := n4_; have HB := n5_; have BK373 := n6_; have GW373 := n7_; have GE373 := n8_; have NB359_373 := n9_; have NB373_359 := n10_; have NB360_373 := n11_; have NB373_360 := n12_; have NB367_373 := n13_; have NB373_367 := n14_; clear n0_ n1_ n2_ n3_ n4_ n5_ n6_ n7_ n8_ n9_ n10_ n11_ n12_ n13_ n14_; clear hb hbox hg
        refine hK.out _ _ ⟨bl_ BK367 0, ((qx_ HB hw368_0).trans rfl), ((qx_ HB hw368_1).trans rfl), ((qx_ HB hw368_2).trans rfl), ((qx_ HB hw368_3).trans rfl)⟩ (fun hHeld => ?_)
        clear hK K
        refine nm_ 8 ?_
        exact norm_ (by simp only [putAll, Act.put, sA_, sB_, sC_]) (hCont (v370, gb373) _ ⟨hHeld, (by (with_reducible repeat (first | apply Kd.R_alloc | apply Kd.R_drewN | apply Kd.R_drew)); exact Kd.R_mono HO371.out (fun _ hk => hk.2)), (by (with_reducible repeat (first | apply Kd.R_alloc | apply Kd.R_drewN | apply Kd.R_drew)); exact Kd.R_mono HO_368000.out (fun _ hk => hk.2)), (qk_ BK359), (qk_ BK360), (qk_ BK367), (qk_ BK373), GW373.out, GE373.out, NB359_373.out, NB373_359.out, NB360_373.out, NB373_360.out, NB367_373.out, NB373_367.out, qB_⟩)
       skip
       refine box_step ?hg (N := 8) ?hd (cs := #[.slice none 0 0]) (t := 44) ?hr ?_; (case hd => rfl); (case hg => rfl); (case hr => first | (go_simp; done) | (go_simp; rfl))
       intro gb373 hg w36 hbox hb
       have n0_ := am_ (Kd.R_below (qR_ HO_368000) hb)
       have n1_ := qbl_ BK359 hb
       have n2_ := qbl_ BK360 hb
       have n3_ := qbl_ BK367 hb
       have n4_ := am_ (below_step qB_ hb)
       have n5_ := am_ (hbox)
       have n6_ := am_ ((qs_ : w.heap.size ≤ gb373))
       have n7_ := am_ ((qs_ : w.heap.size ≤ gb373))
       have n8_ := am_ ((by rw [hg]; exact Nat.ne_of_lt (blk_lt (qk_ BK359)) : gb359 ≠ gb373))
       have n9_ := am_ ((by rw [hg]; exact Nat.ne_of_gt (blk_lt (qk_ BK359)) : gb373 ≠ gb359))
       have n10_ := am_ ((by rw [hg]; exact Nat.ne_of_lt (blk_lt (qk_ BK360)) : gb360 ≠ gb373))
       have n11_ := am_ ((by rw [hg]; exact Nat.ne_of_gt (blk_lt (qk_ BK360)) : gb373 ≠ gb360))
       have n12_ := am_ ((by rw [hg]; exact Nat.ne_of_lt (blk_lt (qk_ BK367)) : gb367 ≠ gb373))
       have n13_ := am_ ((by rw [hg]; exact Nat.ne_of_gt (blk_lt (qk_ BK367)) : gb373 ≠ gb367))
       clear HO_368000; clear BK359; clear BK360; clear BK367; clear HB; have HO_368000 := n0_; have BK359 := n1_; have BK360 := n2_; have BK367 := n3_; have HB := n4_; have BK373 := n5_; have GW373 := n6_; have GE373 := n7_; have NB359_373 := n8_; have NB373_359 := n9_; have NB360_373 := n10_; have NB373_360 := n11_; have NB367_373 := n12_; have NB373_367 := n13_; clear n0_ n1_ n2_ n3_ n4_ n5_ n6_ n7_ n8_ n9_ n10_ n11_ n12_ n13_; clear hb hbox hg
       refine hK.out _ _ ⟨bl_ BK367 0, ((qx_ HB hw368_0).trans rfl), ((qx_ HB hw368_1).trans rfl), ((qx_ HB hw368_2).trans rfl), ((qx_ HB hw368_3).trans rfl)⟩ (fun hHeld => ?_)
       clear hK K
       refine nm_ 8 ?_
       refine o1_ 5 (some 27) (bm 12 575) (fun K hK => ?_)
       refine goes_ Try.func38 (by kernel_rfl) rfl #[.agg #[.slice Ao34 x368000_1.length co34], .agg #[.int .i64 ((rd_T60 l1 x7_1).f0), .string ((rd_T60 l1 x7_1).f1), .string ((rd_T60 l1 x7_1).f2), .string ((rd_T60 l1 x7_1).f3)]] (by rfl) rfl rfl (by (try simp only [List.map_toArray, List.map_cons, List.map_nil]); first | done | rfl | (simp only [List.length_drop, List.length_take]; rfl)) ?_
       with_reducible refine (spec_DoAct.calls k1 _ _ x368000_1 ((rd_T60 l1 x7_1).f0) ((rd_T60 l1 x7_1).f1) ((rd_T60 l1 x7_1).f2) ((rd_T60 l1 x7_1).f3) t369 false _ ?side1 ?side2 A18.out).mono ?_
       (case side1 => exact qD_ (Kd.R_reads' HO_368000.out).2.2)
       (case side2 => exact (Kd.R_reads' HO_368000.out).2.1)
       rintro e w37 ⟨v370, rfl, ho0, hb⟩
       refine ⟨_, rfl, ?_⟩
       have HO371 := am_ (Kd.R_lower (Kd.R_new' ho0 (Kd.R_lt (qR_ HO_368000))) (below_size qB_)); replace HO_368000 := am_ (Kd.R_elder' (qR_ HO_368000) (Kd.R_base ho0) hb); replace BK359 := qbl_ BK359 hb; replace BK360 := qbl_ BK360 hb; replace BK367 := qbl_ BK367 hb; replace BK373 := qbl_ BK373 hb; replace HB := am_ (below_step qB_ hb); (try clear hb); (try clear hb2); (try clear hk); (try clear hi); (try clear ho0)
       refine hK.out _ _ ⟨bl_ BK367 0, ((qx_ HB hw368_0).trans rfl), ((qx_ HB hw368_1).trans rfl), ((qx_ HB hw368_2).trans rfl), ((qx_ HB hw368_3).trans rfl)⟩ (fun hHeld => ?_)
       clear hK K
       refine nm_ 27 ?_
       refine pz_ 6 21 (bm 12 639) ?_; refine pz_ 7 28 (bm 12 767) ?_; refine pz_ 8 29 (bm 12 1023) ?_
       exact norm_ (by simp only [putAll, Act.put, sA_, sB_, sC_]) (hCont (v370, gb373) _ ⟨hHeld, (by (with_reducible repeat (first | apply Kd.R_alloc | apply Kd.R_drewN | apply Kd.R_drew)); exact Kd.R_mono HO371.out (fun _ hk => hk.2)), (by (with_reducible repeat (first | apply Kd.R_alloc | apply Kd.R_drewN | apply Kd.R_drew)); exact Kd.R_mono HO_368000.out (fun _ hk => hk.2)), (qk_ BK359), (qk_ BK360), (qk_ BK367), (qk_ BK373), GW373.out, GE373.out, NB359_373.out, NB373_359.out, NB360_373.out, NB373_360.out, NB367_373.out, NB373_367.out, qB_⟩)
      rintro ⟨v370, gb373⟩ w38 ⟨hS_, h0_, h1_, h2_, h3_, h4_, h5_, h6_, h7_, h8_, h9_, h10_, h11_, h12_, h13_, h14_⟩
      have n0_ : Aside0 (Kd.R k99 99 w38 w.heap.size (fun k_ => some k_ ≠ (.slice Ao34 x368000_1.length co34 : Value).ownBlock) v370 t369) := ⟨h0_⟩
      have n1_ : Aside0 (Kd.R k99 99 w38 w.heap.size (fun k_ => some k_ ≠ (v370 : Value).ownBlock) (.slice Ao34 x368000_1.length co34) x368000_1) := ⟨h1_⟩
      have n2_ : Aside0 (w38.heap[gb359]? = some (.cells #[.slice A0_0 l0_0.length c0_0] 44 (0, 0))) := ⟨h2_⟩
      have n3_ : Aside0 (w38.heap[gb360]? = some (.cells #[.slice none 0 0] 44 (0, 0))) := ⟨h3_⟩
      have n4_ : Aside0 (w38.heap[gb367]? = some (.cells #[.slice Ao34 x368000_1.length co34] 44 (0, 0))) := ⟨h4_⟩
      have n5_ : Aside0 (w38.heap[gb373]? = some (.cells #[.slice none 0 0] 44 (0, 0))) := ⟨h5_⟩
      have n6_ : Aside0 (w.heap.size ≤ gb373) := ⟨h6_⟩
      have n7_ : Aside0 (w.heap.size ≤ gb373) := ⟨h7_⟩
      have n8_ : Aside0 (gb359 ≠ gb373) := ⟨h8_⟩
      have n9_ : Aside0 (gb373 ≠ gb359) := ⟨h9_⟩
      have n10_ : Aside0 (gb360 ≠ gb373) := ⟨h10_⟩
      have n11_ : Aside0 (gb373 ≠ gb360) := ⟨h11_⟩
      have n12_ : Aside0 (gb367 ≠ gb373) := ⟨h12_⟩
      have n13_ : Aside0 (gb373 ≠ gb367) := ⟨h13_⟩
      have n14_ : Aside0 (Below w.heap.size w w38) := ⟨h14_⟩
      clear HO_368000; clear BK359; clear BK360; clear BK367; clear HB; clear h0_ h1_ h2_ h3_ h4_ h5_ h6_ h7_ h8_ h9_ h10_ h11_ h12_ h13_ h14_; have HO371 := n0_; have HO_368000 := n1_; have BK359 := n2_; have BK360 := n3_; have BK367 := n4_; have BK373 := n5_; have GW373 := n6_; have GE373 := n7_; have NB359_373 := n8_; have NB373_359 := n9_; have NB360_373 := n10_; have NB373_360 := n11_; have NB367_373 := n12_; have NB373_367 := n13_; have HB := n14_; clear n0_ n1_ n2_ n3_ n4_ n5_ n6_ n7_ n8_ n9_ n10_ n11_ n12_ n13_ n14_
      have hHeld : w38.cell? ⟨gb367, 0, none⟩ = some (.slice Ao34 x368000_1.length co34) ∧ w38.cell? (ad368.add ((x7_1).toNat * 4)) = some (.int .i64 ((rd_T60 l1 x7_1).f0)) ∧ w38.cell? ⟨(ad368.add ((x7_1).toNat * 4)).block, (ad368.add ((x7_1).toNat * 4)).off + 1, none⟩ = some (.string ((rd_T60 l1 x7_1).f1)) ∧ w38.cell? ⟨(ad368.add ((x7_1).toNat * 4)).block, (ad368.add ((x7_1).toNat * 4)).off + 2, none⟩ = some (.string ((rd_T60 l1 x7_1).f2)) ∧ w38.cell? ⟨(ad368.add ((x7_1).toNat * 4)).block, (ad368.add ((x7_1).toNat * 4)).off + 3, none⟩ = some (.string ((rd_T60 l1 x7_1).f3)) := hS_
      obtain ⟨Ao39, co39, eo39⟩ := Kd.R_slice HO371.out
      (first | subst eo39 | (injection eo39 with f1_ f2_ f3_; have f4_ := f1_.symm; have f5_ := f3_.symm; clear f1_ f2_ f3_; subst f4_; subst f5_))
      refine norm_ (a' := ?_) ?_ ?_
      rotate_left
      ·simp only [putAll, Act.put, sA_, sB_, sC_]
       rfl
      refine o1_ 10 none (bm 12 2047) (fun K hK => ?_)
      have hs40 : w38.cell? ⟨gb373, 0, none⟩ = some (.slice none 0 0) := bl_ BK373 0
      have hfs40 := blk_frozen BK373.out 0
      have hns40_0 := NB359_373.out; have hns40_1 := NB360_373.out; have hns40_2 := NB367_373.out; have hms40_0 := NB373_359.out; have hms40_1 := NB373_360.out; have hms40_2 := NB373_367.out
      refine skip_ (w1 := ?_) (by rfl) rfl ?_ ?_
      rotate_left
      ·go_simp
       rfl
      refine hK.out _ _ ⟨((cell_far (p := ⟨gb373, _, none⟩) NB367_373.out _).trans (hHeld.1)), ((cell_far (p := ⟨gb373, _, none⟩) (by first | exact Nat.ne_of_lt (Nat.lt_of_lt_of_le (by have := World.block_lt_of_cell? _ _ hw368_0; first | rwa [add_block] at this | exact this) GW373.out) | (rw [add_block]; exact Nat.ne_of_lt (Nat.lt_of_lt_of_le (by have := World.block_lt_of_cell? _ _ hw368_0; first | rwa [add_block] at this | exact this) GW373.out)) | (show (Addr.add _ _).block ≠ _; rw [add_block]; exact Nat.ne_of_lt (Nat.lt_of_lt_of_le (by have := World.block_lt_of_cell? _ _ hw368_0; first | rwa [add_block] at this | exact this) GW373.out)) | (dsimp only; exact Nat.ne_of_lt (Nat.lt_of_lt_of_le (by have := World.block_lt_of_cell? _ _ hw368_0; first | rwa [add_block] at this | exact this) GW373.out))) _).trans (hHeld.2.1)), ((cell_far (p := ⟨gb373, _, none⟩) (by first | exact Nat.ne_of_lt (Nat.lt_of_lt_of_le (by have := World.block_lt_of_cell? _ _ hw368_1; first | rwa [add_block] at this | exact this) GW373.out) | (rw [add_block]; exact Nat.ne_of_lt (Nat.lt_of_lt_of_le (by have := World.block_lt_of_cell? _ _ hw368_1; first | rwa [add_block] at this | exact this) GW373.out)) | (show (Addr.add _ _).block ≠ _; rw [add_block]; exact Nat.ne_of_lt (Nat.lt_of_lt_of_le (by have := World.block_lt_of_cell? _ _ hw368_1; first | rwa [add_block] at this | exact this) GW373.out)) | (dsimp only; exact Nat.ne_of_lt (Nat.lt_of_lt_of_le (by have := World.block_lt_of_cell? _ _ hw368_1; first | rwa [add_block] at this | exact this) GW373.out))) _).trans (hHeld.2.2.1)), ((cell_far (p := ⟨gb373, _, none⟩) (by first | exact Nat.ne_of_lt (Nat.lt_of_lt_of_le (by have := World.block_lt_of_cell? _ _ hw368_2; first | rwa [add_block] at this | exact this) GW373.out) | (rw [add_block]; exact Nat.ne_of_lt (Nat.lt_of_lt_of_le (by have := World.block_lt_of_cell? _ _ hw368_2; first | rwa [add_block] at this | exact this) GW373.out)) | (show (Addr.add _ _).block ≠ _; rw [add_block]; exact Nat.ne_of_lt (Nat.lt_of_lt_of_le (by have := World.block_lt_of_cell? _ _ hw368_2; first | rwa [add_block] at this | exact this) GW373.out)) | (dsimp only; exact Nat.ne_of_lt (Nat.lt_of_lt_of_le (by have := World.block_lt_of_cell? _ _ hw368_2; first | rwa [add_block] at this | exact this) GW373.out))) _).trans (hHeld.2.2.2.1)), ((cell_far (p := ⟨gb373, _, none⟩) (by first | exact Nat.ne_of_lt (Nat.lt_of_lt_of_le (by have := World.block_lt_of_cell? _ _ hw368_3; first | rwa [add_block] at this | exact this) GW373.out) | (rw [add_block]; exact Nat.ne_of_lt (Nat.lt_of_lt_of_le (by have := World.block_lt_of_cell? _ _ hw368_3; first | rwa [add_block] at this | exact this) GW373.out)) | (show (Addr.add _ _).block ≠ _; rw [add_block]; exact Nat.ne_of_lt (Nat.lt_of_lt_of_le (by have := World.block_lt_of_cell? _ _ hw368_3; first | rwa [add_block] at this | exact this) GW373.out)) | (dsimp only; exact Nat.ne_of_lt (Nat.lt_of_lt_of_le (by have := World.block_lt_of_cell? _ _ hw368_3; first | rwa [add_block] at this | exact this) GW373.out))) _).trans (hHeld.2.2.2.2))⟩ (fun hHeld => ?_)
      clear hK K; refine pz_ 11 9 (bm 12 4095) ?_
      refine done_ (done_of HT_.out (by kernel_rfl)) ?_
      obtain ⟨hnb41, hnc41⟩ := nn_ NB367_359; obtain ⟨hnb42, hnc42⟩ := nn_ NB367_360; obtain ⟨hnb43, hnc43⟩ := nn_ NB367_373
      obtain ⟨hcz44_0, hfz44_0⟩ := bc1_ BK367
      obtain ⟨hnb45, hnc45⟩ := nn_ NB360_359; obtain ⟨hnb46, hnc46⟩ := nn_ NB360_373
      obtain ⟨hcz47_0, hfz47_0⟩ := bc1_ BK360
      try go_wp2
      refine bodyPost_ret (results_ct rfl _ _ gb360 44 #[.slice Ao34 x368000_1.length co34] (0, 0) _ rfl (by (with_reducible repeat (first | refine blk_drewN ?_ _ | refine blk_drew ?_ | refine blk_alloc ?_ _)); refine blk_put (cs := #[.slice none 0 0]) ?_ 0 _ rfl; exact qf_ BK360) Try.underlying44 rfl (by kernel_rfl)) rfl ?_
      exact ⟨_, qr_, by (with_reducible repeat (first | apply Kd.R_alloc | apply Kd.R_drewN | apply Kd.R_drew)); exact Kd.R_mono (Kd.R_far (p := ⟨gb360, 0, none⟩) (Kd.R_far (p := ⟨gb373, 0, none⟩) (Kd.R_types (Kd.R_types HO_368000.out BK373.out (by decide)) BK360.out (by decide)) (fun _ hk => hk.1.2) (.slice Ao39 t369.length co39)) (fun _ hk => hk.2) (.slice Ao34 x368000_1.length co34)) (fun _ hk => trivial), qB_⟩
     rw [if_neg c17] at H
     exact absurd H (by simp)
    rw [if_neg c16] at H
    have c16b0 : decide (x7_1 < (l1.length : Int)) = false := decide_eq_false c16
    clear c16
    simp only [Option.some.injEq, Prod.mk.injEq] at H
    obtain ⟨rfl, rfl⟩ := H
    obtain ⟨hnb48, hnc48⟩ := nn_ NB367_359; obtain ⟨hnb49, hnc49⟩ := nn_ NB367_360
    obtain ⟨hcz50_0, hfz50_0⟩ := bc1_ BK367
    obtain ⟨Ao51, co51, eo51⟩ := Kd.R_slice HO_368000.out
    subst eo51; obtain ⟨hnb52, hnc52⟩ := nn_ NB360_359
    obtain ⟨hcz53_0, hfz53_0⟩ := bc1_ BK360
    go_wp2
    refine bodyPost_ret (results_ct rfl _ _ gb360 44 #[.slice Ao51 x368000_1.length co51] (0, 0) _ rfl (by (with_reducible repeat (first | refine blk_drewN ?_ _ | refine blk_drew ?_ | refine blk_alloc ?_ _)); refine blk_put (cs := #[.slice none 0 0]) ?_ 0 _ rfl; exact qf_ BK360) Try.underlying44 rfl (by kernel_rfl)) rfl ?_
    exact ⟨_, qr_, by (with_reducible repeat (first | apply Kd.R_alloc | apply Kd.R_drewN | apply Kd.R_drew)); exact Kd.R_mono (Kd.R_far (p := ⟨gb360, 0, none⟩) (Kd.R_types HO_368000.out BK360.out (by decide)) (fun _ hk => hk.2) (.slice Ao51 x368000_1.length co51)) (fun _ hk => trivial), qB_⟩
 rw [if_neg c3] at H
 exact absurd H (by simp)

end Go.Proofs.Ytacnlodcbbhahaa.QFnExactCutActs
