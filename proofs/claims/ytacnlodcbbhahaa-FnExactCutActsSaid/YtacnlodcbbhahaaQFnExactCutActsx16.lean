-- printed for this claim by a program of the session's own (no text of the kit's print)
import Derived.Test.YtacnlodcbbhahaaQFnExactCutActsx0
import Derived.Test.YtacnlodcbbhahaaQFnExactCutActsx15
namespace Go.Proofs.Ytacnlodcbbhahaa.QFnExactCutActs
open Go.RowKit Go.Proofs.YtacnlodcbbhahaaW.PrintWords Go.Proofs.YtacnlodcbbhahaaW.PrintLast Go.Proofs.YtacnlodcbbhahaaW.PrintMore
attribute [local go_sem] max2_int min2_int max_two min_two max_three min_three max_four min_four   -- for this text's walks alone
set_option linter.unusedVariables false
set_option linter.unusedSimpArgs false

/-! ### spec_LoseDisk: function 24 -/
mutual
def spec_LoseDisk.l0 : Nat → List Int → Int → List (S99) → List (S99) → Option ((List (S99)) × Bool)
  | 0, _, _, _, _ => none
  | k + 1, x1, x7, x285000, x288000 => if x7 < (x285000.length : Int) then (if 0 ≤ x7 then (if x7 < (x1.length : Int) then (spec_LoseDisk.j1 k x1 x7 (rd x1 x7) x285000 x288000 ((rd_T99 x285000 x7).f0) ((rd_T99 x285000 x7).f1) ((rd_T99 x285000 x7).f2)) else (spec_LoseDisk.j1 k x1 x7 0 x285000 x288000 ((rd_T99 x285000 x7).f0) ((rd_T99 x285000 x7).f1) ((rd_T99 x285000 x7).f2))) else (none)) else (some (x288000, true))
def spec_LoseDisk.j1 : Nat → List Int → Int → Int → List (S99) → List (S99) → ByteArray → ByteArray → Int → Option ((List (S99)) × Bool)
  | 0, _, _, _, _, _, _, _, _ => none
  | k + 1, x1, x7, x9, x285000, x288000, x290000, x290001, x290002 => if x9 > (x290001.size : Int) then (if (x290001.size : Int) < x290002 then (if 0 ≤ x290002 then (if x290002 ≤ (x290001.size : Int) then (if x288000.length < 3518437208883 then (spec_LoseDisk.l0 k x1 (wrap64 (x7 + 1)) x285000 (x288000 ++ [(⟨x290000, x290001.extract 0 (x290002 : Int).toNat, x290002⟩ : S99)])) else (none)) else (none)) else (none)) else (if 0 ≤ (x290001.size : Int) then (if (x290001.size : Int) ≤ (x290001.size : Int) then (if x288000.length < 3518437208883 then (spec_LoseDisk.l0 k x1 (wrap64 (x7 + 1)) x285000 (x288000 ++ [(⟨x290000, x290001, (x290001.size : Int)⟩ : S99)])) else (none)) else (none)) else (none))) else (if x9 < x290002 then (if 0 ≤ x290002 then (if x290002 ≤ (x290001.size : Int) then (if x288000.length < 3518437208883 then (spec_LoseDisk.l0 k x1 (wrap64 (x7 + 1)) x285000 (x288000 ++ [(⟨x290000, x290001.extract 0 (x290002 : Int).toNat, x290002⟩ : S99)])) else (none)) else (none)) else (none)) else (if 0 ≤ x9 then (if x9 ≤ (x290001.size : Int) then (if x288000.length < 3518437208883 then (spec_LoseDisk.l0 k x1 (wrap64 (x7 + 1)) x285000 (x288000 ++ [(⟨x290000, x290001.extract 0 (x9 : Int).toNat, x9⟩ : S99)])) else (none)) else (none)) else (none)))
end
def spec_LoseDisk.f (k : Nat) (l0_0 : List (S99)) (l1 : List Int) : Option ((List (S99)) × Bool) := (spec_DiskOk.f k l0_0).bind fun t286 => (if t286 = true then (spec_LoseDisk.l0 k l1 0 l0_0 ([] : List (S99))) else (some (([] : List (S99)), false)))
theorem spec_LoseDisk.mono_l : ∀ k, (∀ y0 y1 y2 y3, LeO (spec_LoseDisk.l0 k y0 y1 y2 y3) (spec_LoseDisk.l0 (k + 1) y0 y1 y2 y3)) ∧ (∀ y0 y1 y2 y3 y4 y5 y6 y7, LeO (spec_LoseDisk.j1 k y0 y1 y2 y3 y4 y5 y6 y7) (spec_LoseDisk.j1 (k + 1) y0 y1 y2 y3 y4 y5 y6 y7))
  | 0 => ⟨fun _ _ _ _ r h => by simp [spec_LoseDisk.l0] at h, fun _ _ _ _ _ _ _ _ r h => by simp [spec_LoseDisk.j1] at h⟩
  | k + 1 => by
    obtain ⟨ih0, ih1⟩ := spec_LoseDisk.mono_l k
    refine ⟨?_, ?_⟩ <;> (intros; first | unfold spec_LoseDisk.l0 | unfold spec_LoseDisk.j1) <;> repeat' first | (with_reducible first | exact ih0 _ _ _ _ | exact ih1 _ _ _ _ _ _ _ _ | exact spec_DiskOk.mono _ _ | exact LeO.refl _ | exact LeO.none _ | refine LeO.ite ?_ ?_ | refine LeO.bind ?_ (fun _ => ?_)) | exact LeO.none _ | refine LeO.ite ?_ ?_ | refine LeO.bind ?_ (fun _ => ?_)
theorem spec_LoseDisk.mono : ∀ a0 a1 k, LeO (spec_LoseDisk.f k a0 a1) (spec_LoseDisk.f (k + 1) a0 a1) := by
  intro a0 a1 k
  obtain ⟨ih0, ih1⟩ := spec_LoseDisk.mono_l k
  unfold spec_LoseDisk.f
  repeat' first | (with_reducible first | exact ih0 _ _ _ _ | exact ih1 _ _ _ _ _ _ _ _ | exact spec_DiskOk.mono _ _ | exact LeO.refl _ | exact LeO.none _ | refine LeO.ite ?_ ?_ | refine LeO.bind ?_ (fun _ => ?_)) | exact LeO.none _ | refine LeO.ite ?_ ?_ | refine LeO.bind ?_ (fun _ => ?_)
def spec_LoseDisk.T15 : Bool × List (List Nat × List Nat) := (true, [([], []), ([0], [0]), ([], []), ([2], [2]), ([], []), ([4], [4]), ([], []), ([5, 6], [5, 6]), ([], []), ([3, 7, 8], [3, 7, 8]), ([9], [9]), ([1, 10], [1, 10]), ([0, 1, 2, 3, 4, 5, 6, 7, 8, 9, 10, 11], []), ([12, 11, 11, 0, 1, 2, 3, 4, 5, 6, 7, 8, 9, 10, 11], [11, 12])])
def spec_LoseDisk.B15 : List Nat := [0, 1, 0, 4, 0, 16, 0, 112, 0, 508, 1020, 2047, 4095, 8191]
theorem spec_LoseDisk.tab15 : rtab .any (opsOf Try.f24 15) = spec_LoseDisk.T15 := by kernel_rfl
theorem spec_LoseDisk.bits15 : waitsOk spec_LoseDisk.T15.2 spec_LoseDisk.B15 = true := by kernel_rfl
set_option maxHeartbeats 8000000 in
set_option maxRecDepth 100000 in
theorem spec_LoseDisk.calls (k : Nat) (A0_0 : Option Addr) (c0_0 : Nat) (l0_0 : List (S99)) (A1 : Option Addr) (c1 : Nat) (l1 : List Int) (r1 : List (S99)) (r2 : Bool) (w : World) (hr0_0 : Kd.C k99 w A0_0 l0_0.length l0_0) (hc0_0 : l0_0.length ≤ c0_0) (hr1 : Kd.C (Kd.int .i64) w A1 l1.length l1) (hc1 : l1.length ≤ c1) (h : spec_LoseDisk.f k l0_0 l1 = some (r1, r2)) :
  Calls Try.prog 24 #[.agg #[.slice A0_0 l0_0.length c0_0], .slice A1 l1.length c1] w fun e w' => ∃ v0_ : Value, e = .returned (.tuple #[.agg #[v0_], .bool r2]) ∧ Kd.R k99 99 w' w.heap.size (fun _ => True) v0_ r1 ∧ Below w.heap.size w w' := by
 have hu44 := Try.underlying44; have hu99 := Try.underlying99
 have HR0_0 := am_ hr0_0
 have HC0_0 := am_ hc0_0
 clear hr0_0 hc0_0
 have HR1 := am_ hr1
 have HC1 := am_ hc1
 clear hr1 hc1
 have HB := am_ (Below.refl w.heap.size w)
 have H : ((spec_DiskOk.f k l0_0).bind fun t286 => (if t286 = true then (spec_LoseDisk.l0 k l1 0 l0_0 ([] : List (S99))) else (some (([] : List (S99)), false)))) = some (r1, r2) := h
 clear h
 obtain ⟨t286, A30, H⟩ := Option.bind_eq_some_iff.mp H; have A3 := am_ A30; clear A30
 by_cases c4 : t286 = true
 ·subst c4
  rw [if_pos rfl] at H; have H' := am_ H; clear H
  go_enter Try.func24, Try.ntmps24
  go_wp2_with (first | ((with_reducible refine gate_dst (N := 2) rfl ?_); refine bx_ 2 (cs := #[.slice A0_0 l0_0.length c0_0]) (t := 44) ?_; intro gb284 hg w5 hbox hb; have BK284 := am_ (hbox); have GW284 := am_ ((qs_ : w.heap.size ≤ gb284)); have GE284 := GW284; replace HB := hs_ hb; clear hb hbox hg) | ((with_reducible refine gate_dst (N := 4) rfl ?_); refine bx_ 4 (cs := #[.slice none 0 0]) (t := 44) ?_; intro gb285 hg w6 hbox hb; have BK285 := am_ (hbox); have GW285 := am_ ((qs_ : w.heap.size ≤ gb285)); have GE285 := GW285; obtain ⟨NB284_285, NB285_284⟩ := qn_ BK284 hg; replace BK284 := qbl_ BK284 hb; replace HB := hs_ hb; clear hb hbox hg; obtain ⟨hnb7, hnc7⟩ := nn_ NB284_285; obtain ⟨hcz8_0, hfz8_0⟩ := bc1_ BK284) | ((with_reducible refine gate_callee (f := 75) rfl ?_); refine gl_ (some 11) Try.func75 #[.agg #[.slice A0_0 l0_0.length c0_0]] ?_; (with_reducible refine (spec_DiskOk.calls k _ _ l0_0 true _ ?side1 ?side2 A3.out).mono ?_); (case side1 => exact qC_ HR0_0 HB); (case side2 => exact HC0_0.out); rintro e w9 ⟨rfl, hb⟩; refine ⟨_, rfl, ?_⟩; replace BK284 := qbl_ BK284 hb; replace BK285 := qbl_ BK285 hb; replace HB := hs_ hb; (try clear hb); (try clear hb2); (try clear hk); (try clear hi)) | ((with_reducible refine gate_dst (N := 6) rfl ?_); refine bx_ 6 (cs := #[.slice none 0 0]) (t := 44) ?_; intro gb287 hg w10 hbox hb; have BK287 := am_ (hbox); have GW287 := am_ ((qs_ : w.heap.size ≤ gb287)); have GE287 := GW287; obtain ⟨NB284_287, NB287_284⟩ := qn_ BK284 hg; obtain ⟨NB285_287, NB287_285⟩ := qn_ BK285 hg; replace BK284 := qbl_ BK284 hb; replace BK285 := qbl_ BK285 hb; replace HB := hs_ hb; clear hb hbox hg; obtain ⟨hnb11, hnc11⟩ := nn_ NB287_284; obtain ⟨hnb12, hnc12⟩ := nn_ NB287_285; obtain ⟨hcz13_0, hfz13_0⟩ := bc1_ BK287))
  go_loopg [7] k (fun kq v7 w' => ∃ (x7_1 : Int) (x288000_1 : List (S99)) (u288000 : Value), v7 = .int .i64 x7_1 ∧ Aside0 (spec_LoseDisk.l0 kq l1 x7_1 l0_0 x288000_1 = some (r1, r2)) ∧ Aside0 (kq ≤ k) ∧ Aside0 (Kd.R k99 99 w' w.heap.size (fun _ => True) u288000 x288000_1) ∧ Aside0 (w'.heap[gb284]? = some (.cells #[(.slice A0_0 l0_0.length c0_0)] 44 (0, 0))) ∧ Aside0 (w'.heap[gb285]? = some (.cells #[(.slice none 0 0)] 44 (0, 0))) ∧ Aside0 (w'.heap[gb287]? = some (.cells #[u288000] 44 (0, 0))) ∧ Aside0 (Below w.heap.size w w'))
  case atStart => exact ⟨(0), (([] : List (S99))), (.slice none 0 0), qe_, H', ⟨Nat.le_refl _⟩, ⟨by first | exact Kd.R_nil _ _ _ _ _ | exact Kd.N_nil _ _ _ _ _ | exact Kd.V_nil _ _ _ _ _ | exact Kd.Q_nil _ _ _ _ _ | exact Kd.S_nil _ _ _ _ _⟩, ⟨qf_ BK284⟩, ⟨qf_ BK285⟩, ⟨by (with_reducible repeat (first | refine blk_drewN ?_ _ | refine blk_drew ?_ | refine blk_alloc ?_ _)); refine blk_put (cs := #[.slice none 0 0]) ?_ 0 _ rfl; exact qf_ BK287⟩, ⟨qB_⟩⟩
  case round =>
   clear H'
   (try clear c1); (try clear c2); (try clear p2); (try clear c4); (try clear c7); (try clear c11); (try clear c12); (try clear hcz13_0); (try clear hcz8_0); (try clear hfz13_0); (try clear hfz8_0)
   obtain ⟨x7_1, x288000_1, u288000, rfl, HA, HK1, HO_288000, BK284, BK285, BK287, HB⟩ := hrel
   cases gk with
   | zero => exact absurd HA.out (by simp [spec_LoseDisk.l0])
   | succ k1 =>
    have H := HA.out; clear HA
    simp only [spec_LoseDisk.l0] at H
    by_cases c14 : x7_1 < (l0_0.length : Int)
    ·rw [if_pos c14] at H
     have c14b0 : decide (x7_1 < (l0_0.length : Int)) = true := decide_eq_true c14
     clear c14
     by_cases c15 : 0 ≤ x7_1
     ·rw [if_pos c15] at H
      have c15b0 : decide (0 ≤ x7_1) = true := decide_eq_true c15
      clear c15
      have HC16 := am_ H
      clear H; obtain ⟨hnb17, hnc17⟩ := nn_ NB284_285; obtain ⟨hnb18, hnc18⟩ := nn_ NB284_287
      obtain ⟨hcz19_0, hfz19_0⟩ := bc1_ BK284
      have p288 : 0 ≤ (x7_1 : Int) := of_decide_eq_true qa_
      have q288 : x7_1 < (l0_0.length : Int) := of_decide_eq_true qa_
      obtain ⟨ad288, e288, hx288_0, hx288_1, hx288_2⟩ := at_T99 HR0_0.out x7_1 p288 q288
      cases e288
      replace hx288_0 := qx_ HB hx288_0
      replace hx288_1 := qx_ HB hx288_1
      replace hx288_2 := qx_ HB hx288_2
      replace p288 := eq_true p288; replace q288 := eq_true q288
      go_upto_if 30 with (first | ((with_reducible refine gate_dst (N := 8) rfl ?_); refine bx_ 8 (cs := #[.string (⟨#[]⟩ : ByteArray), .string (⟨#[]⟩ : ByteArray), .int .i64 0]) (t := 99) ?_; intro gb289 hg w20 hbox hb; have BK289 := am_ (hbox); have GW289 := am_ ((qs_ : w.heap.size ≤ gb289)); have GE289 := GW289; obtain ⟨NB284_289, NB289_284⟩ := qn_ BK284 hg; obtain ⟨NB285_289, NB289_285⟩ := qn_ BK285 hg; obtain ⟨NB287_289, NB289_287⟩ := qn_ BK287 hg; replace HO_288000 := am_ (Kd.R_below (Kd.R_elderB (qR_ HO_288000) gb289 (Nat.le_of_eq hg.symm)) hb); replace BK284 := qbl_ BK284 hb; replace BK285 := qbl_ BK285 hb; replace BK287 := qbl_ BK287 hb; replace HB := hs_ hb; clear hb hbox hg; obtain ⟨hnb21, hnc21⟩ := nn_ NB289_284; obtain ⟨hnb22, hnc22⟩ := nn_ NB289_285; obtain ⟨hnb23, hnc23⟩ := nn_ NB289_287; obtain ⟨hcz24_0, hcz24_1, hcz24_2, hfz24_0, hfz24_1, hfz24_2⟩ := bc3_ BK289))
      (try simp only [Act.put, sA_, sB_, sC_])
      go_cut [9] (fun v9 wc => ∃ (kq : Nat) (x9_15 : Int), v9 = .int .i64 x9_15 ∧ Aside0 (spec_LoseDisk.j1 kq l1 x7_1 x9_15 l0_0 x288000_1 ((rd_T99 l0_0 x7_1).f0) ((rd_T99 l0_0 x7_1).f1) ((rd_T99 l0_0 x7_1).f2) = some (r1, r2)) ∧ Aside0 (kq ≤ k1) ∧ Aside0 (Kd.R k99 99 wc w.heap.size (fun k_ => k_ ≠ gb289) u288000 x288000_1) ∧ Aside0 (wc.heap[gb284]? = some (.cells #[(.slice (some ad288) l0_0.length c0_0)] 44 (0, 0))) ∧ Aside0 (wc.heap[gb285]? = some (.cells #[(.slice none 0 0)] 44 (0, 0))) ∧ Aside0 (wc.heap[gb287]? = some (.cells #[u288000] 44 (0, 0))) ∧ Aside0 (wc.heap[gb289]? = some (.cells #[.string ((rd_T99 l0_0 x7_1).f0), .string ((rd_T99 l0_0 x7_1).f1), .int .i64 ((rd_T99 l0_0 x7_1).f2)] 99 (0, 0))) ∧ Aside0 (Below w.heap.size w wc))
      case first =>
       have H := HC16.out; clear HC16
       by_cases c25 : x7_1 < (l1.length : Int)
       ·rw [if_pos c25] at H
        have c25b0 : decide (x7_1 < (l1.length : Int)) = true := decide_eq_true c25
        clear c25
        (first | rw [c25b0] | (simp only [i64_w, i32_w]; rw [c25b0]) | skip)
        have H' := am_ H; clear H
        have p290 : 0 ≤ (x7_1 : Int) := of_decide_eq_true qa_
        have q290 : x7_1 < (l1.length : Int) := of_decide_eq_true qa_
        obtain ⟨ad290, e290, hx290_0⟩ := Kd.at_int HR1.out x7_1 p290 q290
        cases e290
        have hn290_0 : ad290.block ≠ gb289 := Nat.ne_of_lt (Nat.lt_of_lt_of_le (by have := World.block_lt_of_cell? _ _ hx290_0; first | rwa [add_block] at this | exact this) GW289.out)
        have hn290_1 : ad290.block ≠ gb289 := Nat.ne_of_lt (Nat.lt_of_lt_of_le (by have := World.block_lt_of_cell? _ _ hx290_0; first | rwa [add_block] at this | exact this) GW289.out)
        have hn290_2 : ad290.block ≠ gb289 := Nat.ne_of_lt (Nat.lt_of_lt_of_le (by have := World.block_lt_of_cell? _ _ hx290_0; first | rwa [add_block] at this | exact this) GW289.out)
        replace hx290_0 := qx_ HB hx290_0
        replace hx290_0 := (cell_far (p := ⟨gb289, 0, none⟩) (by first | (rw [add_block]; exact hn290_0) | (show (Addr.add _ _).block ≠ _; rw [add_block]; exact hn290_0) | exact hn290_0) (.string ((rd_T99 l0_0 x7_1).f0))).trans hx290_0
        replace hx290_0 := (cell_far (p := ⟨gb289, 1, none⟩) (by first | (rw [add_block]; exact hn290_1) | (show (Addr.add _ _).block ≠ _; rw [add_block]; exact hn290_1) | exact hn290_1) (.string ((rd_T99 l0_0 x7_1).f1))).trans hx290_0
        replace hx290_0 := (cell_far (p := ⟨gb289, 2, none⟩) (by first | (rw [add_block]; exact hn290_2) | (show (Addr.add _ _).block ≠ _; rw [add_block]; exact hn290_2) | exact hn290_2) (.int .i64 ((rd_T99 l0_0 x7_1).f2))).trans hx290_0
        clear hn290_0; clear hn290_1; clear hn290_2; replace p290 := eq_true p290; replace q290 := eq_true q290
        go_wp2
        go_meet
        case rel => exact ⟨_, (rd l1 x7_1), qe_, H', ⟨by have := HK1.out; first | omega | exact Nat.le_refl _⟩, ⟨by (with_reducible repeat (first | apply Kd.R_alloc | apply Kd.R_drewN | apply Kd.R_drew)); exact Kd.R_mono (Kd.R_far (p := ⟨gb289, 2, none⟩) (Kd.R_far (p := ⟨gb289, 1, none⟩) (Kd.R_far (p := ⟨gb289, 0, none⟩) (Kd.R_mono HO_288000.out (fun k_ hk => (⟨hk, hk.2⟩ : _ ∧ k_ ≠ gb289))) (fun _ hk => hk.2) (.string ((rd_T99 l0_0 x7_1).f0))) (fun _ hk => hk.2) (.string ((rd_T99 l0_0 x7_1).f1))) (fun _ hk => hk.2) (.int .i64 ((rd_T99 l0_0 x7_1).f2))) (fun _ hk => hk.1.2)⟩, ⟨qf_ BK284⟩, ⟨qf_ BK285⟩, ⟨qf_ BK287⟩, ⟨by (with_reducible repeat (first | refine blk_drewN ?_ _ | refine blk_drew ?_ | refine blk_alloc ?_ _)); refine blk_put (cs := #[.string ((rd_T99 l0_0 x7_1).f0), .string ((rd_T99 l0_0 x7_1).f1), .int .i64 0]) ?_ 2 _ rfl; (with_reducible repeat (first | refine blk_drewN ?_ _ | refine blk_drew ?_ | refine blk_alloc ?_ _)); refine blk_put (cs := #[.string ((rd_T99 l0_0 x7_1).f0), .string (⟨#[]⟩ : ByteArray), .int .i64 0]) ?_ 1 _ rfl; (with_reducible repeat (first | refine blk_drewN ?_ _ | refine blk_drew ?_ | refine blk_alloc ?_ _)); refine blk_put (cs := #[.string (⟨#[]⟩ : ByteArray), .string (⟨#[]⟩ : ByteArray), .int .i64 0]) ?_ 0 _ rfl; exact qf_ BK289⟩, ⟨qB_⟩⟩
       rw [if_neg c25] at H
       have c25b0 : decide (x7_1 < (l1.length : Int)) = false := decide_eq_false c25
       clear c25
       (first | rw [c25b0] | (simp only [i64_w, i32_w]; rw [c25b0]) | skip)
       have H' := am_ H; clear H
       go_wp2
       go_meet
       case rel => exact ⟨_, (0), qe_, H', ⟨by have := HK1.out; first | omega | exact Nat.le_refl _⟩, ⟨by (with_reducible repeat (first | apply Kd.R_alloc | apply Kd.R_drewN | apply Kd.R_drew)); exact Kd.R_mono (Kd.R_far (p := ⟨gb289, 2, none⟩) (Kd.R_far (p := ⟨gb289, 1, none⟩) (Kd.R_far (p := ⟨gb289, 0, none⟩) (Kd.R_mono HO_288000.out (fun k_ hk => (⟨hk, hk.2⟩ : _ ∧ k_ ≠ gb289))) (fun _ hk => hk.2) (.string ((rd_T99 l0_0 x7_1).f0))) (fun _ hk => hk.2) (.string ((rd_T99 l0_0 x7_1).f1))) (fun _ hk => hk.2) (.int .i64 ((rd_T99 l0_0 x7_1).f2))) (fun _ hk => hk.1.2)⟩, ⟨qf_ BK284⟩, ⟨qf_ BK285⟩, ⟨qf_ BK287⟩, ⟨by (with_reducible repeat (first | refine blk_drewN ?_ _ | refine blk_drew ?_ | refine blk_alloc ?_ _)); refine blk_put (cs := #[.string ((rd_T99 l0_0 x7_1).f0), .string ((rd_T99 l0_0 x7_1).f1), .int .i64 0]) ?_ 2 _ rfl; (with_reducible repeat (first | refine blk_drewN ?_ _ | refine blk_drew ?_ | refine blk_alloc ?_ _)); refine blk_put (cs := #[.string ((rd_T99 l0_0 x7_1).f0), .string (⟨#[]⟩ : ByteArray), .int .i64 0]) ?_ 1 _ rfl; (with_reducible repeat (first | refine blk_drewN ?_ _ | refine blk_drew ?_ | refine blk_alloc ?_ _)); refine blk_put (cs := #[.string (⟨#[]⟩ : ByteArray), .string (⟨#[]⟩ : ByteArray), .int .i64 0]) ?_ 0 _ rfl; exact qf_ BK289⟩, ⟨qB_⟩⟩
      case rest =>
       clear HC16; (try clear c1); (try clear c2); (try clear p2); (try clear q2); (try clear hx2); (try clear c4); (try clear c7); (try clear c11); (try clear c12); (try clear c14); (try clear c14b0); (try clear c15); (try clear c15b0); (try clear c17); (try clear c18); (try clear c21); (try clear c22); (try clear c23); (try clear c24); (try clear c25); (try clear c25b0); (try clear hcz13_0); (try clear hcz19_0); (try clear hcz24_0 hcz24_1 hcz24_2); (try clear hcz8_0); (try clear hfz13_0); (try clear hfz19_0); (try clear hfz24_0 hfz24_1 hfz24_2); (try clear hfz8_0); (try clear hx288_0); (try clear hx288_1); (try clear hx288_2); (try clear hx290_0); (try clear p2); (try clear p288); (try clear p290); (try clear q288); (try clear q290)
       obtain ⟨kq, x9_15, rfl, HA, HJ15, HO_288000, BK284, BK285, BK287, BK289, HB⟩ := hcut
       cases kq with
       | zero => exact absurd HA.out (by simp [spec_LoseDisk.j1])
       | succ kj15 =>
        have H := HA.out; clear HA
        simp only [spec_LoseDisk.j1] at H
        by_cases c26 : x9_15 > (((rd_T99 l0_0 x7_1).f1).size : Int)
        ·rw [if_pos c26] at H
         have c26b0 : decide ((((rd_T99 l0_0 x7_1).f1).size : Int) < x9_15) = true := decide_eq_true c26
         clear c26
         by_cases c27 : (((rd_T99 l0_0 x7_1).f1).size : Int) < ((rd_T99 l0_0 x7_1).f2)
         ·rw [if_pos c27] at H
          have c27b0 : decide ((((rd_T99 l0_0 x7_1).f1).size : Int) < ((rd_T99 l0_0 x7_1).f2)) = true := decide_eq_true c27
          clear c27
          by_cases c28 : 0 ≤ ((rd_T99 l0_0 x7_1).f2)
          ·rw [if_pos c28] at H
           have c28b0 := eq_true c28
           have c28b1 : decide (0 ≤ ((rd_T99 l0_0 x7_1).f2)) = true := decide_eq_true c28
           clear c28
           by_cases c29 : ((rd_T99 l0_0 x7_1).f2) ≤ (((rd_T99 l0_0 x7_1).f1).size : Int)
           ·rw [if_pos c29] at H
            have c29b0 := eq_true c29
            have c29b1 : decide (((rd_T99 l0_0 x7_1).f2) ≤ (((rd_T99 l0_0 x7_1).f1).size : Int)) = true := decide_eq_true c29
            clear c29
            by_cases c30 : x288000_1.length < 3518437208883
            ·rw [if_pos c30] at H
             have LMc30 := am_ c30
             clear c30
             obtain ⟨y291, hy291⟩ : ∃ y_ : List (S99), y_ = (x288000_1 ++ [(⟨((rd_T99 l0_0 x7_1).f0), ((rd_T99 l0_0 x7_1).f1).extract 0 (((rd_T99 l0_0 x7_1).f2) : Int).toNat, ((rd_T99 l0_0 x7_1).f2)⟩ : S99)]) := ⟨_, rfl⟩
             replace H : (spec_LoseDisk.l0 kj15 l1 (wrap64 (x7_1 + 1)) l0_0 y291) = some (r1, r2) := by first | (rw [hy291]; with_reducible exact H) | (have H2_ := (Option.bind_some _ _).symm.trans H; rw [hy291]; with_reducible exact H2_) | (have H2_ := (Option.bind_some _ _).symm.trans H; with_reducible exact H2_) | with_reducible exact H | (rw [hy291]; exact H) | exact H
             have Ny291 := am_ hy291
             clear hy291; have H' := am_ H; clear H; obtain ⟨hnb31, hnc31⟩ := nn_ NB289_284; obtain ⟨hnb32, hnc32⟩ := nn_ NB289_285; obtain ⟨hnb33, hnc33⟩ := nn_ NB289_287
             obtain ⟨hcz34_0, hcz34_1, hcz34_2, hfz34_0, hfz34_1, hfz34_2⟩ := bc3_ BK289
             try go_wp2
             replace HO_288000 := am_ (Kd.R_drew HO_288000.out); replace BK284 := am_ (blk_drew BK284.out); replace BK285 := am_ (blk_drew BK285.out); replace BK287 := am_ (blk_drew BK287.out); replace BK289 := am_ (blk_drew BK289.out); replace HB := am_ (below_drew1 HB.out)
             refine start_ (n := 14) (S := fun w' => w'.cell? ⟨gb287, 0, none⟩ = some (u288000) ∧ w'.cell? ⟨gb289, 0, none⟩ = some (.string ((rd_T99 l0_0 x7_1).f0)) ∧ w'.cell? ⟨gb289, 1, none⟩ = some (.string ((rd_T99 l0_0 x7_1).f1)) ∧ w'.cell? ⟨gb289, 2, none⟩ = some (.int .i64 ((rd_T99 l0_0 x7_1).f2))) (ds := [13]) (bm 14 0) (by kernel_rfl) rfl (by kernel_rfl) ⟨bl_ BK287 0, bl_ BK289 0, bl_ BK289 1, bl_ BK289 2⟩ (fun hHeld => ?_); refine with_tabW spec_LoseDisk.tab15 spec_LoseDisk.bits15 (fun HT_ HW_ => ?_)
             generalize wc.drew = w35 at HO_288000 BK284 BK285 BK287 BK289 HB hHeld ⊢
             refine pz_ 0 49 (bm 14 1) ?_; refine pz_ 2 51 (bm 14 5) ?_; refine pz_ 4 53 (bm 14 21) ?_; refine pz_ 6 55 (bm 14 85) ?_; refine pz_ 8 57 (bm 14 341) ?_; refine tz4_ 1 50 (bm 14 343) ?_; refine tz4_ 3 52 (bm 14 351) ?_; refine tz4_ 5 54 (bm 14 383) ?_; refine pz_ 7 56 (bm 14 511) ?_; refine pz_ 9 58 (bm 14 1023) ?_
             refine o1_ 10 (some 59) (bm 14 2047) (fun K hK => ?_)
             refine value_ (w1 := ?_) (v := ?_) (by rfl) rfl ?_ ?_
             rotate_left 2
             ·go_simp
              constructor
              ·rfl
              rfl
             refine hK.out _ _ ⟨(blk_cell (blk_alloc BK287.out _) 0).trans rfl, (blk_cell (blk_alloc BK289.out _) 0).trans rfl, (blk_cell (blk_alloc BK289.out _) 1).trans rfl, (blk_cell (blk_alloc BK289.out _) 2).trans rfl⟩ (fun hHeld => ?_)
             clear hK K
             refine nm_ 59 ?_
             refine o1_ 11 (some 60) (bm 14 4095) (fun K hK => ?_)
             refine Kd.R_append_step k99 (w0 := w) w.heap.size (by rfl) (.tmp 50) (.tmp 59) 42 99 (.agg #[(.string ⟨#[]⟩), (.string ⟨#[]⟩), (.int .i64 0)]) 40 rfl Try.underlying42 info99 rfl (by decide) (by omega) u288000 x288000_1 (⟨((rd_T99 l0_0 x7_1).f0), ((rd_T99 l0_0 x7_1).f1).extract 0 (((rd_T99 l0_0 x7_1).f2) : Int).toNat, ((rd_T99 l0_0 x7_1).f2)⟩ : S99) [.string ((rd_T99 l0_0 x7_1).f0), .string (((rd_T99 l0_0 x7_1).f1).extract 0 (((rd_T99 l0_0 x7_1).f2) : Int).toNat), .int .i64 ((rd_T99 l0_0 x7_1).f2)] (fun k_ => k_ ≠ gb289) (fun _ => False) rfl rfl ?aP (fun _ hk => hk.elim) ?aF ?aO ?aB ?aS ?aL ?_
             (case aP => exact k99_mkM _ _ _ (⟨((rd_T99 l0_0 x7_1).f0), ((rd_T99 l0_0 x7_1).f1).extract 0 (((rd_T99 l0_0 x7_1).f2) : Int).toNat, ((rd_T99 l0_0 x7_1).f2)⟩ : S99))
             (case aB => exact qB_)
             (case aF => exact (fun k_ hk => Kd.freshB (qk_ BK289) k_ hk))
             (case aO => exact (qR_ HO_288000))
             (case aS => exact (below_size qB_))
             (case aL => have := LMc30.out; omega)
             intro v292 w36 ho hb hg hat
             rw [← Ny291.out] at ho
             have HO293 := am_ (ho); replace BK284 := am_ (blk_grown (qk_ BK284) hg (Kd.R_ne HO_288000.out BK284.out (by decide))); replace BK285 := am_ (blk_grown (qk_ BK285) hg (Kd.R_ne HO_288000.out BK285.out (by decide))); replace BK287 := am_ (blk_grown (qk_ BK287) hg (Kd.R_ne HO_288000.out BK287.out (by decide))); replace BK289 := am_ (blk_grown (qk_ BK289) hg (Kd.R_away HO_288000.out (fun _ hk => hk))); replace HB := am_ (hb); clear HO_288000; clear ho hb hg hat
             obtain ⟨Ao37, co37, eo37⟩ := Kd.R_slice HO293.out
             (first | subst eo37 | (injection eo37 with f1_ f2_ f3_; have f4_ := f1_.symm; have f5_ := f3_.symm; clear f1_ f2_ f3_; subst f4_; subst f5_))
             refine hK.out _ _ ⟨bl_ BK287 0, bl_ BK289 0, bl_ BK289 1, bl_ BK289 2⟩ (fun hHeld => ?_)
             clear hK K
             refine nm_ 60 ?_
             refine pz_ 12 61 (bm 14 8191) ?_
             refine last_ (i := 13) (N := none) (bm 14 16383) rfl rfl (one_of HT_.out (by kernel_rfl)) (by decide) (fun K hK => ?_)
             have hs38 : w36.cell? ⟨gb287, 0, none⟩ = some (u288000) := bl_ BK287 0
             have hfs38 := blk_frozen BK287.out 0
             have hns38_0 := NB284_287.out; have hns38_1 := NB285_287.out; have hns38_3 := NB289_287.out; have hms38_0 := NB287_284.out; have hms38_1 := NB287_285.out; have hms38_3 := NB287_289.out
             refine skip_ (w1 := ?_) (by rfl) rfl ?_ ?_
             rotate_left
             ·go_simp
              rfl
             refine hK.out _ _ ?_
             clear hK K
             refine done_ (done_of HT_.out (by kernel_rfl)) ?_
             try go_wp2
             go_roundg kj15
             case measure => have := HK1.out; have := HJ15.out; omega
             case rel => exact ⟨(wrap64 (x7_1 + 1)), (y291), (.slice Ao37 y291.length co37), qe_, H', ⟨by have := HK1.out; have := HJ15.out; omega⟩, ⟨by (with_reducible repeat (first | apply Kd.R_alloc | apply Kd.R_drewN | apply Kd.R_drew)); exact Kd.R_mono (Kd.R_far (p := ⟨gb287, 0, none⟩) (Kd.R_types HO293.out BK287.out (by decide)) (fun _ hk => hk.2) (.slice Ao37 y291.length co37)) (fun _ hk => trivial)⟩, ⟨qf_ BK284⟩, ⟨qf_ BK285⟩, ⟨by (with_reducible repeat (first | refine blk_drewN ?_ _ | refine blk_drew ?_ | refine blk_alloc ?_ _)); refine blk_put (cs := #[u288000]) ?_ 0 _ rfl; exact qf_ BK287⟩, ⟨qB_⟩⟩
            rw [if_neg c30] at H
            exact absurd H (by simp)
           rw [if_neg c29] at H
           exact absurd H (by simp)
          rw [if_neg c28] at H
          exact absurd H (by simp)
         rw [if_neg c27] at H
         have c27b0 : decide ((((rd_T99 l0_0 x7_1).f1).size : Int) < ((rd_T99 l0_0 x7_1).f2)) = false := decide_eq_false c27
         clear c27
         by_cases c39 : 0 ≤ (((rd_T99 l0_0 x7_1).f1).size : Int)
         ·rw [if_pos c39] at H
          have c39b0 := eq_true c39
          have c39b1 : decide (0 ≤ (((rd_T99 l0_0 x7_1).f1).size : Int)) = true := decide_eq_true c39
          clear c39
          by_cases c40 : (((rd_T99 l0_0 x7_1).f1).size : Int) ≤ (((rd_T99 l0_0 x7_1).f1).size : Int)
          ·rw [if_pos c40] at H
           have c40b0 := eq_true c40
           have c40b1 : decide ((((rd_T99 l0_0 x7_1).f1).size : Int) ≤ (((rd_T99 l0_0 x7_1).f1).size : Int)) = true := decide_eq_true c40
           clear c40
           by_cases c41 : x288000_1.length < 3518437208883
           ·rw [if_pos c41] at H
            have LMc41 := am_ c41
            clear c41
            obtain ⟨y294, hy294⟩ : ∃ y_ : List (S99), y_ = (x288000_1 ++ [(⟨((rd_T99 l0_0 x7_1).f0), ((rd_T99 l0_0 x7_1).f1), (((rd_T99 l0_0 x7_1).f1).size : Int)⟩ : S99)]) := ⟨_, rfl⟩
            replace H : (spec_LoseDisk.l0 kj15 l1 (wrap64 (x7_1 + 1)) l0_0 y294) = some (r1, r2) := by first | (rw [hy294]; with_reducible exact H) | (have H2_ := (Option.bind_some _ _).symm.trans H; rw [hy294]; with_reducible exact H2_) | (have H2_ := (Option.bind_some _ _).symm.trans H; with_reducible exact H2_) | with_reducible exact H | (rw [hy294]; exact H) | exact H
            have Ny294 := am_ hy294
            clear hy294; have H' := am_ H; clear H; obtain ⟨hnb42, hnc42⟩ := nn_ NB289_284; obtain ⟨hnb43, hnc43⟩ := nn_ NB289_285; obtain ⟨hnb44, hnc44⟩ := nn_ NB289_287
            obtain ⟨hcz45_0, hcz45_1, hcz45_2, hfz45_0, hfz45_1, hfz45_2⟩ := bc3_ BK289
            try go_wp2
            replace HO_288000 := am_ (Kd.R_drew HO_288000.out); replace BK284 := am_ (blk_drew BK284.out); replace BK285 := am_ (blk_drew BK285.out); replace BK287 := am_ (blk_drew BK287.out); replace BK289 := am_ (blk_drew BK289.out); replace HB := am_ (below_drew1 HB.out)
            refine start_ (n := 14) (S := fun w' => w'.cell? ⟨gb287, 0, none⟩ = some (u288000) ∧ w'.cell? ⟨gb289, 0, none⟩ = some (.string ((rd_T99 l0_0 x7_1).f0)) ∧ w'.cell? ⟨gb289, 1, none⟩ = some (.string ((rd_T99 l0_0 x7_1).f1)) ∧ w'.cell? ⟨gb289, 2, none⟩ = some (.int .i64 ((rd_T99 l0_0 x7_1).f2))) (ds := [13]) (bm 14 0) (by kernel_rfl) rfl (by kernel_rfl) ⟨bl_ BK287 0, bl_ BK289 0, bl_ BK289 1, bl_ BK289 2⟩ (fun hHeld => ?_); refine with_tabW spec_LoseDisk.tab15 spec_LoseDisk.bits15 (fun HT_ HW_ => ?_)
            generalize wc.drew = w46 at HO_288000 BK284 BK285 BK287 BK289 HB hHeld ⊢
            refine pz_ 0 49 (bm 14 1) ?_; refine pz_ 2 51 (bm 14 5) ?_; refine pz_ 4 53 (bm 14 21) ?_; refine pz_ 6 55 (bm 14 85) ?_; refine pz_ 8 57 (bm 14 341) ?_; refine tz4_ 1 50 (bm 14 343) ?_; refine tz4_ 3 52 (bm 14 351) ?_; refine tz4_ 5 54 (bm 14 383) ?_; refine pz_ 7 56 (bm 14 511) ?_; refine pz_ 9 58 (bm 14 1023) ?_
            refine o1_ 10 (some 59) (bm 14 2047) (fun K hK => ?_)
            refine value_ (w1 := ?_) (v := ?_) (by rfl) rfl ?_ ?_
            rotate_left 2
            ·go_simp
             constructor
             ·rfl
             rfl
            refine hK.out _ _ ⟨(blk_cell (blk_alloc BK287.out _) 0).trans rfl, (blk_cell (blk_alloc BK289.out _) 0).trans rfl, (blk_cell (blk_alloc BK289.out _) 1).trans rfl, (blk_cell (blk_alloc BK289.out _) 2).trans rfl⟩ (fun hHeld => ?_)
            clear hK K
            refine nm_ 59 ?_
            refine o1_ 11 (some 60) (bm 14 4095) (fun K hK => ?_)
            refine Kd.R_append_step k99 (w0 := w) w.heap.size (by rfl) (.tmp 50) (.tmp 59) 42 99 (.agg #[(.string ⟨#[]⟩), (.string ⟨#[]⟩), (.int .i64 0)]) 40 rfl Try.underlying42 info99 rfl (by decide) (by omega) u288000 x288000_1 (⟨((rd_T99 l0_0 x7_1).f0), ((rd_T99 l0_0 x7_1).f1), (((rd_T99 l0_0 x7_1).f1).size : Int)⟩ : S99) [.string ((rd_T99 l0_0 x7_1).f0), .string ((rd_T99 l0_0 x7_1).f1), .int .i64 (((rd_T99 l0_0 x7_1).f1).size : Int)] (fun k_ => k_ ≠ gb289) (fun _ => False) rfl rfl ?aP (fun _ hk => hk.elim) ?aF ?aO ?aB ?aS ?aL ?_
            (case aP => exact k99_mkM _ _ _ (⟨((rd_T99 l0_0 x7_1).f0), ((rd_T99 l0_0 x7_1).f1), (((rd_T99 l0_0 x7_1).f1).size : Int)⟩ : S99))
            (case aB => exact qB_)
            (case aF => exact (fun k_ hk => Kd.freshB (qk_ BK289) k_ hk))
            (case aO => exact (qR_ HO_288000))
            (case aS => exact (below_size qB_))
            (case aL => have := LMc41.out; omega)
            intro v295 w47 ho hb hg hat
            rw [← Ny294.out] at ho
            have HO296 := am_ (ho); replace BK284 := am_ (blk_grown (qk_ BK284) hg (Kd.R_ne HO_288000.out BK284.out (by decide))); replace BK285 := am_ (blk_grown (qk_ BK285) hg (Kd.R_ne HO_288000.out BK285.out (by decide))); replace BK287 := am_ (blk_grown (qk_ BK287) hg (Kd.R_ne HO_288000.out BK287.out (by decide))); replace BK289 := am_ (blk_grown (qk_ BK289) hg (Kd.R_away HO_288000.out (fun _ hk => hk))); replace HB := am_ (hb); clear HO_288000; clear ho hb hg hat
            obtain ⟨Ao48, co48, eo48⟩ := Kd.R_slice HO296.out
            (first | subst eo48 | (injection eo48 with f1_ f2_ f3_; have f4_ := f1_.symm; have f5_ := f3_.symm; clear f1_ f2_ f3_; subst f4_; subst f5_))
            refine hK.out _ _ ⟨bl_ BK287 0, bl_ BK289 0, bl_ BK289 1, bl_ BK289 2⟩ (fun hHeld => ?_)
            clear hK K
            refine nm_ 60 ?_
            refine pz_ 12 61 (bm 14 8191) ?_
            refine last_ (i := 13) (N := none) (bm 14 16383) rfl rfl (one_of HT_.out (by kernel_rfl)) (by decide) (fun K hK => ?_)
            have hs49 : w47.cell? ⟨gb287, 0, none⟩ = some (u288000) := bl_ BK287 0
            have hfs49 := blk_frozen BK287.out 0
            have hns49_0 := NB284_287.out; have hns49_1 := NB285_287.out; have hns49_3 := NB289_287.out; have hms49_0 := NB287_284.out; have hms49_1 := NB287_285.out; have hms49_3 := NB287_289.out
            refine skip_ (w1 := ?_) (by rfl) rfl ?_ ?_
            rotate_left
            ·go_simp
             rfl
            refine hK.out _ _ ?_
            clear hK K
            refine done_ (done_of HT_.out (by kernel_rfl)) ?_
            try go_wp2
            go_roundg kj15
            case measure => have := HK1.out; have := HJ15.out; omega
            case rel => exact ⟨(wrap64 (x7_1 + 1)), (y294), (.slice Ao48 y294.length co48), qe_, H', ⟨by have := HK1.out; have := HJ15.out; omega⟩, ⟨by (with_reducible repeat (first | apply Kd.R_alloc | apply Kd.R_drewN | apply Kd.R_drew)); exact Kd.R_mono (Kd.R_far (p := ⟨gb287, 0, none⟩) (Kd.R_types HO296.out BK287.out (by decide)) (fun _ hk => hk.2) (.slice Ao48 y294.length co48)) (fun _ hk => trivial)⟩, ⟨qf_ BK284⟩, ⟨qf_ BK285⟩, ⟨by (with_reducible repeat (first | refine blk_drewN ?_ _ | refine blk_drew ?_ | refine blk_alloc ?_ _)); refine blk_put (cs := #[u288000]) ?_ 0 _ rfl; exact qf_ BK287⟩, ⟨qB_⟩⟩
           rw [if_neg c41] at H
           exact absurd H (by simp)
          rw [if_neg c40] at H
          exact absurd H (by simp)
         rw [if_neg c39] at H
         exact absurd H (by simp)
        rw [if_neg c26] at H
        have c26b0 : decide ((((rd_T99 l0_0 x7_1).f1).size : Int) < x9_15) = false := decide_eq_false c26
        clear c26
        by_cases c50 : x9_15 < ((rd_T99 l0_0 x7_1).f2)
        ·rw [if_pos c50] at H
         have c50b0 : decide (x9_15 < ((rd_T99 l0_0 x7_1).f2)) = true := decide_eq_true c50
         clear c50
         by_cases c51 : 0 ≤ ((rd_T99 l0_0 x7_1).f2)
         ·rw [if_pos c51] at H
          have c51b0 := eq_true c51
          have c51b1 : decide (0 ≤ ((rd_T99 l0_0 x7_1).f2)) = true := decide_eq_true c51
          clear c51
          by_cases c52 : ((rd_T99 l0_0 x7_1).f2) ≤ (((rd_T99 l0_0 x7_1).f1).size : Int)
          ·rw [if_pos c52] at H
           have c52b0 := eq_true c52
           have c52b1 : decide (((rd_T99 l0_0 x7_1).f2) ≤ (((rd_T99 l0_0 x7_1).f1).size : Int)) = true := decide_eq_true c52
           clear c52
           by_cases c53 : x288000_1.length < 3518437208883
           ·rw [if_pos c53] at H
            have LMc53 := am_ c53
            clear c53
            obtain ⟨y297, hy297⟩ : ∃ y_ : List (S99), y_ = (x288000_1 ++ [(⟨((rd_T99 l0_0 x7_1).f0), ((rd_T99 l0_0 x7_1).f1).extract 0 (((rd_T99 l0_0 x7_1).f2) : Int).toNat, ((rd_T99 l0_0 x7_1).f2)⟩ : S99)]) := ⟨_, rfl⟩
            replace H : (spec_LoseDisk.l0 kj15 l1 (wrap64 (x7_1 + 1)) l0_0 y297) = some (r1, r2) := by first | (rw [hy297]; with_reducible exact H) | (have H2_ := (Option.bind_some _ _).symm.trans H; rw [hy297]; with_reducible exact H2_) | (have H2_ := (Option.bind_some _ _).symm.trans H; with_reducible exact H2_) | with_reducible exact H | (rw [hy297]; exact H) | exact H
            have Ny297 := am_ hy297
            clear hy297; have H' := am_ H; clear H; obtain ⟨hnb54, hnc54⟩ := nn_ NB289_284; obtain ⟨hnb55, hnc55⟩ := nn_ NB289_285; obtain ⟨hnb56, hnc56⟩ := nn_ NB289_287
            obtain ⟨hcz57_0, hcz57_1, hcz57_2, hfz57_0, hfz57_1, hfz57_2⟩ := bc3_ BK289
            try go_wp2
            replace HO_288000 := am_ (Kd.R_drew HO_288000.out); replace BK284 := am_ (blk_drew BK284.out); replace BK285 := am_ (blk_drew BK285.out); replace BK287 := am_ (blk_drew BK287.out); replace BK289 := am_ (blk_drew BK289.out); replace HB := am_ (below_drew1 HB.out)
            refine start_ (n := 14) (S := fun w' => w'.cell? ⟨gb287, 0, none⟩ = some (u288000) ∧ w'.cell? ⟨gb289, 0, none⟩ = some (.string ((rd_T99 l0_0 x7_1).f0)) ∧ w'.cell? ⟨gb289, 1, none⟩ = some (.string ((rd_T99 l0_0 x7_1).f1)) ∧ w'.cell? ⟨gb289, 2, none⟩ = some (.int .i64 ((rd_T99 l0_0 x7_1).f2))) (ds := [13]) (bm 14 0) (by kernel_rfl) rfl (by kernel_rfl) ⟨bl_ BK287 0, bl_ BK289 0, bl_ BK289 1, bl_ BK289 2⟩ (fun hHeld => ?_); refine with_tabW spec_LoseDisk.tab15 spec_LoseDisk.bits15 (fun HT_ HW_ => ?_)
            generalize wc.drew = w58 at HO_288000 BK284 BK285 BK287 BK289 HB hHeld ⊢
            refine pz_ 0 49 (bm 14 1) ?_; refine pz_ 2 51 (bm 14 5) ?_; refine pz_ 4 53 (bm 14 21) ?_; refine pz_ 6 55 (bm 14 85) ?_; refine pz_ 8 57 (bm 14 341) ?_; refine tz4_ 1 50 (bm 14 343) ?_; refine tz4_ 3 52 (bm 14 351) ?_; refine tz4_ 5 54 (bm 14 383) ?_; refine pz_ 7 56 (bm 14 511) ?_; refine pz_ 9 58 (bm 14 1023) ?_
            refine o1_ 10 (some 59) (bm 14 2047) (fun K hK => ?_)
            refine value_ (w1 := ?_) (v := ?_) (by rfl) rfl ?_ ?_
            rotate_left 2
            ·go_simp
             constructor
             ·rfl
             rfl
            refine hK.out _ _ ⟨(blk_cell (blk_alloc BK287.out _) 0).trans rfl, (blk_cell (blk_alloc BK289.out _) 0).trans rfl, (blk_cell (blk_alloc BK289.out _) 1).trans rfl, (blk_cell (blk_alloc BK289.out _) 2).trans rfl⟩ (fun hHeld => ?_)
            clear hK K
            refine nm_ 59 ?_
            refine o1_ 11 (some 60) (bm 14 4095) (fun K hK => ?_)
            refine Kd.R_append_step k99 (w0 := w) w.heap.size (by rfl) (.tmp 50) (.tmp 59) 42 99 (.agg #[(.string ⟨#[]⟩), (.string ⟨#[]⟩), (.int .i64 0)]) 40 rfl Try.underlying42 info99 rfl (by decide) (by omega) u288000 x288000_1 (⟨((rd_T99 l0_0 x7_1).f0), ((rd_T99 l0_0 x7_1).f1).extract 0 (((rd_T99 l0_0 x7_1).f2) : Int).toNat, ((rd_T99 l0_0 x7_1).f2)⟩ : S99) [.string ((rd_T99 l0_0 x7_1).f0), .string (((rd_T99 l0_0 x7_1).f1).extract 0 (((rd_T99 l0_0 x7_1).f2) : Int).toNat), .int .i64 ((rd_T99 l0_0 x7_1).f2)] (fun k_ => k_ ≠ gb289) (fun _ => False) rfl rfl ?aP (fun _ hk => hk.elim) ?aF ?aO ?aB ?aS ?aL ?_
            (case aP => exact k99_mkM _ _ _ (⟨((rd_T99 l0_0 x7_1).f0), ((rd_T99 l0_0 x7_1).f1).extract 0 (((rd_T99 l0_0 x7_1).f2) : Int).toNat, ((rd_T99 l0_0 x7_1).f2)⟩ : S99))
            (case aB => exact qB_)
            (case aF => exact (fun k_ hk => Kd.freshB (qk_ BK289) k_ hk))
            (case aO => exact (qR_ HO_288000))
            (case aS => exact (below_size qB_))
            (case aL => have := LMc53.out; omega)
            intro v298 w59 ho hb hg hat
            rw [← Ny297.out] at ho
            have HO299 := am_ (ho); replace BK284 := am_ (blk_grown (qk_ BK284) hg (Kd.R_ne HO_288000.out BK284.out (by decide))); replace BK285 := am_ (blk_grown (qk_ BK285) hg (Kd.R_ne HO_288000.out BK285.out (by decide))); replace BK287 := am_ (blk_grown (qk_ BK287) hg (Kd.R_ne HO_288000.out BK287.out (by decide))); replace BK289 := am_ (blk_grown (qk_ BK289) hg (Kd.R_away HO_288000.out (fun _ hk => hk))); replace HB := am_ (hb); clear HO_288000; clear ho hb hg hat
            obtain ⟨Ao60, co60, eo60⟩ := Kd.R_slice HO299.out
            (first | subst eo60 | (injection eo60 with f1_ f2_ f3_; have f4_ := f1_.symm; have f5_ := f3_.symm; clear f1_ f2_ f3_; subst f4_; subst f5_))
            refine hK.out _ _ ⟨bl_ BK287 0, bl_ BK289 0, bl_ BK289 1, bl_ BK289 2⟩ (fun hHeld => ?_)
            clear hK K
            refine nm_ 60 ?_
            refine pz_ 12 61 (bm 14 8191) ?_
            refine last_ (i := 13) (N := none) (bm 14 16383) rfl rfl (one_of HT_.out (by kernel_rfl)) (by decide) (fun K hK => ?_)
            have hs61 : w59.cell? ⟨gb287, 0, none⟩ = some (u288000) := bl_ BK287 0
            have hfs61 := blk_frozen BK287.out 0
            have hns61_0 := NB284_287.out; have hns61_1 := NB285_287.out; have hns61_3 := NB289_287.out; have hms61_0 := NB287_284.out; have hms61_1 := NB287_285.out; have hms61_3 := NB287_289.out
            refine skip_ (w1 := ?_) (by rfl) rfl ?_ ?_
            rotate_left
            ·go_simp
             rfl
            refine hK.out _ _ ?_
            clear hK K
            refine done_ (done_of HT_.out (by kernel_rfl)) ?_
            try go_wp2
            go_roundg kj15
            case measure => have := HK1.out; have := HJ15.out; omega
            case rel => exact ⟨(wrap64 (x7_1 + 1)), (y297), (.slice Ao60 y297.length co60), qe_, H', ⟨by have := HK1.out; have := HJ15.out; omega⟩, ⟨by (with_reducible repeat (first | apply Kd.R_alloc | apply Kd.R_drewN | apply Kd.R_drew)); exact Kd.R_mono (Kd.R_far (p := ⟨gb287, 0, none⟩) (Kd.R_types HO299.out BK287.out (by decide)) (fun _ hk => hk.2) (.slice Ao60 y297.length co60)) (fun _ hk => trivial)⟩, ⟨qf_ BK284⟩, ⟨qf_ BK285⟩, ⟨by (with_reducible repeat (first | refine blk_drewN ?_ _ | refine blk_drew ?_ | refine blk_alloc ?_ _)); refine blk_put (cs := #[u288000]) ?_ 0 _ rfl; exact qf_ BK287⟩, ⟨qB_⟩⟩
           rw [if_neg c53] at H
           exact absurd H (by simp)
          rw [if_neg c52] at H
          exact absurd H (by simp)
         rw [if_neg c51] at H
         exact absurd H (by simp)
        rw [if_neg c50] at H
        have c50b0 : decide (x9_15 < ((rd_T99 l0_0 x7_1).f2)) = false := decide_eq_false c50
        clear c50
        by_cases c62 : 0 ≤ x9_15
        ·rw [if_pos c62] at H
         have c62b0 := eq_true c62
         have c62b1 : decide (0 ≤ x9_15) = true := decide_eq_true c62
         clear c62
         by_cases c63 : x9_15 ≤ (((rd_T99 l0_0 x7_1).f1).size : Int)
         ·rw [if_pos c63] at H
          have c63b0 := eq_true c63
          have c63b1 : decide (x9_15 ≤ (((rd_T99 l0_0 x7_1).f1).size : Int)) = true := decide_eq_true c63
          clear c63
          by_cases c64 : x288000_1.length < 3518437208883
          ·rw [if_pos c64] at H
           have LMc64 := am_ c64
           clear c64
           obtain ⟨y300, hy300⟩ : ∃ y_ : List (S99), y_ = (x288000_1 ++ [(⟨((rd_T99 l0_0 x7_1).f0), ((rd_T99 l0_0 x7_1).f1).extract 0 (x9_15 : Int).toNat, x9_15⟩ : S99)]) := ⟨_, rfl⟩
           replace H : (spec_LoseDisk.l0 kj15 l1 (wrap64 (x7_1 + 1)) l0_0 y300) = some (r1, r2) := by first | (rw [hy300]; with_reducible exact H) | (have H2_ := (Option.bind_some _ _).symm.trans H; rw [hy300]; with_reducible exact H2_) | (have H2_ := (Option.bind_some _ _).symm.trans H; with_reducible exact H2_) | with_reducible exact H | (rw [hy300]; exact H) | exact H
           have Ny300 := am_ hy300
           clear hy300; have H' := am_ H; clear H; obtain ⟨hnb65, hnc65⟩ := nn_ NB289_284; obtain ⟨hnb66, hnc66⟩ := nn_ NB289_285; obtain ⟨hnb67, hnc67⟩ := nn_ NB289_287
           obtain ⟨hcz68_0, hcz68_1, hcz68_2, hfz68_0, hfz68_1, hfz68_2⟩ := bc3_ BK289
           try go_wp2
           replace HO_288000 := am_ (Kd.R_drew HO_288000.out); replace BK284 := am_ (blk_drew BK284.out); replace BK285 := am_ (blk_drew BK285.out); replace BK287 := am_ (blk_drew BK287.out); replace BK289 := am_ (blk_drew BK289.out); replace HB := am_ (below_drew1 HB.out)
           refine start_ (n := 14) (S := fun w' => w'.cell? ⟨gb287, 0, none⟩ = some (u288000) ∧ w'.cell? ⟨gb289, 0, none⟩ = some (.string ((rd_T99 l0_0 x7_1).f0)) ∧ w'.cell? ⟨gb289, 1, none⟩ = some (.string ((rd_T99 l0_0 x7_1).f1)) ∧ w'.cell? ⟨gb289, 2, none⟩ = some (.int .i64 ((rd_T99 l0_0 x7_1).f2))) (ds := [13]) (bm 14 0) (by kernel_rfl) rfl (by kernel_rfl) ⟨bl_ BK287 0, bl_ BK289 0, bl_ BK289 1, bl_ BK289 2⟩ (fun hHeld => ?_); refine with_tabW spec_LoseDisk.tab15 spec_LoseDisk.bits15 (fun HT_ HW_ => ?_)
           generalize wc.drew = w69 at HO_288000 BK284 BK285 BK287 BK289 HB hHeld ⊢
           refine pz_ 0 49 (bm 14 1) ?_; refine pz_ 2 51 (bm 14 5) ?_; refine pz_ 4 53 (bm 14 21) ?_; refine pz_ 6 55 (bm 14 85) ?_; refine pz_ 8 57 (bm 14 341) ?_; refine tz4_ 1 50 (bm 14 343) ?_; refine tz4_ 3 52 (bm 14 351) ?_; refine tz4_ 5 54 (bm 14 383) ?_; refine pz_ 7 56 (bm 14 511) ?_; refine pz_ 9 58 (bm 14 1023) ?_
           refine o1_ 10 (some 59) (bm 14 2047) (fun K hK => ?_)
           refine value_ (w1 := ?_) (v := ?_) (by rfl) rfl ?_ ?_
           rotate_left 2
           ·go_simp
            constructor
            ·rfl
            rfl
           refine hK.out _ _ ⟨(blk_cell (blk_alloc BK287.out _) 0).trans rfl, (blk_cell (blk_alloc BK289.out _) 0).trans rfl, (blk_cell (blk_alloc BK289.out _) 1).trans rfl, (blk_cell (blk_alloc BK289.out _) 2).trans rfl⟩ (fun hHeld => ?_)
           clear hK K
           refine nm_ 59 ?_
           refine o1_ 11 (some 60) (bm 14 4095) (fun K hK => ?_)
           refine Kd.R_append_step k99 (w0 := w) w.heap.size (by rfl) (.tmp 50) (.tmp 59) 42 99 (.agg #[(.string ⟨#[]⟩), (.string ⟨#[]⟩), (.int .i64 0)]) 40 rfl Try.underlying42 info99 rfl (by decide) (by omega) u288000 x288000_1 (⟨((rd_T99 l0_0 x7_1).f0), ((rd_T99 l0_0 x7_1).f1).extract 0 (x9_15 : Int).toNat, x9_15⟩ : S99) [.string ((rd_T99 l0_0 x7_1).f0), .string (((rd_T99 l0_0 x7_1).f1).extract 0 (x9_15 : Int).toNat), .int .i64 x9_15] (fun k_ => k_ ≠ gb289) (fun _ => False) rfl rfl ?aP (fun _ hk => hk.elim) ?aF ?aO ?aB ?aS ?aL ?_
           (case aP => exact k99_mkM _ _ _ (⟨((rd_T99 l0_0 x7_1).f0), ((rd_T99 l0_0 x7_1).f1).extract 0 (x9_15 : Int).toNat, x9_15⟩ : S99))
           (case aB => exact qB_)
           (case aF => exact (fun k_ hk => Kd.freshB (qk_ BK289) k_ hk))
           (case aO => exact (qR_ HO_288000))
           (case aS => exact (below_size qB_))
           (case aL => have := LMc64.out; omega)
           intro v301 w70 ho hb hg hat
           rw [← Ny300.out] at ho
           have HO302 := am_ (ho); replace BK284 := am_ (blk_grown (qk_ BK284) hg (Kd.R_ne HO_288000.out BK284.out (by decide))); replace BK285 := am_ (blk_grown (qk_ BK285) hg (Kd.R_ne HO_288000.out BK285.out (by decide))); replace BK287 := am_ (blk_grown (qk_ BK287) hg (Kd.R_ne HO_288000.out BK287.out (by decide))); replace BK289 := am_ (blk_grown (qk_ BK289) hg (Kd.R_away HO_288000.out (fun _ hk => hk))); replace HB := am_ (hb); clear HO_288000; clear ho hb hg hat
           obtain ⟨Ao71, co71, eo71⟩ := Kd.R_slice HO302.out
           (first | subst eo71 | (injection eo71 with f1_ f2_ f3_; have f4_ := f1_.symm; have f5_ := f3_.symm; clear f1_ f2_ f3_; subst f4_; subst f5_))
           refine hK.out _ _ ⟨bl_ BK287 0, bl_ BK289 0, bl_ BK289 1, bl_ BK289 2⟩ (fun hHeld => ?_)
           clear hK K
           refine nm_ 60 ?_
           refine pz_ 12 61 (bm 14 8191) ?_
           refine last_ (i := 13) (N := none) (bm 14 16383) rfl rfl (one_of HT_.out (by kernel_rfl)) (by decide) (fun K hK => ?_)
           have hs72 : w70.cell? ⟨gb287, 0, none⟩ = some (u288000) := bl_ BK287 0
           have hfs72 := blk_frozen BK287.out 0
           have hns72_0 := NB284_287.out; have hns72_1 := NB285_287.out; have hns72_3 := NB289_287.out; have hms72_0 := NB287_284.out; have hms72_1 := NB287_285.out; have hms72_3 := NB287_289.out
           refine skip_ (w1 := ?_) (by rfl) rfl ?_ ?_
           rotate_left
           ·go_simp
            rfl
           refine hK.out _ _ ?_
           clear hK K
           refine done_ (done_of HT_.out (by kernel_rfl)) ?_
           try go_wp2
           go_roundg kj15
           case measure => have := HK1.out; have := HJ15.out; omega
           case rel => exact ⟨(wrap64 (x7_1 + 1)), (y300), (.slice Ao71 y300.length co71), qe_, H', ⟨by have := HK1.out; have := HJ15.out; omega⟩, ⟨by (with_reducible repeat (first | apply Kd.R_alloc | apply Kd.R_drewN | apply Kd.R_drew)); exact Kd.R_mono (Kd.R_far (p := ⟨gb287, 0, none⟩) (Kd.R_types HO302.out BK287.out (by decide)) (fun _ hk => hk.2) (.slice Ao71 y300.length co71)) (fun _ hk => trivial)⟩, ⟨qf_ BK284⟩, ⟨qf_ BK285⟩, ⟨by (with_reducible repeat (first | refine blk_drewN ?_ _ | refine blk_drew ?_ | refine blk_alloc ?_ _)); refine blk_put (cs := #[u288000]) ?_ 0 _ rfl; exact qf_ BK287⟩, ⟨qB_⟩⟩
          rw [if_neg c64] at H
          exact absurd H (by simp)
         rw [if_neg c63] at H
         exact absurd H (by simp)
        rw [if_neg c62] at H
        exact absurd H (by simp)
     rw [if_neg c15] at H
     exact absurd H (by simp)
    rw [if_neg c14] at H
    have c14b0 : decide (x7_1 < (l0_0.length : Int)) = false := decide_eq_false c14
    clear c14
    simp only [Option.some.injEq, Prod.mk.injEq] at H
    obtain ⟨rfl, rfl⟩ := H
    obtain ⟨hnb73, hnc73⟩ := nn_ NB284_285; obtain ⟨hnb74, hnc74⟩ := nn_ NB284_287
    obtain ⟨hcz75_0, hfz75_0⟩ := bc1_ BK284
    obtain ⟨hnb76, hnc76⟩ := nn_ NB287_285
    obtain ⟨hcz77_0, hfz77_0⟩ := bc1_ BK287
    obtain ⟨Ao78, co78, eo78⟩ := Kd.R_slice HO_288000.out
    subst eo78
    obtain ⟨hcz79_0, hfz79_0⟩ := bc1_ BK285
    go_wp2
    refine bodyPost_ret (results_ct rfl _ _ gb285 44 #[.slice Ao78 x288000_1.length co78] (0, 0) _ rfl (by (with_reducible repeat (first | refine blk_drewN ?_ _ | refine blk_drew ?_ | refine blk_alloc ?_ _)); refine blk_put (cs := #[.slice none 0 0]) ?_ 0 _ rfl; exact qf_ BK285) Try.underlying44 rfl (by kernel_rfl)) rfl ?_
    exact ⟨_, qr_, by (with_reducible repeat (first | apply Kd.R_alloc | apply Kd.R_drewN | apply Kd.R_drew)); exact Kd.R_mono (Kd.R_far (p := ⟨gb285, 0, none⟩) (Kd.R_types HO_288000.out BK285.out (by decide)) (fun _ hk => hk.2) (.slice Ao78 x288000_1.length co78)) (fun _ hk => trivial), qB_⟩
 replace c4 := Bool.eq_false_iff.mpr c4
 subst c4
 rw [if_neg (show ¬ (false = true) by decide)] at H
 simp only [Option.some.injEq, Prod.mk.injEq] at H
 obtain ⟨rfl, rfl⟩ := H
 go_enter Try.func24, Try.ntmps24
 go_wp2_with (first | ((with_reducible refine gate_dst (N := 2) rfl ?_); refine bx_ 2 (cs := #[.slice A0_0 l0_0.length c0_0]) (t := 44) ?_; intro gb284 hg w80 hbox hb; have BK284 := am_ (hbox); have GW284 := am_ ((qs_ : w.heap.size ≤ gb284)); have GE284 := GW284; replace HB := hs_ hb; clear hb hbox hg) | ((with_reducible refine gate_dst (N := 4) rfl ?_); refine bx_ 4 (cs := #[.slice none 0 0]) (t := 44) ?_; intro gb285 hg w81 hbox hb; have BK285 := am_ (hbox); have GW285 := am_ ((qs_ : w.heap.size ≤ gb285)); have GE285 := GW285; obtain ⟨NB284_285, NB285_284⟩ := qn_ BK284 hg; replace BK284 := qbl_ BK284 hb; replace HB := hs_ hb; clear hb hbox hg; obtain ⟨hnb82, hnc82⟩ := nn_ NB284_285; obtain ⟨hcz83_0, hfz83_0⟩ := bc1_ BK284) | ((with_reducible refine gate_callee (f := 75) rfl ?_); refine gl_ (some 11) Try.func75 #[.agg #[.slice A0_0 l0_0.length c0_0]] ?_; (with_reducible refine (spec_DiskOk.calls k _ _ l0_0 false _ ?side1 ?side2 A3.out).mono ?_); (case side1 => exact qC_ HR0_0 HB); (case side2 => exact HC0_0.out); rintro e w84 ⟨rfl, hb⟩; refine ⟨_, rfl, ?_⟩; replace BK284 := qbl_ BK284 hb; replace BK285 := qbl_ BK285 hb; replace HB := hs_ hb; (try clear hb); (try clear hb2); (try clear hk); (try clear hi); obtain ⟨hcz85_0, hfz85_0⟩ := bc1_ BK285))
 refine bodyPost_ret (results_ct rfl _ _ gb285 44 #[.slice none 0 0] (0, 0) _ rfl (by (with_reducible repeat (first | refine blk_drewN ?_ _ | refine blk_drew ?_ | refine blk_alloc ?_ _)); refine blk_put (cs := #[.slice none 0 0]) ?_ 0 _ rfl; exact qf_ BK285) Try.underlying44 rfl (by kernel_rfl)) rfl ?_
 exact ⟨_, qr_, by first | exact Kd.R_nil _ _ _ _ _ | exact Kd.N_nil _ _ _ _ _ | exact Kd.V_nil _ _ _ _ _ | exact Kd.Q_nil _ _ _ _ _ | exact Kd.S_nil _ _ _ _ _, qB_⟩

end Go.Proofs.Ytacnlodcbbhahaa.QFnExactCutActs
