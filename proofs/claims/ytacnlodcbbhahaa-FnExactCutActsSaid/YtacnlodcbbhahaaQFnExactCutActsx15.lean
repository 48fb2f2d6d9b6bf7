-- printed for this claim by a program of the session's own (no text of the kit's print)
import Derived.Test.YtacnlodcbbhahaaQFnExactCutActsx0
import Derived.Test.YtacnlodcbbhahaaQFnExactCutActsx14
namespace Go.Proofs.Ytacnlodcbbhahaa.QFnExactCutActs
open Go.RowKit Go.Proofs.YtacnlodcbbhahaaW.PrintWords Go.Proofs.YtacnlodcbbhahaaW.PrintLast Go.Proofs.YtacnlodcbbhahaaW.PrintMore
attribute [local go_sem] max2_int min2_int max_two min_two max_three min_three max_four min_four   -- for this text's walks alone
set_option linter.unusedVariables false
set_option linter.unusedSimpArgs false

/-! ### spec_DiskOk: function 75 -/
def spec_DiskOk.l0 : Nat → Int → List (S99) → Option (Bool)
  | 0, _, _ => none
  | k + 1, x3, x279000 => if x3 < (x279000.length : Int) then (if 0 ≤ x3 then ((spec_l03Name.f ((rd_T99 x279000 x3).f0)).bind fun t281 => (if t281 = true then (if (((rd_T99 x279000 x3).f1).size : Int) > 20000 then (some false) else ((spec_l01In.f ((rd_T99 x279000 x3).f2) 0 (((rd_T99 x279000 x3).f1).size : Int)).bind fun t282 => (if t282 = true then (if x3 > 0 then (if 0 ≤ (wrap64 (x3 - 1)) then (if (wrap64 (x3 - 1)) < (x279000.length : Int) then (if ((Op.bytesLess (((rd_T99 x279000 (wrap64 (x3 - 1))).f0).toList) (((rd_T99 x279000 x3).f0).toList)) = true) then (spec_DiskOk.l0 k (wrap64 (x3 + 1)) x279000) else (some false)) else (none)) else (none)) else (spec_DiskOk.l0 k (wrap64 (x3 + 1)) x279000)) else (some false)))) else (some false))) else (none)) else (some true)
def spec_DiskOk.f (k : Nat) (l0_0 : List (S99)) : Option (Bool) := if (l0_0.length : Int) > 30 then (some false) else (spec_DiskOk.l0 k 0 l0_0)
theorem spec_DiskOk.mono_l : ∀ k, (∀ y0 y1, LeO (spec_DiskOk.l0 k y0 y1) (spec_DiskOk.l0 (k + 1) y0 y1))
  | 0 => fun _ _ r h => by simp [spec_DiskOk.l0] at h
  | k + 1 => by
    have ih0 := spec_DiskOk.mono_l k
    · intro y0 y1
      unfold spec_DiskOk.l0
      repeat' first | (with_reducible first | exact ih0 _ _ | exact LeO.refl _ | exact LeO.none _ | refine LeO.ite ?_ ?_ | refine LeO.bind ?_ (fun _ => ?_)) | exact LeO.none _ | refine LeO.ite ?_ ?_ | refine LeO.bind ?_ (fun _ => ?_)
theorem spec_DiskOk.mono : ∀ a0 k, LeO (spec_DiskOk.f k a0) (spec_DiskOk.f (k + 1) a0) := by
  intro a0 k
  have ih0 := spec_DiskOk.mono_l k
  unfold spec_DiskOk.f
  repeat' first | (with_reducible first | exact ih0 _ _ | exact LeO.refl _ | exact LeO.none _ | refine LeO.ite ?_ ?_ | refine LeO.bind ?_ (fun _ => ?_)) | exact LeO.none _ | refine LeO.ite ?_ ?_ | refine LeO.bind ?_ (fun _ => ?_)
def spec_DiskOk.T7 : Bool × List (List Nat × List Nat) := (true, [([], []), ([0], [0]), ([1], [1]), ([2], [2]), ([3, 2], [3]), ([4], [4]), ([5, 4], [4, 5]), ([6, 4], [4, 6]), ([7, 4], [4, 7]), ([4, 8], [4, 8]), ([9, 4], [9]), ([10], [10]), ([11, 10], [10, 11]), ([10], [10]), ([13, 10], [10, 13]), ([14, 10], [10, 14]), ([12, 15, 10, 10], [10, 12, 15]), ([16, 10], [10, 16]), ([10, 17], [10, 17]), ([18, 16], [18]), ([19], [19]), ([20, 19], [19, 20]), ([21, 19, 19], [19, 21]), ([22], [22]), ([23, 22], [22, 23]), ([22], [22]), ([25, 22], [22, 25]), ([24, 26, 22], [22, 24, 26]), ([27, 22], [22, 27]), ([28, 22], [22, 28]), ([22], [22]), ([30, 22], [22, 30]), ([29, 31, 22], [22, 29, 31]), ([22, 32, 19], [19, 22, 32]), ([19, 33], [19, 33])])
def spec_DiskOk.B7 : List Nat := [0, 1, 3, 7, 15, 31, 63, 127, 255, 511, 1023, 2047, 4095, 2047, 10239, 26623, 65535, 131071, 262143, 524287, 1048575, 2097151, 4194303, 8388607, 16777215, 8388607, 41943039, 134217727, 268435455, 536870911, 8388607, 1082130431, 4294967295, 8589934591, 17179869183]
theorem spec_DiskOk.tab7 : rtab .any (opsOf Try.f75 7) = spec_DiskOk.T7 := by kernel_rfl
theorem spec_DiskOk.bits7 : waitsOk spec_DiskOk.T7.2 spec_DiskOk.B7 = true := by kernel_rfl
set_option maxHeartbeats 8000000 in
set_option maxRecDepth 100000 in
theorem spec_DiskOk.calls (k : Nat) (A0_0 : Option Addr) (c0_0 : Nat) (l0_0 : List (S99)) (r : Bool) (w : World) (hr0_0 : Kd.C k99 w A0_0 l0_0.length l0_0) (hc0_0 : l0_0.length ≤ c0_0) (h : spec_DiskOk.f k l0_0 = some r) :
  Calls Try.prog 75 #[.agg #[.slice A0_0 l0_0.length c0_0]] w fun e w' => e = .returned (.bool r) ∧ Below w.heap.size w w' := by
 have hu44 := Try.underlying44; have hu99 := Try.underlying99
 have HR0_0 := am_ hr0_0
 have HC0_0 := am_ hc0_0
 clear hr0_0 hc0_0
 have HB := am_ (Below.refl w.heap.size w)
 have H : (if (l0_0.length : Int) > 30 then (some false) else (spec_DiskOk.l0 k 0 l0_0)) = some r := h
 clear h
 by_cases c2 : (l0_0.length : Int) > 30
 ·rw [if_pos c2] at H
  have c2b0 : decide (30 < (l0_0.length : Int)) = true := decide_eq_true c2
  have c2b1 : decide (30 < l0_0.length) = true := decide_eq_true (by omega)
  clear c2
  obtain rfl := Option.some.inj H
  go_enter Try.func75, Try.ntmps75
  go_wp2_with (first | ((with_reducible refine gate_dst (N := 1) rfl ?_); (try (refine gate_guard (by rfl) ?_; dsimp only)); refine bx_ 1 (cs := #[.slice A0_0 l0_0.length c0_0]) (t := 44) ?_; intro gb278 hg w3 hbox hb; have BK278 := am_ (hbox); have GW278 := am_ ((qs_ : w.heap.size ≤ gb278)); have GE278 := GW278; replace HB := hs_ hb; clear hb hbox hg; obtain ⟨hcz4_0, hfz4_0⟩ := bc1_ BK278))
  go_ret
  exact ⟨qr_, qB_⟩
 rw [if_neg c2] at H
 have c2b0 : decide (30 < (l0_0.length : Int)) = false := decide_eq_false c2
 have c2b1 : decide (30 < l0_0.length) = false := decide_eq_false (by omega)
 clear c2; have H' := am_ H; clear H
 go_enter Try.func75, Try.ntmps75
 go_wp2_with (first | ((with_reducible refine gate_dst (N := 1) rfl ?_); (try (refine gate_guard (by rfl) ?_; dsimp only)); refine bx_ 1 (cs := #[.slice A0_0 l0_0.length c0_0]) (t := 44) ?_; intro gb278 hg w5 hbox hb; have BK278 := am_ (hbox); have GW278 := am_ ((qs_ : w.heap.size ≤ gb278)); have GE278 := GW278; replace HB := hs_ hb; clear hb hbox hg; obtain ⟨hcz6_0, hfz6_0⟩ := bc1_ BK278))
 go_loopg [3] k (fun kq v3 w' => ∃ (x3_1 : Int), v3 = .int .i64 x3_1 ∧ Aside0 (spec_DiskOk.l0 kq x3_1 l0_0 = some r) ∧ Aside0 (kq ≤ k) ∧ Aside0 (w'.heap[gb278]? = some (.cells #[(.slice A0_0 l0_0.length c0_0)] 44 (0, 0))) ∧ Aside0 (Below w.heap.size w w'))
 case atStart => exact ⟨(0), qe_, H', ⟨Nat.le_refl _⟩, ⟨qk_ BK278⟩, ⟨qB_⟩⟩
 case round =>
  clear H'
  (try clear c2); (try clear c2b0); (try clear c2b1); (try clear p2); (try clear hcz4_0); (try clear hcz6_0); (try clear hfz4_0); (try clear hfz6_0)
  obtain ⟨x3_1, rfl, HA, HK1, BK278, HB⟩ := hrel
  cases gk with
  | zero => exact absurd HA.out (by simp [spec_DiskOk.l0])
  | succ k1 =>
   have H := HA.out; clear HA
   simp only [spec_DiskOk.l0] at H
   by_cases c7 : x3_1 < (l0_0.length : Int)
   ·rw [if_pos c7] at H
    have c7b0 : decide (x3_1 < (l0_0.length : Int)) = true := decide_eq_true c7
    clear c7
    by_cases c8 : 0 ≤ x3_1
    ·rw [if_pos c8] at H
     have c8b0 : decide (0 ≤ x3_1) = true := decide_eq_true c8
     clear c8
     obtain ⟨t281, A90, H⟩ := Option.bind_eq_some_iff.mp H; have A9 := am_ A90; clear A90
     by_cases c10 : t281 = true
     ·subst c10
      rw [if_pos rfl] at H
      by_cases c11 : (((rd_T99 l0_0 x3_1).f1).size : Int) > 20000
      ·rw [if_pos c11] at H
       have c11b0 : decide (20000 < (((rd_T99 l0_0 x3_1).f1).size : Int)) = true := decide_eq_true c11
       have c11b1 : decide (20000 < ((rd_T99 l0_0 x3_1).f1).size) = true := decide_eq_true (by omega)
       clear c11
       obtain rfl := Option.some.inj H
       obtain ⟨hcz12_0, hfz12_0⟩ := bc1_ BK278
       have p279 : 0 ≤ (x3_1 : Int) := of_decide_eq_true qa_
       have q279 : x3_1 < (l0_0.length : Int) := of_decide_eq_true qa_
       obtain ⟨ad279, e279, hx279_0, hx279_1, hx279_2⟩ := at_T99 HR0_0.out x3_1 p279 q279
       cases e279
       replace hx279_0 := qx_ HB hx279_0
       replace hx279_1 := qx_ HB hx279_1
       replace hx279_2 := qx_ HB hx279_2
       replace p279 := eq_true p279; replace q279 := eq_true q279
       try go_wp2_with (first | ((with_reducible refine gate_dst (N := 4) rfl ?_); (try (refine gate_guard (by rfl) ?_; dsimp only)); refine bx_ 4 (cs := #[.string (⟨#[]⟩ : ByteArray), .string (⟨#[]⟩ : ByteArray), .int .i64 0]) (t := 99) ?_; intro gb280 hg w13 hbox hb; have BK280 := am_ (hbox); have GW280 := am_ ((qs_ : w.heap.size ≤ gb280)); have GE280 := GW280; obtain ⟨NB278_280, NB280_278⟩ := qn_ BK278 hg; replace BK278 := qbl_ BK278 hb; replace HB := hs_ hb; clear hb hbox hg; obtain ⟨hnb14, hnc14⟩ := nn_ NB280_278; obtain ⟨hcz15_0, hcz15_1, hcz15_2, hfz15_0, hfz15_1, hfz15_2⟩ := bc3_ BK280))
       have n0_ : Aside0 ((((w13.setCell ⟨gb280, 0, none⟩ (.string ((rd_T99 l0_0 x3_1).f0))).setCell ⟨gb280, 1, none⟩ (.string ((rd_T99 l0_0 x3_1).f1))).setCell ⟨gb280, 2, none⟩ (.int .i64 ((rd_T99 l0_0 x3_1).f2))).heap[gb278]? = some (.cells #[.slice (some ad279) l0_0.length c0_0] 44 (0, 0))) := ⟨qf_ BK278⟩
       have n1_ : Aside0 ((((w13.setCell ⟨gb280, 0, none⟩ (.string ((rd_T99 l0_0 x3_1).f0))).setCell ⟨gb280, 1, none⟩ (.string ((rd_T99 l0_0 x3_1).f1))).setCell ⟨gb280, 2, none⟩ (.int .i64 ((rd_T99 l0_0 x3_1).f2))).heap[gb280]? = some (.cells #[.string ((rd_T99 l0_0 x3_1).f0), .string ((rd_T99 l0_0 x3_1).f1), .int .i64 ((rd_T99 l0_0 x3_1).f2)] 99 (0, 0))) := ⟨by (with_reducible repeat (first | refine blk_drewN ?_ _ | refine blk_drew ?_ | refine blk_alloc ?_ _)); refine blk_put (cs := #[.string ((rd_T99 l0_0 x3_1).f0), .string ((rd_T99 l0_0 x3_1).f1), .int .i64 0]) ?_ 2 _ rfl; (with_reducible repeat (first | refine blk_drewN ?_ _ | refine blk_drew ?_ | refine blk_alloc ?_ _)); refine blk_put (cs := #[.string ((rd_T99 l0_0 x3_1).f0), .string (⟨#[]⟩ : ByteArray), .int .i64 0]) ?_ 1 _ rfl; (with_reducible repeat (first | refine blk_drewN ?_ _ | refine blk_drew ?_ | refine blk_alloc ?_ _)); refine blk_put (cs := #[.string (⟨#[]⟩ : ByteArray), .string (⟨#[]⟩ : ByteArray), .int .i64 0]) ?_ 0 _ rfl; exact qf_ BK280⟩
       have n2_ : Aside0 (Below w.heap.size w (((w13.setCell ⟨gb280, 0, none⟩ (.string ((rd_T99 l0_0 x3_1).f0))).setCell ⟨gb280, 1, none⟩ (.string ((rd_T99 l0_0 x3_1).f1))).setCell ⟨gb280, 2, none⟩ (.int .i64 ((rd_T99 l0_0 x3_1).f2)))) := ⟨qB_⟩
       (try clear BK278); (try clear BK280); (try clear HB)
       generalize (((w13.setCell ⟨gb280, 0, none⟩ (.string ((rd_T99 l0_0 x3_1).f0))).setCell ⟨gb280, 1, none⟩ (.string ((rd_T99 l0_0 x3_1).f1))).setCell ⟨gb280, 2, none⟩ (.int .i64 ((rd_T99 l0_0 x3_1).f2))) = w16 at n0_ n1_ n2_ ⊢
       have BK278 := n0_; have BK280 := n1_; have HB := n2_; clear n0_ n1_ n2_
       replace BK278 := am_ (blk_drew BK278.out); replace BK280 := am_ (blk_drew BK280.out); replace HB := am_ (below_drew1 HB.out)
       refine start_ (n := 35) (S := fun w' => w'.cell? ⟨gb280, 0, none⟩ = some (.string ((rd_T99 l0_0 x3_1).f0)) ∧ w'.cell? ⟨gb280, 1, none⟩ = some (.string ((rd_T99 l0_0 x3_1).f1)) ∧ w'.cell? ⟨gb280, 2, none⟩ = some (.int .i64 ((rd_T99 l0_0 x3_1).f2))) (ds := []) (bm 35 0) (by kernel_rfl) rfl (by kernel_rfl) ⟨bl_ BK280 0, bl_ BK280 1, bl_ BK280 2⟩ (fun hHeld => ?_); refine with_tabW spec_DiskOk.tab7 spec_DiskOk.bits7 (fun HT_ HW_ => ?_)
       generalize w16.drew = w17 at BK278 BK280 HB hHeld ⊢
       refine pz_ 0 21 (bm 35 1) ?_; refine tz3_ 1 22 (bm 35 3) ?_
       refine o1_ 2 (some 23) (bm 35 7) (fun K hK => ?_)
       refine goes_ Try.func82 (by kernel_rfl) rfl #[.string ((rd_T99 l0_0 x3_1).f0)] (by rfl) rfl rfl (by (try simp only [List.map_toArray, List.map_cons, List.map_nil]); first | done | rfl | (simp only [List.length_drop, List.length_take]; rfl)) ?_
       with_reducible refine (spec_l03Name.calls ((rd_T99 l0_0 x3_1).f0) true _ A9.out).mono ?_
       rintro e w' ⟨rfl, ⟨nd, rfl⟩⟩
       refine ⟨_, rfl, ?_⟩
       refine hK.out _ _ ⟨bl_ BK280 0, bl_ BK280 1, bl_ BK280 2⟩ (fun hHeld => ?_)
       clear hK K
       refine nm_ 23 ?_
       refine pz_ 3 24 (bm 35 15) ?_; refine pz_ 4 25 (bm 35 31) ?_; refine pz_ 5 26 (bm 35 63) ?_; refine tz3_ 6 27 (bm 35 127) ?_; refine pz_ 7 28 (bm 35 255) ?_; refine pz_ 8 29 (bm 35 511) ?_; refine pz_ 9 30 (bm 35 1023) ?_; refine pz_ 10 31 (bm 35 2047) ?_
       refine pu_ 11 32 (bm 35 4095) ?_
       refine pu_ 12 33 (bm 35 8191) ?_
       refine pu_ 13 34 (bm 35 16383) ?_
       refine pu_ 14 35 (bm 35 32767) ?_
       refine pu_ 15 36 (bm 35 65535) ?_
       refine pu_ 16 37 (bm 35 131071) ?_
       refine pu_ 17 38 (bm 35 262143) ?_
       refine pz_ 18 39 (bm 35 524287) ?_; refine pz_ 19 40 (bm 35 1048575) ?_
       refine pu_ 20 41 (bm 35 2097151) ?_
       refine pu_ 21 42 (bm 35 4194303) ?_
       refine pu_ 22 43 (bm 35 8388607) ?_
       refine pu_ 23 44 (bm 35 16777215) ?_
       refine pu_ 24 45 (bm 35 33554431) ?_
       refine pu_ 25 46 (bm 35 67108863) ?_
       refine pu_ 26 47 (bm 35 134217727) ?_
       refine pu_ 27 48 (bm 35 268435455) ?_
       refine pu_ 28 49 (bm 35 536870911) ?_
       refine pu_ 29 50 (bm 35 1073741823) ?_
       refine pu_ 30 51 (bm 35 2147483647) ?_
       refine pu_ 31 52 (bm 35 4294967295) ?_
       refine pu_ 32 53 (bm 35 8589934591) ?_
       refine pu_ 33 54 (bm 35 17179869183) ?_
       refine pz_ 34 55 (bm 35 34359738367) ?_
       refine done_ (done_of HT_.out (by kernel_rfl)) ?_
       try go_wp2
       go_ret
       exact ⟨qr_, qB_⟩
      rw [if_neg c11] at H
      have c11b0 : decide (20000 < (((rd_T99 l0_0 x3_1).f1).size : Int)) = false := decide_eq_false c11
      have c11b1 : decide (20000 < ((rd_T99 l0_0 x3_1).f1).size) = false := decide_eq_false (by omega)
      clear c11
      obtain ⟨t282, A180, H⟩ := Option.bind_eq_some_iff.mp H; have A18 := am_ A180; clear A180
      by_cases c19 : t282 = true
      ·subst c19
       rw [if_pos rfl] at H
       by_cases c20 : x3_1 > 0
       ·rw [if_pos c20] at H
        have c20b0 : decide (0 < x3_1) = true := decide_eq_true c20
        clear c20
        obtain ⟨ji21, hji21⟩ : ∃ j_ : Int, (wrap64 (x3_1 - 1)) = j_ := ⟨_, rfl⟩
        first | rw [hji21] at H | simp only [hji21] at H
        (try rw [hji21] at A9)
        (try rw [hji21] at A18)
        have hji21w : (IntKind.i64.wrap (x3_1 - 1)) = ji21 := (i64_w _).trans hji21
        by_cases c22 : 0 ≤ (ji21)
        ·rw [if_pos c22] at H
         have c22b0 : decide (0 ≤ (ji21)) = true := decide_eq_true c22
         clear c22
         by_cases c23 : (ji21) < (l0_0.length : Int)
         ·rw [if_pos c23] at H
          have c23b0 : decide ((ji21) < (l0_0.length : Int)) = true := decide_eq_true c23
          clear c23
          by_cases c24 : ((Op.bytesLess (((rd_T99 l0_0 (ji21)).f0).toList) (((rd_T99 l0_0 x3_1).f0).toList)) = true)
          ·rw [if_pos c24] at H
           have c24b0 : (Op.bytesLess (((rd_T99 l0_0 (ji21)).f0).toList) (((rd_T99 l0_0 x3_1).f0).toList)) = true := c24
           clear c24; have H' := am_ H; clear H
           obtain ⟨hcz25_0, hfz25_0⟩ := bc1_ BK278
           have p279 : 0 ≤ (x3_1 : Int) := of_decide_eq_true qa_
           have q279 : x3_1 < (l0_0.length : Int) := of_decide_eq_true qa_
           obtain ⟨ad279, e279, hx279_0, hx279_1, hx279_2⟩ := at_T99 HR0_0.out x3_1 p279 q279
           cases e279
           replace hx279_0 := qx_ HB hx279_0
           replace hx279_1 := qx_ HB hx279_1
           replace hx279_2 := qx_ HB hx279_2
           replace p279 := eq_true p279; replace q279 := eq_true q279
           try go_wp2_with (first | ((with_reducible refine gate_dst (N := 4) rfl ?_); (try (refine gate_guard (by rfl) ?_; dsimp only)); refine bx_ 4 (cs := #[.string (⟨#[]⟩ : ByteArray), .string (⟨#[]⟩ : ByteArray), .int .i64 0]) (t := 99) ?_; intro gb280 hg w26 hbox hb; have BK280 := am_ (hbox); have GW280 := am_ ((qs_ : w.heap.size ≤ gb280)); have GE280 := GW280; obtain ⟨NB278_280, NB280_278⟩ := qn_ BK278 hg; replace BK278 := qbl_ BK278 hb; replace HB := hs_ hb; clear hb hbox hg; obtain ⟨hnb27, hnc27⟩ := nn_ NB280_278; obtain ⟨hcz28_0, hcz28_1, hcz28_2, hfz28_0, hfz28_1, hfz28_2⟩ := bc3_ BK280))
           have n0_ : Aside0 ((((w26.setCell ⟨gb280, 0, none⟩ (.string ((rd_T99 l0_0 x3_1).f0))).setCell ⟨gb280, 1, none⟩ (.string ((rd_T99 l0_0 x3_1).f1))).setCell ⟨gb280, 2, none⟩ (.int .i64 ((rd_T99 l0_0 x3_1).f2))).heap[gb278]? = some (.cells #[.slice (some ad279) l0_0.length c0_0] 44 (0, 0))) := ⟨qf_ BK278⟩
           have n1_ : Aside0 ((((w26.setCell ⟨gb280, 0, none⟩ (.string ((rd_T99 l0_0 x3_1).f0))).setCell ⟨gb280, 1, none⟩ (.string ((rd_T99 l0_0 x3_1).f1))).setCell ⟨gb280, 2, none⟩ (.int .i64 ((rd_T99 l0_0 x3_1).f2))).heap[gb280]? = some (.cells #[.string ((rd_T99 l0_0 x3_1).f0), .string ((rd_T99 l0_0 x3_1).f1), .int .i64 ((rd_T99 l0_0 x3_1).f2)] 99 (0, 0))) := ⟨by (with_reducible repeat (first | refine blk_drewN ?_ _ | refine blk_drew ?_ | refine blk_alloc ?_ _)); refine blk_put (cs := #[.string ((rd_T99 l0_0 x3_1).f0), .string ((rd_T99 l0_0 x3_1).f1), .int .i64 0]) ?_ 2 _ rfl; (with_reducible repeat (first | refine blk_drewN ?_ _ | refine blk_drew ?_ | refine blk_alloc ?_ _)); refine blk_put (cs := #[.string ((rd_T99 l0_0 x3_1).f0), .string (⟨#[]⟩ : ByteArray), .int .i64 0]) ?_ 1 _ rfl; (with_reducible repeat (first | refine blk_drewN ?_ _ | refine blk_drew ?_ | refine blk_alloc ?_ _)); refine blk_put (cs := #[.string (⟨#[]⟩ : ByteArray), .string (⟨#[]⟩ : ByteArray), .int .i64 0]) ?_ 0 _ rfl; exact qf_ BK280⟩
           have n2_ : Aside0 (Below w.heap.size w (((w26.setCell ⟨gb280, 0, none⟩ (.string ((rd_T99 l0_0 x3_1).f0))).setCell ⟨gb280, 1, none⟩ (.string ((rd_T99 l0_0 x3_1).f1))).setCell ⟨gb280, 2, none⟩ (.int .i64 ((rd_T99 l0_0 x3_1).f2)))) := ⟨qB_⟩
           (try clear BK278); (try clear BK280); (try clear HB)
           generalize (((w26.setCell ⟨gb280, 0, none⟩ (.string ((rd_T99 l0_0 x3_1).f0))).setCell ⟨gb280, 1, none⟩ (.string ((rd_T99 l0_0 x3_1).f1))).setCell ⟨gb280, 2, none⟩ (.int .i64 ((rd_T99 l0_0 x3_1).f2))) = w29 at n0_ n1_ n2_ ⊢
           have BK278 := n0_; have BK280 := n1_; have HB := n2_; clear n0_ n1_ n2_
           replace BK278 := am_ (blk_drew BK278.out); replace BK280 := am_ (blk_drew BK280.out); replace HB := am_ (below_drew1 HB.out)
           have p283 : 0 ≤ ((ji21) : Int) := of_decide_eq_true qa_
           have q283 : (ji21) < (l0_0.length : Int) := of_decide_eq_true qa_
           obtain ⟨ad283, e283, hx283_0, hx283_1, hx283_2⟩ := at_T99 HR0_0.out (ji21) p283 q283
           have hw283_2 := hx283_2; have hw283_1 := hx283_1; have hw283_0 := hx283_0
           obtain rfl : ad279 = ad283 := (by injection e283)
           replace hx283_0 := qx_ HB hx283_0
           replace hx283_1 := qx_ HB hx283_1
           replace hx283_2 := qx_ HB hx283_2
           replace p283 := eq_true p283; replace q283 := eq_true q283
           refine start_ (n := 35) (S := fun w' => w'.cell? ⟨gb280, 0, none⟩ = some (.string ((rd_T99 l0_0 x3_1).f0)) ∧ w'.cell? ⟨gb280, 1, none⟩ = some (.string ((rd_T99 l0_0 x3_1).f1)) ∧ w'.cell? ⟨gb280, 2, none⟩ = some (.int .i64 ((rd_T99 l0_0 x3_1).f2)) ∧ w'.cell? ⟨gb278, 0, none⟩ = some (.slice (some ad279) l0_0.length c0_0) ∧ w'.cell? (ad279.add (((ji21)).toNat * 3)) = some (.string ((rd_T99 l0_0 (ji21)).f0)) ∧ w'.cell? ⟨(ad279.add (((ji21)).toNat * 3)).block, (ad279.add (((ji21)).toNat * 3)).off + 1, none⟩ = some (.string ((rd_T99 l0_0 (ji21)).f1)) ∧ w'.cell? ⟨(ad279.add (((ji21)).toNat * 3)).block, (ad279.add (((ji21)).toNat * 3)).off + 2, none⟩ = some (.int .i64 ((rd_T99 l0_0 (ji21)).f2))) (ds := []) (bm 35 0) (by kernel_rfl) rfl (by kernel_rfl) ⟨bl_ BK280 0, bl_ BK280 1, bl_ BK280 2, bl_ BK278 0, ((qx_ HB hw283_0).trans rfl), ((qx_ HB hw283_1).trans rfl), ((qx_ HB hw283_2).trans rfl)⟩ (fun hHeld => ?_); refine with_tabW spec_DiskOk.tab7 spec_DiskOk.bits7 (fun HT_ HW_ => ?_)
           generalize w29.drew = w30 at BK278 BK280 HB hx283_0 hx283_1 hx283_2 hHeld ⊢
           refine pz_ 0 21 (bm 35 1) ?_; refine tz7_ 1 22 (bm 35 3) ?_
           refine o1_ 2 (some 23) (bm 35 7) (fun K hK => ?_)
           refine goes_ Try.func82 (by kernel_rfl) rfl #[.string ((rd_T99 l0_0 x3_1).f0)] (by rfl) rfl rfl (by (try simp only [List.map_toArray, List.map_cons, List.map_nil]); first | done | rfl | (simp only [List.length_drop, List.length_take]; rfl)) ?_
           with_reducible refine (spec_l03Name.calls ((rd_T99 l0_0 x3_1).f0) true _ A9.out).mono ?_
           rintro e w' ⟨rfl, ⟨nd, rfl⟩⟩
           refine ⟨_, rfl, ?_⟩
           refine hK.out _ _ ⟨bl_ BK280 0, bl_ BK280 1, bl_ BK280 2, bl_ BK278 0, ((qx_ HB hw283_0).trans rfl), ((qx_ HB hw283_1).trans rfl), ((qx_ HB hw283_2).trans rfl)⟩ (fun hHeld => ?_)
           clear hK K
           refine nm_ 23 ?_
           refine pz_ 3 24 (bm 35 15) ?_; refine pz_ 4 25 (bm 35 31) ?_; refine pz_ 5 26 (bm 35 63) ?_; refine tz7_ 6 27 (bm 35 127) ?_; refine pz_ 7 28 (bm 35 255) ?_; refine pz_ 8 29 (bm 35 511) ?_; refine pz_ 9 30 (bm 35 1023) ?_; refine pz_ 10 31 (bm 35 2047) ?_; refine pz_ 11 32 (bm 35 4095) ?_; refine pz_ 13 34 (bm 35 12287) ?_; refine tz7_ 12 33 (bm 35 16383) ?_; refine tz7_ 14 35 (bm 35 32767) ?_; refine pz_ 15 36 (bm 35 65535) ?_
           refine o1_ 16 (some 37) (bm 35 131071) (fun K hK => ?_)
           refine goes_ Try.func64 (by kernel_rfl) rfl #[.int .i64 ((rd_T99 l0_0 x3_1).f2), .int .i64 0, .int .i64 (((rd_T99 l0_0 x3_1).f1).size : Int)] (by rfl) rfl rfl (by (try simp only [List.map_toArray, List.map_cons, List.map_nil]); first | done | rfl | (simp only [List.length_drop, List.length_take]; rfl)) ?_
           with_reducible refine (spec_l01In.calls ((rd_T99 l0_0 x3_1).f2) 0 (((rd_T99 l0_0 x3_1).f1).size : Int) true _ A18.out).mono ?_
           rintro e w' ⟨rfl, ⟨nd, rfl⟩⟩
           refine ⟨_, rfl, ?_⟩
           refine hK.out _ _ ⟨bl_ BK280 0, bl_ BK280 1, bl_ BK280 2, bl_ BK278 0, ((qx_ HB hw283_0).trans rfl), ((qx_ HB hw283_1).trans rfl), ((qx_ HB hw283_2).trans rfl)⟩ (fun hHeld => ?_)
           clear hK K
           refine nm_ 37 ?_
           refine pz_ 17 38 (bm 35 262143) ?_; refine pz_ 18 39 (bm 35 524287) ?_; refine pz_ 19 40 (bm 35 1048575) ?_; refine pz_ 20 41 (bm 35 2097151) ?_; refine pz_ 21 42 (bm 35 4194303) ?_; refine pz_ 22 43 (bm 35 8388607) ?_; refine pz_ 23 44 (bm 35 16777215) ?_; refine pz_ 25 46 (bm 35 50331647) ?_; refine pz_ 26 47 (bm 35 117440511) ?_; refine pz_ 30 51 (bm 35 1191182335) ?_; refine tz7_ 24 45 (bm 35 1207959551) ?_; refine pz_ 27 48 (bm 35 1342177279) ?_; refine pz_ 28 49 (bm 35 1610612735) ?_; refine tz7_ 29 50 (bm 35 2147483647) ?_; refine tz7_ 31 52 (bm 35 4294967295) ?_; refine pz_ 32 53 (bm 35 8589934591) ?_; refine pz_ 33 54 (bm 35 17179869183) ?_; refine pz_ 34 55 (bm 35 34359738367) ?_
           refine done_ (done_of HT_.out (by kernel_rfl)) ?_
           try go_wp2
           go_roundg k1
           case measure => have := HK1.out; omega
           case rel => exact ⟨(wrap64 (x3_1 + 1)), qe_, H', ⟨by have := HK1.out; omega⟩, ⟨qk_ BK278⟩, ⟨qB_⟩⟩
          rw [if_neg c24] at H
          have c24b0 : (Op.bytesLess (((rd_T99 l0_0 (ji21)).f0).toList) (((rd_T99 l0_0 x3_1).f0).toList)) = false := by simpa using c24
          clear c24
          obtain rfl := Option.some.inj H
          obtain ⟨hcz31_0, hfz31_0⟩ := bc1_ BK278
          have p279 : 0 ≤ (x3_1 : Int) := of_decide_eq_true qa_
          have q279 : x3_1 < (l0_0.length : Int) := of_decide_eq_true qa_
          obtain ⟨ad279, e279, hx279_0, hx279_1, hx279_2⟩ := at_T99 HR0_0.out x3_1 p279 q279
          cases e279
          replace hx279_0 := qx_ HB hx279_0
          replace hx279_1 := qx_ HB hx279_1
          replace hx279_2 := qx_ HB hx279_2
          replace p279 := eq_true p279; replace q279 := eq_true q279
          try go_wp2_with (first | ((with_reducible refine gate_dst (N := 4) rfl ?_); (try (refine gate_guard (by rfl) ?_; dsimp only)); refine bx_ 4 (cs := #[.string (⟨#[]⟩ : ByteArray), .string (⟨#[]⟩ : ByteArray), .int .i64 0]) (t := 99) ?_; intro gb280 hg w32 hbox hb; have BK280 := am_ (hbox); have GW280 := am_ ((qs_ : w.heap.size ≤ gb280)); have GE280 := GW280; obtain ⟨NB278_280, NB280_278⟩ := qn_ BK278 hg; replace BK278 := qbl_ BK278 hb; replace HB := hs_ hb; clear hb hbox hg; obtain ⟨hnb33, hnc33⟩ := nn_ NB280_278; obtain ⟨hcz34_0, hcz34_1, hcz34_2, hfz34_0, hfz34_1, hfz34_2⟩ := bc3_ BK280))
          have n0_ : Aside0 ((((w32.setCell ⟨gb280, 0, none⟩ (.string ((rd_T99 l0_0 x3_1).f0))).setCell ⟨gb280, 1, none⟩ (.string ((rd_T99 l0_0 x3_1).f1))).setCell ⟨gb280, 2, none⟩ (.int .i64 ((rd_T99 l0_0 x3_1).f2))).heap[gb278]? = some (.cells #[.slice (some ad279) l0_0.length c0_0] 44 (0, 0))) := ⟨qf_ BK278⟩
          have n1_ : Aside0 ((((w32.setCell ⟨gb280, 0, none⟩ (.string ((rd_T99 l0_0 x3_1).f0))).setCell ⟨gb280, 1, none⟩ (.string ((rd_T99 l0_0 x3_1).f1))).setCell ⟨gb280, 2, none⟩ (.int .i64 ((rd_T99 l0_0 x3_1).f2))).heap[gb280]? = some (.cells #[.string ((rd_T99 l0_0 x3_1).f0), .string ((rd_T99 l0_0 x3_1).f1), .int .i64 ((rd_T99 l0_0 x3_1).f2)] 99 (0, 0))) := ⟨by (with_reducible repeat (first | refine blk_drewN ?_ _ | refine blk_drew ?_ | refine blk_alloc ?_ _)); refine blk_put (cs := #[.string ((rd_T99 l0_0 x3_1).f0), .string ((rd_T99 l0_0 x3_1).f1), .int .i64 0]) ?_ 2 _ rfl; (with_reducible repeat (first | refine blk_drewN ?_ _ | refine blk_drew ?_ | refine blk_alloc ?_ _)); refine blk_put (cs := #[.string ((rd_T99 l0_0 x3_1).f0), .string (⟨#[]⟩ : ByteArray), .int .i64 0]) ?_ 1 _ rfl; (with_reducible repeat (first | refine blk_drewN ?_ _ | refine blk_drew ?_ | refine blk_alloc ?_ _)); refine blk_put (cs := #[.string (⟨#[]⟩ : ByteArray), .string (⟨#[]⟩ : ByteArray), .int .i64 0]) ?_ 0 _ rfl; exact qf_ BK280⟩
          have n2_ : Aside0 (Below w.heap.size w (((w32.setCell ⟨gb280, 0, none⟩ (.string ((rd_T99 l0_0 x3_1).f0))).setCell ⟨gb280, 1, none⟩ (.string ((rd_T99 l0_0 x3_1).f1))).setCell ⟨gb280, 2, none⟩ (.int .i64 ((rd_T99 l0_0 x3_1).f2)))) := ⟨qB_⟩
          (try clear BK278); (try clear BK280); (try clear HB)
          generalize (((w32.setCell ⟨gb280, 0, none⟩ (.string ((rd_T99 l0_0 x3_1).f0))).setCell ⟨gb280, 1, none⟩ (.string ((rd_T99 l0_0 x3_1).f1))).setCell ⟨gb280, 2, none⟩ (.int .i64 ((rd_T99 l0_0 x3_1).f2))) = w35 at n0_ n1_ n2_ ⊢
          have BK278 := n0_; have BK280 := n1_; have HB := n2_; clear n0_ n1_ n2_
          replace BK278 := am_ (blk_drew BK278.out); replace BK280 := am_ (blk_drew BK280.out); replace HB := am_ (below_drew1 HB.out)
          have p283 : 0 ≤ ((ji21) : Int) := of_decide_eq_true qa_
          have q283 : (ji21) < (l0_0.length : Int) := of_decide_eq_true qa_
          obtain ⟨ad283, e283, hx283_0, hx283_1, hx283_2⟩ := at_T99 HR0_0.out (ji21) p283 q283
          have hw283_2 := hx283_2; have hw283_1 := hx283_1; have hw283_0 := hx283_0
          obtain rfl : ad279 = ad283 := (by injection e283)
          replace hx283_0 := qx_ HB hx283_0
          replace hx283_1 := qx_ HB hx283_1
          replace hx283_2 := qx_ HB hx283_2
          replace p283 := eq_true p283; replace q283 := eq_true q283
          refine start_ (n := 35) (S := fun w' => w'.cell? ⟨gb280, 0, none⟩ = some (.string ((rd_T99 l0_0 x3_1).f0)) ∧ w'.cell? ⟨gb280, 1, none⟩ = some (.string ((rd_T99 l0_0 x3_1).f1)) ∧ w'.cell? ⟨gb280, 2, none⟩ = some (.int .i64 ((rd_T99 l0_0 x3_1).f2)) ∧ w'.cell? ⟨gb278, 0, none⟩ = some (.slice (some ad279) l0_0.length c0_0) ∧ w'.cell? (ad279.add (((ji21)).toNat * 3)) = some (.string ((rd_T99 l0_0 (ji21)).f0)) ∧ w'.cell? ⟨(ad279.add (((ji21)).toNat * 3)).block, (ad279.add (((ji21)).toNat * 3)).off + 1, none⟩ = some (.string ((rd_T99 l0_0 (ji21)).f1)) ∧ w'.cell? ⟨(ad279.add (((ji21)).toNat * 3)).block, (ad279.add (((ji21)).toNat * 3)).off + 2, none⟩ = some (.int .i64 ((rd_T99 l0_0 (ji21)).f2))) (ds := []) (bm 35 0) (by kernel_rfl) rfl (by kernel_rfl) ⟨bl_ BK280 0, bl_ BK280 1, bl_ BK280 2, bl_ BK278 0, ((qx_ HB hw283_0).trans rfl), ((qx_ HB hw283_1).trans rfl), ((qx_ HB hw283_2).trans rfl)⟩ (fun hHeld => ?_); refine with_tabW spec_DiskOk.tab7 spec_DiskOk.bits7 (fun HT_ HW_ => ?_)
          generalize w35.drew = w36 at BK278 BK280 HB hx283_0 hx283_1 hx283_2 hHeld ⊢
          refine pz_ 0 21 (bm 35 1) ?_; refine tz7_ 1 22 (bm 35 3) ?_
          refine o1_ 2 (some 23) (bm 35 7) (fun K hK => ?_)
          refine goes_ Try.func82 (by kernel_rfl) rfl #[.string ((rd_T99 l0_0 x3_1).f0)] (by rfl) rfl rfl (by (try simp only [List.map_toArray, List.map_cons, List.map_nil]); first | done | rfl | (simp only [List.length_drop, List.length_take]; rfl)) ?_
          with_reducible refine (spec_l03Name.calls ((rd_T99 l0_0 x3_1).f0) true _ A9.out).mono ?_
          rintro e w' ⟨rfl, ⟨nd, rfl⟩⟩
          refine ⟨_, rfl, ?_⟩
          refine hK.out _ _ ⟨bl_ BK280 0, bl_ BK280 1, bl_ BK280 2, bl_ BK278 0, ((qx_ HB hw283_0).trans rfl), ((qx_ HB hw283_1).trans rfl), ((qx_ HB hw283_2).trans rfl)⟩ (fun hHeld => ?_)
          clear hK K
          refine nm_ 23 ?_
          refine pz_ 3 24 (bm 35 15) ?_; refine pz_ 4 25 (bm 35 31) ?_; refine pz_ 5 26 (bm 35 63) ?_; refine tz7_ 6 27 (bm 35 127) ?_; refine pz_ 7 28 (bm 35 255) ?_; refine pz_ 8 29 (bm 35 511) ?_; refine pz_ 9 30 (bm 35 1023) ?_; refine pz_ 10 31 (bm 35 2047) ?_; refine pz_ 11 32 (bm 35 4095) ?_; refine pz_ 13 34 (bm 35 12287) ?_; refine tz7_ 12 33 (bm 35 16383) ?_; refine tz7_ 14 35 (bm 35 32767) ?_; refine pz_ 15 36 (bm 35 65535) ?_
          refine o1_ 16 (some 37) (bm 35 131071) (fun K hK => ?_)
          refine goes_ Try.func64 (by kernel_rfl) rfl #[.int .i64 ((rd_T99 l0_0 x3_1).f2), .int .i64 0, .int .i64 (((rd_T99 l0_0 x3_1).f1).size : Int)] (by rfl) rfl rfl (by (try simp only [List.map_toArray, List.map_cons, List.map_nil]); first | done | rfl | (simp only [List.length_drop, List.length_take]; rfl)) ?_
          with_reducible refine (spec_l01In.calls ((rd_T99 l0_0 x3_1).f2) 0 (((rd_T99 l0_0 x3_1).f1).size : Int) true _ A18.out).mono ?_
          rintro e w' ⟨rfl, ⟨nd, rfl⟩⟩
          refine ⟨_, rfl, ?_⟩
          refine hK.out _ _ ⟨bl_ BK280 0, bl_ BK280 1, bl_ BK280 2, bl_ BK278 0, ((qx_ HB hw283_0).trans rfl), ((qx_ HB hw283_1).trans rfl), ((qx_ HB hw283_2).trans rfl)⟩ (fun hHeld => ?_)
          clear hK K
          refine nm_ 37 ?_
          refine pz_ 17 38 (bm 35 262143) ?_; refine pz_ 18 39 (bm 35 524287) ?_; refine pz_ 19 40 (bm 35 1048575) ?_; refine pz_ 20 41 (bm 35 2097151) ?_; refine pz_ 21 42 (bm 35 4194303) ?_; refine pz_ 22 43 (bm 35 8388607) ?_; refine pz_ 23 44 (bm 35 16777215) ?_; refine pz_ 25 46 (bm 35 50331647) ?_; refine pz_ 26 47 (bm 35 117440511) ?_; refine pz_ 30 51 (bm 35 1191182335) ?_; refine tz7_ 24 45 (bm 35 1207959551) ?_; refine pz_ 27 48 (bm 35 1342177279) ?_; refine pz_ 28 49 (bm 35 1610612735) ?_; refine tz7_ 29 50 (bm 35 2147483647) ?_; refine tz7_ 31 52 (bm 35 4294967295) ?_; refine pz_ 32 53 (bm 35 8589934591) ?_; refine pz_ 33 54 (bm 35 17179869183) ?_; refine pz_ 34 55 (bm 35 34359738367) ?_
          refine done_ (done_of HT_.out (by kernel_rfl)) ?_
          try go_wp2
          go_ret
          exact ⟨by first | rfl | (simp [errW_none, errW_some] <;> rfl) | (simp only [← hji21]; first | rfl | (simp [errW_none, errW_some] <;> rfl)) | (simp [*, errW_none, errW_some] <;> rfl), qB_⟩
         rw [if_neg c23] at H
         exact absurd H (by simp)
        rw [if_neg c22] at H
        exact absurd H (by simp)
       rw [if_neg c20] at H
       have c20b0 : decide (0 < x3_1) = false := decide_eq_false c20
       clear c20; have H' := am_ H; clear H
       obtain ⟨hcz37_0, hfz37_0⟩ := bc1_ BK278
       have p279 : 0 ≤ (x3_1 : Int) := of_decide_eq_true qa_
       have q279 : x3_1 < (l0_0.length : Int) := of_decide_eq_true qa_
       obtain ⟨ad279, e279, hx279_0, hx279_1, hx279_2⟩ := at_T99 HR0_0.out x3_1 p279 q279
       cases e279
       replace hx279_0 := qx_ HB hx279_0
       replace hx279_1 := qx_ HB hx279_1
       replace hx279_2 := qx_ HB hx279_2
       replace p279 := eq_true p279; replace q279 := eq_true q279
       try go_wp2_with (first | ((with_reducible refine gate_dst (N := 4) rfl ?_); (try (refine gate_guard (by rfl) ?_; dsimp only)); refine bx_ 4 (cs := #[.string (⟨#[]⟩ : ByteArray), .string (⟨#[]⟩ : ByteArray), .int .i64 0]) (t := 99) ?_; intro gb280 hg w38 hbox hb; have BK280 := am_ (hbox); have GW280 := am_ ((qs_ : w.heap.size ≤ gb280)); have GE280 := GW280; obtain ⟨NB278_280, NB280_278⟩ := qn_ BK278 hg; replace BK278 := qbl_ BK278 hb; replace HB := hs_ hb; clear hb hbox hg; obtain ⟨hnb39, hnc39⟩ := nn_ NB280_278; obtain ⟨hcz40_0, hcz40_1, hcz40_2, hfz40_0, hfz40_1, hfz40_2⟩ := bc3_ BK280))
       have n0_ : Aside0 ((((w38.setCell ⟨gb280, 0, none⟩ (.string ((rd_T99 l0_0 x3_1).f0))).setCell ⟨gb280, 1, none⟩ (.string ((rd_T99 l0_0 x3_1).f1))).setCell ⟨gb280, 2, none⟩ (.int .i64 ((rd_T99 l0_0 x3_1).f2))).heap[gb278]? = some (.cells #[.slice (some ad279) l0_0.length c0_0] 44 (0, 0))) := ⟨qf_ BK278⟩
       have n1_ : Aside0 ((((w38.setCell ⟨gb280, 0, none⟩ (.string ((rd_T99 l0_0 x3_1).f0))).setCell ⟨gb280, 1, none⟩ (.string ((rd_T99 l0_0 x3_1).f1))).setCell ⟨gb280, 2, none⟩ (.int .i64 ((rd_T99 l0_0 x3_1).f2))).heap[gb280]? = some (.cells #[.string ((rd_T99 l0_0 x3_1).f0), .string ((rd_T99 l0_0 x3_1).f1), .int .i64 ((rd_T99 l0_0 x3_1).f2)] 99 (0, 0))) := ⟨by (with_reducible repeat (first | refine blk_drewN ?_ _ | refine blk_drew ?_ | refine blk_alloc ?_ _)); refine blk_put (cs := #[.string ((rd_T99 l0_0 x3_1).f0), .string ((rd_T99 l0_0 x3_1).f1), .int .i64 0]) ?_ 2 _ rfl; (with_reducible repeat (first | refine blk_drewN ?_ _ | refine blk_drew ?_ | refine blk_alloc ?_ _)); refine blk_put (cs := #[.string ((rd_T99 l0_0 x3_1).f0), .string (⟨#[]⟩ : ByteArray), .int .i64 0]) ?_ 1 _ rfl; (with_reducible repeat (first | refine blk_drewN ?_ _ | refine blk_drew ?_ | refine blk_alloc ?_ _)); refine blk_put (cs := #[.string (⟨#[]⟩ : ByteArray), .string (⟨#[]⟩ : ByteArray), .int .i64 0]) ?_ 0 _ rfl; exact qf_ BK280⟩
       have n2_ : Aside0 (Below w.heap.size w (((w38.setCell ⟨gb280, 0, none⟩ (.string ((rd_T99 l0_0 x3_1).f0))).setCell ⟨gb280, 1, none⟩ (.string ((rd_T99 l0_0 x3_1).f1))).setCell ⟨gb280, 2, none⟩ (.int .i64 ((rd_T99 l0_0 x3_1).f2)))) := ⟨qB_⟩
       (try clear BK278); (try clear BK280); (try clear HB)
       generalize (((w38.setCell ⟨gb280, 0, none⟩ (.string ((rd_T99 l0_0 x3_1).f0))).setCell ⟨gb280, 1, none⟩ (.string ((rd_T99 l0_0 x3_1).f1))).setCell ⟨gb280, 2, none⟩ (.int .i64 ((rd_T99 l0_0 x3_1).f2))) = w41 at n0_ n1_ n2_ ⊢
       have BK278 := n0_; have BK280 := n1_; have HB := n2_; clear n0_ n1_ n2_
       replace BK278 := am_ (blk_drew BK278.out); replace BK280 := am_ (blk_drew BK280.out); replace HB := am_ (below_drew1 HB.out)
       refine start_ (n := 35) (S := fun w' => w'.cell? ⟨gb280, 0, none⟩ = some (.string ((rd_T99 l0_0 x3_1).f0)) ∧ w'.cell? ⟨gb280, 1, none⟩ = some (.string ((rd_T99 l0_0 x3_1).f1)) ∧ w'.cell? ⟨gb280, 2, none⟩ = some (.int .i64 ((rd_T99 l0_0 x3_1).f2))) (ds := []) (bm 35 0) (by kernel_rfl) rfl (by kernel_rfl) ⟨bl_ BK280 0, bl_ BK280 1, bl_ BK280 2⟩ (fun hHeld => ?_); refine with_tabW spec_DiskOk.tab7 spec_DiskOk.bits7 (fun HT_ HW_ => ?_)
       generalize w41.drew = w42 at BK278 BK280 HB hHeld ⊢
       refine pz_ 0 21 (bm 35 1) ?_; refine tz3_ 1 22 (bm 35 3) ?_
       refine o1_ 2 (some 23) (bm 35 7) (fun K hK => ?_)
       refine goes_ Try.func82 (by kernel_rfl) rfl #[.string ((rd_T99 l0_0 x3_1).f0)] (by rfl) rfl rfl (by (try simp only [List.map_toArray, List.map_cons, List.map_nil]); first | done | rfl | (simp only [List.length_drop, List.length_take]; rfl)) ?_
       with_reducible refine (spec_l03Name.calls ((rd_T99 l0_0 x3_1).f0) true _ A9.out).mono ?_
       rintro e w' ⟨rfl, ⟨nd, rfl⟩⟩
       refine ⟨_, rfl, ?_⟩
       refine hK.out _ _ ⟨bl_ BK280 0, bl_ BK280 1, bl_ BK280 2⟩ (fun hHeld => ?_)
       clear hK K
       refine nm_ 23 ?_
       refine pz_ 3 24 (bm 35 15) ?_; refine pz_ 4 25 (bm 35 31) ?_; refine pz_ 5 26 (bm 35 63) ?_; refine tz3_ 6 27 (bm 35 127) ?_; refine pz_ 7 28 (bm 35 255) ?_; refine pz_ 8 29 (bm 35 511) ?_; refine pz_ 9 30 (bm 35 1023) ?_; refine pz_ 10 31 (bm 35 2047) ?_; refine pz_ 11 32 (bm 35 4095) ?_; refine pz_ 13 34 (bm 35 12287) ?_; refine tz3_ 12 33 (bm 35 16383) ?_; refine tz3_ 14 35 (bm 35 32767) ?_; refine pz_ 15 36 (bm 35 65535) ?_
       refine o1_ 16 (some 37) (bm 35 131071) (fun K hK => ?_)
       refine goes_ Try.func64 (by kernel_rfl) rfl #[.int .i64 ((rd_T99 l0_0 x3_1).f2), .int .i64 0, .int .i64 (((rd_T99 l0_0 x3_1).f1).size : Int)] (by rfl) rfl rfl (by (try simp only [List.map_toArray, List.map_cons, List.map_nil]); first | done | rfl | (simp only [List.length_drop, List.length_take]; rfl)) ?_
       with_reducible refine (spec_l01In.calls ((rd_T99 l0_0 x3_1).f2) 0 (((rd_T99 l0_0 x3_1).f1).size : Int) true _ A18.out).mono ?_
       rintro e w' ⟨rfl, ⟨nd, rfl⟩⟩
       refine ⟨_, rfl, ?_⟩
       refine hK.out _ _ ⟨bl_ BK280 0, bl_ BK280 1, bl_ BK280 2⟩ (fun hHeld => ?_)
       clear hK K
       refine nm_ 37 ?_
       refine pz_ 17 38 (bm 35 262143) ?_; refine pz_ 18 39 (bm 35 524287) ?_; refine pz_ 19 40 (bm 35 1048575) ?_; refine pz_ 20 41 (bm 35 2097151) ?_; refine pz_ 21 42 (bm 35 4194303) ?_; refine pz_ 22 43 (bm 35 8388607) ?_
       refine pu_ 23 44 (bm 35 16777215) ?_
       refine pu_ 24 45 (bm 35 33554431) ?_
       refine pu_ 25 46 (bm 35 67108863) ?_
       refine pu_ 26 47 (bm 35 134217727) ?_
       refine pu_ 27 48 (bm 35 268435455) ?_
       refine pu_ 28 49 (bm 35 536870911) ?_
       refine pu_ 29 50 (bm 35 1073741823) ?_
       refine pu_ 30 51 (bm 35 2147483647) ?_
       refine pu_ 31 52 (bm 35 4294967295) ?_
       refine pu_ 32 53 (bm 35 8589934591) ?_
       refine pz_ 33 54 (bm 35 17179869183) ?_; refine pz_ 34 55 (bm 35 34359738367) ?_
       refine done_ (done_of HT_.out (by kernel_rfl)) ?_
       try go_wp2
       go_roundg k1
       case measure => have := HK1.out; omega
       case rel => exact ⟨(wrap64 (x3_1 + 1)), qe_, H', ⟨by have := HK1.out; omega⟩, ⟨qk_ BK278⟩, ⟨qB_⟩⟩
      replace c19 := Bool.eq_false_iff.mpr c19
      subst c19
      rw [if_neg (show ¬ (false = true) by decide)] at H
      obtain rfl := Option.some.inj H
      obtain ⟨hcz43_0, hfz43_0⟩ := bc1_ BK278
      have p279 : 0 ≤ (x3_1 : Int) := of_decide_eq_true qa_
      have q279 : x3_1 < (l0_0.length : Int) := of_decide_eq_true qa_
      obtain ⟨ad279, e279, hx279_0, hx279_1, hx279_2⟩ := at_T99 HR0_0.out x3_1 p279 q279
      cases e279
      replace hx279_0 := qx_ HB hx279_0
      replace hx279_1 := qx_ HB hx279_1
      replace hx279_2 := qx_ HB hx279_2
      replace p279 := eq_true p279; replace q279 := eq_true q279
      try go_wp2_with (first | ((with_reducible refine gate_dst (N := 4) rfl ?_); (try (refine gate_guard (by rfl) ?_; dsimp only)); refine bx_ 4 (cs := #[.string (⟨#[]⟩ : ByteArray), .string (⟨#[]⟩ : ByteArray), .int .i64 0]) (t := 99) ?_; intro gb280 hg w44 hbox hb; have BK280 := am_ (hbox); have GW280 := am_ ((qs_ : w.heap.size ≤ gb280)); have GE280 := GW280; obtain ⟨NB278_280, NB280_278⟩ := qn_ BK278 hg; replace BK278 := qbl_ BK278 hb; replace HB := hs_ hb; clear hb hbox hg; obtain ⟨hnb45, hnc45⟩ := nn_ NB280_278; obtain ⟨hcz46_0, hcz46_1, hcz46_2, hfz46_0, hfz46_1, hfz46_2⟩ := bc3_ BK280))
      have n0_ : Aside0 ((((w44.setCell ⟨gb280, 0, none⟩ (.string ((rd_T99 l0_0 x3_1).f0))).setCell ⟨gb280, 1, none⟩ (.string ((rd_T99 l0_0 x3_1).f1))).setCell ⟨gb280, 2, none⟩ (.int .i64 ((rd_T99 l0_0 x3_1).f2))).heap[gb278]? = some (.cells #[.slice (some ad279) l0_0.length c0_0] 44 (0, 0))) := ⟨qf_ BK278⟩
      have n1_ : Aside0 ((((w44.setCell ⟨gb280, 0, none⟩ (.string ((rd_T99 l0_0 x3_1).f0))).setCell ⟨gb280, 1, none⟩ (.string ((rd_T99 l0_0 x3_1).f1))).setCell ⟨gb280, 2, none⟩ (.int .i64 ((rd_T99 l0_0 x3_1).f2))).heap[gb280]? = some (.cells #[.string ((rd_T99 l0_0 x3_1).f0), .string ((rd_T99 l0_0 x3_1).f1), .int .i64 ((rd_T99 l0_0 x3_1).f2)] 99 (0, 0))) := ⟨by (with_reducible repeat (first | refine blk_drewN ?_ _ | refine blk_drew ?_ | refine blk_alloc ?_ _)); refine blk_put (cs := #[.string ((rd_T99 l0_0 x3_1).f0), .string ((rd_T99 l0_0 x3_1).f1), .int .i64 0]) ?_ 2 _ rfl; (with_reducible repeat (first | refine blk_drewN ?_ _ | refine blk_drew ?_ | refine blk_alloc ?_ _)); refine blk_put (cs := #[.string ((rd_T99 l0_0 x3_1).f0), .string (⟨#[]⟩ : ByteArray), .int .i64 0]) ?_ 1 _ rfl; (with_reducible repeat (first | refine blk_drewN ?_ _ | refine blk_drew ?_ | refine blk_alloc ?_ _)); refine blk_put (cs := #[.string (⟨#[]⟩ : ByteArray), .string (⟨#[]⟩ : ByteArray), .int .i64 0]) ?_ 0 _ rfl; exact qf_ BK280⟩
      have n2_ : Aside0 (Below w.heap.size w (((w44.setCell ⟨gb280, 0, none⟩ (.string ((rd_T99 l0_0 x3_1).f0))).setCell ⟨gb280, 1, none⟩ (.string ((rd_T99 l0_0 x3_1).f1))).setCell ⟨gb280, 2, none⟩ (.int .i64 ((rd_T99 l0_0 x3_1).f2)))) := ⟨qB_⟩
      (try clear BK278); (try clear BK280); (try clear HB)
      generalize (((w44.setCell ⟨gb280, 0, none⟩ (.string ((rd_T99 l0_0 x3_1).f0))).setCell ⟨gb280, 1, none⟩ (.string ((rd_T99 l0_0 x3_1).f1))).setCell ⟨gb280, 2, none⟩ (.int .i64 ((rd_T99 l0_0 x3_1).f2))) = w47 at n0_ n1_ n2_ ⊢
      have BK278 := n0_; have BK280 := n1_; have HB := n2_; clear n0_ n1_ n2_
      replace BK278 := am_ (blk_drew BK278.out); replace BK280 := am_ (blk_drew BK280.out); replace HB := am_ (below_drew1 HB.out)
      refine start_ (n := 35) (S := fun w' => w'.cell? ⟨gb280, 0, none⟩ = some (.string ((rd_T99 l0_0 x3_1).f0)) ∧ w'.cell? ⟨gb280, 1, none⟩ = some (.string ((rd_T99 l0_0 x3_1).f1)) ∧ w'.cell? ⟨gb280, 2, none⟩ = some (.int .i64 ((rd_T99 l0_0 x3_1).f2))) (ds := []) (bm 35 0) (by kernel_rfl) rfl (by kernel_rfl) ⟨bl_ BK280 0, bl_ BK280 1, bl_ BK280 2⟩ (fun hHeld => ?_); refine with_tabW spec_DiskOk.tab7 spec_DiskOk.bits7 (fun HT_ HW_ => ?_)
      generalize w47.drew = w48 at BK278 BK280 HB hHeld ⊢
      refine pz_ 0 21 (bm 35 1) ?_; refine tz3_ 1 22 (bm 35 3) ?_
      refine o1_ 2 (some 23) (bm 35 7) (fun K hK => ?_)
      refine goes_ Try.func82 (by kernel_rfl) rfl #[.string ((rd_T99 l0_0 x3_1).f0)] (by rfl) rfl rfl (by (try simp only [List.map_toArray, List.map_cons, List.map_nil]); first | done | rfl | (simp only [List.length_drop, List.length_take]; rfl)) ?_
      with_reducible refine (spec_l03Name.calls ((rd_T99 l0_0 x3_1).f0) true _ A9.out).mono ?_
      rintro e w' ⟨rfl, ⟨nd, rfl⟩⟩
      refine ⟨_, rfl, ?_⟩
      refine hK.out _ _ ⟨bl_ BK280 0, bl_ BK280 1, bl_ BK280 2⟩ (fun hHeld => ?_)
      clear hK K
      refine nm_ 23 ?_
      refine pz_ 3 24 (bm 35 15) ?_; refine pz_ 4 25 (bm 35 31) ?_; refine pz_ 5 26 (bm 35 63) ?_; refine tz3_ 6 27 (bm 35 127) ?_; refine pz_ 7 28 (bm 35 255) ?_; refine pz_ 8 29 (bm 35 511) ?_; refine pz_ 9 30 (bm 35 1023) ?_; refine pz_ 10 31 (bm 35 2047) ?_; refine pz_ 11 32 (bm 35 4095) ?_; refine pz_ 13 34 (bm 35 12287) ?_; refine tz3_ 12 33 (bm 35 16383) ?_; refine tz3_ 14 35 (bm 35 32767) ?_; refine pz_ 15 36 (bm 35 65535) ?_
      refine o1_ 16 (some 37) (bm 35 131071) (fun K hK => ?_)
      refine goes_ Try.func64 (by kernel_rfl) rfl #[.int .i64 ((rd_T99 l0_0 x3_1).f2), .int .i64 0, .int .i64 (((rd_T99 l0_0 x3_1).f1).size : Int)] (by rfl) rfl rfl (by (try simp only [List.map_toArray, List.map_cons, List.map_nil]); first | done | rfl | (simp only [List.length_drop, List.length_take]; rfl)) ?_
      with_reducible refine (spec_l01In.calls ((rd_T99 l0_0 x3_1).f2) 0 (((rd_T99 l0_0 x3_1).f1).size : Int) false _ A18.out).mono ?_
      rintro e w' ⟨rfl, ⟨nd, rfl⟩⟩
      refine ⟨_, rfl, ?_⟩
      refine hK.out _ _ ⟨bl_ BK280 0, bl_ BK280 1, bl_ BK280 2⟩ (fun hHeld => ?_)
      clear hK K
      refine nm_ 37 ?_
      refine pz_ 17 38 (bm 35 262143) ?_; refine pz_ 18 39 (bm 35 524287) ?_; refine pz_ 19 40 (bm 35 1048575) ?_
      refine pu_ 20 41 (bm 35 2097151) ?_
      refine pu_ 21 42 (bm 35 4194303) ?_
      refine pu_ 22 43 (bm 35 8388607) ?_
      refine pu_ 23 44 (bm 35 16777215) ?_
      refine pu_ 24 45 (bm 35 33554431) ?_
      refine pu_ 25 46 (bm 35 67108863) ?_
      refine pu_ 26 47 (bm 35 134217727) ?_
      refine pu_ 27 48 (bm 35 268435455) ?_
      refine pu_ 28 49 (bm 35 536870911) ?_
      refine pu_ 29 50 (bm 35 1073741823) ?_
      refine pu_ 30 51 (bm 35 2147483647) ?_
      refine pu_ 31 52 (bm 35 4294967295) ?_
      refine pu_ 32 53 (bm 35 8589934591) ?_
      refine pu_ 33 54 (bm 35 17179869183) ?_
      refine pz_ 34 55 (bm 35 34359738367) ?_
      refine done_ (done_of HT_.out (by kernel_rfl)) ?_
      try go_wp2
      go_ret
      exact ⟨qr_, qB_⟩
     replace c10 := Bool.eq_false_iff.mpr c10
     subst c10
     rw [if_neg (show ¬ (false = true) by decide)] at H
     obtain rfl := Option.some.inj H
     obtain ⟨hcz49_0, hfz49_0⟩ := bc1_ BK278
     have p279 : 0 ≤ (x3_1 : Int) := of_decide_eq_true qa_
     have q279 : x3_1 < (l0_0.length : Int) := of_decide_eq_true qa_
     obtain ⟨ad279, e279, hx279_0, hx279_1, hx279_2⟩ := at_T99 HR0_0.out x3_1 p279 q279
     cases e279
     replace hx279_0 := qx_ HB hx279_0
     replace hx279_1 := qx_ HB hx279_1
     replace hx279_2 := qx_ HB hx279_2
     replace p279 := eq_true p279; replace q279 := eq_true q279
     try go_wp2_with (first | ((with_reducible refine gate_dst (N := 4) rfl ?_); (try (refine gate_guard (by rfl) ?_; dsimp only)); refine bx_ 4 (cs := #[.string (⟨#[]⟩ : ByteArray), .string (⟨#[]⟩ : ByteArray), .int .i64 0]) (t := 99) ?_; intro gb280 hg w50 hbox hb; have BK280 := am_ (hbox); have GW280 := am_ ((qs_ : w.heap.size ≤ gb280)); have GE280 := GW280; obtain ⟨NB278_280, NB280_278⟩ := qn_ BK278 hg; replace BK278 := qbl_ BK278 hb; replace HB := hs_ hb; clear hb hbox hg; obtain ⟨hnb51, hnc51⟩ := nn_ NB280_278; obtain ⟨hcz52_0, hcz52_1, hcz52_2, hfz52_0, hfz52_1, hfz52_2⟩ := bc3_ BK280))
     have n0_ : Aside0 ((((w50.setCell ⟨gb280, 0, none⟩ (.string ((rd_T99 l0_0 x3_1).f0))).setCell ⟨gb280, 1, none⟩ (.string ((rd_T99 l0_0 x3_1).f1))).setCell ⟨gb280, 2, none⟩ (.int .i64 ((rd_T99 l0_0 x3_1).f2))).heap[gb278]? = some (.cells #[.slice (some ad279) l0_0.length c0_0] 44 (0, 0))) := ⟨qf_ BK278⟩
     have n1_ : Aside0 ((((w50.setCell ⟨gb280, 0, none⟩ (.string ((rd_T99 l0_0 x3_1).f0))).setCell ⟨gb280, 1, none⟩ (.string ((rd_T99 l0_0 x3_1).f1))).setCell ⟨gb280, 2, none⟩ (.int .i64 ((rd_T99 l0_0 x3_1).f2))).heap[gb280]? = some (.cells #[.string ((rd_T99 l0_0 x3_1).f0), .string ((rd_T99 l0_0 x3_1).f1), .int .i64 ((rd_T99 l0_0 x3_1).f2)] 99 (0, 0))) := ⟨by (with_reducible repeat (first | refine blk_drewN ?_ _ | refine blk_drew ?_ | refine blk_alloc ?_ _)); refine blk_put (cs := #[.string ((rd_T99 l0_0 x3_1).f0), .string ((rd_T99 l0_0 x3_1).f1), .int .i64 0]) ?_ 2 _ rfl; (with_reducible repeat (first | refine blk_drewN ?_ _ | refine blk_drew ?_ | refine blk_alloc ?_ _)); refine blk_put (cs := #[.string ((rd_T99 l0_0 x3_1).f0), .string (⟨#[]⟩ : ByteArray), .int .i64 0]) ?_ 1 _ rfl; (with_reducible repeat (first | refine blk_drewN ?_ _ | refine blk_drew ?_ | refine blk_alloc ?_ _)); refine blk_put (cs := #[.string (⟨#[]⟩ : ByteArray), .string (⟨#[]⟩ : ByteArray), .int .i64 0]) ?_ 0 _ rfl; exact qf_ BK280⟩
     have n2_ : Aside0 (Below w.heap.size w (((w50.setCell ⟨gb280, 0, none⟩ (.string ((rd_T99 l0_0 x3_1).f0))).setCell ⟨gb280, 1, none⟩ (.string ((rd_T99 l0_0 x3_1).f1))).setCell ⟨gb280, 2, none⟩ (.int .i64 ((rd_T99 l0_0 x3_1).f2)))) := ⟨qB_⟩
     (try clear BK278); (try clear BK280); (try clear HB)
     generalize (((w50.setCell ⟨gb280, 0, none⟩ (.string ((rd_T99 l0_0 x3_1).f0))).setCell ⟨gb280, 1, none⟩ (.string ((rd_T99 l0_0 x3_1).f1))).setCell ⟨gb280, 2, none⟩ (.int .i64 ((rd_T99 l0_0 x3_1).f2))) = w53 at n0_ n1_ n2_ ⊢
     have BK278 := n0_; have BK280 := n1_; have HB := n2_; clear n0_ n1_ n2_
     replace BK278 := am_ (blk_drew BK278.out); replace BK280 := am_ (blk_drew BK280.out); replace HB := am_ (below_drew1 HB.out)
     refine start_ (n := 35) (S := fun w' => w'.cell? ⟨gb280, 0, none⟩ = some (.string ((rd_T99 l0_0 x3_1).f0)) ∧ w'.cell? ⟨gb280, 1, none⟩ = some (.string ((rd_T99 l0_0 x3_1).f1)) ∧ w'.cell? ⟨gb280, 2, none⟩ = some (.int .i64 ((rd_T99 l0_0 x3_1).f2))) (ds := []) (bm 35 0) (by kernel_rfl) rfl (by kernel_rfl) ⟨bl_ BK280 0, bl_ BK280 1, bl_ BK280 2⟩ (fun hHeld => ?_); refine with_tabW spec_DiskOk.tab7 spec_DiskOk.bits7 (fun HT_ HW_ => ?_)
     generalize w53.drew = w54 at BK278 BK280 HB hHeld ⊢
     refine pz_ 0 21 (bm 35 1) ?_; refine tz3_ 1 22 (bm 35 3) ?_
     refine o1_ 2 (some 23) (bm 35 7) (fun K hK => ?_)
     refine goes_ Try.func82 (by kernel_rfl) rfl #[.string ((rd_T99 l0_0 x3_1).f0)] (by rfl) rfl rfl (by (try simp only [List.map_toArray, List.map_cons, List.map_nil]); first | done | rfl | (simp only [List.length_drop, List.length_take]; rfl)) ?_
     with_reducible refine (spec_l03Name.calls ((rd_T99 l0_0 x3_1).f0) false _ A9.out).mono ?_
     rintro e w' ⟨rfl, ⟨nd, rfl⟩⟩
     refine ⟨_, rfl, ?_⟩
     refine hK.out _ _ ⟨bl_ BK280 0, bl_ BK280 1, bl_ BK280 2⟩ (fun hHeld => ?_)
     clear hK K
     refine nm_ 23 ?_
     refine pz_ 3 24 (bm 35 15) ?_; refine pz_ 4 25 (bm 35 31) ?_
     refine pu_ 5 26 (bm 35 63) ?_
     refine pu_ 6 27 (bm 35 127) ?_
     refine pu_ 7 28 (bm 35 255) ?_
     refine pu_ 8 29 (bm 35 511) ?_
     refine pz_ 9 30 (bm 35 1023) ?_; refine pz_ 10 31 (bm 35 2047) ?_
     refine pu_ 11 32 (bm 35 4095) ?_
     refine pu_ 12 33 (bm 35 8191) ?_
     refine pu_ 13 34 (bm 35 16383) ?_
     refine pu_ 14 35 (bm 35 32767) ?_
     refine pu_ 15 36 (bm 35 65535) ?_
     refine pu_ 16 37 (bm 35 131071) ?_
     refine pu_ 17 38 (bm 35 262143) ?_
     refine pz_ 18 39 (bm 35 524287) ?_; refine pz_ 19 40 (bm 35 1048575) ?_
     refine pu_ 20 41 (bm 35 2097151) ?_
     refine pu_ 21 42 (bm 35 4194303) ?_
     refine pu_ 22 43 (bm 35 8388607) ?_
     refine pu_ 23 44 (bm 35 16777215) ?_
     refine pu_ 24 45 (bm 35 33554431) ?_
     refine pu_ 25 46 (bm 35 67108863) ?_
     refine pu_ 26 47 (bm 35 134217727) ?_
     refine pu_ 27 48 (bm 35 268435455) ?_
     refine pu_ 28 49 (bm 35 536870911) ?_
     refine pu_ 29 50 (bm 35 1073741823) ?_
     refine pu_ 30 51 (bm 35 2147483647) ?_
     refine pu_ 31 52 (bm 35 4294967295) ?_
     refine pu_ 32 53 (bm 35 8589934591) ?_
     refine pu_ 33 54 (bm 35 17179869183) ?_
     refine pz_ 34 55 (bm 35 34359738367) ?_
     refine done_ (done_of HT_.out (by kernel_rfl)) ?_
     try go_wp2
     go_ret
     exact ⟨qr_, qB_⟩
    rw [if_neg c8] at H
    exact absurd H (by simp)
   rw [if_neg c7] at H
   have c7b0 : decide (x3_1 < (l0_0.length : Int)) = false := decide_eq_false c7
   clear c7
   obtain rfl := Option.some.inj H
   obtain ⟨hcz55_0, hfz55_0⟩ := bc1_ BK278
   go_wp2
   go_ret
   exact ⟨qr_, qB_⟩

end Go.Proofs.Ytacnlodcbbhahaa.QFnExactCutActs
