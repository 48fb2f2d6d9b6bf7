-- printed for this claim by a program of the session's own (no text of the kit's print)
import Derived.Test.YtacnlodcbbhahaaQFnExactCutActsx0
import Derived.Test.YtacnlodcbbhahaaQFnExactCutActsx6
namespace Go.Proofs.Ytacnlodcbbhahaa.QFnExactCutActs
open Go.RowKit Go.Proofs.YtacnlodcbbhahaaW.PrintWords Go.Proofs.YtacnlodcbbhahaaW.PrintLast Go.Proofs.YtacnlodcbbhahaaW.PrintMore
attribute [local go_sem] max2_int min2_int max_two min_two max_three min_three max_four min_four   -- for this text's walks alone
set_option linter.unusedVariables false
set_option linter.unusedSimpArgs false

/-! ### impl_DiskOk: function 77 -/
def impl_DiskOk.l0 : Nat → List (S99) → Int → Int → List (S99) → Option (Bool)
  | 0, _, _, _, _ => none
  | k + 1, x6, x7, x8, x185000 => if x8 < x7 then (if 0 ≤ x8 then (if x8 < (x6.length : Int) then ((impl_in.f (((rd_T99 x6 x8).f0).size : Int) 1 8).bind fun t187 => (if t187 = true then (if (((rd_T99 x6 x8).f1).size : Int) > 20000 then (some false) else ((impl_in.f ((rd_T99 x6 x8).f2) 0 (((rd_T99 x6 x8).f1).size : Int)).bind fun t188 => (if t188 = true then (if x8 > 0 then (if 0 ≤ (wrap64 (x8 - 1)) then (if (wrap64 (x8 - 1)) < (x185000.length : Int) then (if ((Op.bytesLess (((rd_T99 x185000 (wrap64 (x8 - 1))).f0).toList) (((rd_T99 x6 x8).f0).toList)) = true) then (impl_DiskOk.l0 k x6 x7 (wrap64 (x8 + 1)) x185000) else (some false)) else (none)) else (none)) else (impl_DiskOk.l0 k x6 x7 (wrap64 (x8 + 1)) x185000)) else (some false)))) else (some false))) else (none)) else (none)) else (some (decide ((x185000.length : Int) ≤ 30)))
def impl_DiskOk.f (k : Nat) (l0_0 : List (S99)) : Option (Bool) := impl_DiskOk.l0 k l0_0 (l0_0.length : Int) 0 l0_0
theorem impl_DiskOk.mono_l : ∀ k, (∀ y0 y1 y2 y3, LeO (impl_DiskOk.l0 k y0 y1 y2 y3) (impl_DiskOk.l0 (k + 1) y0 y1 y2 y3))
  | 0 => fun _ _ _ _ r h => by simp [impl_DiskOk.l0] at h
  | k + 1 => by
    have ih0 := impl_DiskOk.mono_l k
    · intro y0 y1 y2 y3
      unfold impl_DiskOk.l0
      repeat' first | (with_reducible first | exact ih0 _ _ _ _ | exact LeO.refl _ | exact LeO.none _ | refine LeO.ite ?_ ?_ | refine LeO.bind ?_ (fun _ => ?_)) | exact LeO.none _ | refine LeO.ite ?_ ?_ | refine LeO.bind ?_ (fun _ => ?_)
theorem impl_DiskOk.mono : ∀ a0 k, LeO (impl_DiskOk.f k a0) (impl_DiskOk.f (k + 1) a0) := by
  intro a0 k
  have ih0 := impl_DiskOk.mono_l k
  unfold impl_DiskOk.f
  repeat' first | (with_reducible first | exact ih0 _ _ _ _ | exact LeO.refl _ | exact LeO.none _ | refine LeO.ite ?_ ?_ | refine LeO.bind ?_ (fun _ => ?_)) | exact LeO.none _ | refine LeO.ite ?_ ?_ | refine LeO.bind ?_ (fun _ => ?_)
def impl_DiskOk.T4 : Bool × List (List Nat × List Nat) := (true, [([], []), ([0], [0]), ([1], [1]), ([2], [2]), ([3], [3]), ([4, 3], [4]), ([5], [5]), ([6, 5], [5, 6]), ([7, 5], [5, 7]), ([8, 5], [5, 8]), ([5, 9], [5, 9]), ([10, 5], [10]), ([11], [11]), ([12, 11], [11, 12]), ([11], [11]), ([14, 11], [11, 14]), ([15, 11], [11, 15]), ([13, 16, 11, 11], [11, 13, 16]), ([17, 11], [11, 17]), ([11, 18], [11, 18]), ([19, 17], [19]), ([20], [20]), ([21, 20], [20, 21]), ([22, 20, 20], [20, 22]), ([23], [23]), ([24, 23], [23, 24]), ([23], [23]), ([26, 23], [23, 26]), ([25, 27, 23], [23, 25, 27]), ([28, 23], [23, 28]), ([29, 23], [23, 29]), ([23], [23]), ([31, 23], [23, 31]), ([30, 32, 23], [23, 30, 32]), ([23, 33, 20], [20, 23, 33]), ([20, 34], [20, 34])])
def impl_DiskOk.B4 : List Nat := [0, 1, 3, 7, 15, 31, 63, 127, 255, 511, 1023, 2047, 4095, 8191, 4095, 20479, 53247, 131071, 262143, 524287, 1048575, 2097151, 4194303, 8388607, 16777215, 33554431, 16777215, 83886079, 268435455, 536870911, 1073741823, 16777215, 2164260863, 8589934591, 17179869183, 34359738367]
theorem impl_DiskOk.tab4 : rtab .any (opsOf Try.f77 4) = impl_DiskOk.T4 := by kernel_rfl
theorem impl_DiskOk.bits4 : waitsOk impl_DiskOk.T4.2 impl_DiskOk.B4 = true := by kernel_rfl
set_option maxHeartbeats 8000000 in
set_option maxRecDepth 100000 in
theorem impl_DiskOk.calls (k : Nat) (A0_0 : Option Addr) (c0_0 : Nat) (l0_0 : List (S99)) (r : Bool) (w : World) (hr0_0 : Kd.C k99 w A0_0 l0_0.length l0_0) (hc0_0 : l0_0.length ≤ c0_0) (h : impl_DiskOk.f k l0_0 = some r) :
  Calls Try.prog 77 #[.agg #[.slice A0_0 l0_0.length c0_0]] w fun e w' => e = .returned (.bool r) ∧ Below w.heap.size w w' := by
 have hu44 := Try.underlying44; have hu99 := Try.underlying99
 have HR0_0 := am_ hr0_0
 have HC0_0 := am_ hc0_0
 clear hr0_0 hc0_0
 have HB := am_ (Below.refl w.heap.size w)
 have H : (impl_DiskOk.l0 k l0_0 (l0_0.length : Int) 0 l0_0) = some r := h
 clear h; have H' := am_ H; clear H
 go_enter Try.func77, Try.ntmps77
 go_wp2_with (first | ((with_reducible refine gate_dst (N := 1) rfl ?_); (try (refine gate_guard (by rfl) ?_; dsimp only)); refine bx_ 1 (cs := #[.slice A0_0 l0_0.length c0_0]) (t := 44) ?_; intro gb184 hg w2 hbox hb; have BK184 := am_ (hbox); have GW184 := am_ ((qs_ : w.heap.size ≤ gb184)); have GE184 := GW184; replace HB := hs_ hb; clear hb hbox hg; obtain ⟨hcz3_0, hfz3_0⟩ := bc1_ BK184))
 go_loopg [8] k (fun kq v8 w' => ∃ (x8_1 : Int), v8 = .int .i64 x8_1 ∧ Aside0 (impl_DiskOk.l0 kq l0_0 (l0_0.length : Int) x8_1 l0_0 = some r) ∧ Aside0 (kq ≤ k) ∧ Aside0 (w'.heap[gb184]? = some (.cells #[(.slice A0_0 l0_0.length c0_0)] 44 (0, 0))) ∧ Aside0 (Below w.heap.size w w'))
 case atStart => exact ⟨(0), qe_, H', ⟨Nat.le_refl _⟩, ⟨qk_ BK184⟩, ⟨qB_⟩⟩
 case round =>
  clear H'
  (try clear p2); (try clear hcz3_0 hfz3_0)
  obtain ⟨x8_1, rfl, HA, HK1, BK184, HB⟩ := hrel
  cases gk with
  | zero => exact absurd HA.out (by simp [impl_DiskOk.l0])
  | succ k1 =>
   have H := HA.out; clear HA
   simp only [impl_DiskOk.l0] at H
   by_cases c4 : x8_1 < (l0_0.length : Int)
   ·rw [if_pos c4] at H
    have c4b0 : decide (x8_1 < (l0_0.length : Int)) = true := decide_eq_true c4
    clear c4
    by_cases c5 : 0 ≤ x8_1
    ·rw [if_pos c5] at H
     have c5b0 : decide (0 ≤ x8_1) = true := decide_eq_true c5
     clear c5
     by_cases c6 : x8_1 < (l0_0.length : Int)
     ·rw [if_pos c6] at H
      have c6b0 : decide (x8_1 < (l0_0.length : Int)) = true := decide_eq_true c6
      clear c6
      obtain ⟨t187, A70, H⟩ := Option.bind_eq_some_iff.mp H; have A7 := am_ A70; clear A70
      by_cases c8 : t187 = true
      ·subst c8
       rw [if_pos rfl] at H
       by_cases c9 : (((rd_T99 l0_0 x8_1).f1).size : Int) > 20000
       ·rw [if_pos c9] at H
        have c9b0 : decide (20000 < (((rd_T99 l0_0 x8_1).f1).size : Int)) = true := decide_eq_true c9
        have c9b1 : decide (20000 < ((rd_T99 l0_0 x8_1).f1).size) = true := decide_eq_true (by omega)
        clear c9
        obtain rfl := Option.some.inj H
        have p185 : 0 ≤ (x8_1 : Int) := of_decide_eq_true qa_
        have q185 : x8_1 < (l0_0.length : Int) := of_decide_eq_true qa_
        obtain ⟨ad185, e185, hx185_0, hx185_1, hx185_2⟩ := at_T99 HR0_0.out x8_1 p185 q185
        cases e185
        replace hx185_0 := qx_ HB hx185_0
        replace hx185_1 := qx_ HB hx185_1
        replace hx185_2 := qx_ HB hx185_2
        replace p185 := eq_true p185; replace q185 := eq_true q185
        try go_wp2_with (first | ((with_reducible refine gate_dst (N := 4) rfl ?_); (try (refine gate_guard (by rfl) ?_; dsimp only)); refine bx_ 4 (cs := #[.string (⟨#[]⟩ : ByteArray), .string (⟨#[]⟩ : ByteArray), .int .i64 0]) (t := 99) ?_; intro gb186 hg w10 hbox hb; have BK186 := am_ (hbox); have GW186 := am_ ((qs_ : w.heap.size ≤ gb186)); have GE186 := GW186; obtain ⟨NB184_186, NB186_184⟩ := qn_ BK184 hg; replace BK184 := qbl_ BK184 hb; replace HB := hs_ hb; clear hb hbox hg; obtain ⟨hnb11, hnc11⟩ := nn_ NB186_184; obtain ⟨hcz12_0, hcz12_1, hcz12_2, hfz12_0, hfz12_1, hfz12_2⟩ := bc3_ BK186))
        have n0_ : Aside0 ((((w10.setCell ⟨gb186, 0, none⟩ (.string ((rd_T99 l0_0 x8_1).f0))).setCell ⟨gb186, 1, none⟩ (.string ((rd_T99 l0_0 x8_1).f1))).setCell ⟨gb186, 2, none⟩ (.int .i64 ((rd_T99 l0_0 x8_1).f2))).heap[gb184]? = some (.cells #[.slice (some ad185) l0_0.length c0_0] 44 (0, 0))) := ⟨qf_ BK184⟩
        have n1_ : Aside0 ((((w10.setCell ⟨gb186, 0, none⟩ (.string ((rd_T99 l0_0 x8_1).f0))).setCell ⟨gb186, 1, none⟩ (.string ((rd_T99 l0_0 x8_1).f1))).setCell ⟨gb186, 2, none⟩ (.int .i64 ((rd_T99 l0_0 x8_1).f2))).heap[gb186]? = some (.cells #[.string ((rd_T99 l0_0 x8_1).f0), .string ((rd_T99 l0_0 x8_1).f1), .int .i64 ((rd_T99 l0_0 x8_1).f2)] 99 (0, 0))) := ⟨by (with_reducible repeat (first | refine blk_drewN ?_ _ | refine blk_drew ?_ | refine blk_alloc ?_ _)); refine blk_put (cs := #[.string ((rd_T99 l0_0 x8_1).f0), .string ((rd_T99 l0_0 x8_1).f1), .int .i64 0]) ?_ 2 _ rfl; (with_reducible repeat (first | refine blk_drewN ?_ _ | refine blk_drew ?_ | refine blk_alloc ?_ _)); refine blk_put (cs := #[.string ((rd_T99 l0_0 x8_1).f0), .string (⟨#[]⟩ : ByteArray), .int .i64 0]) ?_ 1 _ rfl; (with_reducible repeat (first | refine blk_drewN ?_ _ | refine blk_drew ?_ | refine blk_alloc ?_ _)); refine blk_put (cs := #[.string (⟨#[]⟩ : ByteArray), .string (⟨#[]⟩ : ByteArray), .int .i64 0]) ?_ 0 _ rfl; exact qf_ BK186⟩
        have n2_ : Aside0 (Below w.heap.size w (((w10.setCell ⟨gb186, 0, none⟩ (.string ((rd_T99 l0_0 x8_1).f0))).setCell ⟨gb186, 1, none⟩ (.string ((rd_T99 l0_0 x8_1).f1))).setCell ⟨gb186, 2, none⟩ (.int .i64 ((rd_T99 l0_0 x8_1).f2)))) := ⟨qB_⟩
        (try clear BK184); (try clear BK186); (try clear HB)
        generalize (((w10.setCell ⟨gb186, 0, none⟩ (.string ((rd_T99 l0_0 x8_1).f0))).setCell ⟨gb186, 1, none⟩ (.string ((rd_T99 l0_0 x8_1).f1))).setCell ⟨gb186, 2, none⟩ (.int .i64 ((rd_T99 l0_0 x8_1).f2))) = w13 at n0_ n1_ n2_ ⊢
        have BK184 := n0_; have BK186 := n1_; have HB := n2_; clear n0_ n1_ n2_
        replace BK184 := am_ (blk_drew BK184.out); replace BK186 := am_ (blk_drew BK186.out); replace HB := am_ (below_drew1 HB.out)
        refine start_ (n := 36) (S := fun w' => w'.cell? ⟨gb186, 0, none⟩ = some (.string ((rd_T99 l0_0 x8_1).f0)) ∧ w'.cell? ⟨gb186, 1, none⟩ = some (.string ((rd_T99 l0_0 x8_1).f1)) ∧ w'.cell? ⟨gb186, 2, none⟩ = some (.int .i64 ((rd_T99 l0_0 x8_1).f2))) (ds := []) (bm 36 0) (by kernel_rfl) rfl (by kernel_rfl) ⟨bl_ BK186 0, bl_ BK186 1, bl_ BK186 2⟩ (fun hHeld => ?_); refine with_tabW impl_DiskOk.tab4 impl_DiskOk.bits4 (fun HT_ HW_ => ?_)
        generalize w13.drew = w14 at BK184 BK186 HB hHeld ⊢
        refine pz_ 0 13 (bm 36 1) ?_; refine tz3_ 1 14 (bm 36 3) ?_; refine pz_ 2 15 (bm 36 7) ?_
        refine o1_ 3 (some 16) (bm 36 15) (fun K hK => ?_)
        refine goes_ Try.func69 (by kernel_rfl) rfl #[.int .i64 (((rd_T99 l0_0 x8_1).f0).size : Int), .int .i64 1, .int .i64 8] (by rfl) rfl rfl (by (try simp only [List.map_toArray, List.map_cons, List.map_nil]); first | done | rfl | (simp only [List.length_drop, List.length_take]; rfl)) ?_
        with_reducible refine (impl_in.calls (((rd_T99 l0_0 x8_1).f0).size : Int) 1 8 true _ A7.out).mono ?_
        rintro e w' ⟨rfl, ⟨nd, rfl⟩⟩
        refine ⟨_, rfl, ?_⟩
        refine hK.out _ _ ⟨bl_ BK186 0, bl_ BK186 1, bl_ BK186 2⟩ (fun hHeld => ?_)
        clear hK K
        refine nm_ 16 ?_
        refine pz_ 4 17 (bm 36 31) ?_; refine pz_ 5 18 (bm 36 63) ?_; refine pz_ 6 19 (bm 36 127) ?_; refine tz3_ 7 20 (bm 36 255) ?_; refine pz_ 8 21 (bm 36 511) ?_; refine pz_ 9 22 (bm 36 1023) ?_; refine pz_ 10 23 (bm 36 2047) ?_; refine pz_ 11 24 (bm 36 4095) ?_
        refine pu_ 12 25 (bm 36 8191) ?_
        refine pu_ 13 26 (bm 36 16383) ?_
        refine pu_ 14 27 (bm 36 32767) ?_
        refine pu_ 15 28 (bm 36 65535) ?_
        refine pu_ 16 29 (bm 36 131071) ?_
        refine pu_ 17 30 (bm 36 262143) ?_
        refine pu_ 18 31 (bm 36 524287) ?_
        refine pz_ 19 32 (bm 36 1048575) ?_; refine pz_ 20 33 (bm 36 2097151) ?_
        refine pu_ 21 34 (bm 36 4194303) ?_
        refine pu_ 22 35 (bm 36 8388607) ?_
        refine pu_ 23 36 (bm 36 16777215) ?_
        refine pu_ 24 37 (bm 36 33554431) ?_
        refine pu_ 25 38 (bm 36 67108863) ?_
        refine pu_ 26 39 (bm 36 134217727) ?_
        refine pu_ 27 40 (bm 36 268435455) ?_
        refine pu_ 28 41 (bm 36 536870911) ?_
        refine pu_ 29 42 (bm 36 1073741823) ?_
        refine pu_ 30 43 (bm 36 2147483647) ?_
        refine pu_ 31 44 (bm 36 4294967295) ?_
        refine pu_ 32 45 (bm 36 8589934591) ?_
        refine pu_ 33 46 (bm 36 17179869183) ?_
        refine pu_ 34 47 (bm 36 34359738367) ?_
        refine pz_ 35 48 (bm 36 68719476735) ?_
        refine done_ (done_of HT_.out (by kernel_rfl)) ?_
        try go_wp2
        go_ret
        exact ⟨qr_, qB_⟩
       rw [if_neg c9] at H
       have c9b0 : decide (20000 < (((rd_T99 l0_0 x8_1).f1).size : Int)) = false := decide_eq_false c9
       have c9b1 : decide (20000 < ((rd_T99 l0_0 x8_1).f1).size) = false := decide_eq_false (by omega)
       clear c9
       obtain ⟨t188, A150, H⟩ := Option.bind_eq_some_iff.mp H; have A15 := am_ A150; clear A150
       by_cases c16 : t188 = true
       ·subst c16
        rw [if_pos rfl] at H
        by_cases c17 : x8_1 > 0
        ·rw [if_pos c17] at H
         have c17b0 : decide (0 < x8_1) = true := decide_eq_true c17
         clear c17
         obtain ⟨ji18, hji18⟩ : ∃ j_ : Int, (wrap64 (x8_1 - 1)) = j_ := ⟨_, rfl⟩
         first | rw [hji18] at H | simp only [hji18] at H
         (try rw [hji18] at A7)
         (try rw [hji18] at A15)
         have hji18w : (IntKind.i64.wrap (x8_1 - 1)) = ji18 := (i64_w _).trans hji18
         by_cases c19 : 0 ≤ (ji18)
         ·rw [if_pos c19] at H
          have c19b0 : decide (0 ≤ (ji18)) = true := decide_eq_true c19
          clear c19
          by_cases c20 : (ji18) < (l0_0.length : Int)
          ·rw [if_pos c20] at H
           have c20b0 : decide ((ji18) < (l0_0.length : Int)) = true := decide_eq_true c20
           clear c20
           by_cases c21 : ((Op.bytesLess (((rd_T99 l0_0 (ji18)).f0).toList) (((rd_T99 l0_0 x8_1).f0).toList)) = true)
           ·rw [if_pos c21] at H
            have c21b0 : (Op.bytesLess (((rd_T99 l0_0 (ji18)).f0).toList) (((rd_T99 l0_0 x8_1).f0).toList)) = true := c21
            clear c21; have H' := am_ H; clear H
            have p185 : 0 ≤ (x8_1 : Int) := of_decide_eq_true qa_
            have q185 : x8_1 < (l0_0.length : Int) := of_decide_eq_true qa_
            obtain ⟨ad185, e185, hx185_0, hx185_1, hx185_2⟩ := at_T99 HR0_0.out x8_1 p185 q185
            cases e185
            replace hx185_0 := qx_ HB hx185_0
            replace hx185_1 := qx_ HB hx185_1
            replace hx185_2 := qx_ HB hx185_2
            replace p185 := eq_true p185; replace q185 := eq_true q185
            try go_wp2_with (first | ((with_reducible refine gate_dst (N := 4) rfl ?_); (try (refine gate_guard (by rfl) ?_; dsimp only)); refine bx_ 4 (cs := #[.string (⟨#[]⟩ : ByteArray), .string (⟨#[]⟩ : ByteArray), .int .i64 0]) (t := 99) ?_; intro gb186 hg w22 hbox hb; have BK186 := am_ (hbox); have GW186 := am_ ((qs_ : w.heap.size ≤ gb186)); have GE186 := GW186; obtain ⟨NB184_186, NB186_184⟩ := qn_ BK184 hg; replace BK184 := qbl_ BK184 hb; replace HB := hs_ hb; clear hb hbox hg; obtain ⟨hnb23, hnc23⟩ := nn_ NB186_184; obtain ⟨hcz24_0, hcz24_1, hcz24_2, hfz24_0, hfz24_1, hfz24_2⟩ := bc3_ BK186))
            have n0_ : Aside0 ((((w22.setCell ⟨gb186, 0, none⟩ (.string ((rd_T99 l0_0 x8_1).f0))).setCell ⟨gb186, 1, none⟩ (.string ((rd_T99 l0_0 x8_1).f1))).setCell ⟨gb186, 2, none⟩ (.int .i64 ((rd_T99 l0_0 x8_1).f2))).heap[gb184]? = some (.cells #[.slice (some ad185) l0_0.length c0_0] 44 (0, 0))) := ⟨qf_ BK184⟩
            have n1_ : Aside0 ((((w22.setCell ⟨gb186, 0, none⟩ (.string ((rd_T99 l0_0 x8_1).f0))).setCell ⟨gb186, 1, none⟩ (.string ((rd_T99 l0_0 x8_1).f1))).setCell ⟨gb186, 2, none⟩ (.int .i64 ((rd_T99 l0_0 x8_1).f2))).heap[gb186]? = some (.cells #[.string ((rd_T99 l0_0 x8_1).f0), .string ((rd_T99 l0_0 x8_1).f1), .int .i64 ((rd_T99 l0_0 x8_1).f2)] 99 (0, 0))) := ⟨by (with_reducible repeat (first | refine blk_drewN ?_ _ | refine blk_drew ?_ | refine blk_alloc ?_ _)); refine blk_put (cs := #[.string ((rd_T99 l0_0 x8_1).f0), .string ((rd_T99 l0_0 x8_1).f1), .int .i64 0]) ?_ 2 _ rfl; (with_reducible repeat (first | refine blk_drewN ?_ _ | refine blk_drew ?_ | refine blk_alloc ?_ _)); refine blk_put (cs := #[.string ((rd_T99 l0_0 x8_1).f0), .string (⟨#[]⟩ : ByteArray), .int .i64 0]) ?_ 1 _ rfl; (with_reducible repeat (first | refine blk_drewN ?_ _ | refine blk_drew ?_ | refine blk_alloc ?_ _)); refine blk_put (cs := #[.string (⟨#[]⟩ : ByteArray), .string (⟨#[]⟩ : ByteArray), .int .i64 0]) ?_ 0 _ rfl; exact qf_ BK186⟩
            have n2_ : Aside0 (Below w.heap.size w (((w22.setCell ⟨gb186, 0, none⟩ (.string ((rd_T99 l0_0 x8_1).f0))).setCell ⟨gb186, 1, none⟩ (.string ((rd_T99 l0_0 x8_1).f1))).setCell ⟨gb186, 2, none⟩ (.int .i64 ((rd_T99 l0_0 x8_1).f2)))) := ⟨qB_⟩
            (try clear BK184); (try clear BK186); (try clear HB)
            generalize (((w22.setCell ⟨gb186, 0, none⟩ (.string ((rd_T99 l0_0 x8_1).f0))).setCell ⟨gb186, 1, none⟩ (.string ((rd_T99 l0_0 x8_1).f1))).setCell ⟨gb186, 2, none⟩ (.int .i64 ((rd_T99 l0_0 x8_1).f2))) = w25 at n0_ n1_ n2_ ⊢
            have BK184 := n0_; have BK186 := n1_; have HB := n2_; clear n0_ n1_ n2_
            replace BK184 := am_ (blk_drew BK184.out); replace BK186 := am_ (blk_drew BK186.out); replace HB := am_ (below_drew1 HB.out)
            have p189 : 0 ≤ ((ji18) : Int) := of_decide_eq_true qa_
            have q189 : (ji18) < (l0_0.length : Int) := of_decide_eq_true qa_
            obtain ⟨ad189, e189, hx189_0, hx189_1, hx189_2⟩ := at_T99 HR0_0.out (ji18) p189 q189
            have hw189_2 := hx189_2; have hw189_1 := hx189_1; have hw189_0 := hx189_0
            obtain rfl : ad185 = ad189 := (by injection e189)
            replace hx189_0 := qx_ HB hx189_0
            replace hx189_1 := qx_ HB hx189_1
            replace hx189_2 := qx_ HB hx189_2
            replace p189 := eq_true p189; replace q189 := eq_true q189
            refine start_ (n := 36) (S := fun w' => w'.cell? ⟨gb186, 0, none⟩ = some (.string ((rd_T99 l0_0 x8_1).f0)) ∧ w'.cell? ⟨gb186, 1, none⟩ = some (.string ((rd_T99 l0_0 x8_1).f1)) ∧ w'.cell? ⟨gb186, 2, none⟩ = some (.int .i64 ((rd_T99 l0_0 x8_1).f2)) ∧ w'.cell? ⟨gb184, 0, none⟩ = some (.slice (some ad185) l0_0.length c0_0) ∧ w'.cell? (ad185.add (((ji18)).toNat * 3)) = some (.string ((rd_T99 l0_0 (ji18)).f0)) ∧ w'.cell? ⟨(ad185.add (((ji18)).toNat * 3)).block, (ad185.add (((ji18)).toNat * 3)).off + 1, none⟩ = some (.string ((rd_T99 l0_0 (ji18)).f1)) ∧ w'.cell? ⟨(ad185.add (((ji18)).toNat * 3)).block, (ad185.add (((ji18)).toNat * 3)).off + 2, none⟩ = some (.int .i64 ((rd_T99 l0_0 (ji18)).f2))) (ds := []) (bm 36 0) (by kernel_rfl) rfl (by kernel_rfl) ⟨bl_ BK186 0, bl_ BK186 1, bl_ BK186 2, bl_ BK184 0, ((qx_ HB hw189_0).trans rfl), ((qx_ HB hw189_1).trans rfl), ((qx_ HB hw189_2).trans rfl)⟩ (fun hHeld => ?_); refine with_tabW impl_DiskOk.tab4 impl_DiskOk.bits4 (fun HT_ HW_ => ?_)
            generalize w25.drew = w26 at BK184 BK186 HB hx189_0 hx189_1 hx189_2 hHeld ⊢
            refine pz_ 0 13 (bm 36 1) ?_; refine tz7_ 1 14 (bm 36 3) ?_; refine pz_ 2 15 (bm 36 7) ?_
            refine o1_ 3 (some 16) (bm 36 15) (fun K hK => ?_)
            refine goes_ Try.func69 (by kernel_rfl) rfl #[.int .i64 (((rd_T99 l0_0 x8_1).f0).size : Int), .int .i64 1, .int .i64 8] (by rfl) rfl rfl (by (try simp only [List.map_toArray, List.map_cons, List.map_nil]); first | done | rfl | (simp only [List.length_drop, List.length_take]; rfl)) ?_
            with_reducible refine (impl_in.calls (((rd_T99 l0_0 x8_1).f0).size : Int) 1 8 true _ A7.out).mono ?_
            rintro e w' ⟨rfl, ⟨nd, rfl⟩⟩
            refine ⟨_, rfl, ?_⟩
            refine hK.out _ _ ⟨bl_ BK186 0, bl_ BK186 1, bl_ BK186 2, bl_ BK184 0, ((qx_ HB hw189_0).trans rfl), ((qx_ HB hw189_1).trans rfl), ((qx_ HB hw189_2).trans rfl)⟩ (fun hHeld => ?_)
            clear hK K
            refine nm_ 16 ?_
            refine pz_ 4 17 (bm 36 31) ?_; refine pz_ 5 18 (bm 36 63) ?_; refine pz_ 6 19 (bm 36 127) ?_; refine tz7_ 7 20 (bm 36 255) ?_; refine pz_ 8 21 (bm 36 511) ?_; refine pz_ 9 22 (bm 36 1023) ?_; refine pz_ 10 23 (bm 36 2047) ?_; refine pz_ 11 24 (bm 36 4095) ?_; refine pz_ 12 25 (bm 36 8191) ?_; refine pz_ 14 27 (bm 36 24575) ?_; refine tz7_ 13 26 (bm 36 32767) ?_; refine tz7_ 15 28 (bm 36 65535) ?_; refine pz_ 16 29 (bm 36 131071) ?_
            refine o1_ 17 (some 30) (bm 36 262143) (fun K hK => ?_)
            refine goes_ Try.func69 (by kernel_rfl) rfl #[.int .i64 ((rd_T99 l0_0 x8_1).f2), .int .i64 0, .int .i64 (((rd_T99 l0_0 x8_1).f1).size : Int)] (by rfl) rfl rfl (by (try simp only [List.map_toArray, List.map_cons, List.map_nil]); first | done | rfl | (simp only [List.length_drop, List.length_take]; rfl)) ?_
            with_reducible refine (impl_in.calls ((rd_T99 l0_0 x8_1).f2) 0 (((rd_T99 l0_0 x8_1).f1).size : Int) true _ A15.out).mono ?_
            rintro e w' ⟨rfl, ⟨nd, rfl⟩⟩
            refine ⟨_, rfl, ?_⟩
            refine hK.out _ _ ⟨bl_ BK186 0, bl_ BK186 1, bl_ BK186 2, bl_ BK184 0, ((qx_ HB hw189_0).trans rfl), ((qx_ HB hw189_1).trans rfl), ((qx_ HB hw189_2).trans rfl)⟩ (fun hHeld => ?_)
            clear hK K
            refine nm_ 30 ?_
            refine pz_ 18 31 (bm 36 524287) ?_; refine pz_ 19 32 (bm 36 1048575) ?_; refine pz_ 20 33 (bm 36 2097151) ?_; refine pz_ 21 34 (bm 36 4194303) ?_; refine pz_ 22 35 (bm 36 8388607) ?_; refine pz_ 23 36 (bm 36 16777215) ?_; refine pz_ 24 37 (bm 36 33554431) ?_; refine pz_ 26 39 (bm 36 100663295) ?_; refine pz_ 27 40 (bm 36 234881023) ?_; refine pz_ 31 44 (bm 36 2382364671) ?_; refine tz7_ 25 38 (bm 36 2415919103) ?_; refine pz_ 28 41 (bm 36 2684354559) ?_; refine pz_ 29 42 (bm 36 3221225471) ?_; refine tz7_ 30 43 (bm 36 4294967295) ?_; refine tz7_ 32 45 (bm 36 8589934591) ?_; refine pz_ 33 46 (bm 36 17179869183) ?_; refine pz_ 34 47 (bm 36 34359738367) ?_; refine pz_ 35 48 (bm 36 68719476735) ?_
            refine done_ (done_of HT_.out (by kernel_rfl)) ?_
            try go_wp2
            go_roundg k1
            case measure => have := HK1.out; omega
            case rel => exact ⟨(wrap64 (x8_1 + 1)), qe_, H', ⟨by have := HK1.out; omega⟩, ⟨qk_ BK184⟩, ⟨qB_⟩⟩
           rw [if_neg c21] at H
           have c21b0 : (Op.bytesLess (((rd_T99 l0_0 (ji18)).f0).toList) (((rd_T99 l0_0 x8_1).f0).toList)) = false := by simpa using c21
           clear c21
           obtain rfl := Option.some.inj H
           have p185 : 0 ≤ (x8_1 : Int) := of_decide_eq_true qa_
           have q185 : x8_1 < (l0_0.length : Int) := of_decide_eq_true qa_
           obtain ⟨ad185, e185, hx185_0, hx185_1, hx185_2⟩ := at_T99 HR0_0.out x8_1 p185 q185
           cases e185
           replace hx185_0 := qx_ HB hx185_0
           replace hx185_1 := qx_ HB hx185_1
           replace hx185_2 := qx_ HB hx185_2
           replace p185 := eq_true p185; replace q185 := eq_true q185
           try go_wp2_with (first | ((with_reducible refine gate_dst (N := 4) rfl ?_); (try (refine gate_guard (by rfl) ?_; dsimp only)); refine bx_ 4 (cs := #[.string (⟨#[]⟩ : ByteArray), .string (⟨#[]⟩ : ByteArray), .int .i64 0]) (t := 99) ?_; intro gb186 hg w27 hbox hb; have BK186 := am_ (hbox); have GW186 := am_ ((qs_ : w.heap.size ≤ gb186)); have GE186 := GW186; obtain ⟨NB184_186, NB186_184⟩ := qn_ BK184 hg; replace BK184 := qbl_ BK184 hb; replace HB := hs_ hb; clear hb hbox hg; obtain ⟨hnb28, hnc28⟩ := nn_ NB186_184; obtain ⟨hcz29_0, hcz29_1, hcz29_2, hfz29_0, hfz29_1, hfz29_2⟩ := bc3_ BK186))
           have n0_ : Aside0 ((((w27.setCell ⟨gb186, 0, none⟩ (.string ((rd_T99 l0_0 x8_1).f0))).setCell ⟨gb186, 1, none⟩ (.string ((rd_T99 l0_0 x8_1).f1))).setCell ⟨gb186, 2, none⟩ (.int .i64 ((rd_T99 l0_0 x8_1).f2))).heap[gb184]? = some (.cells #[.slice (some ad185) l0_0.length c0_0] 44 (0, 0))) := ⟨qf_ BK184⟩
           have n1_ : Aside0 ((((w27.setCell ⟨gb186, 0, none⟩ (.string ((rd_T99 l0_0 x8_1).f0))).setCell ⟨gb186, 1, none⟩ (.string ((rd_T99 l0_0 x8_1).f1))).setCell ⟨gb186, 2, none⟩ (.int .i64 ((rd_T99 l0_0 x8_1).f2))).heap[gb186]? = some (.cells #[.string ((rd_T99 l0_0 x8_1).f0), .string ((rd_T99 l0_0 x8_1).f1), .int .i64 ((rd_T99 l0_0 x8_1).f2)] 99 (0, 0))) := ⟨by (with_reducible repeat (first | refine blk_drewN ?_ _ | refine blk_drew ?_ | refine blk_alloc ?_ _)); refine blk_put (cs := #[.string ((rd_T99 l0_0 x8_1).f0), .string ((rd_T99 l0_0 x8_1).f1), .int .i64 0]) ?_ 2 _ rfl; (with_reducible repeat (first | refine blk_drewN ?_ _ | refine blk_drew ?_ | refine blk_alloc ?_ _)); refine blk_put (cs := #[.string ((rd_T99 l0_0 x8_1).f0), .string (⟨#[]⟩ : ByteArray), .int .i64 0]) ?_ 1 _ rfl; (with_reducible repeat (first | refine blk_drewN ?_ _ | refine blk_drew ?_ | refine blk_alloc ?_ _)); refine blk_put (cs := #[.string (⟨#[]⟩ : ByteArray), .string (⟨#[]⟩ : ByteArray), .int .i64 0]) ?_ 0 _ rfl; exact qf_ BK186⟩
           have n2_ : Aside0 (Below w.heap.size w (((w27.setCell ⟨gb186, 0, none⟩ (.string ((rd_T99 l0_0 x8_1).f0))).setCell ⟨gb186, 1, none⟩ (.string ((rd_T99 l0_0 x8_1).f1))).setCell ⟨gb186, 2, none⟩ (.int .i64 ((rd_T99 l0_0 x8_1).f2)))) := ⟨qB_⟩
           (try clear BK184); (try clear BK186); (try clear HB)
           generalize (((w27.setCell ⟨gb186, 0, none⟩ (.string ((rd_T99 l0_0 x8_1).f0))).setCell ⟨gb186, 1, none⟩ (.string ((rd_T99 l0_0 x8_1).f1))).setCell ⟨gb186, 2, none⟩ (.int .i64 ((rd_T99 l0_0 x8_1).f2))) = w30 at n0_ n1_ n2_ ⊢
           have BK184 := n0_; have BK186 := n1_; have HB := n2_; clear n0_ n1_ n2_
           replace BK184 := am_ (blk_drew BK184.out); replace BK186 := am_ (blk_drew BK186.out); replace HB := am_ (below_drew1 HB.out)
           have p189 : 0 ≤ ((ji18) : Int) := of_decide_eq_true qa_
           have q189 : (ji18) < (l0_0.length : Int) := of_decide_eq_true qa_
           obtain ⟨ad189, e189, hx189_0, hx189_1, hx189_2⟩ := at_T99 HR0_0.out (ji18) p189 q189
           have hw189_2 := hx189_2; have hw189_1 := hx189_1; have hw189_0 := hx189_0
           obtain rfl : ad185 = ad189 := (by injection e189)
           replace hx189_0 := qx_ HB hx189_0
           replace hx189_1 := qx_ HB hx189_1
           replace hx189_2 := qx_ HB hx189_2
           replace p189 := eq_true p189; replace q189 := eq_true q189
           refine start_ (n := 36) (S := fun w' => w'.cell? ⟨gb186, 0, none⟩ = some (.string ((rd_T99 l0_0 x8_1).f0)) ∧ w'.cell? ⟨gb186, 1, none⟩ = some (.string ((rd_T99 l0_0 x8_1).f1)) ∧ w'.cell? ⟨gb186, 2, none⟩ = some (.int .i64 ((rd_T99 l0_0 x8_1).f2)) ∧ w'.cell? ⟨gb184, 0, none⟩ = some (.slice (some ad185) l0_0.length c0_0) ∧ w'.cell? (ad185.add (((ji18)).toNat * 3)) = some (.string ((rd_T99 l0_0 (ji18)).f0)) ∧ w'.cell? ⟨(ad185.add (((ji18)).toNat * 3)).block, (ad185.add (((ji18)).toNat * 3)).off + 1, none⟩ = some (.string ((rd_T99 l0_0 (ji18)).f1)) ∧ w'.cell? ⟨(ad185.add (((ji18)).toNat * 3)).block, (ad185.add (((ji18)).toNat * 3)).off + 2, none⟩ = some (.int .i64 ((rd_T99 l0_0 (ji18)).f2))) (ds := []) (bm 36 0) (by kernel_rfl) rfl (by kernel_rfl) ⟨bl_ BK186 0, bl_ BK186 1, bl_ BK186 2, bl_ BK184 0, ((qx_ HB hw189_0).trans rfl), ((qx_ HB hw189_1).trans rfl), ((qx_ HB hw189_2).trans rfl)⟩ (fun hHeld => ?_); refine with_tabW impl_DiskOk.tab4 impl_DiskOk.bits4 (fun HT_ HW_ => ?_)
           generalize w30.drew = w31 at BK184 BK186 HB hx189_0 hx189_1 hx189_2 hHeld ⊢
           refine pz_ 0 13 (bm 36 1) ?_; refine tz7_ 1 14 (bm 36 3) ?_; refine pz_ 2 15 (bm 36 7) ?_
           refine o1_ 3 (some 16) (bm 36 15) (fun K hK => ?_)
           refine goes_ Try.func69 (by kernel_rfl) rfl #[.int .i64 (((rd_T99 l0_0 x8_1).f0).size : Int), .int .i64 1, .int .i64 8] (by rfl) rfl rfl (by (try simp only [List.map_toArray, List.map_cons, List.map_nil]); first | done | rfl | (simp only [List.length_drop, List.length_take]; rfl)) ?_
           with_reducible refine (impl_in.calls (((rd_T99 l0_0 x8_1).f0).size : Int) 1 8 true _ A7.out).mono ?_
           rintro e w' ⟨rfl, ⟨nd, rfl⟩⟩
           refine ⟨_, rfl, ?_⟩
           refine hK.out _ _ ⟨bl_ BK186 0, bl_ BK186 1, bl_ BK186 2, bl_ BK184 0, ((qx_ HB hw189_0).trans rfl), ((qx_ HB hw189_1).trans rfl), ((qx_ HB hw189_2).trans rfl)⟩ (fun hHeld => ?_)
           clear hK K
           refine nm_ 16 ?_
           refine pz_ 4 17 (bm 36 31) ?_; refine pz_ 5 18 (bm 36 63) ?_; refine pz_ 6 19 (bm 36 127) ?_; refine tz7_ 7 20 (bm 36 255) ?_; refine pz_ 8 21 (bm 36 511) ?_; refine pz_ 9 22 (bm 36 1023) ?_; refine pz_ 10 23 (bm 36 2047) ?_; refine pz_ 11 24 (bm 36 4095) ?_; refine pz_ 12 25 (bm 36 8191) ?_; refine pz_ 14 27 (bm 36 24575) ?_; refine tz7_ 13 26 (bm 36 32767) ?_; refine tz7_ 15 28 (bm 36 65535) ?_; refine pz_ 16 29 (bm 36 131071) ?_
           refine o1_ 17 (some 30) (bm 36 262143) (fun K hK => ?_)
           refine goes_ Try.func69 (by kernel_rfl) rfl #[.int .i64 ((rd_T99 l0_0 x8_1).f2), .int .i64 0, .int .i64 (((rd_T99 l0_0 x8_1).f1).size : Int)] (by rfl) rfl rfl (by (try simp only [List.map_toArray, List.map_cons, List.map_nil]); first | done | rfl | (simp only [List.length_drop, List.length_take]; rfl)) ?_
           with_reducible refine (impl_in.calls ((rd_T99 l0_0 x8_1).f2) 0 (((rd_T99 l0_0 x8_1).f1).size : Int) true _ A15.out).mono ?_
           rintro e w' ⟨rfl, ⟨nd, rfl⟩⟩
           refine ⟨_, rfl, ?_⟩
           refine hK.out _ _ ⟨bl_ BK186 0, bl_ BK186 1, bl_ BK186 2, bl_ BK184 0, ((qx_ HB hw189_0).trans rfl), ((qx_ HB hw189_1).trans rfl), ((qx_ HB hw189_2).trans rfl)⟩ (fun hHeld => ?_)
           clear hK K
           refine nm_ 30 ?_
           refine pz_ 18 31 (bm 36 524287) ?_; refine pz_ 19 32 (bm 36 1048575) ?_; refine pz_ 20 33 (bm 36 2097151) ?_; refine pz_ 21 34 (bm 36 4194303) ?_; refine pz_ 22 35 (bm 36 8388607) ?_; refine pz_ 23 36 (bm 36 16777215) ?_; refine pz_ 24 37 (bm 36 33554431) ?_; refine pz_ 26 39 (bm 36 100663295) ?_; refine pz_ 27 40 (bm 36 234881023) ?_; refine pz_ 31 44 (bm 36 2382364671) ?_; refine tz7_ 25 38 (bm 36 2415919103) ?_; refine pz_ 28 41 (bm 36 2684354559) ?_; refine pz_ 29 42 (bm 36 3221225471) ?_; refine tz7_ 30 43 (bm 36 4294967295) ?_; refine tz7_ 32 45 (bm 36 8589934591) ?_; refine pz_ 33 46 (bm 36 17179869183) ?_; refine pz_ 34 47 (bm 36 34359738367) ?_; refine pz_ 35 48 (bm 36 68719476735) ?_
           refine done_ (done_of HT_.out (by kernel_rfl)) ?_
           try go_wp2
           go_ret
           exact ⟨by first | rfl | (simp [errW_none, errW_some] <;> rfl) | (simp only [← hji18]; first | rfl | (simp [errW_none, errW_some] <;> rfl)) | (simp [*, errW_none, errW_some] <;> rfl), qB_⟩
          rw [if_neg c20] at H
          exact absurd H (by simp)
         rw [if_neg c19] at H
         exact absurd H (by simp)
        rw [if_neg c17] at H
        have c17b0 : decide (0 < x8_1) = false := decide_eq_false c17
        clear c17; have H' := am_ H; clear H
        have p185 : 0 ≤ (x8_1 : Int) := of_decide_eq_true qa_
        have q185 : x8_1 < (l0_0.length : Int) := of_decide_eq_true qa_
        obtain ⟨ad185, e185, hx185_0, hx185_1, hx185_2⟩ := at_T99 HR0_0.out x8_1 p185 q185
        cases e185
        replace hx185_0 := qx_ HB hx185_0
        replace hx185_1 := qx_ HB hx185_1
        replace hx185_2 := qx_ HB hx185_2
        replace p185 := eq_true p185; replace q185 := eq_true q185
        try go_wp2_with (first | ((with_reducible refine gate_dst (N := 4) rfl ?_); (try (refine gate_guard (by rfl) ?_; dsimp only)); refine bx_ 4 (cs := #[.string (⟨#[]⟩ : ByteArray), .string (⟨#[]⟩ : ByteArray), .int .i64 0]) (t := 99) ?_; intro gb186 hg w32 hbox hb; have BK186 := am_ (hbox); have GW186 := am_ ((qs_ : w.heap.size ≤ gb186)); have GE186 := GW186; obtain ⟨NB184_186, NB186_184⟩ := qn_ BK184 hg; replace BK184 := qbl_ BK184 hb; replace HB := hs_ hb; clear hb hbox hg; obtain ⟨hnb33, hnc33⟩ := nn_ NB186_184; obtain ⟨hcz34_0, hcz34_1, hcz34_2, hfz34_0, hfz34_1, hfz34_2⟩ := bc3_ BK186))
        have n0_ : Aside0 ((((w32.setCell ⟨gb186, 0, none⟩ (.string ((rd_T99 l0_0 x8_1).f0))).setCell ⟨gb186, 1, none⟩ (.string ((rd_T99 l0_0 x8_1).f1))).setCell ⟨gb186, 2, none⟩ (.int .i64 ((rd_T99 l0_0 x8_1).f2))).heap[gb184]? = some (.cells #[.slice (some ad185) l0_0.length c0_0] 44 (0, 0))) := ⟨qf_ BK184⟩
        have n1_ : Aside0 ((((w32.setCell ⟨gb186, 0, none⟩ (.string ((rd_T99 l0_0 x8_1).f0))).setCell ⟨gb186, 1, none⟩ (.string ((rd_T99 l0_0 x8_1).f1))).setCell ⟨gb186, 2, none⟩ (.int .i64 ((rd_T99 l0_0 x8_1).f2))).heap[gb186]? = some (.cells #[.string ((rd_T99 l0_0 x8_1).f0), .string ((rd_T99 l0_0 x8_1).f1), .int .i64 ((rd_T99 l0_0 x8_1).f2)] 99 (0, 0))) := ⟨by (with_reducible repeat (first | refine blk_drewN ?_ _ | refine blk_drew ?_ | refine blk_alloc ?_ _)); refine blk_put (cs := #[.string ((rd_T99 l0_0 x8_1).f0), .string ((rd_T99 l0_0 x8_1).f1), .int .i64 0]) ?_ 2 _ rfl; (with_reducible repeat (first | refine blk_drewN ?_ _ | refine blk_drew ?_ | refine blk_alloc ?_ _)); refine blk_put (cs := #[.string ((rd_T99 l0_0 x8_1).f0), .string (⟨#[]⟩ : ByteArray), .int .i64 0]) ?_ 1 _ rfl; (with_reducible repeat (first | refine blk_drewN ?_ _ | refine blk_drew ?_ | refine blk_alloc ?_ _)); refine blk_put (cs := #[.string (⟨#[]⟩ : ByteArray), .string (⟨#[]⟩ : ByteArray), .int .i64 0]) ?_ 0 _ rfl; exact qf_ BK186⟩
        have n2_ : Aside0 (Below w.heap.size w (((w32.setCell ⟨gb186, 0, none⟩ (.string ((rd_T99 l0_0 x8_1).f0))).setCell ⟨gb186, 1, none⟩ (.string ((rd_T99 l0_0 x8_1).f1))).setCell ⟨gb186, 2, none⟩ (.int .i64 ((rd_T99 l0_0 x8_1).f2)))) := ⟨qB_⟩
        (try clear BK184); (try clear BK186); (try clear HB)
        generalize (((w32.setCell ⟨gb186, 0, none⟩ (.string ((rd_T99 l0_0 x8_1).f0))).setCell ⟨gb186, 1, none⟩ (.string ((rd_T99 l0_0 x8_1).f1))).setCell ⟨gb186, 2, none⟩ (.int .i64 ((rd_T99 l0_0 x8_1).f2))) = w35 at n0_ n1_ n2_ ⊢
        have BK184 := n0_; have BK186 := n1_; have HB := n2_; clear n0_ n1_ n2_
        replace BK184 := am_ (blk_drew BK184.out); replace BK186 := am_ (blk_drew BK186.out); replace HB := am_ (below_drew1 HB.out)
        refine start_ (n := 36) (S := fun w' => w'.cell? ⟨gb186, 0, none⟩ = some (.string ((rd_T99 l0_0 x8_1).f0)) ∧ w'.cell? ⟨gb186, 1, none⟩ = some (.string ((rd_T99 l0_0 x8_1).f1)) ∧ w'.cell? ⟨gb186, 2, none⟩ = some (.int .i64 ((rd_T99 l0_0 x8_1).f2))) (ds := []) (bm 36 0) (by kernel_rfl) rfl (by kernel_rfl) ⟨bl_ BK186 0, bl_ BK186 1, bl_ BK186 2⟩ (fun hHeld => ?_); refine with_tabW impl_DiskOk.tab4 impl_DiskOk.bits4 (fun HT_ HW_ => ?_)
        generalize w35.drew = w36 at BK184 BK186 HB hHeld ⊢
        refine pz_ 0 13 (bm 36 1) ?_; refine tz3_ 1 14 (bm 36 3) ?_; refine pz_ 2 15 (bm 36 7) ?_
        refine o1_ 3 (some 16) (bm 36 15) (fun K hK => ?_)
        refine goes_ Try.func69 (by kernel_rfl) rfl #[.int .i64 (((rd_T99 l0_0 x8_1).f0).size : Int), .int .i64 1, .int .i64 8] (by rfl) rfl rfl (by (try simp only [List.map_toArray, List.map_cons, List.map_nil]); first | done | rfl | (simp only [List.length_drop, List.length_take]; rfl)) ?_
        with_reducible refine (impl_in.calls (((rd_T99 l0_0 x8_1).f0).size : Int) 1 8 true _ A7.out).mono ?_
        rintro e w' ⟨rfl, ⟨nd, rfl⟩⟩
        refine ⟨_, rfl, ?_⟩
        refine hK.out _ _ ⟨bl_ BK186 0, bl_ BK186 1, bl_ BK186 2⟩ (fun hHeld => ?_)
        clear hK K
        refine nm_ 16 ?_
        refine pz_ 4 17 (bm 36 31) ?_; refine pz_ 5 18 (bm 36 63) ?_; refine pz_ 6 19 (bm 36 127) ?_; refine tz3_ 7 20 (bm 36 255) ?_; refine pz_ 8 21 (bm 36 511) ?_; refine pz_ 9 22 (bm 36 1023) ?_; refine pz_ 10 23 (bm 36 2047) ?_; refine pz_ 11 24 (bm 36 4095) ?_; refine pz_ 12 25 (bm 36 8191) ?_; refine pz_ 14 27 (bm 36 24575) ?_; refine tz3_ 13 26 (bm 36 32767) ?_; refine tz3_ 15 28 (bm 36 65535) ?_; refine pz_ 16 29 (bm 36 131071) ?_
        refine o1_ 17 (some 30) (bm 36 262143) (fun K hK => ?_)
        refine goes_ Try.func69 (by kernel_rfl) rfl #[.int .i64 ((rd_T99 l0_0 x8_1).f2), .int .i64 0, .int .i64 (((rd_T99 l0_0 x8_1).f1).size : Int)] (by rfl) rfl rfl (by (try simp only [List.map_toArray, List.map_cons, List.map_nil]); first | done | rfl | (simp only [List.length_drop, List.length_take]; rfl)) ?_
        with_reducible refine (impl_in.calls ((rd_T99 l0_0 x8_1).f2) 0 (((rd_T99 l0_0 x8_1).f1).size : Int) true _ A15.out).mono ?_
        rintro e w' ⟨rfl, ⟨nd, rfl⟩⟩
        refine ⟨_, rfl, ?_⟩
        refine hK.out _ _ ⟨bl_ BK186 0, bl_ BK186 1, bl_ BK186 2⟩ (fun hHeld => ?_)
        clear hK K
        refine nm_ 30 ?_
        refine pz_ 18 31 (bm 36 524287) ?_; refine pz_ 19 32 (bm 36 1048575) ?_; refine pz_ 20 33 (bm 36 2097151) ?_; refine pz_ 21 34 (bm 36 4194303) ?_; refine pz_ 22 35 (bm 36 8388607) ?_; refine pz_ 23 36 (bm 36 16777215) ?_
        refine pu_ 24 37 (bm 36 33554431) ?_
        refine pu_ 25 38 (bm 36 67108863) ?_
        refine pu_ 26 39 (bm 36 134217727) ?_
        refine pu_ 27 40 (bm 36 268435455) ?_
        refine pu_ 28 41 (bm 36 536870911) ?_
        refine pu_ 29 42 (bm 36 1073741823) ?_
        refine pu_ 30 43 (bm 36 2147483647) ?_
        refine pu_ 31 44 (bm 36 4294967295) ?_
        refine pu_ 32 45 (bm 36 8589934591) ?_
        refine pu_ 33 46 (bm 36 17179869183) ?_
        refine pz_ 34 47 (bm 36 34359738367) ?_; refine pz_ 35 48 (bm 36 68719476735) ?_
        refine done_ (done_of HT_.out (by kernel_rfl)) ?_
        try go_wp2
        go_roundg k1
        case measure => have := HK1.out; omega
        case rel => exact ⟨(wrap64 (x8_1 + 1)), qe_, H', ⟨by have := HK1.out; omega⟩, ⟨qk_ BK184⟩, ⟨qB_⟩⟩
       replace c16 := Bool.eq_false_iff.mpr c16
       subst c16
       rw [if_neg (show ¬ (false = true) by decide)] at H
       obtain rfl := Option.some.inj H
       have p185 : 0 ≤ (x8_1 : Int) := of_decide_eq_true qa_
       have q185 : x8_1 < (l0_0.length : Int) := of_decide_eq_true qa_
       obtain ⟨ad185, e185, hx185_0, hx185_1, hx185_2⟩ := at_T99 HR0_0.out x8_1 p185 q185
       cases e185
       replace hx185_0 := qx_ HB hx185_0
       replace hx185_1 := qx_ HB hx185_1
       replace hx185_2 := qx_ HB hx185_2
       replace p185 := eq_true p185; replace q185 := eq_true q185
       try go_wp2_with (first | ((with_reducible refine gate_dst (N := 4) rfl ?_); (try (refine gate_guard (by rfl) ?_; dsimp only)); refine bx_ 4 (cs := #[.string (⟨#[]⟩ : ByteArray), .string (⟨#[]⟩ : ByteArray), .int .i64 0]) (t := 99) ?_; intro gb186 hg w37 hbox hb; have BK186 := am_ (hbox); have GW186 := am_ ((qs_ : w.heap.size ≤ gb186)); have GE186 := GW186; obtain ⟨NB184_186, NB186_184⟩ := qn_ BK184 hg; replace BK184 := qbl_ BK184 hb; replace HB := hs_ hb; clear hb hbox hg; obtain ⟨hnb38, hnc38⟩ := nn_ NB186_184; obtain ⟨hcz39_0, hcz39_1, hcz39_2, hfz39_0, hfz39_1, hfz39_2⟩ := bc3_ BK186))
       have n0_ : Aside0 ((((w37.setCell ⟨gb186, 0, none⟩ (.string ((rd_T99 l0_0 x8_1).f0))).setCell ⟨gb186, 1, none⟩ (.string ((rd_T99 l0_0 x8_1).f1))).setCell ⟨gb186, 2, none⟩ (.int .i64 ((rd_T99 l0_0 x8_1).f2))).heap[gb184]? = some (.cells #[.slice (some ad185) l0_0.length c0_0] 44 (0, 0))) := ⟨qf_ BK184⟩
       have n1_ : Aside0 ((((w37.setCell ⟨gb186, 0, none⟩ (.string ((rd_T99 l0_0 x8_1).f0))).setCell ⟨gb186, 1, none⟩ (.string ((rd_T99 l0_0 x8_1).f1))).setCell ⟨gb186, 2, none⟩ (.int .i64 ((rd_T99 l0_0 x8_1).f2))).heap[gb186]? = some (.cells #[.string ((rd_T99 l0_0 x8_1).f0), .string ((rd_T99 l0_0 x8_1).f1), .int .i64 ((rd_T99 l0_0 x8_1).f2)] 99 (0, 0))) := ⟨by (with_reducible repeat (first | refine blk_drewN ?_ _ | refine blk_drew ?_ | refine blk_alloc ?_ _)); refine blk_put (cs := #[.string ((rd_T99 l0_0 x8_1).f0), .string ((rd_T99 l0_0 x8_1).f1), .int .i64 0]) ?_ 2 _ rfl; (with_reducible repeat (first | refine blk_drewN ?_ _ | refine blk_drew ?_ | refine blk_alloc ?_ _)); refine blk_put (cs := #[.string ((rd_T99 l0_0 x8_1).f0), .string (⟨#[]⟩ : ByteArray), .int .i64 0]) ?_ 1 _ rfl; (with_reducible repeat (first | refine blk_drewN ?_ _ | refine blk_drew ?_ | refine blk_alloc ?_ _)); refine blk_put (cs := #[.string (⟨#[]⟩ : ByteArray), .string (⟨#[]⟩ : ByteArray), .int .i64 0]) ?_ 0 _ rfl; exact qf_ BK186⟩
       have n2_ : Aside0 (Below w.heap.size w (((w37.setCell ⟨gb186, 0, none⟩ (.string ((rd_T99 l0_0 x8_1).f0))).setCell ⟨gb186, 1, none⟩ (.string ((rd_T99 l0_0 x8_1).f1))).setCell ⟨gb186, 2, none⟩ (.int .i64 ((rd_T99 l0_0 x8_1).f2)))) := ⟨qB_⟩
       (try clear BK184); (try clear BK186); (try clear HB)
       generalize (((w37.setCell ⟨gb186, 0, none⟩ (.string ((rd_T99 l0_0 x8_1).f0))).setCell ⟨gb186, 1, none⟩ (.string ((rd_T99 l0_0 x8_1).f1))).setCell ⟨gb186, 2, none⟩ (.int .i64 ((rd_T99 l0_0 x8_1).f2))) = w40 at n0_ n1_ n2_ ⊢
       have BK184 := n0_; have BK186 := n1_; have HB := n2_; clear n0_ n1_ n2_
       replace BK184 := am_ (blk_drew BK184.out); replace BK186 := am_ (blk_drew BK186.out); replace HB := am_ (below_drew1 HB.out)
       refine start_ (n := 36) (S := fun w' => w'.cell? ⟨gb186, 0, none⟩ = some (.string ((rd_T99 l0_0 x8_1).f0)) ∧ w'.cell? ⟨gb186, 1, none⟩ = some (.string ((rd_T99 l0_0 x8_1).f1)) ∧ w'.cell? ⟨gb186, 2, none⟩ = some (.int .i64 ((rd_T99 l0_0 x8_1).f2))) (ds := []) (bm 36 0) (by kernel_rfl) rfl (by kernel_rfl) ⟨bl_ BK186 0, bl_ BK186 1, bl_ BK186 2⟩ (fun hHeld => ?_); refine with_tabW impl_DiskOk.tab4 impl_DiskOk.bits4 (fun HT_ HW_ => ?_)
       generalize w40.drew = w41 at BK184 BK186 HB hHeld ⊢
       refine pz_ 0 13 (bm 36 1) ?_; refine tz3_ 1 14 (bm 36 3) ?_; refine pz_ 2 15 (bm 36 7) ?_
       refine o1_ 3 (some 16) (bm 36 15) (fun K hK => ?_)
       refine goes_ Try.func69 (by kernel_rfl) rfl #[.int .i64 (((rd_T99 l0_0 x8_1).f0).size : Int), .int .i64 1, .int .i64 8] (by rfl) rfl rfl (by (try simp only [List.map_toArray, List.map_cons, List.map_nil]); first | done | rfl | (simp only [List.length_drop, List.length_take]; rfl)) ?_
       with_reducible refine (impl_in.calls (((rd_T99 l0_0 x8_1).f0).size : Int) 1 8 true _ A7.out).mono ?_
       rintro e w' ⟨rfl, ⟨nd, rfl⟩⟩
       refine ⟨_, rfl, ?_⟩
       refine hK.out _ _ ⟨bl_ BK186 0, bl_ BK186 1, bl_ BK186 2⟩ (fun hHeld => ?_)
       clear hK K
       refine nm_ 16 ?_
       refine pz_ 4 17 (bm 36 31) ?_; refine pz_ 5 18 (bm 36 63) ?_; refine pz_ 6 19 (bm 36 127) ?_; refine tz3_ 7 20 (bm 36 255) ?_; refine pz_ 8 21 (bm 36 511) ?_; refine pz_ 9 22 (bm 36 1023) ?_; refine pz_ 10 23 (bm 36 2047) ?_; refine pz_ 11 24 (bm 36 4095) ?_; refine pz_ 12 25 (bm 36 8191) ?_; refine pz_ 14 27 (bm 36 24575) ?_; refine tz3_ 13 26 (bm 36 32767) ?_; refine tz3_ 15 28 (bm 36 65535) ?_; refine pz_ 16 29 (bm 36 131071) ?_
       refine o1_ 17 (some 30) (bm 36 262143) (fun K hK => ?_)
       refine goes_ Try.func69 (by kernel_rfl) rfl #[.int .i64 ((rd_T99 l0_0 x8_1).f2), .int .i64 0, .int .i64 (((rd_T99 l0_0 x8_1).f1).size : Int)] (by rfl) rfl rfl (by (try simp only [List.map_toArray, List.map_cons, List.map_nil]); first | done | rfl | (simp only [List.length_drop, List.length_take]; rfl)) ?_
       with_reducible refine (impl_in.calls ((rd_T99 l0_0 x8_1).f2) 0 (((rd_T99 l0_0 x8_1).f1).size : Int) false _ A15.out).mono ?_
       rintro e w' ⟨rfl, ⟨nd, rfl⟩⟩
       refine ⟨_, rfl, ?_⟩
       refine hK.out _ _ ⟨bl_ BK186 0, bl_ BK186 1, bl_ BK186 2⟩ (fun hHeld => ?_)
       clear hK K
       refine nm_ 30 ?_
       refine pz_ 18 31 (bm 36 524287) ?_; refine pz_ 19 32 (bm 36 1048575) ?_; refine pz_ 20 33 (bm 36 2097151) ?_
       refine pu_ 21 34 (bm 36 4194303) ?_
       refine pu_ 22 35 (bm 36 8388607) ?_
       refine pu_ 23 36 (bm 36 16777215) ?_
       refine pu_ 24 37 (bm 36 33554431) ?_
       refine pu_ 25 38 (bm 36 67108863) ?_
       refine pu_ 26 39 (bm 36 134217727) ?_
       refine pu_ 27 40 (bm 36 268435455) ?_
       refine pu_ 28 41 (bm 36 536870911) ?_
       refine pu_ 29 42 (bm 36 1073741823) ?_
       refine pu_ 30 43 (bm 36 2147483647) ?_
       refine pu_ 31 44 (bm 36 4294967295) ?_
       refine pu_ 32 45 (bm 36 8589934591) ?_
       refine pu_ 33 46 (bm 36 17179869183) ?_
       refine pu_ 34 47 (bm 36 34359738367) ?_
       refine pz_ 35 48 (bm 36 68719476735) ?_
       refine done_ (done_of HT_.out (by kernel_rfl)) ?_
       try go_wp2
       go_ret
       exact ⟨qr_, qB_⟩
      replace c8 := Bool.eq_false_iff.mpr c8
      subst c8
      rw [if_neg (show ¬ (false = true) by decide)] at H
      obtain rfl := Option.some.inj H
      have p185 : 0 ≤ (x8_1 : Int) := of_decide_eq_true qa_
      have q185 : x8_1 < (l0_0.length : Int) := of_decide_eq_true qa_
      obtain ⟨ad185, e185, hx185_0, hx185_1, hx185_2⟩ := at_T99 HR0_0.out x8_1 p185 q185
      cases e185
      replace hx185_0 := qx_ HB hx185_0
      replace hx185_1 := qx_ HB hx185_1
      replace hx185_2 := qx_ HB hx185_2
      replace p185 := eq_true p185; replace q185 := eq_true q185
      try go_wp2_with (first | ((with_reducible refine gate_dst (N := 4) rfl ?_); (try (refine gate_guard (by rfl) ?_; dsimp only)); refine bx_ 4 (cs := #[.string (⟨#[]⟩ : ByteArray), .string (⟨#[]⟩ : ByteArray), .int .i64 0]) (t := 99) ?_; intro gb186 hg w42 hbox hb; have BK186 := am_ (hbox); have GW186 := am_ ((qs_ : w.heap.size ≤ gb186)); have GE186 := GW186; obtain ⟨NB184_186, NB186_184⟩ := qn_ BK184 hg; replace BK184 := qbl_ BK184 hb; replace HB := hs_ hb; clear hb hbox hg; obtain ⟨hnb43, hnc43⟩ := nn_ NB186_184; obtain ⟨hcz44_0, hcz44_1, hcz44_2, hfz44_0, hfz44_1, hfz44_2⟩ := bc3_ BK186))
      have n0_ : Aside0 ((((w42.setCell ⟨gb186, 0, none⟩ (.string ((rd_T99 l0_0 x8_1).f0))).setCell ⟨gb186, 1, none⟩ (.string ((rd_T99 l0_0 x8_1).f1))).setCell ⟨gb186, 2, none⟩ (.int .i64 ((rd_T99 l0_0 x8_1).f2))).heap[gb184]? = some (.cells #[.slice (some ad185) l0_0.length c0_0] 44 (0, 0))) := ⟨qf_ BK184⟩
      have n1_ : Aside0 ((((w42.setCell ⟨gb186, 0, none⟩ (.string ((rd_T99 l0_0 x8_1).f0))).setCell ⟨gb186, 1, none⟩ (.string ((rd_T99 l0_0 x8_1).f1))).setCell ⟨gb186, 2, none⟩ (.int .i64 ((rd_T99 l0_0 x8_1).f2))).heap[gb186]? = some (.cells #[.string ((rd_T99 l0_0 x8_1).f0), .string ((rd_T99 l0_0 x8_1).f1), .int .i64 ((rd_T99 l0_0 x8_1).f2)] 99 (0, 0))) := ⟨by (with_reducible repeat (first | refine blk_drewN ?_ _ | refine blk_drew ?_ | refine blk_alloc ?_ _)); refine blk_put (cs := #[.string ((rd_T99 l0_0 x8_1).f0), .string ((rd_T99 l0_0 x8_1).f1), .int .i64 0]) ?_ 2 _ rfl; (with_reducible repeat (first | refine blk_drewN ?_ _ | refine blk_drew ?_ | refine blk_alloc ?_ _)); refine blk_put (cs := #[.string ((rd_T99 l0_0 x8_1).f0), .string (⟨#[]⟩ : ByteArray), .int .i64 0]) ?_ 1 _ rfl; (with_reducible repeat (first | refine blk_drewN ?_ _ | refine blk_drew ?_ | refine blk_alloc ?_ _)); refine blk_put (cs := #[.string (⟨#[]⟩ : ByteArray), .string (⟨#[]⟩ : ByteArray), .int .i64 0]) ?_ 0 _ rfl; exact qf_ BK186⟩
      have n2_ : Aside0 (Below w.heap.size w (((w42.setCell ⟨gb186, 0, none⟩ (.string ((rd_T99 l0_0 x8_1).f0))).setCell ⟨gb186, 1, none⟩ (.string ((rd_T99 l0_0 x8_1).f1))).setCell ⟨gb186, 2, none⟩ (.int .i64 ((rd_T99 l0_0 x8_1).f2)))) := ⟨qB_⟩
      (try clear BK184); (try clear BK186); (try clear HB)
      generalize (((w42.setCell ⟨gb186, 0, none⟩ (.string ((rd_T99 l0_0 x8_1).f0))).setCell ⟨gb186, 1, none⟩ (.string ((rd_T99 l0_0 x8_1).f1))).setCell ⟨gb186, 2, none⟩ (.int .i64 ((rd_T99 l0_0 x8_1).f2))) = w45 at n0_ n1_ n2_ ⊢
      have BK184 := n0_; have BK186 := n1_; have HB := n2_; clear n0_ n1_ n2_
      replace BK184 := am_ (blk_drew BK184.out); replace BK186 := am_ (blk_drew BK186.out); replace HB := am_ (below_drew1 HB.out)
      refine start_ (n := 36) (S := fun w' => w'.cell? ⟨gb186, 0, none⟩ = some (.string ((rd_T99 l0_0 x8_1).f0)) ∧ w'.cell? ⟨gb186, 1, none⟩ = some (.string ((rd_T99 l0_0 x8_1).f1)) ∧ w'.cell? ⟨gb186, 2, none⟩ = some (.int .i64 ((rd_T99 l0_0 x8_1).f2))) (ds := []) (bm 36 0) (by kernel_rfl) rfl (by kernel_rfl) ⟨bl_ BK186 0, bl_ BK186 1, bl_ BK186 2⟩ (fun hHeld => ?_); refine with_tabW impl_DiskOk.tab4 impl_DiskOk.bits4 (fun HT_ HW_ => ?_)
      generalize w45.drew = w46 at BK184 BK186 HB hHeld ⊢
      refine pz_ 0 13 (bm 36 1) ?_; refine tz3_ 1 14 (bm 36 3) ?_; refine pz_ 2 15 (bm 36 7) ?_
      refine o1_ 3 (some 16) (bm 36 15) (fun K hK => ?_)
      refine goes_ Try.func69 (by kernel_rfl) rfl #[.int .i64 (((rd_T99 l0_0 x8_1).f0).size : Int), .int .i64 1, .int .i64 8] (by rfl) rfl rfl (by (try simp only [List.map_toArray, List.map_cons, List.map_nil]); first | done | rfl | (simp only [List.length_drop, List.length_take]; rfl)) ?_
      with_reducible refine (impl_in.calls (((rd_T99 l0_0 x8_1).f0).size : Int) 1 8 false _ A7.out).mono ?_
      rintro e w' ⟨rfl, ⟨nd, rfl⟩⟩
      refine ⟨_, rfl, ?_⟩
      refine hK.out _ _ ⟨bl_ BK186 0, bl_ BK186 1, bl_ BK186 2⟩ (fun hHeld => ?_)
      clear hK K
      refine nm_ 16 ?_
      refine pz_ 4 17 (bm 36 31) ?_; refine pz_ 5 18 (bm 36 63) ?_
      refine pu_ 6 19 (bm 36 127) ?_
      refine pu_ 7 20 (bm 36 255) ?_
      refine pu_ 8 21 (bm 36 511) ?_
      refine pu_ 9 22 (bm 36 1023) ?_
      refine pz_ 10 23 (bm 36 2047) ?_; refine pz_ 11 24 (bm 36 4095) ?_
      refine pu_ 12 25 (bm 36 8191) ?_
      refine pu_ 13 26 (bm 36 16383) ?_
      refine pu_ 14 27 (bm 36 32767) ?_
      refine pu_ 15 28 (bm 36 65535) ?_
      refine pu_ 16 29 (bm 36 131071) ?_
      refine pu_ 17 30 (bm 36 262143) ?_
      refine pu_ 18 31 (bm 36 524287) ?_
      refine pz_ 19 32 (bm 36 1048575) ?_; refine pz_ 20 33 (bm 36 2097151) ?_
      refine pu_ 21 34 (bm 36 4194303) ?_
      refine pu_ 22 35 (bm 36 8388607) ?_
      refine pu_ 23 36 (bm 36 16777215) ?_
      refine pu_ 24 37 (bm 36 33554431) ?_
      refine pu_ 25 38 (bm 36 67108863) ?_
      refine pu_ 26 39 (bm 36 134217727) ?_
      refine pu_ 27 40 (bm 36 268435455) ?_
      refine pu_ 28 41 (bm 36 536870911) ?_
      refine pu_ 29 42 (bm 36 1073741823) ?_
      refine pu_ 30 43 (bm 36 2147483647) ?_
      refine pu_ 31 44 (bm 36 4294967295) ?_
      refine pu_ 32 45 (bm 36 8589934591) ?_
      refine pu_ 33 46 (bm 36 17179869183) ?_
      refine pu_ 34 47 (bm 36 34359738367) ?_
      refine pz_ 35 48 (bm 36 68719476735) ?_
      refine done_ (done_of HT_.out (by kernel_rfl)) ?_
      try go_wp2
      go_ret
      exact ⟨qr_, qB_⟩
     rw [if_neg c6] at H
     exact absurd H (by simp)
    rw [if_neg c5] at H
    exact absurd H (by simp)
   rw [if_neg c4] at H
   have c4b0 : decide (x8_1 < (l0_0.length : Int)) = false := decide_eq_false c4
   clear c4
   obtain rfl := Option.some.inj H
   obtain ⟨hcz47_0, hfz47_0⟩ := bc1_ BK184
   go_wp2
   go_ret
   exact ⟨qr_, qB_⟩

end Go.Proofs.Ytacnlodcbbhahaa.QFnExactCutActs
