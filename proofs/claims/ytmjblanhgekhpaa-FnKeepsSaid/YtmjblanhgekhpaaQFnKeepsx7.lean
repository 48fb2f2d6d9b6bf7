-- printed for this claim by a program of the session's own (no text of the kit's print)
import Derived.Test.YtmjblanhgekhpaaQFnKeepsx0
import Derived.Test.YtmjblanhgekhpaaQFnKeepsx3
import Derived.Test.YtmjblanhgekhpaaQFnKeepsx6
namespace Go.Proofs.Ytmjblanhgekhpaa.QFnKeeps
open Go.RowKit Go.Proofs.YtmjblanhgekhpaaW.PrintWords Go.Proofs.YtmjblanhgekhpaaW.PrintLast Go.Proofs.YtmjblanhgekhpaaW.PrintMore
attribute [local go_sem] max2_int min2_int max_two min_two max_three min_three max_four min_four   -- for this text's walks alone
set_option linter.unusedVariables false
set_option linter.unusedSimpArgs false

/-! ### impl_LoseDisk: function 62 -/
def impl_LoseDisk.l0 : Nat → List Int → Int → Int → List (S94) → Option ((List (S94)) × Bool)
  | 0, _, _, _, _ => none
  | k + 1, x1, x18, x19, x225000 => if x19 < x18 then (if 0 ≤ x19 then (if x19 < (x225000.length : Int) then (if x19 < (x1.length : Int) then (if 0 ≤ (mx (mn (mx (rd x1 x19) 0) (((rd_T94 x225000 x19).f1).size : Int)) ((rd_T94 x225000 x19).f2)) then (if (mx (mn (mx (rd x1 x19) 0) (((rd_T94 x225000 x19).f1).size : Int)) ((rd_T94 x225000 x19).f2)) ≤ (((rd_T94 x225000 x19).f1).size : Int) then ((some (x225000.set (x19 : Int).toNat (⟨(rd_T94 x225000 x19).f0, ((rd_T94 x225000 x19).f1).extract 0 ((mx (mn (mx (rd x1 x19) 0) (((rd_T94 x225000 x19).f1).size : Int)) ((rd_T94 x225000 x19).f2)) : Int).toNat, (rd_T94 x225000 x19).f2⟩ : S94) : List (S94))).bind fun y229 => (impl_LoseDisk.l0 k x1 x18 (wrap64 (x19 + 1)) (y229.set (x19 : Int).toNat (⟨(rd_T94 y229 x19).f0, (rd_T94 y229 x19).f1, (((rd_T94 y229 x19).f1).size : Int)⟩ : S94)))) else (none)) else (none)) else (if 0 ≤ (mx 0 ((rd_T94 x225000 x19).f2)) then (if (mx 0 ((rd_T94 x225000 x19).f2)) ≤ (((rd_T94 x225000 x19).f1).size : Int) then ((some (x225000.set (x19 : Int).toNat (⟨(rd_T94 x225000 x19).f0, ((rd_T94 x225000 x19).f1).extract 0 ((mx 0 ((rd_T94 x225000 x19).f2)) : Int).toNat, (rd_T94 x225000 x19).f2⟩ : S94) : List (S94))).bind fun y234 => (impl_LoseDisk.l0 k x1 x18 (wrap64 (x19 + 1)) (y234.set (x19 : Int).toNat (⟨(rd_T94 y234 x19).f0, (rd_T94 y234 x19).f1, (((rd_T94 y234 x19).f1).size : Int)⟩ : S94)))) else (none)) else (none))) else (none)) else (none)) else (some (x225000, true))
def impl_LoseDisk.f (k : Nat) (l0_0 : List (S94)) (l1 : List Int) : Option ((List (S94)) × Bool) := (impl_DiskOk.f k l0_0).bind fun t220 => (if t220 = true then ((impl_copyDisk.f l0_0).bind fun t221 => (impl_LoseDisk.l0 k l1 (t221.length : Int) 0 t221)) else (some (([] : List (S94)), false)))
theorem impl_LoseDisk.mono_l : ∀ k, (∀ y0 y1 y2 y3, LeO (impl_LoseDisk.l0 k y0 y1 y2 y3) (impl_LoseDisk.l0 (k + 1) y0 y1 y2 y3))
  | 0 => fun _ _ _ _ r h => by simp [impl_LoseDisk.l0] at h
  | k + 1 => by
    have ih0 := impl_LoseDisk.mono_l k
    · intro y0 y1 y2 y3
      unfold impl_LoseDisk.l0
      repeat' first
      | (with_reducible exact ih0 _ _ _ _)
      | (with_reducible exact impl_DiskOk.mono _ _)
      | (with_reducible exact LeO.refl _)
      | (with_reducible exact LeO.none _)
      | (with_reducible refine LeO.ite ?_ ?_)
      | (with_reducible refine LeO.bind ?_ (fun _ => ?_))
      | exact ih0 _ _ _ _
      | exact impl_DiskOk.mono _ _
      | exact LeO.none _
      | refine LeO.ite ?_ ?_
      | refine LeO.bind ?_ (fun _ => ?_)
theorem impl_LoseDisk.mono : ∀ a0 a1 k, LeO (impl_LoseDisk.f k a0 a1) (impl_LoseDisk.f (k + 1) a0 a1) := by
  intro a0 a1 k
  have ih0 := impl_LoseDisk.mono_l k
  unfold impl_LoseDisk.f
  repeat' first
      | (with_reducible exact ih0 _ _ _ _)
      | (with_reducible exact impl_DiskOk.mono _ _)
      | (with_reducible exact LeO.refl _)
      | (with_reducible exact LeO.none _)
      | (with_reducible refine LeO.ite ?_ ?_)
      | (with_reducible refine LeO.bind ?_ (fun _ => ?_))
      | exact ih0 _ _ _ _
      | exact impl_DiskOk.mono _ _
      | exact LeO.none _
      | refine LeO.ite ?_ ?_
      | refine LeO.bind ?_ (fun _ => ?_)
def impl_LoseDisk.T10 : Bool × List (List Nat × List Nat) := (true, [([], []), ([], []), ([0, 1], [0, 1]), ([2], [2]), ([3], [3]), ([], []), ([5], [5]), ([6], [6]), ([7], [7]), ([8], [8]), ([4, 9], [4, 9]), ([10, 0, 1, 2, 3, 4, 5, 6, 7, 8, 9, 10], [10])])
def impl_LoseDisk.B10 : List Nat := [0, 0, 3, 7, 15, 0, 32, 96, 224, 480, 1023, 2047]
theorem impl_LoseDisk.tab10 : rtab .any (opsOf Try.f62 10) = impl_LoseDisk.T10 := by kernel_rfl
theorem impl_LoseDisk.bits10 : waitsOk impl_LoseDisk.T10.2 impl_LoseDisk.B10 = true := by kernel_rfl
def impl_LoseDisk.T11 : Bool × List (List Nat × List Nat) := (true, [([], []), ([], []), ([1], [1]), ([2], [2]), ([3], [3]), ([], []), ([], []), ([6], [6]), ([7], [7]), ([8], [8]), ([5, 9], [5, 9]), ([4, 10], [4, 10]), ([0, 0, 1, 2, 3, 4, 5, 6, 7, 8, 9, 10, 11], [0]), ([12, 0, 1, 2, 3, 4, 5, 6, 7, 8, 9, 10, 11], [12]), ([13, 11, 0, 1, 2, 3, 4, 5, 6, 7, 8, 9, 10, 11], [11, 13])])
def impl_LoseDisk.B11 : List Nat := [0, 0, 2, 6, 14, 0, 0, 64, 192, 448, 992, 2046, 4095, 8191, 16383]
theorem impl_LoseDisk.tab11 : rtab .any (opsOf Try.f62 11) = impl_LoseDisk.T11 := by kernel_rfl
theorem impl_LoseDisk.bits11 : waitsOk impl_LoseDisk.T11.2 impl_LoseDisk.B11 = true := by kernel_rfl
set_option maxHeartbeats 8000000 in
set_option maxRecDepth 100000 in
theorem impl_LoseDisk.calls (k : Nat) (A0_0 : Option Addr) (c0_0 : Nat) (l0_0 : List (S94)) (A1 : Option Addr) (c1 : Nat) (l1 : List Int) (r1 : List (S94)) (r2 : Bool) (w : World) (hr0_0 : Kd.C k94 w A0_0 l0_0.length l0_0) (hc0_0 : l0_0.length ≤ c0_0) (hr1 : Kd.C (Kd.int .i64) w A1 l1.length l1) (hc1 : l1.length ≤ c1) (h : impl_LoseDisk.f k l0_0 l1 = some (r1, r2)) :
  Calls Try.prog 62 #[.agg #[.slice A0_0 l0_0.length c0_0], .slice A1 l1.length c1] w fun e w' => ∃ v0_ : Value, e = .returned (.tuple #[.agg #[v0_], .bool r2]) ∧ Kd.R k94 94 w' w.heap.size (fun _ => True) v0_ r1 ∧ Below w.heap.size w w' := by
 have hu75 := Try.underlying75
 have HR0_0 := Aside0.mk hr0_0
 have HC0_0 := Aside0.mk hc0_0
 clear hr0_0 hc0_0
 have HR1 := Aside0.mk hr1
 have HC1 := Aside0.mk hc1
 clear hr1 hc1
 have HB := Aside0.mk (Below.refl w.heap.size w)
 have H : ((impl_DiskOk.f k l0_0).bind fun t220 => (if t220 = true then ((impl_copyDisk.f l0_0).bind fun t221 => (impl_LoseDisk.l0 k l1 (t221.length : Int) 0 t221)) else (some (([] : List (S94)), false)))) = some (r1, r2) := h
 clear h
 obtain ⟨t220, A30, H⟩ := Option.bind_eq_some_iff.mp H; have A3 := Aside0.mk A30; clear A30
 by_cases c4 : t220 = true
 ·subst c4
  rw [if_pos rfl] at H
  obtain ⟨t221, A50, H⟩ := Option.bind_eq_some_iff.mp H; have A5 := Aside0.mk A50; clear A50
  have H' := Aside0.mk H; clear H
  go_enter Try.func62, Try.ntmps62
  go_wp2_with (first | ((with_reducible refine gate_dst (N := 2) rfl ?_); refine bx_ 2 (cs := #[.slice A0_0 l0_0.length c0_0]) (t := 75) ?_; intro gb218 hg w6 hbox hb; have BK218 := Aside0.mk (hbox); have GW218 := Aside0.mk ((qs_ : w.heap.size ≤ gb218)); have GE218 := Aside0.mk ((qs_ : w.heap.size ≤ gb218)); replace HB := Aside0.mk (below_step qB_ hb); clear hb hbox hg) | ((with_reducible refine gate_dst (N := 4) rfl ?_); refine bx_ 4 (cs := #[.slice none 0 0]) (t := 75) ?_; intro gb219 hg w7 hbox hb; have BK219 := Aside0.mk (hbox); have GW219 := Aside0.mk ((qs_ : w.heap.size ≤ gb219)); have GE219 := Aside0.mk ((qs_ : w.heap.size ≤ gb219)); have NB218_219 := Aside0.mk ((by rw [hg]; exact Nat.ne_of_lt (blk_lt (qk_ BK218)) : gb218 ≠ gb219)); have NB219_218 := Aside0.mk ((by rw [hg]; exact Nat.ne_of_gt (blk_lt (qk_ BK218)) : gb219 ≠ gb218)); replace BK218 := Aside0.mk (blk_below (qk_ BK218) hb); replace HB := Aside0.mk (below_step qB_ hb); clear hb hbox hg; have hnb8 := NB218_219.out; have hnc8 := NB219_218.out; obtain ⟨hcz9_0, hfz9_0⟩ := bc1_ BK218) | ((with_reducible refine gate_callee (f := 49) rfl ?_); refine gl_ (some 11) Try.func49 #[.agg #[.slice A0_0 l0_0.length c0_0]] ?_; (with_reducible refine (impl_DiskOk.calls k _ _ l0_0 true _ ?side1 ?side2 A3.out).mono ?_); (case side1 => exact qC_ HR0_0 HB); (case side2 => exact HC0_0.out); rintro e w10 ⟨rfl, hb⟩; refine ⟨_, rfl, ?_⟩; replace BK218 := Aside0.mk (blk_below (qk_ BK218) hb); replace BK219 := Aside0.mk (blk_below (qk_ BK219) hb); replace HB := Aside0.mk (below_step qB_ hb); (try clear hb); (try clear hb2); (try clear hk); (try clear hi); obtain ⟨hcz11_0, hfz11_0⟩ := bc1_ BK218) | ((with_reducible refine gate_callee (f := 98) rfl ?_); refine gl_ (some 15) Try.func98 #[.agg #[.slice A0_0 l0_0.length c0_0]] ?_; (with_reducible refine (impl_copyDisk.calls _ _ l0_0 t221 _ ?side1 ?side2 A5.out).mono ?_); (case side1 => exact qC_ HR0_0 HB); (case side2 => exact HC0_0.out); rintro e w12 ⟨v222, rfl, ho0, hb⟩; refine ⟨_, rfl, ?_⟩; have HO223 := Aside0.mk (Kd.R_lower ho0 (below_size qB_)); replace BK218 := Aside0.mk (blk_below (qk_ BK218) hb); replace BK219 := Aside0.mk (blk_below (qk_ BK219) hb); replace HB := Aside0.mk (below_step qB_ hb); (try clear hb); (try clear hb2); (try clear hk); (try clear hi); (try clear ho0)) | ((with_reducible refine gate_dst (N := 6) rfl ?_); refine bx_ 6 (cs := #[.slice none 0 0]) (t := 75) ?_; intro gb224 hg w13 hbox hb; have BK224 := Aside0.mk (hbox); have GW224 := Aside0.mk ((qs_ : w.heap.size ≤ gb224)); have GE224 := Aside0.mk ((qs_ : w.heap.size ≤ gb224)); have NB218_224 := Aside0.mk ((by rw [hg]; exact Nat.ne_of_lt (blk_lt (qk_ BK218)) : gb218 ≠ gb224)); have NB224_218 := Aside0.mk ((by rw [hg]; exact Nat.ne_of_gt (blk_lt (qk_ BK218)) : gb224 ≠ gb218)); have NB219_224 := Aside0.mk ((by rw [hg]; exact Nat.ne_of_lt (blk_lt (qk_ BK219)) : gb219 ≠ gb224)); have NB224_219 := Aside0.mk ((by rw [hg]; exact Nat.ne_of_gt (blk_lt (qk_ BK219)) : gb224 ≠ gb219)); replace HO223 := Aside0.mk (Kd.R_below (qR_ HO223) hb); replace BK218 := Aside0.mk (blk_below (qk_ BK218) hb); replace BK219 := Aside0.mk (blk_below (qk_ BK219) hb); replace HB := Aside0.mk (below_step qB_ hb); clear hb hbox hg; obtain ⟨Ao14, co14, eo14⟩ := Kd.R_slice HO223.out; subst eo14; have hnb15 := NB224_218.out; have hnc15 := NB218_224.out; have hnb16 := NB224_219.out; have hnc16 := NB219_224.out; obtain ⟨hcz17_0, hfz17_0⟩ := bc1_ BK224))
  go_loopg [19] k (fun kq v19 w' => ∃ (x19_1 : Int) (x225000_1 : List (S94)) (u225000 : Value), v19 = .int .i64 x19_1 ∧ Aside0 (impl_LoseDisk.l0 kq l1 (t221.length : Int) x19_1 x225000_1 = some (r1, r2)) ∧ Aside0 (kq ≤ k) ∧ Aside0 (Kd.R k94 94 w' w.heap.size (fun _ => True) u225000 x225000_1) ∧ Aside0 (w'.heap[gb218]? = some (.cells #[(.slice A0_0 l0_0.length c0_0)] 75 (0, 0))) ∧ Aside0 (w'.heap[gb219]? = some (.cells #[(.slice none 0 0)] 75 (0, 0))) ∧ Aside0 (w'.heap[gb224]? = some (.cells #[u225000] 75 (0, 0))) ∧ Aside0 (Below w.heap.size w w'))
  case atStart => exact ⟨(0), (t221), (.slice Ao14 t221.length co14), qe_, H', ⟨Nat.le_refl _⟩, ⟨by (with_reducible repeat (first | apply Kd.R_alloc | apply Kd.R_drewN | apply Kd.R_drew)); exact Kd.R_mono (Kd.R_far (p := ⟨gb224, 0, none⟩) (Kd.R_types HO223.out BK224.out (by decide)) (fun _ hk => hk.2) (.slice Ao14 t221.length co14)) (fun _ hk => trivial)⟩, ⟨by (with_reducible repeat (first | refine blk_drewN ?_ _ | refine blk_drew ?_ | refine blk_alloc ?_ _)); refine blk_far ?_ NB218_224.out _; (with_reducible repeat (first | refine blk_drewN ?_ _ | refine blk_drew ?_ | refine blk_alloc ?_ _)); exact BK218.out⟩, ⟨by (with_reducible repeat (first | refine blk_drewN ?_ _ | refine blk_drew ?_ | refine blk_alloc ?_ _)); refine blk_far ?_ NB219_224.out _; (with_reducible repeat (first | refine blk_drewN ?_ _ | refine blk_drew ?_ | refine blk_alloc ?_ _)); exact BK219.out⟩, ⟨by (with_reducible repeat (first | refine blk_drewN ?_ _ | refine blk_drew ?_ | refine blk_alloc ?_ _)); refine blk_put (cs := #[.slice none 0 0]) ?_ 0 _ rfl; (with_reducible repeat (first | refine blk_drewN ?_ _ | refine blk_drew ?_ | refine blk_alloc ?_ _)); exact BK224.out⟩, ⟨qB_⟩⟩
  case round =>
   clear H'
   (try clear c1); (try clear p2); (try clear c4); (try clear c6); (try clear c8); (try clear c9); (try clear c15); (try clear c16); (try clear hcz11_0); (try clear hcz17_0); (try clear hcz9_0); (try clear hfz11_0); (try clear hfz17_0); (try clear hfz9_0)
   obtain ⟨x19_1, x225000_1, u225000, rfl, HA, HK1, HO_225000, BK218, BK219, BK224, HB⟩ := hrel
   cases gk with
   | zero => exact absurd HA.out (by simp [impl_LoseDisk.l0])
   | succ k1 =>
    have H := HA.out; clear HA
    simp only [impl_LoseDisk.l0] at H
    by_cases c18 : x19_1 < (t221.length : Int)
    ·rw [if_pos c18] at H
     have c18b0 : decide (x19_1 < (t221.length : Int)) = true := decide_eq_true c18
     clear c18
     by_cases c19 : 0 ≤ x19_1
     ·rw [if_pos c19] at H
      have c19b0 : decide (0 ≤ x19_1) = true := decide_eq_true c19
      clear c19
      by_cases c20 : x19_1 < (x225000_1.length : Int)
      ·rw [if_pos c20] at H
       have c20b0 : decide (x19_1 < (x225000_1.length : Int)) = true := decide_eq_true c20
       clear c20
       by_cases c22 : x19_1 < (l1.length : Int)
       ·rw [if_pos c22] at H
        have c22b0 : decide (x19_1 < (l1.length : Int)) = true := decide_eq_true c22
        clear c22
        obtain ⟨ji23, hji23⟩ : ∃ j_ : Int, (mx (rd l1 x19_1) 0) = j_ := ⟨_, rfl⟩
        first | rw [hji23] at H | simp only [hji23] at H
        have hji23_ : (if (rd l1 x19_1) < 0 then 0 else (rd l1 x19_1)) = ji23 := hji23
        obtain ⟨ji24, hji24⟩ : ∃ j_ : Int, (mn (ji23) (((rd_T94 x225000_1 x19_1).f1).size : Int)) = j_ := ⟨_, rfl⟩
        first | rw [hji24] at H | simp only [hji24] at H
        have hji24_ : (if (((rd_T94 x225000_1 x19_1).f1).size : Int) < (ji23) then (((rd_T94 x225000_1 x19_1).f1).size : Int) else (ji23)) = ji24 := hji24
        obtain ⟨ji25, hji25⟩ : ∃ j_ : Int, (mx (ji24) ((rd_T94 x225000_1 x19_1).f2)) = j_ := ⟨_, rfl⟩
        first | rw [hji25] at H | simp only [hji25] at H
        have hji25_ : (if (ji24) < ((rd_T94 x225000_1 x19_1).f2) then ((rd_T94 x225000_1 x19_1).f2) else (ji24)) = ji25 := hji25
        by_cases c26 : 0 ≤ (ji25)
        ·rw [if_pos c26] at H
         have c26b0 := eq_true c26
         have c26b1 : decide (0 ≤ (ji25)) = true := decide_eq_true c26
         clear c26
         by_cases c27 : (ji25) ≤ (((rd_T94 x225000_1 x19_1).f1).size : Int)
         ·rw [if_pos c27] at H
          have c27b0 := eq_true c27
          have c27b1 : decide ((ji25) ≤ (((rd_T94 x225000_1 x19_1).f1).size : Int)) = true := decide_eq_true c27
          clear c27
          obtain ⟨y229, hy229⟩ : ∃ y_ : List (S94), y_ = (x225000_1.set (x19_1 : Int).toNat (⟨(rd_T94 x225000_1 x19_1).f0, ((rd_T94 x225000_1 x19_1).f1).extract 0 ((ji25) : Int).toNat, (rd_T94 x225000_1 x19_1).f2⟩ : S94)) := ⟨_, rfl⟩
          replace H : (impl_LoseDisk.l0 k1 l1 (t221.length : Int) (wrap64 (x19_1 + 1)) (y229.set (x19_1 : Int).toNat (⟨(rd_T94 y229 x19_1).f0, (rd_T94 y229 x19_1).f1, (((rd_T94 y229 x19_1).f1).size : Int)⟩ : S94))) = some (r1, r2) := by first | (rw [hy229]; with_reducible exact H) | (have H2_ := (Option.bind_some _ _).symm.trans H; rw [hy229]; with_reducible exact H2_) | (have H2_ := (Option.bind_some _ _).symm.trans H; with_reducible exact H2_) | with_reducible exact H | (rw [hy229]; exact H) | exact H
          have Ny229 := Aside0.mk hy229
          clear hy229
          obtain ⟨y231, hy231⟩ : ∃ y_ : List (S94), y_ = (y229.set (x19_1 : Int).toNat (⟨(rd_T94 y229 x19_1).f0, (rd_T94 y229 x19_1).f1, (((rd_T94 y229 x19_1).f1).size : Int)⟩ : S94)) := ⟨_, rfl⟩
          replace H : (impl_LoseDisk.l0 k1 l1 (t221.length : Int) (wrap64 (x19_1 + 1)) y231) = some (r1, r2) := by first | (rw [hy231]; with_reducible exact H) | (have H2_ := (Option.bind_some _ _).symm.trans H; rw [hy231]; with_reducible exact H2_) | (have H2_ := (Option.bind_some _ _).symm.trans H; with_reducible exact H2_) | with_reducible exact H | (rw [hy231]; exact H) | exact H
          have Ny231 := Aside0.mk hy231
          clear hy231; have H' := Aside0.mk H; clear H; have hnb30 := NB224_218.out; have hnc30 := NB218_224.out; have hnb31 := NB224_219.out; have hnc31 := NB219_224.out
          obtain ⟨hcz32_0, hfz32_0⟩ := bc1_ BK224
          have p21 : 0 ≤ (x19_1 : Int) := of_decide_eq_true qa_
          have q21 : (x19_1 : Int) < ((x225000_1.length : Int) : Int) := of_decide_eq_true qa_
          obtain ⟨go21, co21, eo21, gb21, gl21, cl21, HG21⟩ := Kd.R_form HO_225000.out (by omega)
          (first | cases eo21 | (injection eo21 with ea_ en_ ec_; (first | subst ea_ | (injection ea_ with ea_; subst ea_)); subst ec_; clear en_))
          have GB21 := Aside0.mk gb21
          have GG21 := Aside0.mk HG21
          clear gb21 gl21 HG21
          obtain ⟨ce21, hcl21, hM21, hcc21, hfr21⟩ := Kd.R_elem HO_225000.out z94 (x19_1 : Int) p21 q21
          obtain rfl := k94_openM hM21
          have hx21_0 : wr.cell? ⟨go21, (x19_1 : Int).toNat * 3, none⟩ = some (.string ((rd_T94 x225000_1 x19_1).f0)) := hcc21 0 _ rfl
          have hx21_1 : wr.cell? ⟨go21, (x19_1 : Int).toNat * 3 + 1, none⟩ = some (.string ((rd_T94 x225000_1 x19_1).f1)) := hcc21 1 _ rfl
          have hx21_2 : wr.cell? ⟨go21, (x19_1 : Int).toNat * 3 + 2, none⟩ = some (.int .i64 ((rd_T94 x225000_1 x19_1).f2)) := hcc21 2 _ rfl
          have hf21_0 : wr.frozen? ⟨go21, (x19_1 : Int).toNat * 3, none⟩ = false := hfr21 0
          have hf21_1 : wr.frozen? ⟨go21, (x19_1 : Int).toNat * 3 + 1, none⟩ = false := hfr21 1
          have hf21_2 : wr.frozen? ⟨go21, (x19_1 : Int).toNat * 3 + 2, none⟩ = false := hfr21 2
          clear hcl21 hcc21 hfr21 hM21; replace p21 := eq_true p21; replace q21 := eq_true q21
          try go_wp2
          have n0_ := Aside0.mk (Kd.R_drew HO_225000.out)
          have n1_ := Aside0.mk (blk_drew BK218.out)
          have n2_ := Aside0.mk (blk_drew BK219.out)
          have n3_ := Aside0.mk (blk_drew BK224.out)
          have n4_ := Aside0.mk (below_drew1 HB.out)
          clear HO_225000; clear BK218; clear BK219; clear BK224; clear HB; have HO_225000 := n0_; have BK218 := n1_; have BK219 := n2_; have BK224 := n3_; have HB := n4_; clear n0_ n1_ n2_ n3_ n4_
          have p225 : 0 ≤ (x19_1 : Int) := of_decide_eq_true qa_
          have q225 : x19_1 < (l1.length : Int) := of_decide_eq_true qa_
          obtain ⟨ad225, e225, hx225_0⟩ := Kd.at_int HR1.out x19_1 p225 q225
          have hw225_0 := hx225_0; cases e225
          replace hx225_0 := (HB.out.cell (World.block_lt_of_cell? w _ hx225_0)).trans hx225_0
          replace p225 := eq_true p225; replace q225 := eq_true q225
          have p226 : 0 ≤ (x19_1 : Int) := of_decide_eq_true qa_
          have q226 : x19_1 < (x225000_1.length : Int) := of_decide_eq_true qa_
          obtain ⟨ad226, e226, hx226_0, hx226_1, hx226_2⟩ := at_T94 (Kd.R_reads' HO_225000.out).2.2 x19_1 p226 q226
          obtain rfl : (⟨go21, 0, none⟩ : Addr) = ad226 := (by injection e226)
          (first | simp only [add_plain] at hx226_0 | simp only [add_at] at hx226_0 | simp only [Addr.add, Nat.zero_add] at hx226_0 | skip)
          (first | simp only [add_plain] at hx226_1 | simp only [add_at] at hx226_1 | simp only [Addr.add, Nat.zero_add] at hx226_1 | skip)
          (first | simp only [add_plain] at hx226_2 | simp only [add_at] at hx226_2 | simp only [Addr.add, Nat.zero_add] at hx226_2 | skip)
          (try simp only [add_plain] at *)
          replace p226 := eq_true p226; replace q226 := eq_true q226
          refine start_ (n := 12) (S := fun w' => w'.cell? (ad225.add (x19_1).toNat) = some (.int .i64 (rd l1 x19_1)) ∧ w'.cell? ⟨go21, (x19_1).toNat * 3, none⟩ = some (.string ((rd_T94 x225000_1 x19_1).f0)) ∧ w'.cell? ⟨go21, (x19_1).toNat * 3 + 1, none⟩ = some (.string ((rd_T94 x225000_1 x19_1).f1)) ∧ w'.cell? ⟨go21, (x19_1).toNat * 3 + 2, none⟩ = some (.int .i64 ((rd_T94 x225000_1 x19_1).f2))) (ds := []) (bm 12 0) (by kernel_rfl) rfl (by kernel_rfl) ⟨((HB.out.cell (World.block_lt_of_cell? w _ hw225_0)).trans hw225_0), hx226_0, hx226_1, hx226_2⟩ (fun hHeld => ?_); refine with_tabW impl_LoseDisk.tab10 impl_LoseDisk.bits10 (fun HT_ HW_ => ?_)
          generalize wr.drew = w33 at HO_225000 BK218 BK219 BK224 HB hx225_0 hx226_0 hx226_1 hx226_2 hHeld ⊢
          refine pz_ 0 30 (bm 12 1) ?_; refine pz_ 1 31 (bm 12 3) ?_; refine pz_ 2 32 (bm 12 7) ?_; refine pz_ 5 35 (bm 12 39) ?_; refine pz_ 6 36 (bm 12 103) ?_; refine pz_ 7 37 (bm 12 231) ?_; refine tz4_ 3 33 (bm 12 239) ?_; refine pz_ 4 34 (bm 12 255) ?_; refine tz4_ 8 38 (bm 12 511) ?_; refine pz_ 9 39 (bm 12 1023) ?_; refine pz_ 10 40 (bm 12 2047) ?_; refine pz_ 11 9 (bm 12 4095) ?_
          refine done_ (done_of HT_.out (by kernel_rfl)) ?_
          try go_wp2
          have n0_ := Aside0.mk (Kd.R_drew HO_225000.out)
          have n1_ := Aside0.mk (blk_drew BK218.out)
          have n2_ := Aside0.mk (blk_drew BK219.out)
          have n3_ := Aside0.mk (blk_drew BK224.out)
          have n4_ := Aside0.mk (below_drew1 HB.out)
          clear HO_225000; clear BK218; clear BK219; clear BK224; clear HB; have HO_225000 := n0_; have BK218 := n1_; have BK219 := n2_; have BK224 := n3_; have HB := n4_; clear n0_ n1_ n2_ n3_ n4_
          have p227 : 0 ≤ (x19_1 : Int) := of_decide_eq_true qa_
          have q227 : x19_1 < (x225000_1.length : Int) := of_decide_eq_true qa_
          obtain ⟨ad227, e227, hx227_0, hx227_1, hx227_2⟩ := at_T94 (Kd.R_reads' HO_225000.out).2.2 x19_1 p227 q227
          obtain rfl : (⟨go21, 0, none⟩ : Addr) = ad227 := (by injection e227)
          (first | simp only [add_plain] at hx227_0 | simp only [add_at] at hx227_0 | simp only [Addr.add, Nat.zero_add] at hx227_0 | skip)
          (first | simp only [add_plain] at hx227_1 | simp only [add_at] at hx227_1 | simp only [Addr.add, Nat.zero_add] at hx227_1 | skip)
          (first | simp only [add_plain] at hx227_2 | simp only [add_at] at hx227_2 | simp only [Addr.add, Nat.zero_add] at hx227_2 | skip)
          (try simp only [add_plain] at *)
          replace p227 := eq_true p227; replace q227 := eq_true q227
          have p228 : 0 ≤ (x19_1 : Int) := of_decide_eq_true qa_
          have q228 : x19_1 < (x225000_1.length : Int) := of_decide_eq_true qa_
          obtain ⟨ad228, e228, hx228_0, hx228_1, hx228_2⟩ := at_T94 (Kd.R_reads' HO_225000.out).2.2 x19_1 p228 q228
          obtain rfl : (⟨go21, 0, none⟩ : Addr) = ad228 := (by injection e228)
          (first | simp only [add_plain] at hx228_0 | simp only [add_at] at hx228_0 | simp only [Addr.add, Nat.zero_add] at hx228_0 | skip)
          (first | simp only [add_plain] at hx228_1 | simp only [add_at] at hx228_1 | simp only [Addr.add, Nat.zero_add] at hx228_1 | skip)
          (first | simp only [add_plain] at hx228_2 | simp only [add_at] at hx228_2 | simp only [Addr.add, Nat.zero_add] at hx228_2 | skip)
          (try simp only [add_plain] at *)
          replace p228 := eq_true p228; replace q228 := eq_true q228
          have p28 : 0 ≤ (x19_1 : Int) := of_decide_eq_true qa_
          have q28 : (x19_1 : Int) < ((x225000_1.length : Int) : Int) := of_decide_eq_true qa_
          obtain ⟨ce28, hcl28, hM28, hcc28, hfr28⟩ := Kd.R_elem HO_225000.out z94 (x19_1 : Int) p28 q28
          obtain rfl := k94_openM hM28
          have hx28_0 : World.cell? _ ⟨go21, (x19_1 : Int).toNat * 3, none⟩ = some (.string ((rd_T94 x225000_1 x19_1).f0)) := hcc28 0 _ rfl
          have hx28_1 : World.cell? _ ⟨go21, (x19_1 : Int).toNat * 3 + 1, none⟩ = some (.string ((rd_T94 x225000_1 x19_1).f1)) := hcc28 1 _ rfl
          have hx28_2 : World.cell? _ ⟨go21, (x19_1 : Int).toNat * 3 + 2, none⟩ = some (.int .i64 ((rd_T94 x225000_1 x19_1).f2)) := hcc28 2 _ rfl
          have hf28_0 : World.frozen? _ ⟨go21, (x19_1 : Int).toNat * 3, none⟩ = false := hfr28 0
          have hf28_1 : World.frozen? _ ⟨go21, (x19_1 : Int).toNat * 3 + 1, none⟩ = false := hfr28 1
          have hf28_2 : World.frozen? _ ⟨go21, (x19_1 : Int).toNat * 3 + 2, none⟩ = false := hfr28 2
          clear hcl28 hcc28 hfr28 hM28; replace p28 := eq_true p28; replace q28 := eq_true q28
          obtain ⟨ce35, hcl35, hM35, hcc35, hfr35⟩ := Kd.R_elem HO_225000.out z94 (x19_1 : Int) (of_decide_eq_true qa_) (by have h_ : (x19_1 : Int) < ((x225000_1.length : Int) : Int) := of_decide_eq_true qa_; first | exact h_ | (have e_ := (Kd.R_reads' HO_225000.out).1; omega) | simpa using h_)
          obtain rfl := k94_openM hM35
          have HP35 := (Kd.R_seg HO_225000.out (x19_1 : Int) (of_decide_eq_true qa_) (by have h_ : (x19_1 : Int) < ((x225000_1.length : Int) : Int) := of_decide_eq_true qa_; first | exact h_ | (have e_ := (Kd.R_reads' HO_225000.out).1; omega) | simpa using h_) (seg := [.string (((rd_T94 x225000_1 x19_1).f1).extract 0 ((ji25) : Int).toNat)]) (j := 1) hcl35 hcc35 (show 2 ≤ 3 from by decide) (x' := (⟨(rd_T94 x225000_1 x19_1).f0, ((rd_T94 x225000_1 x19_1).f1).extract 0 ((ji25) : Int).toNat, (rd_T94 x225000_1 x19_1).f2⟩ : S94)) (k94_mkM _ _ _ (⟨(rd_T94 x225000_1 x19_1).f0, ((rd_T94 x225000_1 x19_1).f1).extract 0 ((ji25) : Int).toNat, (rd_T94 x225000_1 x19_1).f2⟩ : S94) ) (fun _ hk => hk)).1
          rw [← Ny229.out] at HP35
          have HQ35 := Aside0.mk HP35
          clear hcl35 hcc35 hfr35 hM35 HP35
          refine start_ (n := 15) (S := fun w' => w'.cell? ⟨go21, (x19_1).toNat * 3, none⟩ = some (.string ((rd_T94 x225000_1 x19_1).f0)) ∧ w'.cell? ⟨go21, (x19_1).toNat * 3 + 1, none⟩ = some (.string ((rd_T94 x225000_1 x19_1).f1)) ∧ w'.cell? ⟨go21, (x19_1).toNat * 3 + 2, none⟩ = some (.int .i64 ((rd_T94 x225000_1 x19_1).f2)) ∧ w'.cell? ⟨go21, (x19_1).toNat * 3, none⟩ = some (.string ((rd_T94 x225000_1 x19_1).f0)) ∧ w'.cell? ⟨go21, (x19_1).toNat * 3 + 1, none⟩ = some (.string ((rd_T94 x225000_1 x19_1).f1)) ∧ w'.cell? ⟨go21, (x19_1).toNat * 3 + 2, none⟩ = some (.int .i64 ((rd_T94 x225000_1 x19_1).f2))) (ds := [14]) (bm 15 0) (by kernel_rfl) rfl (by kernel_rfl) ⟨hx227_0, hx227_1, hx227_2, hx228_0, hx228_1, hx228_2⟩ (fun hHeld => ?_); refine with_tabW impl_LoseDisk.tab11 impl_LoseDisk.bits11 (fun HT_ HW_ => ?_)
          generalize w33.drew = w34 at HO_225000 BK218 BK219 BK224 HB HQ35 hf28_0 hf28_1 hf28_2 hx227_0 hx227_1 hx227_2 hx228_0 hx228_1 hx228_2 hx28_0 hx28_1 hx28_2 hHeld ⊢
          refine pz_ 0 41 (bm 15 1) ?_; refine pz_ 1 42 (bm 15 3) ?_; refine pz_ 2 43 (bm 15 7) ?_; refine pz_ 3 44 (bm 15 15) ?_; refine pz_ 5 46 (bm 15 47) ?_; refine pz_ 6 47 (bm 15 111) ?_; refine pz_ 7 48 (bm 15 239) ?_; refine pz_ 8 49 (bm 15 495) ?_; refine tz6_ 4 45 (bm 15 511) ?_; refine tz6_ 9 50 (bm 15 1023) ?_; refine pz_ 10 51 (bm 15 2047) ?_; refine pz_ 11 52 (bm 15 4095) ?_; refine pz_ 12 53 (bm 15 8191) ?_; refine pz_ 13 54 (bm 15 16383) ?_
          refine last_ (i := 14) (N := none) (bm 15 32767) rfl rfl (one_of HT_.out (by kernel_rfl)) (by decide) (fun K hK => ?_)
          refine skip_ (w1 := ?_) (by rfl) rfl ?_ ?_
          rotate_left
          ·go_simp
           rfl
          refine hK.out _ _ ?_
          clear hK K
          refine done_ (done_of HT_.out (by kernel_rfl)) ?_
          have n0_ : Aside0 (Kd.R k94 94 (w34.setCell ⟨go21, (x19_1 : Int).toNat * 3 + 1, none⟩ (.string (((rd_T94 x225000_1 x19_1).f1).extract 0 ((ji25) : Int).toNat))) w.heap.size (fun _ => True) (.slice (some ⟨go21, 0, none⟩) x225000_1.length co21) y229) := ⟨qR_ HQ35⟩
          have n1_ : Aside0 ((w34.setCell ⟨go21, (x19_1 : Int).toNat * 3 + 1, none⟩ (.string (((rd_T94 x225000_1 x19_1).f1).extract 0 ((ji25) : Int).toNat))).heap[gb218]? = some (.cells #[.slice A0_0 l0_0.length c0_0] 75 (0, 0))) := ⟨by (with_reducible repeat (first | refine blk_drewN ?_ _ | refine blk_drew ?_ | refine blk_alloc ?_ _)); refine blk_far ?_ (by have h_ := Kd.R_ne HO_225000.out BK218.out (by decide); intro e_; exact h_ (by rw [e_]; rfl)) _; (with_reducible repeat (first | refine blk_drewN ?_ _ | refine blk_drew ?_ | refine blk_alloc ?_ _)); exact BK218.out⟩
          have n2_ : Aside0 ((w34.setCell ⟨go21, (x19_1 : Int).toNat * 3 + 1, none⟩ (.string (((rd_T94 x225000_1 x19_1).f1).extract 0 ((ji25) : Int).toNat))).heap[gb219]? = some (.cells #[.slice none 0 0] 75 (0, 0))) := ⟨by (with_reducible repeat (first | refine blk_drewN ?_ _ | refine blk_drew ?_ | refine blk_alloc ?_ _)); refine blk_far ?_ (by have h_ := Kd.R_ne HO_225000.out BK219.out (by decide); intro e_; exact h_ (by rw [e_]; rfl)) _; (with_reducible repeat (first | refine blk_drewN ?_ _ | refine blk_drew ?_ | refine blk_alloc ?_ _)); exact BK219.out⟩
          have n3_ : Aside0 ((w34.setCell ⟨go21, (x19_1 : Int).toNat * 3 + 1, none⟩ (.string (((rd_T94 x225000_1 x19_1).f1).extract 0 ((ji25) : Int).toNat))).heap[gb224]? = some (.cells #[.slice (some ⟨go21, 0, none⟩) x225000_1.length co21] 75 (0, 0))) := ⟨by (with_reducible repeat (first | refine blk_drewN ?_ _ | refine blk_drew ?_ | refine blk_alloc ?_ _)); refine blk_far ?_ (by have h_ := Kd.R_ne HO_225000.out BK224.out (by decide); intro e_; exact h_ (by rw [e_]; rfl)) _; (with_reducible repeat (first | refine blk_drewN ?_ _ | refine blk_drew ?_ | refine blk_alloc ?_ _)); exact BK224.out⟩
          have n4_ : Aside0 (Below w.heap.size w (w34.setCell ⟨go21, (x19_1 : Int).toNat * 3 + 1, none⟩ (.string (((rd_T94 x225000_1 x19_1).f1).extract 0 ((ji25) : Int).toNat)))) := ⟨qB_⟩
          (try clear HO_225000); (try clear BK218); (try clear BK219); (try clear BK224); (try clear HB)
          generalize (w34.setCell ⟨go21, (x19_1 : Int).toNat * 3 + 1, none⟩ (.string (((rd_T94 x225000_1 x19_1).f1).extract 0 ((ji25) : Int).toNat))) = w36 at n0_ n1_ n2_ n3_ n4_ ⊢
          have HO_225000 := n0_; have BK218 := n1_; have BK219 := n2_; have BK224 := n3_; have HB := n4_; clear n0_ n1_ n2_ n3_ n4_
          have p230 : 0 ≤ (x19_1 : Int) := of_decide_eq_true qa_
          have q230 : x19_1 < (y229.length : Int) := (by have h_ : (x19_1 : Int) < ((x225000_1.length : Int) : Int) := of_decide_eq_true qa_; first | (have e_ := (Kd.R_reads' HO_225000.out).1; omega) | simpa only [Ny229.out, List.length_set] using h_)
          have ql230 : ((x19_1 : Int) < ((x225000_1.length : Int) : Int)) = True := eq_true (of_decide_eq_true qa_)
          obtain ⟨ad230, e230, hx230_0, hx230_1, hx230_2⟩ := at_T94 (Kd.R_reads' HO_225000.out).2.2 x19_1 p230 q230
          obtain rfl : (⟨go21, 0, none⟩ : Addr) = ad230 := (by injection e230)
          (first | simp only [add_plain] at hx230_0 | simp only [add_at] at hx230_0 | simp only [Addr.add, Nat.zero_add] at hx230_0 | skip)
          (first | simp only [add_plain] at hx230_1 | simp only [add_at] at hx230_1 | simp only [Addr.add, Nat.zero_add] at hx230_1 | skip)
          (first | simp only [add_plain] at hx230_2 | simp only [add_at] at hx230_2 | simp only [Addr.add, Nat.zero_add] at hx230_2 | skip)
          (try simp only [add_plain] at *)
          replace p230 := eq_true p230; replace q230 := eq_true q230
          have p29 : 0 ≤ (x19_1 : Int) := of_decide_eq_true qa_
          have q29 : (x19_1 : Int) < ((x225000_1.length : Int) : Int) := of_decide_eq_true qa_
          obtain ⟨ce29, hcl29, hM29, hcc29, hfr29⟩ := Kd.R_elem HO_225000.out z94 (x19_1 : Int) p29 q29
          obtain rfl := k94_openM hM29
          have hx29_0 : w36.cell? ⟨go21, (x19_1 : Int).toNat * 3, none⟩ = some (.string ((rd_T94 y229 x19_1).f0)) := hcc29 0 _ rfl
          have hx29_1 : w36.cell? ⟨go21, (x19_1 : Int).toNat * 3 + 1, none⟩ = some (.string ((rd_T94 y229 x19_1).f1)) := hcc29 1 _ rfl
          have hx29_2 : w36.cell? ⟨go21, (x19_1 : Int).toNat * 3 + 2, none⟩ = some (.int .i64 ((rd_T94 y229 x19_1).f2)) := hcc29 2 _ rfl
          have hf29_0 : w36.frozen? ⟨go21, (x19_1 : Int).toNat * 3, none⟩ = false := hfr29 0
          have hf29_1 : w36.frozen? ⟨go21, (x19_1 : Int).toNat * 3 + 1, none⟩ = false := hfr29 1
          have hf29_2 : w36.frozen? ⟨go21, (x19_1 : Int).toNat * 3 + 2, none⟩ = false := hfr29 2
          clear hcl29 hcc29 hfr29 hM29; replace p29 := eq_true p29; replace q29 := eq_true q29
          have HX37 := Aside0.mk (show Kd.R k94 94 w36 w.heap.size (fun _ => True) (.slice (some ⟨go21, 0, none⟩) x225000_1.length co21) y229 from (qR_ HO_225000))
          obtain ⟨ce37, hcl37, hM37, hcc37, hfr37⟩ := Kd.R_elem HX37.out z94 (x19_1 : Int) (of_decide_eq_true qa_) (by have h_ : (x19_1 : Int) < ((x225000_1.length : Int) : Int) := of_decide_eq_true qa_; first | exact h_ | (have e_ := (Kd.R_reads' HO_225000.out).1; omega) | simpa using h_)
          obtain rfl := k94_openM hM37
          have HP37 := Kd.R_seg HX37.out (x19_1 : Int) (of_decide_eq_true qa_) (by have h_ : (x19_1 : Int) < ((x225000_1.length : Int) : Int) := of_decide_eq_true qa_; first | exact h_ | (have e_ := (Kd.R_reads' HO_225000.out).1; omega) | simpa using h_) (seg := [.int .i64 (((rd_T94 y229 x19_1).f1).size : Int)]) (j := 2) hcl37 hcc37 (show 3 ≤ 3 from by decide) (x' := (⟨(rd_T94 y229 x19_1).f0, (rd_T94 y229 x19_1).f1, (((rd_T94 y229 x19_1).f1).size : Int)⟩ : S94)) (k94_mkM _ _ _ (⟨(rd_T94 y229 x19_1).f0, (rd_T94 y229 x19_1).f1, (((rd_T94 y229 x19_1).f1).size : Int)⟩ : S94) ) (fun _ hk => hk)
          have hx37_2 := hcc37 2 _ rfl
          (try simp only [show (k94).sz = 3 from rfl, Nat.mul_one, Nat.add_zero] at hx37_2)
          have hf37_2 := hfr37 2
          (try simp only [show (k94).sz = 3 from rfl, Nat.mul_one, Nat.add_zero] at hf37_2)
          clear hcl37 hcc37 hfr37 hM37
          try go_wp2_with (first | ((with_reducible refine gate_store (t := 3) (p := 62) rfl ?_); refine store_event (t := 3) (p := 62) (v := ?vo_w38) (w1 := (w36.setCell ⟨go21, (x19_1 : Int).toNat * 3 + 2, none⟩ (.int .i64 (((rd_T94 y229 x19_1).f1).size : Int)))) ?hg ?ho ?hn ?hr ?_; (case ho => rfl); (case hg => rfl); (case hn => rfl); (case hr => first | (go_simp; done) | (go_simp; rfl)); intro w38 hw; have hg : w36.grownBy w38 (some go21) := (by rw [hw]; exact HP37.2); have hp_ : Kd.R k94 94 w38 w.heap.size (fun _ => True) (.slice (some ⟨go21, 0, none⟩) x225000_1.length co21) y231 := (by rw [hw, Ny231.out]; exact HP37.1); clear HP37; have n0_ := Aside0.mk (hp_); have n1_ := Aside0.mk (blk_grown (qk_ BK218) hg (Kd.R_ne HO_225000.out BK218.out (by decide))); have n2_ := Aside0.mk (blk_grown (qk_ BK219) hg (Kd.R_ne HO_225000.out BK219.out (by decide))); have n3_ := Aside0.mk (blk_grown (qk_ BK224) hg (Kd.R_ne HO_225000.out BK224.out (by decide))); have n4_ := Aside0.mk ((by rw [hw]; exact below_set (HB.out) GB21.out : Below w.heap.size w w38)); clear HO_225000; clear BK218; clear BK219; clear BK224; clear HB; have HO_225000 := n0_; have BK218 := n1_; have BK219 := n2_; have BK224 := n3_; have HB := n4_; clear n0_ n1_ n2_ n3_ n4_; clear hg hw hp_))
          go_roundg k1
          case measure => have := HK1.out; omega
          case rel => exact ⟨(wrap64 (x19_1 + 1)), (y231), (.slice (some ⟨go21, 0, none⟩) x225000_1.length co21), qe_, H', ⟨by have := HK1.out; omega⟩, ⟨by (with_reducible repeat (first | apply Kd.R_alloc | apply Kd.R_drewN | apply Kd.R_drew)); first | exact HO_225000.out | (have h_ := HO_225000.out; simp only [own_slice] at h_ ⊢; exact h_)⟩, ⟨qk_ BK218⟩, ⟨qk_ BK219⟩, ⟨qk_ BK224⟩, ⟨qB_⟩⟩
         ·rw [if_neg c27] at H
          exact absurd H (by simp)
        ·rw [if_neg c26] at H
         exact absurd H (by simp)
       ·rw [if_neg c22] at H
        have c22b0 : decide (x19_1 < (l1.length : Int)) = false := decide_eq_false c22
        clear c22
        obtain ⟨ji39, hji39⟩ : ∃ j_ : Int, (mx 0 ((rd_T94 x225000_1 x19_1).f2)) = j_ := ⟨_, rfl⟩
        first | rw [hji39] at H | simp only [hji39] at H
        have hji39_ : (if 0 < ((rd_T94 x225000_1 x19_1).f2) then ((rd_T94 x225000_1 x19_1).f2) else 0) = ji39 := hji39
        by_cases c40 : 0 ≤ (ji39)
        ·rw [if_pos c40] at H
         have c40b0 := eq_true c40
         have c40b1 : decide (0 ≤ (ji39)) = true := decide_eq_true c40
         clear c40
         by_cases c41 : (ji39) ≤ (((rd_T94 x225000_1 x19_1).f1).size : Int)
         ·rw [if_pos c41] at H
          have c41b0 := eq_true c41
          have c41b1 : decide ((ji39) ≤ (((rd_T94 x225000_1 x19_1).f1).size : Int)) = true := decide_eq_true c41
          clear c41
          obtain ⟨y234, hy234⟩ : ∃ y_ : List (S94), y_ = (x225000_1.set (x19_1 : Int).toNat (⟨(rd_T94 x225000_1 x19_1).f0, ((rd_T94 x225000_1 x19_1).f1).extract 0 ((ji39) : Int).toNat, (rd_T94 x225000_1 x19_1).f2⟩ : S94)) := ⟨_, rfl⟩
          replace H : (impl_LoseDisk.l0 k1 l1 (t221.length : Int) (wrap64 (x19_1 + 1)) (y234.set (x19_1 : Int).toNat (⟨(rd_T94 y234 x19_1).f0, (rd_T94 y234 x19_1).f1, (((rd_T94 y234 x19_1).f1).size : Int)⟩ : S94))) = some (r1, r2) := by first | (rw [hy234]; with_reducible exact H) | (have H2_ := (Option.bind_some _ _).symm.trans H; rw [hy234]; with_reducible exact H2_) | (have H2_ := (Option.bind_some _ _).symm.trans H; with_reducible exact H2_) | with_reducible exact H | (rw [hy234]; exact H) | exact H
          have Ny234 := Aside0.mk hy234
          clear hy234
          obtain ⟨y236, hy236⟩ : ∃ y_ : List (S94), y_ = (y234.set (x19_1 : Int).toNat (⟨(rd_T94 y234 x19_1).f0, (rd_T94 y234 x19_1).f1, (((rd_T94 y234 x19_1).f1).size : Int)⟩ : S94)) := ⟨_, rfl⟩
          replace H : (impl_LoseDisk.l0 k1 l1 (t221.length : Int) (wrap64 (x19_1 + 1)) y236) = some (r1, r2) := by first | (rw [hy236]; with_reducible exact H) | (have H2_ := (Option.bind_some _ _).symm.trans H; rw [hy236]; with_reducible exact H2_) | (have H2_ := (Option.bind_some _ _).symm.trans H; with_reducible exact H2_) | with_reducible exact H | (rw [hy236]; exact H) | exact H
          have Ny236 := Aside0.mk hy236
          clear hy236; have H' := Aside0.mk H; clear H; have hnb44 := NB224_218.out; have hnc44 := NB218_224.out; have hnb45 := NB224_219.out; have hnc45 := NB219_224.out
          obtain ⟨hcz46_0, hfz46_0⟩ := bc1_ BK224
          have p21 : 0 ≤ (x19_1 : Int) := of_decide_eq_true qa_
          have q21 : (x19_1 : Int) < ((x225000_1.length : Int) : Int) := of_decide_eq_true qa_
          obtain ⟨go21, co21, eo21, gb21, gl21, cl21, HG21⟩ := Kd.R_form HO_225000.out (by omega)
          (first | cases eo21 | (injection eo21 with ea_ en_ ec_; (first | subst ea_ | (injection ea_ with ea_; subst ea_)); subst ec_; clear en_))
          have GB21 := Aside0.mk gb21
          have GG21 := Aside0.mk HG21
          clear gb21 gl21 HG21
          obtain ⟨ce21, hcl21, hM21, hcc21, hfr21⟩ := Kd.R_elem HO_225000.out z94 (x19_1 : Int) p21 q21
          obtain rfl := k94_openM hM21
          have hx21_0 : wr.cell? ⟨go21, (x19_1 : Int).toNat * 3, none⟩ = some (.string ((rd_T94 x225000_1 x19_1).f0)) := hcc21 0 _ rfl
          have hx21_1 : wr.cell? ⟨go21, (x19_1 : Int).toNat * 3 + 1, none⟩ = some (.string ((rd_T94 x225000_1 x19_1).f1)) := hcc21 1 _ rfl
          have hx21_2 : wr.cell? ⟨go21, (x19_1 : Int).toNat * 3 + 2, none⟩ = some (.int .i64 ((rd_T94 x225000_1 x19_1).f2)) := hcc21 2 _ rfl
          have hf21_0 : wr.frozen? ⟨go21, (x19_1 : Int).toNat * 3, none⟩ = false := hfr21 0
          have hf21_1 : wr.frozen? ⟨go21, (x19_1 : Int).toNat * 3 + 1, none⟩ = false := hfr21 1
          have hf21_2 : wr.frozen? ⟨go21, (x19_1 : Int).toNat * 3 + 2, none⟩ = false := hfr21 2
          clear hcl21 hcc21 hfr21 hM21; replace p21 := eq_true p21; replace q21 := eq_true q21
          try go_wp2
          have n0_ := Aside0.mk (Kd.R_drew HO_225000.out)
          have n1_ := Aside0.mk (blk_drew BK218.out)
          have n2_ := Aside0.mk (blk_drew BK219.out)
          have n3_ := Aside0.mk (blk_drew BK224.out)
          have n4_ := Aside0.mk (below_drew1 HB.out)
          clear HO_225000; clear BK218; clear BK219; clear BK224; clear HB; have HO_225000 := n0_; have BK218 := n1_; have BK219 := n2_; have BK224 := n3_; have HB := n4_; clear n0_ n1_ n2_ n3_ n4_
          have p232 : 0 ≤ (x19_1 : Int) := of_decide_eq_true qa_
          have q232 : x19_1 < (x225000_1.length : Int) := of_decide_eq_true qa_
          obtain ⟨ad232, e232, hx232_0, hx232_1, hx232_2⟩ := at_T94 (Kd.R_reads' HO_225000.out).2.2 x19_1 p232 q232
          obtain rfl : (⟨go21, 0, none⟩ : Addr) = ad232 := (by injection e232)
          (first | simp only [add_plain] at hx232_0 | simp only [add_at] at hx232_0 | simp only [Addr.add, Nat.zero_add] at hx232_0 | skip)
          (first | simp only [add_plain] at hx232_1 | simp only [add_at] at hx232_1 | simp only [Addr.add, Nat.zero_add] at hx232_1 | skip)
          (first | simp only [add_plain] at hx232_2 | simp only [add_at] at hx232_2 | simp only [Addr.add, Nat.zero_add] at hx232_2 | skip)
          (try simp only [add_plain] at *)
          replace p232 := eq_true p232; replace q232 := eq_true q232
          have p233 : 0 ≤ (x19_1 : Int) := of_decide_eq_true qa_
          have q233 : x19_1 < (x225000_1.length : Int) := of_decide_eq_true qa_
          obtain ⟨ad233, e233, hx233_0, hx233_1, hx233_2⟩ := at_T94 (Kd.R_reads' HO_225000.out).2.2 x19_1 p233 q233
          obtain rfl : (⟨go21, 0, none⟩ : Addr) = ad233 := (by injection e233)
          (first | simp only [add_plain] at hx233_0 | simp only [add_at] at hx233_0 | simp only [Addr.add, Nat.zero_add] at hx233_0 | skip)
          (first | simp only [add_plain] at hx233_1 | simp only [add_at] at hx233_1 | simp only [Addr.add, Nat.zero_add] at hx233_1 | skip)
          (first | simp only [add_plain] at hx233_2 | simp only [add_at] at hx233_2 | simp only [Addr.add, Nat.zero_add] at hx233_2 | skip)
          (try simp only [add_plain] at *)
          replace p233 := eq_true p233; replace q233 := eq_true q233
          have p42 : 0 ≤ (x19_1 : Int) := of_decide_eq_true qa_
          have q42 : (x19_1 : Int) < ((x225000_1.length : Int) : Int) := of_decide_eq_true qa_
          obtain ⟨ce42, hcl42, hM42, hcc42, hfr42⟩ := Kd.R_elem HO_225000.out z94 (x19_1 : Int) p42 q42
          obtain rfl := k94_openM hM42
          have hx42_0 : World.cell? _ ⟨go21, (x19_1 : Int).toNat * 3, none⟩ = some (.string ((rd_T94 x225000_1 x19_1).f0)) := hcc42 0 _ rfl
          have hx42_1 : World.cell? _ ⟨go21, (x19_1 : Int).toNat * 3 + 1, none⟩ = some (.string ((rd_T94 x225000_1 x19_1).f1)) := hcc42 1 _ rfl
          have hx42_2 : World.cell? _ ⟨go21, (x19_1 : Int).toNat * 3 + 2, none⟩ = some (.int .i64 ((rd_T94 x225000_1 x19_1).f2)) := hcc42 2 _ rfl
          have hf42_0 : World.frozen? _ ⟨go21, (x19_1 : Int).toNat * 3, none⟩ = false := hfr42 0
          have hf42_1 : World.frozen? _ ⟨go21, (x19_1 : Int).toNat * 3 + 1, none⟩ = false := hfr42 1
          have hf42_2 : World.frozen? _ ⟨go21, (x19_1 : Int).toNat * 3 + 2, none⟩ = false := hfr42 2
          clear hcl42 hcc42 hfr42 hM42; replace p42 := eq_true p42; replace q42 := eq_true q42
          obtain ⟨ce48, hcl48, hM48, hcc48, hfr48⟩ := Kd.R_elem HO_225000.out z94 (x19_1 : Int) (of_decide_eq_true qa_) (by have h_ : (x19_1 : Int) < ((x225000_1.length : Int) : Int) := of_decide_eq_true qa_; first | exact h_ | (have e_ := (Kd.R_reads' HO_225000.out).1; omega) | simpa using h_)
          obtain rfl := k94_openM hM48
          have HP48 := (Kd.R_seg HO_225000.out (x19_1 : Int) (of_decide_eq_true qa_) (by have h_ : (x19_1 : Int) < ((x225000_1.length : Int) : Int) := of_decide_eq_true qa_; first | exact h_ | (have e_ := (Kd.R_reads' HO_225000.out).1; omega) | simpa using h_) (seg := [.string (((rd_T94 x225000_1 x19_1).f1).extract 0 ((ji39) : Int).toNat)]) (j := 1) hcl48 hcc48 (show 2 ≤ 3 from by decide) (x' := (⟨(rd_T94 x225000_1 x19_1).f0, ((rd_T94 x225000_1 x19_1).f1).extract 0 ((ji39) : Int).toNat, (rd_T94 x225000_1 x19_1).f2⟩ : S94)) (k94_mkM _ _ _ (⟨(rd_T94 x225000_1 x19_1).f0, ((rd_T94 x225000_1 x19_1).f1).extract 0 ((ji39) : Int).toNat, (rd_T94 x225000_1 x19_1).f2⟩ : S94) ) (fun _ hk => hk)).1
          rw [← Ny234.out] at HP48
          have HQ48 := Aside0.mk HP48
          clear hcl48 hcc48 hfr48 hM48 HP48
          refine start_ (n := 15) (S := fun w' => w'.cell? ⟨go21, (x19_1).toNat * 3, none⟩ = some (.string ((rd_T94 x225000_1 x19_1).f0)) ∧ w'.cell? ⟨go21, (x19_1).toNat * 3 + 1, none⟩ = some (.string ((rd_T94 x225000_1 x19_1).f1)) ∧ w'.cell? ⟨go21, (x19_1).toNat * 3 + 2, none⟩ = some (.int .i64 ((rd_T94 x225000_1 x19_1).f2)) ∧ w'.cell? ⟨go21, (x19_1).toNat * 3, none⟩ = some (.string ((rd_T94 x225000_1 x19_1).f0)) ∧ w'.cell? ⟨go21, (x19_1).toNat * 3 + 1, none⟩ = some (.string ((rd_T94 x225000_1 x19_1).f1)) ∧ w'.cell? ⟨go21, (x19_1).toNat * 3 + 2, none⟩ = some (.int .i64 ((rd_T94 x225000_1 x19_1).f2))) (ds := [14]) (bm 15 0) (by kernel_rfl) rfl (by kernel_rfl) ⟨hx232_0, hx232_1, hx232_2, hx233_0, hx233_1, hx233_2⟩ (fun hHeld => ?_); refine with_tabW impl_LoseDisk.tab11 impl_LoseDisk.bits11 (fun HT_ HW_ => ?_)
          generalize wr.drew = w47 at HO_225000 BK218 BK219 BK224 HB HQ48 hf42_0 hf42_1 hf42_2 hx232_0 hx232_1 hx232_2 hx233_0 hx233_1 hx233_2 hx42_0 hx42_1 hx42_2 hHeld ⊢
          refine pz_ 0 41 (bm 15 1) ?_; refine pz_ 1 42 (bm 15 3) ?_; refine pz_ 2 43 (bm 15 7) ?_; refine pz_ 3 44 (bm 15 15) ?_; refine pz_ 5 46 (bm 15 47) ?_; refine pz_ 6 47 (bm 15 111) ?_; refine pz_ 7 48 (bm 15 239) ?_; refine pz_ 8 49 (bm 15 495) ?_; refine tz6_ 4 45 (bm 15 511) ?_; refine tz6_ 9 50 (bm 15 1023) ?_; refine pz_ 10 51 (bm 15 2047) ?_; refine pz_ 11 52 (bm 15 4095) ?_; refine pz_ 12 53 (bm 15 8191) ?_; refine pz_ 13 54 (bm 15 16383) ?_
          refine last_ (i := 14) (N := none) (bm 15 32767) rfl rfl (one_of HT_.out (by kernel_rfl)) (by decide) (fun K hK => ?_)
          refine skip_ (w1 := ?_) (by rfl) rfl ?_ ?_
          rotate_left
          ·go_simp
           rfl
          refine hK.out _ _ ?_
          clear hK K
          refine done_ (done_of HT_.out (by kernel_rfl)) ?_
          have n0_ : Aside0 (Kd.R k94 94 (w47.setCell ⟨go21, (x19_1 : Int).toNat * 3 + 1, none⟩ (.string (((rd_T94 x225000_1 x19_1).f1).extract 0 ((ji39) : Int).toNat))) w.heap.size (fun _ => True) (.slice (some ⟨go21, 0, none⟩) x225000_1.length co21) y234) := ⟨qR_ HQ48⟩
          have n1_ : Aside0 ((w47.setCell ⟨go21, (x19_1 : Int).toNat * 3 + 1, none⟩ (.string (((rd_T94 x225000_1 x19_1).f1).extract 0 ((ji39) : Int).toNat))).heap[gb218]? = some (.cells #[.slice A0_0 l0_0.length c0_0] 75 (0, 0))) := ⟨by (with_reducible repeat (first | refine blk_drewN ?_ _ | refine blk_drew ?_ | refine blk_alloc ?_ _)); refine blk_far ?_ (by have h_ := Kd.R_ne HO_225000.out BK218.out (by decide); intro e_; exact h_ (by rw [e_]; rfl)) _; (with_reducible repeat (first | refine blk_drewN ?_ _ | refine blk_drew ?_ | refine blk_alloc ?_ _)); exact BK218.out⟩
          have n2_ : Aside0 ((w47.setCell ⟨go21, (x19_1 : Int).toNat * 3 + 1, none⟩ (.string (((rd_T94 x225000_1 x19_1).f1).extract 0 ((ji39) : Int).toNat))).heap[gb219]? = some (.cells #[.slice none 0 0] 75 (0, 0))) := ⟨by (with_reducible repeat (first | refine blk_drewN ?_ _ | refine blk_drew ?_ | refine blk_alloc ?_ _)); refine blk_far ?_ (by have h_ := Kd.R_ne HO_225000.out BK219.out (by decide); intro e_; exact h_ (by rw [e_]; rfl)) _; (with_reducible repeat (first | refine blk_drewN ?_ _ | refine blk_drew ?_ | refine blk_alloc ?_ _)); exact BK219.out⟩
          have n3_ : Aside0 ((w47.setCell ⟨go21, (x19_1 : Int).toNat * 3 + 1, none⟩ (.string (((rd_T94 x225000_1 x19_1).f1).extract 0 ((ji39) : Int).toNat))).heap[gb224]? = some (.cells #[.slice (some ⟨go21, 0, none⟩) x225000_1.length co21] 75 (0, 0))) := ⟨by (with_reducible repeat (first | refine blk_drewN ?_ _ | refine blk_drew ?_ | refine blk_alloc ?_ _)); refine blk_far ?_ (by have h_ := Kd.R_ne HO_225000.out BK224.out (by decide); intro e_; exact h_ (by rw [e_]; rfl)) _; (with_reducible repeat (first | refine blk_drewN ?_ _ | refine blk_drew ?_ | refine blk_alloc ?_ _)); exact BK224.out⟩
          have n4_ : Aside0 (Below w.heap.size w (w47.setCell ⟨go21, (x19_1 : Int).toNat * 3 + 1, none⟩ (.string (((rd_T94 x225000_1 x19_1).f1).extract 0 ((ji39) : Int).toNat)))) := ⟨qB_⟩
          (try clear HO_225000); (try clear BK218); (try clear BK219); (try clear BK224); (try clear HB)
          generalize (w47.setCell ⟨go21, (x19_1 : Int).toNat * 3 + 1, none⟩ (.string (((rd_T94 x225000_1 x19_1).f1).extract 0 ((ji39) : Int).toNat))) = w49 at n0_ n1_ n2_ n3_ n4_ ⊢
          have HO_225000 := n0_; have BK218 := n1_; have BK219 := n2_; have BK224 := n3_; have HB := n4_; clear n0_ n1_ n2_ n3_ n4_
          have p235 : 0 ≤ (x19_1 : Int) := of_decide_eq_true qa_
          have q235 : x19_1 < (y234.length : Int) := (by have h_ : (x19_1 : Int) < ((x225000_1.length : Int) : Int) := of_decide_eq_true qa_; first | (have e_ := (Kd.R_reads' HO_225000.out).1; omega) | simpa only [Ny234.out, List.length_set] using h_)
          have ql235 : ((x19_1 : Int) < ((x225000_1.length : Int) : Int)) = True := eq_true (of_decide_eq_true qa_)
          obtain ⟨ad235, e235, hx235_0, hx235_1, hx235_2⟩ := at_T94 (Kd.R_reads' HO_225000.out).2.2 x19_1 p235 q235
          obtain rfl : (⟨go21, 0, none⟩ : Addr) = ad235 := (by injection e235)
          (first | simp only [add_plain] at hx235_0 | simp only [add_at] at hx235_0 | simp only [Addr.add, Nat.zero_add] at hx235_0 | skip)
          (first | simp only [add_plain] at hx235_1 | simp only [add_at] at hx235_1 | simp only [Addr.add, Nat.zero_add] at hx235_1 | skip)
          (first | simp only [add_plain] at hx235_2 | simp only [add_at] at hx235_2 | simp only [Addr.add, Nat.zero_add] at hx235_2 | skip)
          (try simp only [add_plain] at *)
          replace p235 := eq_true p235; replace q235 := eq_true q235
          have p43 : 0 ≤ (x19_1 : Int) := of_decide_eq_true qa_
          have q43 : (x19_1 : Int) < ((x225000_1.length : Int) : Int) := of_decide_eq_true qa_
          obtain ⟨ce43, hcl43, hM43, hcc43, hfr43⟩ := Kd.R_elem HO_225000.out z94 (x19_1 : Int) p43 q43
          obtain rfl := k94_openM hM43
          have hx43_0 : w49.cell? ⟨go21, (x19_1 : Int).toNat * 3, none⟩ = some (.string ((rd_T94 y234 x19_1).f0)) := hcc43 0 _ rfl
          have hx43_1 : w49.cell? ⟨go21, (x19_1 : Int).toNat * 3 + 1, none⟩ = some (.string ((rd_T94 y234 x19_1).f1)) := hcc43 1 _ rfl
          have hx43_2 : w49.cell? ⟨go21, (x19_1 : Int).toNat * 3 + 2, none⟩ = some (.int .i64 ((rd_T94 y234 x19_1).f2)) := hcc43 2 _ rfl
          have hf43_0 : w49.frozen? ⟨go21, (x19_1 : Int).toNat * 3, none⟩ = false := hfr43 0
          have hf43_1 : w49.frozen? ⟨go21, (x19_1 : Int).toNat * 3 + 1, none⟩ = false := hfr43 1
          have hf43_2 : w49.frozen? ⟨go21, (x19_1 : Int).toNat * 3 + 2, none⟩ = false := hfr43 2
          clear hcl43 hcc43 hfr43 hM43; replace p43 := eq_true p43; replace q43 := eq_true q43
          have HX50 := Aside0.mk (show Kd.R k94 94 w49 w.heap.size (fun _ => True) (.slice (some ⟨go21, 0, none⟩) x225000_1.length co21) y234 from (qR_ HO_225000))
          obtain ⟨ce50, hcl50, hM50, hcc50, hfr50⟩ := Kd.R_elem HX50.out z94 (x19_1 : Int) (of_decide_eq_true qa_) (by have h_ : (x19_1 : Int) < ((x225000_1.length : Int) : Int) := of_decide_eq_true qa_; first | exact h_ | (have e_ := (Kd.R_reads' HO_225000.out).1; omega) | simpa using h_)
          obtain rfl := k94_openM hM50
          have HP50 := Kd.R_seg HX50.out (x19_1 : Int) (of_decide_eq_true qa_) (by have h_ : (x19_1 : Int) < ((x225000_1.length : Int) : Int) := of_decide_eq_true qa_; first | exact h_ | (have e_ := (Kd.R_reads' HO_225000.out).1; omega) | simpa using h_) (seg := [.int .i64 (((rd_T94 y234 x19_1).f1).size : Int)]) (j := 2) hcl50 hcc50 (show 3 ≤ 3 from by decide) (x' := (⟨(rd_T94 y234 x19_1).f0, (rd_T94 y234 x19_1).f1, (((rd_T94 y234 x19_1).f1).size : Int)⟩ : S94)) (k94_mkM _ _ _ (⟨(rd_T94 y234 x19_1).f0, (rd_T94 y234 x19_1).f1, (((rd_T94 y234 x19_1).f1).size : Int)⟩ : S94) ) (fun _ hk => hk)
          have hx50_2 := hcc50 2 _ rfl
          (try simp only [show (k94).sz = 3 from rfl, Nat.mul_one, Nat.add_zero] at hx50_2)
          have hf50_2 := hfr50 2
          (try simp only [show (k94).sz = 3 from rfl, Nat.mul_one, Nat.add_zero] at hf50_2)
          clear hcl50 hcc50 hfr50 hM50
          try go_wp2_with (first | ((with_reducible refine gate_store (t := 3) (p := 62) rfl ?_); refine store_event (t := 3) (p := 62) (v := ?vo_w51) (w1 := (w49.setCell ⟨go21, (x19_1 : Int).toNat * 3 + 2, none⟩ (.int .i64 (((rd_T94 y234 x19_1).f1).size : Int)))) ?hg ?ho ?hn ?hr ?_; (case ho => rfl); (case hg => rfl); (case hn => rfl); (case hr => first | (go_simp; done) | (go_simp; rfl)); intro w51 hw; have hg : w49.grownBy w51 (some go21) := (by rw [hw]; exact HP50.2); have hp_ : Kd.R k94 94 w51 w.heap.size (fun _ => True) (.slice (some ⟨go21, 0, none⟩) x225000_1.length co21) y236 := (by rw [hw, Ny236.out]; exact HP50.1); clear HP50; have n0_ := Aside0.mk (hp_); have n1_ := Aside0.mk (blk_grown (qk_ BK218) hg (Kd.R_ne HO_225000.out BK218.out (by decide))); have n2_ := Aside0.mk (blk_grown (qk_ BK219) hg (Kd.R_ne HO_225000.out BK219.out (by decide))); have n3_ := Aside0.mk (blk_grown (qk_ BK224) hg (Kd.R_ne HO_225000.out BK224.out (by decide))); have n4_ := Aside0.mk ((by rw [hw]; exact below_set (HB.out) GB21.out : Below w.heap.size w w51)); clear HO_225000; clear BK218; clear BK219; clear BK224; clear HB; have HO_225000 := n0_; have BK218 := n1_; have BK219 := n2_; have BK224 := n3_; have HB := n4_; clear n0_ n1_ n2_ n3_ n4_; clear hg hw hp_))
          go_roundg k1
          case measure => have := HK1.out; omega
          case rel => exact ⟨(wrap64 (x19_1 + 1)), (y236), (.slice (some ⟨go21, 0, none⟩) x225000_1.length co21), qe_, H', ⟨by have := HK1.out; omega⟩, ⟨by (with_reducible repeat (first | apply Kd.R_alloc | apply Kd.R_drewN | apply Kd.R_drew)); first | exact HO_225000.out | (have h_ := HO_225000.out; simp only [own_slice] at h_ ⊢; exact h_)⟩, ⟨qk_ BK218⟩, ⟨qk_ BK219⟩, ⟨qk_ BK224⟩, ⟨qB_⟩⟩
         ·rw [if_neg c41] at H
          exact absurd H (by simp)
        ·rw [if_neg c40] at H
         exact absurd H (by simp)
      ·rw [if_neg c20] at H
       exact absurd H (by simp)
     ·rw [if_neg c19] at H
      exact absurd H (by simp)
    ·rw [if_neg c18] at H
     have c18b0 : decide (x19_1 < (t221.length : Int)) = false := decide_eq_false c18
     clear c18
     simp only [Option.some.injEq, Prod.mk.injEq] at H
     obtain ⟨rfl, rfl⟩ := H
     have hnb52 := NB224_218.out; have hnc52 := NB218_224.out; have hnb53 := NB224_219.out; have hnc53 := NB219_224.out
     obtain ⟨hcz54_0, hfz54_0⟩ := bc1_ BK224
     obtain ⟨Ao55, co55, eo55⟩ := Kd.R_slice HO_225000.out
     subst eo55; have hnb56 := NB219_218.out; have hnc56 := NB218_219.out
     obtain ⟨hcz57_0, hfz57_0⟩ := bc1_ BK219
     go_wp2
     refine bodyPost_ret (results_ct rfl _ _ gb219 75 #[.slice Ao55 x225000_1.length co55] (0, 0) _ rfl (by (with_reducible repeat (first | refine blk_drewN ?_ _ | refine blk_drew ?_ | refine blk_alloc ?_ _)); refine blk_put (cs := #[.slice none 0 0]) ?_ 0 _ rfl; (with_reducible repeat (first | refine blk_drewN ?_ _ | refine blk_drew ?_ | refine blk_alloc ?_ _)); exact BK219.out) Try.underlying75 rfl (by kernel_rfl)) rfl ?_
     exact ⟨_, qr_, by (with_reducible repeat (first | apply Kd.R_alloc | apply Kd.R_drewN | apply Kd.R_drew)); exact Kd.R_mono (Kd.R_far (p := ⟨gb219, 0, none⟩) (Kd.R_types HO_225000.out BK219.out (by decide)) (fun _ hk => hk.2) (.slice Ao55 x225000_1.length co55)) (fun _ hk => trivial), qB_⟩
 ·replace c4 := Bool.eq_false_iff.mpr c4
  subst c4
  rw [if_neg (show ¬ (false = true) by decide)] at H
  simp only [Option.some.injEq, Prod.mk.injEq] at H
  obtain ⟨rfl, rfl⟩ := H
  go_enter Try.func62, Try.ntmps62
  go_wp2_with (first | ((with_reducible refine gate_dst (N := 2) rfl ?_); refine bx_ 2 (cs := #[.slice A0_0 l0_0.length c0_0]) (t := 75) ?_; intro gb218 hg w58 hbox hb; have BK218 := Aside0.mk (hbox); have GW218 := Aside0.mk ((qs_ : w.heap.size ≤ gb218)); have GE218 := Aside0.mk ((qs_ : w.heap.size ≤ gb218)); replace HB := Aside0.mk (below_step qB_ hb); clear hb hbox hg) | ((with_reducible refine gate_dst (N := 4) rfl ?_); refine bx_ 4 (cs := #[.slice none 0 0]) (t := 75) ?_; intro gb219 hg w59 hbox hb; have BK219 := Aside0.mk (hbox); have GW219 := Aside0.mk ((qs_ : w.heap.size ≤ gb219)); have GE219 := Aside0.mk ((qs_ : w.heap.size ≤ gb219)); have NB218_219 := Aside0.mk ((by rw [hg]; exact Nat.ne_of_lt (blk_lt (qk_ BK218)) : gb218 ≠ gb219)); have NB219_218 := Aside0.mk ((by rw [hg]; exact Nat.ne_of_gt (blk_lt (qk_ BK218)) : gb219 ≠ gb218)); replace BK218 := Aside0.mk (blk_below (qk_ BK218) hb); replace HB := Aside0.mk (below_step qB_ hb); clear hb hbox hg; have hnb60 := NB218_219.out; have hnc60 := NB219_218.out; obtain ⟨hcz61_0, hfz61_0⟩ := bc1_ BK218) | ((with_reducible refine gate_callee (f := 49) rfl ?_); refine gl_ (some 11) Try.func49 #[.agg #[.slice A0_0 l0_0.length c0_0]] ?_; (with_reducible refine (impl_DiskOk.calls k _ _ l0_0 false _ ?side1 ?side2 A3.out).mono ?_); (case side1 => exact qC_ HR0_0 HB); (case side2 => exact HC0_0.out); rintro e w62 ⟨rfl, hb⟩; refine ⟨_, rfl, ?_⟩; replace BK218 := Aside0.mk (blk_below (qk_ BK218) hb); replace BK219 := Aside0.mk (blk_below (qk_ BK219) hb); replace HB := Aside0.mk (below_step qB_ hb); (try clear hb); (try clear hb2); (try clear hk); (try clear hi); obtain ⟨hcz63_0, hfz63_0⟩ := bc1_ BK219))
  refine bodyPost_ret (results_ct rfl _ _ gb219 75 #[.slice none 0 0] (0, 0) _ rfl (by (with_reducible repeat (first | refine blk_drewN ?_ _ | refine blk_drew ?_ | refine blk_alloc ?_ _)); refine blk_put (cs := #[.slice none 0 0]) ?_ 0 _ rfl; (with_reducible repeat (first | refine blk_drewN ?_ _ | refine blk_drew ?_ | refine blk_alloc ?_ _)); exact BK219.out) Try.underlying75 rfl (by kernel_rfl)) rfl ?_
  exact ⟨_, qr_, by first | exact Kd.R_nil _ _ _ _ _ | exact Kd.N_nil _ _ _ _ _ | exact Kd.V_nil _ _ _ _ _ | exact Kd.Q_nil _ _ _ _ _ | exact Kd.S_nil _ _ _ _ _, qB_⟩

end Go.Proofs.Ytmjblanhgekhpaa.QFnKeeps
