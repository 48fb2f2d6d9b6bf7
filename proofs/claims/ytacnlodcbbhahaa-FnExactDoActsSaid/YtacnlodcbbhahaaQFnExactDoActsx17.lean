-- printed for this claim by a program of the session's own (no text of the kit's print)
import Derived.Test.YtacnlodcbbhahaaQFnExactDoActsx0
import Derived.Test.YtacnlodcbbhahaaQFnExactDoActsx2
import Derived.Test.YtacnlodcbbhahaaQFnExactDoActsx13
import Derived.Test.YtacnlodcbbhahaaQFnExactDoActsx16
namespace Go.Proofs.Ytacnlodcbbhahaa.QFnExactDoActs
open Go.RowKit Go.Proofs.YtacnlodcbbhahaaW.PrintWords Go.Proofs.YtacnlodcbbhahaaW.PrintLast Go.Proofs.YtacnlodcbbhahaaW.PrintMore
attribute [local go_sem] max2_int min2_int max_two min_two max_three min_three max_four min_four   -- for this text's walks alone
set_option linter.unusedVariables false
set_option linter.unusedSimpArgs false

/-! ### impl_DoActs: function 50 -/
def impl_DoActs.l0 : Nat → List (S60) → List (S60) → Int → Int → List (S99) → Option ((List (S99)) × Int)
  | 0, _, _, _, _, _ => none
  | k + 1, x1, x13, x14, x15, x292000 => if x15 < x14 then (if 0 ≤ x15 then (if x15 < (x13.length : Int) then ((impl_DoAct.f k x292000 ((rd_T60 x13 x15).f0) ((rd_T60 x13 x15).f1) ((rd_T60 x13 x15).f2) ((rd_T60 x13 x15).f3)).bind fun bt294 => (if bt294.2 = true then (impl_DoActs.l0 k x1 x13 x14 (wrap64 (x15 + 1)) bt294.1) else (some (x292000, x15)))) else (none)) else (none)) else (some (x292000, (x1.length : Int)))
def impl_DoActs.f (k : Nat) (l0_0 : List (S99)) (l1 : List (S60)) : Option ((List (S99)) × Int) := (impl_copyDisk.f l0_0).bind fun t288 => (impl_DoActs.l0 k l1 l1 (l1.length : Int) 0 t288)
theorem impl_DoActs.mono_l : ∀ k, (∀ y0 y1 y2 y3 y4, LeO (impl_DoActs.l0 k y0 y1 y2 y3 y4) (impl_DoActs.l0 (k + 1) y0 y1 y2 y3 y4))
  | 0 => fun _ _ _ _ _ r h => by simp [impl_DoActs.l0] at h
  | k + 1 => by
    have ih0 := impl_DoActs.mono_l k
    · intro y0 y1 y2 y3 y4
      unfold impl_DoActs.l0
      repeat' first
      | (with_reducible exact ih0 _ _ _ _ _)
      | (with_reducible exact impl_DoAct.mono _ _ _ _ _ _)
      | (with_reducible exact LeO.refl _)
      | (with_reducible exact LeO.none _)
      | (with_reducible refine LeO.ite ?_ ?_)
      | (with_reducible refine LeO.bind ?_ (fun _ => ?_))
      | exact ih0 _ _ _ _ _
      | exact impl_DoAct.mono _ _ _ _ _ _
      | exact LeO.none _
      | refine LeO.ite ?_ ?_
      | refine LeO.bind ?_ (fun _ => ?_)
theorem impl_DoActs.mono : ∀ a0 a1 k, LeO (impl_DoActs.f k a0 a1) (impl_DoActs.f (k + 1) a0 a1) := by
  intro a0 a1 k
  have ih0 := impl_DoActs.mono_l k
  unfold impl_DoActs.f
  repeat' first
      | (with_reducible exact ih0 _ _ _ _ _)
      | (with_reducible exact impl_DoAct.mono _ _ _ _ _ _)
      | (with_reducible exact LeO.refl _)
      | (with_reducible exact LeO.none _)
      | (with_reducible refine LeO.ite ?_ ?_)
      | (with_reducible refine LeO.bind ?_ (fun _ => ?_))
      | exact ih0 _ _ _ _ _
      | exact impl_DoAct.mono _ _ _ _ _ _
      | exact LeO.none _
      | refine LeO.ite ?_ ?_
      | refine LeO.bind ?_ (fun _ => ?_)
set_option maxHeartbeats 8000000 in
set_option maxRecDepth 100000 in
theorem impl_DoActs.calls (k : Nat) (A0_0 : Option Addr) (c0_0 : Nat) (l0_0 : List (S99)) (A1 : Option Addr) (c1 : Nat) (l1 : List (S60)) (r1 : List (S99)) (r2 : Int) (w : World) (hr0_0 : Kd.C k99 w A0_0 l0_0.length l0_0) (hc0_0 : l0_0.length ≤ c0_0) (hr1 : Kd.C k60 w A1 l1.length l1) (hc1 : l1.length ≤ c1) (h : impl_DoActs.f k l0_0 l1 = some (r1, r2)) :
  Calls Try.prog 50 #[.agg #[.slice A0_0 l0_0.length c0_0], .slice A1 l1.length c1] w fun e w' => ∃ v0_ : Value, e = .returned (.tuple #[.agg #[v0_], .int .i64 r2]) ∧ Kd.R k99 99 w' w.heap.size (fun _ => True) v0_ r1 ∧ Below w.heap.size w w' := by
 have hu44 := Try.underlying44; have hu60 := Try.underlying60
 have HR0_0 := am_ hr0_0
 have HC0_0 := am_ hc0_0
 clear hr0_0 hc0_0
 have HR1 := am_ hr1
 have HC1 := am_ hc1
 clear hr1 hc1
 have HB := am_ (Below.refl w.heap.size w)
 have H : ((impl_copyDisk.f l0_0).bind fun t288 => (impl_DoActs.l0 k l1 l1 (l1.length : Int) 0 t288)) = some (r1, r2) := h
 clear h
 obtain ⟨t288, A30, H⟩ := Option.bind_eq_some_iff.mp H; have A3 := am_ A30; clear A30
 have H' := am_ H; clear H
 go_enter Try.func50, Try.ntmps50
 go_wp2_with (first | ((with_reducible refine gate_dst (N := 2) rfl ?_); refine bx_ 2 (cs := #[.slice A0_0 l0_0.length c0_0]) (t := 44) ?_; intro gb286 hg w4 hbox hb; have BK286 := am_ (hbox); have GW286 := am_ ((qs_ : w.heap.size ≤ gb286)); have GE286 := GW286; replace HB := am_ (below_step qB_ hb); clear hb hbox hg) | ((with_reducible refine gate_dst (N := 4) rfl ?_); refine bx_ 4 (cs := #[.slice none 0 0]) (t := 44) ?_; intro gb287 hg w5 hbox hb; have BK287 := am_ (hbox); have GW287 := am_ ((qs_ : w.heap.size ≤ gb287)); have GE287 := GW287; obtain ⟨NB286_287, NB287_286⟩ := qn_ BK286 hg; replace BK286 := qbl_ BK286 hb; replace HB := am_ (below_step qB_ hb); clear hb hbox hg; have hnb6 := NB286_287.out; have hnc6 := NB287_286.out; obtain ⟨hcz7_0, hfz7_0⟩ := bc1_ BK286) | ((with_reducible refine gate_callee (f := 78) rfl ?_); refine gl_ (some 12) Try.func78 #[.agg #[.slice A0_0 l0_0.length c0_0]] ?_; (with_reducible refine (impl_copyDisk.calls _ _ l0_0 t288 _ ?side1 ?side2 A3.out).mono ?_); (case side1 => exact qC_ HR0_0 HB); (case side2 => exact HC0_0.out); rintro e w8 ⟨v289, rfl, ho0, hb⟩; refine ⟨_, rfl, ?_⟩; have HO290 := am_ (Kd.R_lower ho0 (below_size qB_)); replace BK286 := qbl_ BK286 hb; replace BK287 := qbl_ BK287 hb; replace HB := am_ (below_step qB_ hb); (try clear hb); (try clear hb2); (try clear hk); (try clear hi); (try clear ho0)) | ((with_reducible refine gate_dst (N := 6) rfl ?_); refine bx_ 6 (cs := #[.slice none 0 0]) (t := 44) ?_; intro gb291 hg w9 hbox hb; have BK291 := am_ (hbox); have GW291 := am_ ((qs_ : w.heap.size ≤ gb291)); have GE291 := GW291; obtain ⟨NB286_291, NB291_286⟩ := qn_ BK286 hg; obtain ⟨NB287_291, NB291_287⟩ := qn_ BK287 hg; replace HO290 := am_ (Kd.R_below (qR_ HO290) hb); replace BK286 := qbl_ BK286 hb; replace BK287 := qbl_ BK287 hb; replace HB := am_ (below_step qB_ hb); clear hb hbox hg; obtain ⟨Ao10, co10, eo10⟩ := Kd.R_slice HO290.out; subst eo10; have hnb11 := NB291_286.out; have hnc11 := NB286_291.out; have hnb12 := NB291_287.out; have hnc12 := NB287_291.out; obtain ⟨hcz13_0, hfz13_0⟩ := bc1_ BK291))
 go_loopg [15] k (fun kq v15 w' => ∃ (x15_1 : Int) (x292000_1 : List (S99)) (u292000 : Value), v15 = .int .i64 x15_1 ∧ Aside0 (impl_DoActs.l0 kq l1 l1 (l1.length : Int) x15_1 x292000_1 = some (r1, r2)) ∧ Aside0 (kq ≤ k) ∧ Aside0 (Kd.R k99 99 w' w.heap.size (fun _ => True) u292000 x292000_1) ∧ Aside0 (w'.heap[gb286]? = some (.cells #[(.slice A0_0 l0_0.length c0_0)] 44 (0, 0))) ∧ Aside0 (w'.heap[gb287]? = some (.cells #[(.slice none 0 0)] 44 (0, 0))) ∧ Aside0 (w'.heap[gb291]? = some (.cells #[u292000] 44 (0, 0))) ∧ Aside0 (Below w.heap.size w w'))
 case atStart => exact ⟨(0), (t288), (.slice Ao10 t288.length co10), qe_, H', ⟨Nat.le_refl _⟩, ⟨by (with_reducible repeat (first | apply Kd.R_alloc | apply Kd.R_drewN | apply Kd.R_drew)); exact Kd.R_mono (Kd.R_far (p := ⟨gb291, 0, none⟩) (Kd.R_types HO290.out BK291.out (by decide)) (fun _ hk => hk.2) (.slice Ao10 t288.length co10)) (fun _ hk => trivial)⟩, ⟨qf_ BK286⟩, ⟨qf_ BK287⟩, ⟨by (with_reducible repeat (first | refine blk_drewN ?_ _ | refine blk_drew ?_ | refine blk_alloc ?_ _)); refine blk_put (cs := #[.slice none 0 0]) ?_ 0 _ rfl; exact qf_ BK291⟩, ⟨qB_⟩⟩
 case round =>
  clear H'
  (try clear c1); (try clear p2); (try clear c5); (try clear c6); (try clear c7); (try clear c11); (try clear c12); (try clear hcz13_0); (try clear hcz7_0); (try clear hfz13_0); (try clear hfz7_0)
  obtain ⟨x15_1, x292000_1, u292000, rfl, HA, HK1, HO_292000, BK286, BK287, BK291, HB⟩ := hrel
  cases gk with
  | zero => exact absurd HA.out (by simp [impl_DoActs.l0])
  | succ k1 =>
   have H := HA.out; clear HA
   simp only [impl_DoActs.l0] at H
   by_cases c14 : x15_1 < (l1.length : Int)
   ·rw [if_pos c14] at H
    have c14b0 : decide (x15_1 < (l1.length : Int)) = true := decide_eq_true c14
    clear c14
    by_cases c15 : 0 ≤ x15_1
    ·rw [if_pos c15] at H
     have c15b0 : decide (0 ≤ x15_1) = true := decide_eq_true c15
     clear c15
     by_cases c16 : x15_1 < (l1.length : Int)
     ·rw [if_pos c16] at H
      have c16b0 : decide (x15_1 < (l1.length : Int)) = true := decide_eq_true c16
      clear c16
      replace H := Option.bind_eq_some_iff.mp H
      obtain ⟨⟨t294, t297⟩, A170, H⟩ := H
      replace H : (if t297 = true then (impl_DoActs.l0 k1 l1 l1 (l1.length : Int) (wrap64 (x15_1 + 1)) t294) else (some (x292000_1, x15_1))) = some (r1, r2) := H
      have A17 := am_ A170
      clear A170
      by_cases c18 : t297 = true
      ·subst c18
       rw [if_pos rfl] at H; have H' := am_ H; clear H
       have p292 : 0 ≤ (x15_1 : Int) := of_decide_eq_true qa_
       have q292 : x15_1 < (l1.length : Int) := of_decide_eq_true qa_
       obtain ⟨ad292, e292, hx292_0, hx292_1, hx292_2, hx292_3⟩ := at_T60 HR1.out x15_1 p292 q292
       cases e292
       replace hx292_0 := qx_ HB hx292_0
       replace hx292_1 := qx_ HB hx292_1
       replace hx292_2 := qx_ HB hx292_2
       replace hx292_3 := qx_ HB hx292_3
       replace p292 := eq_true p292; replace q292 := eq_true q292
       go_wp2_with (first | ((with_reducible refine gate_dst (N := 8) rfl ?_); refine bx_ 8 (cs := #[.int .i64 0, .string (⟨#[]⟩ : ByteArray), .string (⟨#[]⟩ : ByteArray), .string (⟨#[]⟩ : ByteArray)]) (t := 60) ?_; intro gb293 hg w19 hbox hb; have BK293 := am_ (hbox); have GW293 := am_ ((qs_ : w.heap.size ≤ gb293)); have GE293 := GW293; obtain ⟨NB286_293, NB293_286⟩ := qn_ BK286 hg; obtain ⟨NB287_293, NB293_287⟩ := qn_ BK287 hg; obtain ⟨NB291_293, NB293_291⟩ := qn_ BK291 hg; replace HO_292000 := am_ (Kd.R_below (qR_ HO_292000) hb); replace BK286 := qbl_ BK286 hb; replace BK287 := qbl_ BK287 hb; replace BK291 := qbl_ BK291 hb; replace HB := am_ (below_step qB_ hb); clear hb hbox hg; have hnb20 := NB293_286.out; have hnc20 := NB286_293.out; have hnb21 := NB293_287.out; have hnc21 := NB287_293.out; have hnb22 := NB293_291.out; have hnc22 := NB291_293.out; obtain ⟨hcz23_0, hcz23_1, hcz23_2, hcz23_3, hfz23_0, hfz23_1, hfz23_2, hfz23_3⟩ := bc4_ BK293; have hnb24 := NB291_286.out; have hnc24 := NB286_291.out; have hnb25 := NB291_287.out; have hnc25 := NB287_291.out; obtain ⟨hcz26_0, hfz26_0⟩ := bc1_ BK291; obtain ⟨Ao27, co27, eo27⟩ := Kd.R_slice HO_292000.out; subst eo27) | ((with_reducible refine gate_callee (f := 40) rfl ?_); refine gl_ (some 23) Try.func40 #[.agg #[.slice Ao27 x292000_1.length co27], .agg #[.int .i64 ((rd_T60 l1 x15_1).f0), .string ((rd_T60 l1 x15_1).f1), .string ((rd_T60 l1 x15_1).f2), .string ((rd_T60 l1 x15_1).f3)]] ?_; (with_reducible refine (impl_DoAct.calls k1 _ _ x292000_1 ((rd_T60 l1 x15_1).f0) ((rd_T60 l1 x15_1).f1) ((rd_T60 l1 x15_1).f2) ((rd_T60 l1 x15_1).f3) t294 true _ ?side1 ?side2 A17.out).mono ?_); (case side1 => refine (Kd.R_reads' (e := 99) (base := w.heap.size) (ok := fun k_ => True) (n := x292000_1.length) (c := co27) ?_).2.2; exact (by (with_reducible repeat (first | apply Kd.R_alloc | apply Kd.R_drewN | apply Kd.R_drew)); exact (Kd.R_mono (Kd.R_far (p := ⟨gb293, 3, none⟩) (Kd.R_far (p := ⟨gb293, 2, none⟩) (Kd.R_far (p := ⟨gb293, 1, none⟩) (Kd.R_far (p := ⟨gb293, 0, none⟩) (Kd.R_types HO_292000.out BK293.out (by decide)) (fun _ hk => hk.2) (.int .i64 ((rd_T60 l1 x15_1).f0))) (fun _ hk => hk.2) (.string ((rd_T60 l1 x15_1).f1))) (fun _ hk => hk.2) (.string ((rd_T60 l1 x15_1).f2))) (fun _ hk => hk.2) (.string ((rd_T60 l1 x15_1).f3))) (fun _ h_ => h_.1)))); (case side2 => exact (Kd.R_reads' HO_292000.out).2.1); rintro e w28 ⟨v295, rfl, ho0, hb⟩; refine ⟨_, rfl, ?_⟩; have HO296 := am_ (Kd.R_lower (Kd.R_new' ho0 (Kd.R_lt (by (with_reducible repeat (first | apply Kd.R_alloc | apply Kd.R_drewN | apply Kd.R_drew)); exact (Kd.R_mono (Kd.R_far (p := ⟨gb293, 3, none⟩) (Kd.R_far (p := ⟨gb293, 2, none⟩) (Kd.R_far (p := ⟨gb293, 1, none⟩) (Kd.R_far (p := ⟨gb293, 0, none⟩) (Kd.R_types HO_292000.out BK293.out (by decide)) (fun _ hk => hk.2) (.int .i64 ((rd_T60 l1 x15_1).f0))) (fun _ hk => hk.2) (.string ((rd_T60 l1 x15_1).f1))) (fun _ hk => hk.2) (.string ((rd_T60 l1 x15_1).f2))) (fun _ hk => hk.2) (.string ((rd_T60 l1 x15_1).f3))) (fun _ h_ => h_.1))))) (below_size qB_)); replace HO_292000 := am_ (Kd.R_elder' (by (with_reducible repeat (first | apply Kd.R_alloc | apply Kd.R_drewN | apply Kd.R_drew)); exact (Kd.R_mono (Kd.R_far (p := ⟨gb293, 3, none⟩) (Kd.R_far (p := ⟨gb293, 2, none⟩) (Kd.R_far (p := ⟨gb293, 1, none⟩) (Kd.R_far (p := ⟨gb293, 0, none⟩) (Kd.R_types HO_292000.out BK293.out (by decide)) (fun _ hk => hk.2) (.int .i64 ((rd_T60 l1 x15_1).f0))) (fun _ hk => hk.2) (.string ((rd_T60 l1 x15_1).f1))) (fun _ hk => hk.2) (.string ((rd_T60 l1 x15_1).f2))) (fun _ hk => hk.2) (.string ((rd_T60 l1 x15_1).f3))) (fun _ h_ => h_.1))) (Kd.R_base ho0) hb); replace BK286 := qbl_ BK286 hb; replace BK287 := qbl_ BK287 hb; replace BK291 := qbl_ BK291 hb; replace BK293 := am_ (blk_below (g := gb293) (o := .cells #[.int .i64 ((rd_T60 l1 x15_1).f0), .string ((rd_T60 l1 x15_1).f1), .string ((rd_T60 l1 x15_1).f2), .string ((rd_T60 l1 x15_1).f3)] 60 (0, 0)) (by (with_reducible repeat (first | refine blk_drewN ?_ _ | refine blk_drew ?_ | refine blk_alloc ?_ _)); refine blk_put (cs := #[.int .i64 ((rd_T60 l1 x15_1).f0), .string ((rd_T60 l1 x15_1).f1), .string ((rd_T60 l1 x15_1).f2), .string (⟨#[]⟩ : ByteArray)]) ?_ 3 _ rfl; (with_reducible repeat (first | refine blk_drewN ?_ _ | refine blk_drew ?_ | refine blk_alloc ?_ _)); refine blk_put (cs := #[.int .i64 ((rd_T60 l1 x15_1).f0), .string ((rd_T60 l1 x15_1).f1), .string (⟨#[]⟩ : ByteArray), .string (⟨#[]⟩ : ByteArray)]) ?_ 2 _ rfl; (with_reducible repeat (first | refine blk_drewN ?_ _ | refine blk_drew ?_ | refine blk_alloc ?_ _)); refine blk_put (cs := #[.int .i64 ((rd_T60 l1 x15_1).f0), .string (⟨#[]⟩ : ByteArray), .string (⟨#[]⟩ : ByteArray), .string (⟨#[]⟩ : ByteArray)]) ?_ 1 _ rfl; (with_reducible repeat (first | refine blk_drewN ?_ _ | refine blk_drew ?_ | refine blk_alloc ?_ _)); refine blk_put (cs := #[.int .i64 0, .string (⟨#[]⟩ : ByteArray), .string (⟨#[]⟩ : ByteArray), .string (⟨#[]⟩ : ByteArray)]) ?_ 0 _ rfl; exact qf_ BK293) hb); replace HB := am_ (below_step qB_ hb); (try clear hb); (try clear hb2); (try clear hk); (try clear hi); (try clear ho0)) | ((with_reducible refine gate_dst (N := 9) rfl ?_); refine bx_ 9 (cs := #[.slice none 0 0]) (t := 44) ?_; intro gb298 hg w29 hbox hb; have BK298 := am_ (hbox); have GW298 := am_ ((qs_ : w.heap.size ≤ gb298)); have GE298 := GW298; obtain ⟨NB286_298, NB298_286⟩ := qn_ BK286 hg; obtain ⟨NB287_298, NB298_287⟩ := qn_ BK287 hg; obtain ⟨NB291_298, NB298_291⟩ := qn_ BK291 hg; obtain ⟨NB293_298, NB298_293⟩ := qn_ BK293 hg; replace HO_292000 := am_ (Kd.R_below (qR_ HO_292000) hb); replace HO296 := am_ (Kd.R_below (qR_ HO296) hb); replace BK286 := qbl_ BK286 hb; replace BK287 := qbl_ BK287 hb; replace BK291 := qbl_ BK291 hb; replace BK293 := qbl_ BK293 hb; replace HB := am_ (below_step qB_ hb); clear hb hbox hg; obtain ⟨Ao30, co30, eo30⟩ := Kd.R_slice HO296.out; subst eo30; have hnb31 := NB298_286.out; have hnc31 := NB286_298.out; have hnb32 := NB298_287.out; have hnc32 := NB287_298.out; have hnb33 := NB298_291.out; have hnc33 := NB291_298.out; have hnb34 := NB298_293.out; have hnc34 := NB293_298.out; obtain ⟨hcz35_0, hfz35_0⟩ := bc1_ BK298; obtain ⟨hcz36_0, hfz36_0⟩ := bc1_ BK291))
       go_roundg k1
       case measure => have := HK1.out; omega
       case rel => exact ⟨(wrap64 (x15_1 + 1)), (t294), (.slice Ao30 t294.length co30), qe_, H', ⟨by have := HK1.out; omega⟩, ⟨by (with_reducible repeat (first | apply Kd.R_alloc | apply Kd.R_drewN | apply Kd.R_drew)); exact Kd.R_mono (Kd.R_far (p := ⟨gb291, 0, none⟩) (Kd.R_far (p := ⟨gb298, 0, none⟩) (Kd.R_types (Kd.R_types HO296.out BK298.out (by decide)) BK291.out (by decide)) (fun _ hk => hk.1.2) (.slice Ao30 t294.length co30)) (fun _ hk => hk.2) (.slice Ao30 t294.length co30)) (fun _ hk => trivial)⟩, ⟨qf_ BK286⟩, ⟨qf_ BK287⟩, ⟨by (with_reducible repeat (first | refine blk_drewN ?_ _ | refine blk_drew ?_ | refine blk_alloc ?_ _)); refine blk_put (cs := #[.slice Ao27 x292000_1.length co27]) ?_ 0 _ rfl; exact qf_ BK291⟩, ⟨qB_⟩⟩
      ·replace c18 := Bool.eq_false_iff.mpr c18
       subst c18
       rw [if_neg (show ¬ (false = true) by decide)] at H
       simp only [Option.some.injEq, Prod.mk.injEq] at H
       obtain ⟨rfl, rfl⟩ := H
       have p292 : 0 ≤ (x15_1 : Int) := of_decide_eq_true qa_
       have q292 : x15_1 < (l1.length : Int) := of_decide_eq_true qa_
       obtain ⟨ad292, e292, hx292_0, hx292_1, hx292_2, hx292_3⟩ := at_T60 HR1.out x15_1 p292 q292
       cases e292
       replace hx292_0 := qx_ HB hx292_0
       replace hx292_1 := qx_ HB hx292_1
       replace hx292_2 := qx_ HB hx292_2
       replace hx292_3 := qx_ HB hx292_3
       replace p292 := eq_true p292; replace q292 := eq_true q292
       go_wp2_with (first | ((with_reducible refine gate_dst (N := 8) rfl ?_); refine bx_ 8 (cs := #[.int .i64 0, .string (⟨#[]⟩ : ByteArray), .string (⟨#[]⟩ : ByteArray), .string (⟨#[]⟩ : ByteArray)]) (t := 60) ?_; intro gb293 hg w37 hbox hb; have BK293 := am_ (hbox); have GW293 := am_ ((qs_ : w.heap.size ≤ gb293)); have GE293 := GW293; obtain ⟨NB286_293, NB293_286⟩ := qn_ BK286 hg; obtain ⟨NB287_293, NB293_287⟩ := qn_ BK287 hg; obtain ⟨NB291_293, NB293_291⟩ := qn_ BK291 hg; replace HO_292000 := am_ (Kd.R_below (qR_ HO_292000) hb); replace BK286 := qbl_ BK286 hb; replace BK287 := qbl_ BK287 hb; replace BK291 := qbl_ BK291 hb; replace HB := am_ (below_step qB_ hb); clear hb hbox hg; have hnb38 := NB293_286.out; have hnc38 := NB286_293.out; have hnb39 := NB293_287.out; have hnc39 := NB287_293.out; have hnb40 := NB293_291.out; have hnc40 := NB291_293.out; obtain ⟨hcz41_0, hcz41_1, hcz41_2, hcz41_3, hfz41_0, hfz41_1, hfz41_2, hfz41_3⟩ := bc4_ BK293; have hnb42 := NB291_286.out; have hnc42 := NB286_291.out; have hnb43 := NB291_287.out; have hnc43 := NB287_291.out; obtain ⟨hcz44_0, hfz44_0⟩ := bc1_ BK291; obtain ⟨Ao45, co45, eo45⟩ := Kd.R_slice HO_292000.out; subst eo45) | ((with_reducible refine gate_callee (f := 40) rfl ?_); refine gl_ (some 23) Try.func40 #[.agg #[.slice Ao45 x292000_1.length co45], .agg #[.int .i64 ((rd_T60 l1 x15_1).f0), .string ((rd_T60 l1 x15_1).f1), .string ((rd_T60 l1 x15_1).f2), .string ((rd_T60 l1 x15_1).f3)]] ?_; (with_reducible refine (impl_DoAct.calls k1 _ _ x292000_1 ((rd_T60 l1 x15_1).f0) ((rd_T60 l1 x15_1).f1) ((rd_T60 l1 x15_1).f2) ((rd_T60 l1 x15_1).f3) t294 false _ ?side1 ?side2 A17.out).mono ?_); (case side1 => refine (Kd.R_reads' (e := 99) (base := w.heap.size) (ok := fun k_ => True) (n := x292000_1.length) (c := co45) ?_).2.2; exact (by (with_reducible repeat (first | apply Kd.R_alloc | apply Kd.R_drewN | apply Kd.R_drew)); exact (Kd.R_mono (Kd.R_far (p := ⟨gb293, 3, none⟩) (Kd.R_far (p := ⟨gb293, 2, none⟩) (Kd.R_far (p := ⟨gb293, 1, none⟩) (Kd.R_far (p := ⟨gb293, 0, none⟩) (Kd.R_types HO_292000.out BK293.out (by decide)) (fun _ hk => hk.2) (.int .i64 ((rd_T60 l1 x15_1).f0))) (fun _ hk => hk.2) (.string ((rd_T60 l1 x15_1).f1))) (fun _ hk => hk.2) (.string ((rd_T60 l1 x15_1).f2))) (fun _ hk => hk.2) (.string ((rd_T60 l1 x15_1).f3))) (fun _ h_ => h_.1)))); (case side2 => exact (Kd.R_reads' HO_292000.out).2.1); rintro e w46 ⟨v295, rfl, ho0, hb⟩; refine ⟨_, rfl, ?_⟩; have HO296 := am_ (Kd.R_lower (Kd.R_new' ho0 (Kd.R_lt (by (with_reducible repeat (first | apply Kd.R_alloc | apply Kd.R_drewN | apply Kd.R_drew)); exact (Kd.R_mono (Kd.R_far (p := ⟨gb293, 3, none⟩) (Kd.R_far (p := ⟨gb293, 2, none⟩) (Kd.R_far (p := ⟨gb293, 1, none⟩) (Kd.R_far (p := ⟨gb293, 0, none⟩) (Kd.R_types HO_292000.out BK293.out (by decide)) (fun _ hk => hk.2) (.int .i64 ((rd_T60 l1 x15_1).f0))) (fun _ hk => hk.2) (.string ((rd_T60 l1 x15_1).f1))) (fun _ hk => hk.2) (.string ((rd_T60 l1 x15_1).f2))) (fun _ hk => hk.2) (.string ((rd_T60 l1 x15_1).f3))) (fun _ h_ => h_.1))))) (below_size qB_)); replace HO_292000 := am_ (Kd.R_elder' (by (with_reducible repeat (first | apply Kd.R_alloc | apply Kd.R_drewN | apply Kd.R_drew)); exact (Kd.R_mono (Kd.R_far (p := ⟨gb293, 3, none⟩) (Kd.R_far (p := ⟨gb293, 2, none⟩) (Kd.R_far (p := ⟨gb293, 1, none⟩) (Kd.R_far (p := ⟨gb293, 0, none⟩) (Kd.R_types HO_292000.out BK293.out (by decide)) (fun _ hk => hk.2) (.int .i64 ((rd_T60 l1 x15_1).f0))) (fun _ hk => hk.2) (.string ((rd_T60 l1 x15_1).f1))) (fun _ hk => hk.2) (.string ((rd_T60 l1 x15_1).f2))) (fun _ hk => hk.2) (.string ((rd_T60 l1 x15_1).f3))) (fun _ h_ => h_.1))) (Kd.R_base ho0) hb); replace BK286 := qbl_ BK286 hb; replace BK287 := qbl_ BK287 hb; replace BK291 := qbl_ BK291 hb; replace BK293 := am_ (blk_below (g := gb293) (o := .cells #[.int .i64 ((rd_T60 l1 x15_1).f0), .string ((rd_T60 l1 x15_1).f1), .string ((rd_T60 l1 x15_1).f2), .string ((rd_T60 l1 x15_1).f3)] 60 (0, 0)) (by (with_reducible repeat (first | refine blk_drewN ?_ _ | refine blk_drew ?_ | refine blk_alloc ?_ _)); refine blk_put (cs := #[.int .i64 ((rd_T60 l1 x15_1).f0), .string ((rd_T60 l1 x15_1).f1), .string ((rd_T60 l1 x15_1).f2), .string (⟨#[]⟩ : ByteArray)]) ?_ 3 _ rfl; (with_reducible repeat (first | refine blk_drewN ?_ _ | refine blk_drew ?_ | refine blk_alloc ?_ _)); refine blk_put (cs := #[.int .i64 ((rd_T60 l1 x15_1).f0), .string ((rd_T60 l1 x15_1).f1), .string (⟨#[]⟩ : ByteArray), .string (⟨#[]⟩ : ByteArray)]) ?_ 2 _ rfl; (with_reducible repeat (first | refine blk_drewN ?_ _ | refine blk_drew ?_ | refine blk_alloc ?_ _)); refine blk_put (cs := #[.int .i64 ((rd_T60 l1 x15_1).f0), .string (⟨#[]⟩ : ByteArray), .string (⟨#[]⟩ : ByteArray), .string (⟨#[]⟩ : ByteArray)]) ?_ 1 _ rfl; (with_reducible repeat (first | refine blk_drewN ?_ _ | refine blk_drew ?_ | refine blk_alloc ?_ _)); refine blk_put (cs := #[.int .i64 0, .string (⟨#[]⟩ : ByteArray), .string (⟨#[]⟩ : ByteArray), .string (⟨#[]⟩ : ByteArray)]) ?_ 0 _ rfl; exact qf_ BK293) hb); replace HB := am_ (below_step qB_ hb); (try clear hb); (try clear hb2); (try clear hk); (try clear hi); (try clear ho0)) | ((with_reducible refine gate_dst (N := 9) rfl ?_); refine bx_ 9 (cs := #[.slice none 0 0]) (t := 44) ?_; intro gb298 hg w47 hbox hb; have BK298 := am_ (hbox); have GW298 := am_ ((qs_ : w.heap.size ≤ gb298)); have GE298 := GW298; obtain ⟨NB286_298, NB298_286⟩ := qn_ BK286 hg; obtain ⟨NB287_298, NB298_287⟩ := qn_ BK287 hg; obtain ⟨NB291_298, NB298_291⟩ := qn_ BK291 hg; obtain ⟨NB293_298, NB298_293⟩ := qn_ BK293 hg; replace HO_292000 := am_ (Kd.R_below (qR_ HO_292000) hb); replace HO296 := am_ (Kd.R_below (qR_ HO296) hb); replace BK286 := qbl_ BK286 hb; replace BK287 := qbl_ BK287 hb; replace BK291 := qbl_ BK291 hb; replace BK293 := qbl_ BK293 hb; replace HB := am_ (below_step qB_ hb); clear hb hbox hg; obtain ⟨Ao48, co48, eo48⟩ := Kd.R_slice HO296.out; subst eo48; have hnb49 := NB298_286.out; have hnc49 := NB286_298.out; have hnb50 := NB298_287.out; have hnc50 := NB287_298.out; have hnb51 := NB298_291.out; have hnc51 := NB291_298.out; have hnb52 := NB298_293.out; have hnc52 := NB293_298.out; obtain ⟨hcz53_0, hfz53_0⟩ := bc1_ BK298; obtain ⟨hcz54_0, hfz54_0⟩ := bc1_ BK291; have hnb55 := NB287_286.out; have hnc55 := NB286_287.out; obtain ⟨hcz56_0, hfz56_0⟩ := bc1_ BK287))
       refine bodyPost_ret (results_ct rfl _ _ gb287 44 #[.slice Ao45 x292000_1.length co45] (0, 0) _ rfl (by (with_reducible repeat (first | refine blk_drewN ?_ _ | refine blk_drew ?_ | refine blk_alloc ?_ _)); refine blk_put (cs := #[.slice none 0 0]) ?_ 0 _ rfl; exact qf_ BK287) Try.underlying44 rfl (by kernel_rfl)) rfl ?_
       exact ⟨_, qr_, by (with_reducible repeat (first | apply Kd.R_alloc | apply Kd.R_drewN | apply Kd.R_drew)); exact Kd.R_mono (Kd.R_far (p := ⟨gb287, 0, none⟩) (Kd.R_far (p := ⟨gb298, 0, none⟩) (Kd.R_types (Kd.R_types HO_292000.out BK298.out (by decide)) BK287.out (by decide)) (fun _ hk => hk.1.2) (.slice Ao48 t294.length co48)) (fun _ hk => hk.2) (.slice Ao45 x292000_1.length co45)) (fun _ hk => trivial), qB_⟩
     ·rw [if_neg c16] at H
      exact absurd H (by simp)
    ·rw [if_neg c15] at H
     exact absurd H (by simp)
   ·rw [if_neg c14] at H
    have c14b0 : decide (x15_1 < (l1.length : Int)) = false := decide_eq_false c14
    clear c14
    simp only [Option.some.injEq, Prod.mk.injEq] at H
    obtain ⟨rfl, rfl⟩ := H
    have hnb57 := NB291_286.out; have hnc57 := NB286_291.out; have hnb58 := NB291_287.out; have hnc58 := NB287_291.out
    obtain ⟨hcz59_0, hfz59_0⟩ := bc1_ BK291
    obtain ⟨Ao60, co60, eo60⟩ := Kd.R_slice HO_292000.out
    subst eo60; have hnb61 := NB287_286.out; have hnc61 := NB286_287.out
    obtain ⟨hcz62_0, hfz62_0⟩ := bc1_ BK287
    go_wp2
    refine bodyPost_ret (results_ct rfl _ _ gb287 44 #[.slice Ao60 x292000_1.length co60] (0, 0) _ rfl (by (with_reducible repeat (first | refine blk_drewN ?_ _ | refine blk_drew ?_ | refine blk_alloc ?_ _)); refine blk_put (cs := #[.slice none 0 0]) ?_ 0 _ rfl; exact qf_ BK287) Try.underlying44 rfl (by kernel_rfl)) rfl ?_
    exact ⟨_, qr_, by (with_reducible repeat (first | apply Kd.R_alloc | apply Kd.R_drewN | apply Kd.R_drew)); exact Kd.R_mono (Kd.R_far (p := ⟨gb287, 0, none⟩) (Kd.R_types HO_292000.out BK287.out (by decide)) (fun _ hk => hk.2) (.slice Ao60 x292000_1.length co60)) (fun _ hk => trivial), qB_⟩

/-! ### laws_eqAct: function 94 -/
def laws_eqAct.f (a0_0 : Int) (a0_1 : ByteArray) (a0_2 : ByteArray) (a0_3 : ByteArray) (a1_0 : Int) (a1_1 : ByteArray) (a1_2 : ByteArray) (a1_3 : ByteArray) : Option (Bool) := if a0_0 = a1_0 then (if a0_1.toList = a1_1.toList then (if a0_2.toList = a1_2.toList then (if a0_3.toList = a1_3.toList then (some true) else (some false)) else (some false)) else (some false)) else (some false)
set_option maxHeartbeats 8000000 in
set_option maxRecDepth 100000 in
theorem laws_eqAct.calls (a0_0 : Int) (a0_1 : ByteArray) (a0_2 : ByteArray) (a0_3 : ByteArray) (a1_0 : Int) (a1_1 : ByteArray) (a1_2 : ByteArray) (a1_3 : ByteArray) (r : Bool) (w : World) (h : laws_eqAct.f a0_0 a0_1 a0_2 a0_3 a1_0 a1_1 a1_2 a1_3 = some r) :
  Calls Try.prog 94 #[.agg #[.int .i64 a0_0, .string a0_1, .string a0_2, .string a0_3], .agg #[.int .i64 a1_0, .string a1_1, .string a1_2, .string a1_3]] w fun e w' => e = .returned (.bool r) ∧ Below w.heap.size w w' := by
 have hu60 := Try.underlying60
 have HB := am_ (Below.refl w.heap.size w)
 have H : (if a0_0 = a1_0 then (if a0_1.toList = a1_1.toList then (if a0_2.toList = a1_2.toList then (if a0_3.toList = a1_3.toList then (some true) else (some false)) else (some false)) else (some false)) else (some false)) = some r := h
 clear h
 by_cases c3 : a0_0 = a1_0
 ·rw [if_pos c3] at H
  have c3b0 : (a0_0 == a1_0) = true := beq_iff_eq.mpr c3
  have c3b1 : (a0_0 != a1_0) = false := bne_eq_false_iff_eq.mpr c3
  clear c3
  by_cases c4 : a0_1.toList = a1_1.toList
  ·rw [if_pos c4] at H
   have c4b0 : (a0_1.toList == a1_1.toList) = true := beq_iff_eq.mpr c4
   have c4b1 : (a0_1.toList != a1_1.toList) = false := bne_eq_false_iff_eq.mpr c4
   clear c4
   by_cases c5 : a0_2.toList = a1_2.toList
   ·rw [if_pos c5] at H
    have c5b0 : (a0_2.toList == a1_2.toList) = true := beq_iff_eq.mpr c5
    have c5b1 : (a0_2.toList != a1_2.toList) = false := bne_eq_false_iff_eq.mpr c5
    clear c5
    by_cases c6 : a0_3.toList = a1_3.toList
    ·rw [if_pos c6] at H
     have c6b0 : (a0_3.toList == a1_3.toList) = true := beq_iff_eq.mpr c6
     have c6b1 : (a0_3.toList != a1_3.toList) = false := bne_eq_false_iff_eq.mpr c6
     clear c6
     obtain rfl := Option.some.inj H
     go_enter Try.func94, Try.ntmps94
     go_wp2_with (first | ((with_reducible refine gate_dst (N := 2) rfl ?_); refine bx_ 2 (cs := #[.int .i64 a0_0, .string a0_1, .string a0_2, .string a0_3]) (t := 60) ?_; intro gb299 hg w7 hbox hb; have BK299 := am_ (hbox); have GW299 := am_ ((qs_ : w.heap.size ≤ gb299)); have GE299 := GW299; replace HB := am_ (below_step qB_ hb); clear hb hbox hg) | ((with_reducible refine gate_dst (N := 3) rfl ?_); refine bx_ 3 (cs := #[.int .i64 a1_0, .string a1_1, .string a1_2, .string a1_3]) (t := 60) ?_; intro gb300 hg w8 hbox hb; have BK300 := am_ (hbox); have GW300 := am_ ((qs_ : w.heap.size ≤ gb300)); have GE300 := GW300; obtain ⟨NB299_300, NB300_299⟩ := qn_ BK299 hg; replace BK299 := qbl_ BK299 hb; replace HB := am_ (below_step qB_ hb); clear hb hbox hg; have hnb9 := NB299_300.out; have hnc9 := NB300_299.out; obtain ⟨hcz10_0, hcz10_1, hcz10_2, hcz10_3, hfz10_0, hfz10_1, hfz10_2, hfz10_3⟩ := bc4_ BK299; obtain ⟨hcz11_0, hcz11_1, hcz11_2, hcz11_3, hfz11_0, hfz11_1, hfz11_2, hfz11_3⟩ := bc4_ BK300))
     go_ret
     exact ⟨qr_, qB_⟩
    ·rw [if_neg c6] at H
     have c6b0 : (a0_3.toList == a1_3.toList) = false := beq_eq_false_iff_ne.mpr c6
     have c6b1 : (a0_3.toList != a1_3.toList) = true := bne_iff_ne.mpr c6
     obtain rfl := Option.some.inj H
     go_enter Try.func94, Try.ntmps94
     go_wp2_with (first | ((with_reducible refine gate_dst (N := 2) rfl ?_); refine bx_ 2 (cs := #[.int .i64 a0_0, .string a0_1, .string a0_2, .string a0_3]) (t := 60) ?_; intro gb299 hg w12 hbox hb; have BK299 := am_ (hbox); have GW299 := am_ ((qs_ : w.heap.size ≤ gb299)); have GE299 := GW299; replace HB := am_ (below_step qB_ hb); clear hb hbox hg) | ((with_reducible refine gate_dst (N := 3) rfl ?_); refine bx_ 3 (cs := #[.int .i64 a1_0, .string a1_1, .string a1_2, .string a1_3]) (t := 60) ?_; intro gb300 hg w13 hbox hb; have BK300 := am_ (hbox); have GW300 := am_ ((qs_ : w.heap.size ≤ gb300)); have GE300 := GW300; obtain ⟨NB299_300, NB300_299⟩ := qn_ BK299 hg; replace BK299 := qbl_ BK299 hb; replace HB := am_ (below_step qB_ hb); clear hb hbox hg; have hnb14 := NB299_300.out; have hnc14 := NB300_299.out; obtain ⟨hcz15_0, hcz15_1, hcz15_2, hcz15_3, hfz15_0, hfz15_1, hfz15_2, hfz15_3⟩ := bc4_ BK299; obtain ⟨hcz16_0, hcz16_1, hcz16_2, hcz16_3, hfz16_0, hfz16_1, hfz16_2, hfz16_3⟩ := bc4_ BK300))
     go_ret
     exact ⟨qr_, qB_⟩
   ·rw [if_neg c5] at H
    have c5b0 : (a0_2.toList == a1_2.toList) = false := beq_eq_false_iff_ne.mpr c5
    have c5b1 : (a0_2.toList != a1_2.toList) = true := bne_iff_ne.mpr c5
    obtain rfl := Option.some.inj H
    go_enter Try.func94, Try.ntmps94
    go_wp2_with (first | ((with_reducible refine gate_dst (N := 2) rfl ?_); refine bx_ 2 (cs := #[.int .i64 a0_0, .string a0_1, .string a0_2, .string a0_3]) (t := 60) ?_; intro gb299 hg w17 hbox hb; have BK299 := am_ (hbox); have GW299 := am_ ((qs_ : w.heap.size ≤ gb299)); have GE299 := GW299; replace HB := am_ (below_step qB_ hb); clear hb hbox hg) | ((with_reducible refine gate_dst (N := 3) rfl ?_); refine bx_ 3 (cs := #[.int .i64 a1_0, .string a1_1, .string a1_2, .string a1_3]) (t := 60) ?_; intro gb300 hg w18 hbox hb; have BK300 := am_ (hbox); have GW300 := am_ ((qs_ : w.heap.size ≤ gb300)); have GE300 := GW300; obtain ⟨NB299_300, NB300_299⟩ := qn_ BK299 hg; replace BK299 := qbl_ BK299 hb; replace HB := am_ (below_step qB_ hb); clear hb hbox hg; have hnb19 := NB299_300.out; have hnc19 := NB300_299.out; obtain ⟨hcz20_0, hcz20_1, hcz20_2, hcz20_3, hfz20_0, hfz20_1, hfz20_2, hfz20_3⟩ := bc4_ BK299; obtain ⟨hcz21_0, hcz21_1, hcz21_2, hcz21_3, hfz21_0, hfz21_1, hfz21_2, hfz21_3⟩ := bc4_ BK300))
    go_ret
    exact ⟨qr_, qB_⟩
  ·rw [if_neg c4] at H
   have c4b0 : (a0_1.toList == a1_1.toList) = false := beq_eq_false_iff_ne.mpr c4
   have c4b1 : (a0_1.toList != a1_1.toList) = true := bne_iff_ne.mpr c4
   obtain rfl := Option.some.inj H
   go_enter Try.func94, Try.ntmps94
   go_wp2_with (first | ((with_reducible refine gate_dst (N := 2) rfl ?_); refine bx_ 2 (cs := #[.int .i64 a0_0, .string a0_1, .string a0_2, .string a0_3]) (t := 60) ?_; intro gb299 hg w22 hbox hb; have BK299 := am_ (hbox); have GW299 := am_ ((qs_ : w.heap.size ≤ gb299)); have GE299 := GW299; replace HB := am_ (below_step qB_ hb); clear hb hbox hg) | ((with_reducible refine gate_dst (N := 3) rfl ?_); refine bx_ 3 (cs := #[.int .i64 a1_0, .string a1_1, .string a1_2, .string a1_3]) (t := 60) ?_; intro gb300 hg w23 hbox hb; have BK300 := am_ (hbox); have GW300 := am_ ((qs_ : w.heap.size ≤ gb300)); have GE300 := GW300; obtain ⟨NB299_300, NB300_299⟩ := qn_ BK299 hg; replace BK299 := qbl_ BK299 hb; replace HB := am_ (below_step qB_ hb); clear hb hbox hg; have hnb24 := NB299_300.out; have hnc24 := NB300_299.out; obtain ⟨hcz25_0, hcz25_1, hcz25_2, hcz25_3, hfz25_0, hfz25_1, hfz25_2, hfz25_3⟩ := bc4_ BK299; obtain ⟨hcz26_0, hcz26_1, hcz26_2, hcz26_3, hfz26_0, hfz26_1, hfz26_2, hfz26_3⟩ := bc4_ BK300))
   go_ret
   exact ⟨qr_, qB_⟩
 ·rw [if_neg c3] at H
  have c3b0 : (a0_0 == a1_0) = false := beq_eq_false_iff_ne.mpr c3
  have c3b1 : (a0_0 != a1_0) = true := bne_iff_ne.mpr c3
  obtain rfl := Option.some.inj H
  go_enter Try.func94, Try.ntmps94
  go_wp2_with (first | ((with_reducible refine gate_dst (N := 2) rfl ?_); refine bx_ 2 (cs := #[.int .i64 a0_0, .string a0_1, .string a0_2, .string a0_3]) (t := 60) ?_; intro gb299 hg w27 hbox hb; have BK299 := am_ (hbox); have GW299 := am_ ((qs_ : w.heap.size ≤ gb299)); have GE299 := GW299; replace HB := am_ (below_step qB_ hb); clear hb hbox hg) | ((with_reducible refine gate_dst (N := 3) rfl ?_); refine bx_ 3 (cs := #[.int .i64 a1_0, .string a1_1, .string a1_2, .string a1_3]) (t := 60) ?_; intro gb300 hg w28 hbox hb; have BK300 := am_ (hbox); have GW300 := am_ ((qs_ : w.heap.size ≤ gb300)); have GE300 := GW300; obtain ⟨NB299_300, NB300_299⟩ := qn_ BK299 hg; replace BK299 := qbl_ BK299 hb; replace HB := am_ (below_step qB_ hb); clear hb hbox hg; have hnb29 := NB299_300.out; have hnc29 := NB300_299.out; obtain ⟨hcz30_0, hcz30_1, hcz30_2, hcz30_3, hfz30_0, hfz30_1, hfz30_2, hfz30_3⟩ := bc4_ BK299; obtain ⟨hcz31_0, hcz31_1, hcz31_2, hcz31_3, hfz31_0, hfz31_1, hfz31_2, hfz31_3⟩ := bc4_ BK300))
  go_ret
  exact ⟨qr_, qB_⟩

/-! ### laws_eqActS: function 51 -/
def laws_eqActS.l0 : Nat → List (S60) → List (S60) → Int → Option (Bool)
  | 0, _, _, _ => none
  | k + 1, x0, x1, x5 => if x5 < (x0.length : Int) then (if 0 ≤ x5 then (if x5 < (x1.length : Int) then ((laws_eqAct.f ((rd_T60 x0 x5).f0) ((rd_T60 x0 x5).f1) ((rd_T60 x0 x5).f2) ((rd_T60 x0 x5).f3) ((rd_T60 x1 x5).f0) ((rd_T60 x1 x5).f1) ((rd_T60 x1 x5).f2) ((rd_T60 x1 x5).f3)).bind fun t303 => (if t303 = true then (laws_eqActS.l0 k x0 x1 (wrap64 (x5 + 1))) else (some false))) else (none)) else (none)) else (some true)
def laws_eqActS.f (k : Nat) (l0 : List (S60)) (l1 : List (S60)) : Option (Bool) := if (l0.length : Int) = (l1.length : Int) then (laws_eqActS.l0 k l0 l1 0) else (some false)
theorem laws_eqActS.mono_l : ∀ k, (∀ y0 y1 y2, LeO (laws_eqActS.l0 k y0 y1 y2) (laws_eqActS.l0 (k + 1) y0 y1 y2))
  | 0 => fun _ _ _ r h => by simp [laws_eqActS.l0] at h
  | k + 1 => by
    have ih0 := laws_eqActS.mono_l k
    · intro y0 y1 y2
      unfold laws_eqActS.l0
      repeat' first
      | (with_reducible exact ih0 _ _ _)
      | (with_reducible exact LeO.refl _)
      | (with_reducible exact LeO.none _)
      | (with_reducible refine LeO.ite ?_ ?_)
      | (with_reducible refine LeO.bind ?_ (fun _ => ?_))
      | exact ih0 _ _ _
      | exact LeO.none _
      | refine LeO.ite ?_ ?_
      | refine LeO.bind ?_ (fun _ => ?_)
theorem laws_eqActS.mono : ∀ a0 a1 k, LeO (laws_eqActS.f k a0 a1) (laws_eqActS.f (k + 1) a0 a1) := by
  intro a0 a1 k
  have ih0 := laws_eqActS.mono_l k
  unfold laws_eqActS.f
  repeat' first
      | (with_reducible exact ih0 _ _ _)
      | (with_reducible exact LeO.refl _)
      | (with_reducible exact LeO.none _)
      | (with_reducible refine LeO.ite ?_ ?_)
      | (with_reducible refine LeO.bind ?_ (fun _ => ?_))
      | exact ih0 _ _ _
      | exact LeO.none _
      | refine LeO.ite ?_ ?_
      | refine LeO.bind ?_ (fun _ => ?_)
def laws_eqActS.T6 : Bool × List (List Nat × List Nat) := (true, [([], []), ([], []), ([0, 1], [0, 1]), ([2], [2]), ([], []), ([], []), ([4, 5], [4, 5]), ([6], [6]), ([3, 7], [3, 7]), ([8], [8])])
def laws_eqActS.B6 : List Nat := [0, 0, 3, 7, 0, 0, 48, 112, 255, 511]
theorem laws_eqActS.tab6 : rtab .any (opsOf Try.f51 6) = laws_eqActS.T6 := by kernel_rfl
theorem laws_eqActS.bits6 : waitsOk laws_eqActS.T6.2 laws_eqActS.B6 = true := by kernel_rfl
set_option maxHeartbeats 8000000 in
set_option maxRecDepth 100000 in
theorem laws_eqActS.calls (k : Nat) (A0 : Option Addr) (c0 : Nat) (l0 : List (S60)) (A1 : Option Addr) (c1 : Nat) (l1 : List (S60)) (r : Bool) (w : World) (hr0 : Kd.C k60 w A0 l0.length l0) (hc0 : l0.length ≤ c0) (hr1 : Kd.C k60 w A1 l1.length l1) (hc1 : l1.length ≤ c1) (h : laws_eqActS.f k l0 l1 = some r) :
  Calls Try.prog 51 #[.slice A0 l0.length c0, .slice A1 l1.length c1] w fun e w' => e = .returned (.bool r) ∧ Below w.heap.size w w' := by
 have hu60 := Try.underlying60
 have HR0 := am_ hr0
 have HC0 := am_ hc0
 clear hr0 hc0
 have HR1 := am_ hr1
 have HC1 := am_ hc1
 clear hr1 hc1
 have HB := am_ (Below.refl w.heap.size w)
 have H : (if (l0.length : Int) = (l1.length : Int) then (laws_eqActS.l0 k l0 l1 0) else (some false)) = some r := h
 clear h
 by_cases c3 : (l0.length : Int) = (l1.length : Int)
 ·rw [if_pos c3] at H
  have c3b0 : ((l0.length : Int) == (l1.length : Int)) = true := beq_iff_eq.mpr c3
  have c3b1 : ((l0.length : Int) != (l1.length : Int)) = false := bne_eq_false_iff_eq.mpr c3
  have c3b2 : (l0.length == l1.length) = true := by first | simpa using c3 | (simp at c3 ⊢; omega)
  clear c3; have H' := am_ H; clear H
  go_enter Try.func51, Try.ntmps51
  go_wp2
  go_loopg [5] k (fun kq v5 w' => ∃ (x5_1 : Int), v5 = .int .i64 x5_1 ∧ Aside0 (laws_eqActS.l0 kq l0 l1 x5_1 = some r) ∧ Aside0 (kq ≤ k) ∧ Aside0 (Below w.heap.size w w'))
  case atStart => exact ⟨(0), qe_, H', ⟨Nat.le_refl _⟩, ⟨qB_⟩⟩
  case round =>
   clear H'
   (try clear c1); (try clear p2); (try clear c3); (try clear c3b0); (try clear c3b1); (try clear c3b2)
   obtain ⟨x5_1, rfl, HA, HK1, HB⟩ := hrel
   cases gk with
   | zero => exact absurd HA.out (by simp [laws_eqActS.l0])
   | succ k1 =>
    have H := HA.out; clear HA
    simp only [laws_eqActS.l0] at H
    by_cases c4 : x5_1 < (l0.length : Int)
    ·rw [if_pos c4] at H
     have c4b0 : decide (x5_1 < (l0.length : Int)) = true := decide_eq_true c4
     clear c4
     by_cases c5 : 0 ≤ x5_1
     ·rw [if_pos c5] at H
      have c5b0 : decide (0 ≤ x5_1) = true := decide_eq_true c5
      clear c5
      by_cases c6 : x5_1 < (l1.length : Int)
      ·rw [if_pos c6] at H
       have c6b0 : decide (x5_1 < (l1.length : Int)) = true := decide_eq_true c6
       clear c6
       obtain ⟨t303, A70, H⟩ := Option.bind_eq_some_iff.mp H; have A7 := am_ A70; clear A70
       by_cases c8 : t303 = true
       ·subst c8
        rw [if_pos rfl] at H; have H' := am_ H; clear H
        try go_wp2
        have n0_ := am_ (below_drew1 HB.out)
        clear HB; have HB := n0_; clear n0_
        have p301 : 0 ≤ (x5_1 : Int) := of_decide_eq_true qa_
        have q301 : x5_1 < (l0.length : Int) := of_decide_eq_true qa_
        obtain ⟨ad301, e301, hx301_0, hx301_1, hx301_2, hx301_3⟩ := at_T60 HR0.out x5_1 p301 q301
        have hw301_3 := hx301_3; have hw301_2 := hx301_2; have hw301_1 := hx301_1; have hw301_0 := hx301_0; cases e301
        replace hx301_0 := qx_ HB hx301_0
        replace hx301_1 := qx_ HB hx301_1
        replace hx301_2 := qx_ HB hx301_2
        replace hx301_3 := qx_ HB hx301_3
        replace p301 := eq_true p301; replace q301 := eq_true q301
        have p302 : 0 ≤ (x5_1 : Int) := of_decide_eq_true qa_
        have q302 : x5_1 < (l1.length : Int) := of_decide_eq_true qa_
        obtain ⟨ad302, e302, hx302_0, hx302_1, hx302_2, hx302_3⟩ := at_T60 HR1.out x5_1 p302 q302
        have hw302_3 := hx302_3; have hw302_2 := hx302_2; have hw302_1 := hx302_1; have hw302_0 := hx302_0; cases e302
        replace hx302_0 := qx_ HB hx302_0
        replace hx302_1 := qx_ HB hx302_1
        replace hx302_2 := qx_ HB hx302_2
        replace hx302_3 := qx_ HB hx302_3
        replace p302 := eq_true p302; replace q302 := eq_true q302
        refine start_ (n := 10) (S := fun w' => w'.cell? (ad301.add ((x5_1).toNat * 4)) = some (.int .i64 ((rd_T60 l0 x5_1).f0)) ∧ w'.cell? ⟨(ad301.add ((x5_1).toNat * 4)).block, (ad301.add ((x5_1).toNat * 4)).off + 1, none⟩ = some (.string ((rd_T60 l0 x5_1).f1)) ∧ w'.cell? ⟨(ad301.add ((x5_1).toNat * 4)).block, (ad301.add ((x5_1).toNat * 4)).off + 2, none⟩ = some (.string ((rd_T60 l0 x5_1).f2)) ∧ w'.cell? ⟨(ad301.add ((x5_1).toNat * 4)).block, (ad301.add ((x5_1).toNat * 4)).off + 3, none⟩ = some (.string ((rd_T60 l0 x5_1).f3)) ∧ w'.cell? (ad302.add ((x5_1).toNat * 4)) = some (.int .i64 ((rd_T60 l1 x5_1).f0)) ∧ w'.cell? ⟨(ad302.add ((x5_1).toNat * 4)).block, (ad302.add ((x5_1).toNat * 4)).off + 1, none⟩ = some (.string ((rd_T60 l1 x5_1).f1)) ∧ w'.cell? ⟨(ad302.add ((x5_1).toNat * 4)).block, (ad302.add ((x5_1).toNat * 4)).off + 2, none⟩ = some (.string ((rd_T60 l1 x5_1).f2)) ∧ w'.cell? ⟨(ad302.add ((x5_1).toNat * 4)).block, (ad302.add ((x5_1).toNat * 4)).off + 3, none⟩ = some (.string ((rd_T60 l1 x5_1).f3))) (ds := []) (bm 10 0) (by kernel_rfl) rfl (by kernel_rfl) ⟨((qx_ HB hw301_0).trans rfl), ((qx_ HB hw301_1).trans rfl), ((qx_ HB hw301_2).trans rfl), ((qx_ HB hw301_3).trans rfl), ((qx_ HB hw302_0).trans rfl), ((qx_ HB hw302_1).trans rfl), ((qx_ HB hw302_2).trans rfl), ((qx_ HB hw302_3).trans rfl)⟩ (fun hHeld => ?_); refine with_tabW laws_eqActS.tab6 laws_eqActS.bits6 (fun HT_ HW_ => ?_)
        generalize wr.drew = w9 at HB hx301_0 hx301_1 hx301_2 hx301_3 hx302_0 hx302_1 hx302_2 hx302_3 hHeld ⊢
        refine pz_ 0 17 (bm 10 1) ?_; refine pz_ 1 18 (bm 10 3) ?_; refine pz_ 2 19 (bm 10 7) ?_; refine pz_ 4 21 (bm 10 23) ?_; refine pz_ 5 22 (bm 10 55) ?_; refine pz_ 6 23 (bm 10 119) ?_; refine tz8_ 3 20 (bm 10 127) ?_; refine tz8_ 7 24 (bm 10 255) ?_
        refine one_ (i := 8) (N := some 25) (bm 10 511) rfl rfl (one_of HT_.out (by kernel_rfl)) (by decide) (fun K hK => ?_)
        refine goes_ Try.func94 (by kernel_rfl) rfl #[.agg #[.int .i64 ((rd_T60 l0 x5_1).f0), .string ((rd_T60 l0 x5_1).f1), .string ((rd_T60 l0 x5_1).f2), .string ((rd_T60 l0 x5_1).f3)], .agg #[.int .i64 ((rd_T60 l1 x5_1).f0), .string ((rd_T60 l1 x5_1).f1), .string ((rd_T60 l1 x5_1).f2), .string ((rd_T60 l1 x5_1).f3)]] (by rfl) rfl rfl (by (try simp only [List.map_toArray, List.map_cons, List.map_nil]); first | done | rfl | (simp only [List.length_drop, List.length_take]; rfl)) ?_
        with_reducible refine (laws_eqAct.calls ((rd_T60 l0 x5_1).f0) ((rd_T60 l0 x5_1).f1) ((rd_T60 l0 x5_1).f2) ((rd_T60 l0 x5_1).f3) ((rd_T60 l1 x5_1).f0) ((rd_T60 l1 x5_1).f1) ((rd_T60 l1 x5_1).f2) ((rd_T60 l1 x5_1).f3) true _ A7.out).mono ?_
        rintro e w10 ⟨rfl, hb⟩
        refine ⟨_, rfl, ?_⟩
        have n0_ := am_ (below_step qB_ hb)
        clear HB; have HB := n0_; clear n0_; (try clear hb); (try clear hb2); (try clear hk); (try clear hi)
        refine hK.out _ _ ⟨((qx_ HB hw301_0).trans rfl), ((qx_ HB hw301_1).trans rfl), ((qx_ HB hw301_2).trans rfl), ((qx_ HB hw301_3).trans rfl), ((qx_ HB hw302_0).trans rfl), ((qx_ HB hw302_1).trans rfl), ((qx_ HB hw302_2).trans rfl), ((qx_ HB hw302_3).trans rfl)⟩ (fun hHeld => ?_)
        clear hK K
        refine norm_ (a' := ?_) ?_ ?_
        rotate_left
        ·show Act.put _ (some 25) _ = _
         simp only [Act.put, sA_, sB_, sC_, i64_w, i32_w]
         rfl
        refine pz_ 9 26 (bm 10 1023) ?_
        refine done_ (done_of HT_.out (by kernel_rfl)) ?_
        try go_wp2
        go_roundg k1
        case measure => have := HK1.out; omega
        case rel => exact ⟨(wrap64 (x5_1 + 1)), qe_, H', ⟨by have := HK1.out; omega⟩, ⟨qB_⟩⟩
       ·replace c8 := Bool.eq_false_iff.mpr c8
        subst c8
        rw [if_neg (show ¬ (false = true) by decide)] at H
        obtain rfl := Option.some.inj H
        try go_wp2
        have n0_ := am_ (below_drew1 HB.out)
        clear HB; have HB := n0_; clear n0_
        have p301 : 0 ≤ (x5_1 : Int) := of_decide_eq_true qa_
        have q301 : x5_1 < (l0.length : Int) := of_decide_eq_true qa_
        obtain ⟨ad301, e301, hx301_0, hx301_1, hx301_2, hx301_3⟩ := at_T60 HR0.out x5_1 p301 q301
        have hw301_3 := hx301_3; have hw301_2 := hx301_2; have hw301_1 := hx301_1; have hw301_0 := hx301_0; cases e301
        replace hx301_0 := qx_ HB hx301_0
        replace hx301_1 := qx_ HB hx301_1
        replace hx301_2 := qx_ HB hx301_2
        replace hx301_3 := qx_ HB hx301_3
        replace p301 := eq_true p301; replace q301 := eq_true q301
        have p302 : 0 ≤ (x5_1 : Int) := of_decide_eq_true qa_
        have q302 : x5_1 < (l1.length : Int) := of_decide_eq_true qa_
        obtain ⟨ad302, e302, hx302_0, hx302_1, hx302_2, hx302_3⟩ := at_T60 HR1.out x5_1 p302 q302
        have hw302_3 := hx302_3; have hw302_2 := hx302_2; have hw302_1 := hx302_1; have hw302_0 := hx302_0; cases e302
        replace hx302_0 := qx_ HB hx302_0
        replace hx302_1 := qx_ HB hx302_1
        replace hx302_2 := qx_ HB hx302_2
        replace hx302_3 := qx_ HB hx302_3
        replace p302 := eq_true p302; replace q302 := eq_true q302
        refine start_ (n := 10) (S := fun w' => w'.cell? (ad301.add ((x5_1).toNat * 4)) = some (.int .i64 ((rd_T60 l0 x5_1).f0)) ∧ w'.cell? ⟨(ad301.add ((x5_1).toNat * 4)).block, (ad301.add ((x5_1).toNat * 4)).off + 1, none⟩ = some (.string ((rd_T60 l0 x5_1).f1)) ∧ w'.cell? ⟨(ad301.add ((x5_1).toNat * 4)).block, (ad301.add ((x5_1).toNat * 4)).off + 2, none⟩ = some (.string ((rd_T60 l0 x5_1).f2)) ∧ w'.cell? ⟨(ad301.add ((x5_1).toNat * 4)).block, (ad301.add ((x5_1).toNat * 4)).off + 3, none⟩ = some (.string ((rd_T60 l0 x5_1).f3)) ∧ w'.cell? (ad302.add ((x5_1).toNat * 4)) = some (.int .i64 ((rd_T60 l1 x5_1).f0)) ∧ w'.cell? ⟨(ad302.add ((x5_1).toNat * 4)).block, (ad302.add ((x5_1).toNat * 4)).off + 1, none⟩ = some (.string ((rd_T60 l1 x5_1).f1)) ∧ w'.cell? ⟨(ad302.add ((x5_1).toNat * 4)).block, (ad302.add ((x5_1).toNat * 4)).off + 2, none⟩ = some (.string ((rd_T60 l1 x5_1).f2)) ∧ w'.cell? ⟨(ad302.add ((x5_1).toNat * 4)).block, (ad302.add ((x5_1).toNat * 4)).off + 3, none⟩ = some (.string ((rd_T60 l1 x5_1).f3))) (ds := []) (bm 10 0) (by kernel_rfl) rfl (by kernel_rfl) ⟨((qx_ HB hw301_0).trans rfl), ((qx_ HB hw301_1).trans rfl), ((qx_ HB hw301_2).trans rfl), ((qx_ HB hw301_3).trans rfl), ((qx_ HB hw302_0).trans rfl), ((qx_ HB hw302_1).trans rfl), ((qx_ HB hw302_2).trans rfl), ((qx_ HB hw302_3).trans rfl)⟩ (fun hHeld => ?_); refine with_tabW laws_eqActS.tab6 laws_eqActS.bits6 (fun HT_ HW_ => ?_)
        generalize wr.drew = w11 at HB hx301_0 hx301_1 hx301_2 hx301_3 hx302_0 hx302_1 hx302_2 hx302_3 hHeld ⊢
        refine pz_ 0 17 (bm 10 1) ?_; refine pz_ 1 18 (bm 10 3) ?_; refine pz_ 2 19 (bm 10 7) ?_; refine pz_ 4 21 (bm 10 23) ?_; refine pz_ 5 22 (bm 10 55) ?_; refine pz_ 6 23 (bm 10 119) ?_; refine tz8_ 3 20 (bm 10 127) ?_; refine tz8_ 7 24 (bm 10 255) ?_
        refine one_ (i := 8) (N := some 25) (bm 10 511) rfl rfl (one_of HT_.out (by kernel_rfl)) (by decide) (fun K hK => ?_)
        refine goes_ Try.func94 (by kernel_rfl) rfl #[.agg #[.int .i64 ((rd_T60 l0 x5_1).f0), .string ((rd_T60 l0 x5_1).f1), .string ((rd_T60 l0 x5_1).f2), .string ((rd_T60 l0 x5_1).f3)], .agg #[.int .i64 ((rd_T60 l1 x5_1).f0), .string ((rd_T60 l1 x5_1).f1), .string ((rd_T60 l1 x5_1).f2), .string ((rd_T60 l1 x5_1).f3)]] (by rfl) rfl rfl (by (try simp only [List.map_toArray, List.map_cons, List.map_nil]); first | done | rfl | (simp only [List.length_drop, List.length_take]; rfl)) ?_
        with_reducible refine (laws_eqAct.calls ((rd_T60 l0 x5_1).f0) ((rd_T60 l0 x5_1).f1) ((rd_T60 l0 x5_1).f2) ((rd_T60 l0 x5_1).f3) ((rd_T60 l1 x5_1).f0) ((rd_T60 l1 x5_1).f1) ((rd_T60 l1 x5_1).f2) ((rd_T60 l1 x5_1).f3) false _ A7.out).mono ?_
        rintro e w12 ⟨rfl, hb⟩
        refine ⟨_, rfl, ?_⟩
        have n0_ := am_ (below_step qB_ hb)
        clear HB; have HB := n0_; clear n0_; (try clear hb); (try clear hb2); (try clear hk); (try clear hi)
        refine hK.out _ _ ⟨((qx_ HB hw301_0).trans rfl), ((qx_ HB hw301_1).trans rfl), ((qx_ HB hw301_2).trans rfl), ((qx_ HB hw301_3).trans rfl), ((qx_ HB hw302_0).trans rfl), ((qx_ HB hw302_1).trans rfl), ((qx_ HB hw302_2).trans rfl), ((qx_ HB hw302_3).trans rfl)⟩ (fun hHeld => ?_)
        clear hK K
        refine norm_ (a' := ?_) ?_ ?_
        rotate_left
        ·show Act.put _ (some 25) _ = _
         simp only [Act.put, sA_, sB_, sC_, i64_w, i32_w]
         rfl
        refine pz_ 9 26 (bm 10 1023) ?_
        refine done_ (done_of HT_.out (by kernel_rfl)) ?_
        try go_wp2
        go_ret
        exact ⟨qr_, qB_⟩
      ·rw [if_neg c6] at H
       exact absurd H (by simp)
     ·rw [if_neg c5] at H
      exact absurd H (by simp)
    ·rw [if_neg c4] at H
     have c4b0 : decide (x5_1 < (l0.length : Int)) = false := decide_eq_false c4
     clear c4
     obtain rfl := Option.some.inj H
     go_wp2
     go_ret
     exact ⟨qr_, qB_⟩
 ·rw [if_neg c3] at H
  have c3b0 : ((l0.length : Int) == (l1.length : Int)) = false := beq_eq_false_iff_ne.mpr c3
  have c3b1 : ((l0.length : Int) != (l1.length : Int)) = true := bne_iff_ne.mpr c3
  have c3b2 : (l0.length == l1.length) = false := by first | simpa using c3 | (simp at c3 ⊢; omega)
  obtain rfl := Option.some.inj H
  go_enter Try.func51, Try.ntmps51
  go_wp2
  go_ret
  exact ⟨qr_, qB_⟩

/-! ### laws_markActS: function 52 -/
def laws_markActS.l0 : Nat → List (S60) → Int → Int → Option (Int × (List (S60)))
  | 0, _, _, _ => none
  | k + 1, x0, x1, x5 => if x5 < (x0.length : Int) then (if 0 ≤ x5 then ((some (x0.set (x5 : Int).toNat (⟨x1, (rd_T60 x0 x5).f1, (rd_T60 x0 x5).f2, (rd_T60 x0 x5).f3⟩ : S60) : List (S60))).bind fun y304 => ((laws_markText.f k (wrap64 (x1 + 1))).bind fun t305 => ((some (y304.set (x5 : Int).toNat (⟨(rd_T60 y304 x5).f0, t305, (rd_T60 y304 x5).f2, (rd_T60 y304 x5).f3⟩ : S60) : List (S60))).bind fun y306 => ((laws_markText.f k (wrap64 ((wrap64 (x1 + 1)) + 1))).bind fun t307 => ((some (y306.set (x5 : Int).toNat (⟨(rd_T60 y306 x5).f0, (rd_T60 y306 x5).f1, t307, (rd_T60 y306 x5).f3⟩ : S60) : List (S60))).bind fun y308 => ((laws_markText.f k (wrap64 ((wrap64 ((wrap64 (x1 + 1)) + 1)) + 1))).bind fun t309 => (laws_markActS.l0 k (y308.set (x5 : Int).toNat (⟨(rd_T60 y308 x5).f0, (rd_T60 y308 x5).f1, (rd_T60 y308 x5).f2, t309⟩ : S60)) (wrap64 ((wrap64 ((wrap64 ((wrap64 (x1 + 1)) + 1)) + 1)) + 1)) (wrap64 (x5 + 1))))))))) else (none)) else (some (x1, x0))
def laws_markActS.f (k : Nat) (l0 : List (S60)) (a1 : Int) : Option (Int × (List (S60))) := laws_markActS.l0 k l0 a1 0
theorem laws_markActS.mono_l : ∀ k, (∀ y0 y1 y2, LeO (laws_markActS.l0 k y0 y1 y2) (laws_markActS.l0 (k + 1) y0 y1 y2))
  | 0 => fun _ _ _ r h => by simp [laws_markActS.l0] at h
  | k + 1 => by
    have ih0 := laws_markActS.mono_l k
    · intro y0 y1 y2
      unfold laws_markActS.l0
      repeat' first
      | (with_reducible exact ih0 _ _ _)
      | (with_reducible exact laws_markText.mono _ _)
      | (with_reducible exact LeO.refl _)
      | (with_reducible exact LeO.none _)
      | (with_reducible refine LeO.ite ?_ ?_)
      | (with_reducible refine LeO.bind ?_ (fun _ => ?_))
      | exact ih0 _ _ _
      | exact laws_markText.mono _ _
      | exact LeO.none _
      | refine LeO.ite ?_ ?_
      | refine LeO.bind ?_ (fun _ => ?_)
theorem laws_markActS.mono : ∀ a0 a1 k, LeO (laws_markActS.f k a0 a1) (laws_markActS.f (k + 1) a0 a1) := by
  intro a0 a1 k
  have ih0 := laws_markActS.mono_l k
  unfold laws_markActS.f
  repeat' first
      | (with_reducible exact ih0 _ _ _)
      | (with_reducible exact laws_markText.mono _ _)
      | (with_reducible exact LeO.refl _)
      | (with_reducible exact LeO.none _)
      | (with_reducible refine LeO.ite ?_ ?_)
      | (with_reducible refine LeO.bind ?_ (fun _ => ?_))
      | exact ih0 _ _ _
      | exact laws_markText.mono _ _
      | exact LeO.none _
      | refine LeO.ite ?_ ?_
      | refine LeO.bind ?_ (fun _ => ?_)
set_option maxHeartbeats 8000000 in
set_option maxRecDepth 100000 in
theorem laws_markActS.calls (k : Nat) (P0_ : Nat → Prop) (u9000_ : Value) (l0 : List (S60)) (a1 : Int) (r1 : Int) (r2 : List (S60)) (w0 w : World) (hB : Below w0.heap.size w0 w) (ho0 : Kd.R k60 60 w w0.heap.size P0_ u9000_ l0) (h : laws_markActS.f k l0 a1 = some (r1, r2)) :
  Calls Try.prog 52 #[u9000_, .int .i64 a1] w fun e w' => e = .returned (.int .i64 r1) ∧ Kd.R k60 60 w' w0.heap.size (fun k_ => (P0_ k_ ∨ w.heap.size ≤ k_)) u9000_ r2 ∧ Below w0.heap.size w0 w' ∧ Kept w w' (fun k_ => P0_ k_) := by
 have HO0 := am_ (show Kd.R k60 60 w w0.heap.size (fun k_ => (P0_ k_ ∨ w.heap.size ≤ k_)) u9000_ l0 from Kd.R_mono ho0 (fun k_ hk => (.inl hk)))
 have HK := am_ (Kept.refl w (fun k_ => P0_ k_))
 have HW0 := am_ hB.size
 have HB := am_ hB
 clear hB
 have H : (laws_markActS.l0 k l0 a1 0) = some (r1, r2) := h
 clear h; have H' := am_ H; clear H
 go_enter Try.func52, Try.ntmps52
 go_wp2
 go_loopg [1, 5] k (fun kq v1 v5 w' => ∃ (x0_1 : List (S60)) (x1_1 : Int) (x5_1 : Int), v1 = .int .i64 x1_1 ∧ v5 = .int .i64 x5_1 ∧ Aside0 (laws_markActS.l0 kq x0_1 x1_1 x5_1 = some (r1, r2)) ∧ Aside0 (kq ≤ k) ∧ Aside0 (Kd.R k60 60 w' w0.heap.size (fun k_ => (P0_ k_ ∨ w.heap.size ≤ k_)) u9000_ x0_1) ∧ Aside0 (Kept w w' (fun k_ => P0_ k_)) ∧ Aside0 (Below w0.heap.size w0 w'))
 case atStart => exact ⟨(l0), (a1), (0), qe_, qe_, H', ⟨Nat.le_refl _⟩, ⟨by (with_reducible repeat (first | apply Kd.R_alloc | apply Kd.R_drewN | apply Kd.R_drew)); first | exact HO0.out | (have h_ := HO0.out; simp only [own_slice] at h_ ⊢; exact h_)⟩, ⟨by repeat (first | (with_reducible first | exact HK.out | apply Kept.alloc | apply Kept.drewN | apply Kept.drew) | exact HK.out)⟩, ⟨qB_⟩⟩
 case round =>
  clear H'
  (try clear p2)
  obtain ⟨x0_1, x1_1, x5_1, rfl, rfl, HA, HK1, HO_0, HK, HB⟩ := hrel
  cases gk with
  | zero => exact absurd HA.out (by simp [laws_markActS.l0])
  | succ k1 =>
   have H := HA.out; clear HA
   simp only [laws_markActS.l0] at H
   by_cases c3 : x5_1 < (x0_1.length : Int)
   ·rw [if_pos c3] at H
    have c3b0 : decide (x5_1 < (x0_1.length : Int)) = true := decide_eq_true c3
    clear c3
    by_cases c4 : 0 ≤ x5_1
    ·rw [if_pos c4] at H
     have c4b0 : decide (0 ≤ x5_1) = true := decide_eq_true c4
     clear c4
     obtain ⟨y304, hy304⟩ : ∃ y_ : List (S60), y_ = (x0_1.set (x5_1 : Int).toNat (⟨x1_1, (rd_T60 x0_1 x5_1).f1, (rd_T60 x0_1 x5_1).f2, (rd_T60 x0_1 x5_1).f3⟩ : S60)) := ⟨_, rfl⟩
     replace H : ((laws_markText.f k1 (wrap64 (x1_1 + 1))).bind fun t305 => ((some (y304.set (x5_1 : Int).toNat (⟨(rd_T60 y304 x5_1).f0, t305, (rd_T60 y304 x5_1).f2, (rd_T60 y304 x5_1).f3⟩ : S60) : List (S60))).bind fun y306 => ((laws_markText.f k1 (wrap64 ((wrap64 (x1_1 + 1)) + 1))).bind fun t307 => ((some (y306.set (x5_1 : Int).toNat (⟨(rd_T60 y306 x5_1).f0, (rd_T60 y306 x5_1).f1, t307, (rd_T60 y306 x5_1).f3⟩ : S60) : List (S60))).bind fun y308 => ((laws_markText.f k1 (wrap64 ((wrap64 ((wrap64 (x1_1 + 1)) + 1)) + 1))).bind fun t309 => (laws_markActS.l0 k1 (y308.set (x5_1 : Int).toNat (⟨(rd_T60 y308 x5_1).f0, (rd_T60 y308 x5_1).f1, (rd_T60 y308 x5_1).f2, t309⟩ : S60)) (wrap64 ((wrap64 ((wrap64 ((wrap64 (x1_1 + 1)) + 1)) + 1)) + 1)) (wrap64 (x5_1 + 1)))))))) = some (r1, r2) := by first | (rw [hy304]; with_reducible exact H) | (have H2_ := (Option.bind_some _ _).symm.trans H; rw [hy304]; with_reducible exact H2_) | (have H2_ := (Option.bind_some _ _).symm.trans H; with_reducible exact H2_) | with_reducible exact H | (rw [hy304]; exact H) | exact H
     have Ny304 := am_ hy304
     clear hy304
     obtain ⟨t305, A60, H⟩ := Option.bind_eq_some_iff.mp H; have A6 := am_ A60; clear A60
     obtain ⟨y306, hy306⟩ : ∃ y_ : List (S60), y_ = (y304.set (x5_1 : Int).toNat (⟨(rd_T60 y304 x5_1).f0, t305, (rd_T60 y304 x5_1).f2, (rd_T60 y304 x5_1).f3⟩ : S60)) := ⟨_, rfl⟩
     replace H : ((laws_markText.f k1 (wrap64 ((wrap64 (x1_1 + 1)) + 1))).bind fun t307 => ((some (y306.set (x5_1 : Int).toNat (⟨(rd_T60 y306 x5_1).f0, (rd_T60 y306 x5_1).f1, t307, (rd_T60 y306 x5_1).f3⟩ : S60) : List (S60))).bind fun y308 => ((laws_markText.f k1 (wrap64 ((wrap64 ((wrap64 (x1_1 + 1)) + 1)) + 1))).bind fun t309 => (laws_markActS.l0 k1 (y308.set (x5_1 : Int).toNat (⟨(rd_T60 y308 x5_1).f0, (rd_T60 y308 x5_1).f1, (rd_T60 y308 x5_1).f2, t309⟩ : S60)) (wrap64 ((wrap64 ((wrap64 ((wrap64 (x1_1 + 1)) + 1)) + 1)) + 1)) (wrap64 (x5_1 + 1)))))) = some (r1, r2) := by first | (rw [hy306]; with_reducible exact H) | (have H2_ := (Option.bind_some _ _).symm.trans H; rw [hy306]; with_reducible exact H2_) | (have H2_ := (Option.bind_some _ _).symm.trans H; with_reducible exact H2_) | with_reducible exact H | (rw [hy306]; exact H) | exact H
     have Ny306 := am_ hy306
     clear hy306
     obtain ⟨t307, A80, H⟩ := Option.bind_eq_some_iff.mp H; have A8 := am_ A80; clear A80
     obtain ⟨y308, hy308⟩ : ∃ y_ : List (S60), y_ = (y306.set (x5_1 : Int).toNat (⟨(rd_T60 y306 x5_1).f0, (rd_T60 y306 x5_1).f1, t307, (rd_T60 y306 x5_1).f3⟩ : S60)) := ⟨_, rfl⟩
     replace H : ((laws_markText.f k1 (wrap64 ((wrap64 ((wrap64 (x1_1 + 1)) + 1)) + 1))).bind fun t309 => (laws_markActS.l0 k1 (y308.set (x5_1 : Int).toNat (⟨(rd_T60 y308 x5_1).f0, (rd_T60 y308 x5_1).f1, (rd_T60 y308 x5_1).f2, t309⟩ : S60)) (wrap64 ((wrap64 ((wrap64 ((wrap64 (x1_1 + 1)) + 1)) + 1)) + 1)) (wrap64 (x5_1 + 1)))) = some (r1, r2) := by first | (rw [hy308]; with_reducible exact H) | (have H2_ := (Option.bind_some _ _).symm.trans H; rw [hy308]; with_reducible exact H2_) | (have H2_ := (Option.bind_some _ _).symm.trans H; with_reducible exact H2_) | with_reducible exact H | (rw [hy308]; exact H) | exact H
     have Ny308 := am_ hy308
     clear hy308
     obtain ⟨t309, A100, H⟩ := Option.bind_eq_some_iff.mp H; have A10 := am_ A100; clear A100
     obtain ⟨y310, hy310⟩ : ∃ y_ : List (S60), y_ = (y308.set (x5_1 : Int).toNat (⟨(rd_T60 y308 x5_1).f0, (rd_T60 y308 x5_1).f1, (rd_T60 y308 x5_1).f2, t309⟩ : S60)) := ⟨_, rfl⟩
     replace H : (laws_markActS.l0 k1 y310 (wrap64 ((wrap64 ((wrap64 ((wrap64 (x1_1 + 1)) + 1)) + 1)) + 1)) (wrap64 (x5_1 + 1))) = some (r1, r2) := by first | (rw [hy310]; with_reducible exact H) | (have H2_ := (Option.bind_some _ _).symm.trans H; rw [hy310]; with_reducible exact H2_) | (have H2_ := (Option.bind_some _ _).symm.trans H; with_reducible exact H2_) | with_reducible exact H | (rw [hy310]; exact H) | exact H
     have Ny310 := am_ hy310
     clear hy310; have H' := am_ H; clear H
     obtain ⟨Ao12, co12, eo12⟩ := Kd.R_slice HO_0.out
     subst eo12
     have p5 : 0 ≤ (x5_1 : Int) := of_decide_eq_true qa_
     have q5 : (x5_1 : Int) < ((x0_1.length : Int) : Int) := of_decide_eq_true qa_
     obtain ⟨go5, co5, eo5, gb5, gl5, cl5, HG5⟩ := Kd.R_form HO_0.out (by omega)
     (first | cases eo5 | (injection eo5 with ea_ en_ ec_; (first | subst ea_ | (injection ea_ with ea_; subst ea_)); subst ec_; clear en_))
     have GB5 := am_ gb5
     have GG5 := am_ HG5
     clear gb5 gl5 HG5
     have HMgo5 := am_ (show (P0_ go5 ∨ w.heap.size ≤ go5) from (HO_0.out.1 _ rfl))
     obtain ⟨ce5, hcl5, hM5, hcc5, hfr5⟩ := Kd.R_elem HO_0.out z60 (x5_1 : Int) p5 q5
     obtain rfl := k60_openM hM5
     have hx5_0 : wr.cell? ⟨go5, (x5_1 : Int).toNat * 4, none⟩ = some (.int .i64 ((rd_T60 x0_1 x5_1).f0)) := hcc5 0 _ rfl
     have hx5_1 : wr.cell? ⟨go5, (x5_1 : Int).toNat * 4 + 1, none⟩ = some (.string ((rd_T60 x0_1 x5_1).f1)) := hcc5 1 _ rfl
     have hx5_2 : wr.cell? ⟨go5, (x5_1 : Int).toNat * 4 + 2, none⟩ = some (.string ((rd_T60 x0_1 x5_1).f2)) := hcc5 2 _ rfl
     have hx5_3 : wr.cell? ⟨go5, (x5_1 : Int).toNat * 4 + 3, none⟩ = some (.string ((rd_T60 x0_1 x5_1).f3)) := hcc5 3 _ rfl
     have hf5_0 : wr.frozen? ⟨go5, (x5_1 : Int).toNat * 4, none⟩ = false := hfr5 0
     have hf5_1 : wr.frozen? ⟨go5, (x5_1 : Int).toNat * 4 + 1, none⟩ = false := hfr5 1
     have hf5_2 : wr.frozen? ⟨go5, (x5_1 : Int).toNat * 4 + 2, none⟩ = false := hfr5 2
     have hf5_3 : wr.frozen? ⟨go5, (x5_1 : Int).toNat * 4 + 3, none⟩ = false := hfr5 3
     (try clear hcl5); (try clear hcc5); (try clear hfr5); (try clear hM5); replace p5 := eq_true p5; replace q5 := eq_true q5
     have HX13 := am_ (show Kd.R k60 60 wr w0.heap.size (fun k_ => (P0_ k_ ∨ w.heap.size ≤ k_)) (.slice (some ⟨go5, 0, none⟩) x0_1.length co12) x0_1 from (qR_ HO_0))
     obtain ⟨ce13, hcl13, hM13, hcc13, hfr13⟩ := Kd.R_elem HX13.out z60 (x5_1 : Int) (of_decide_eq_true qa_) (by have h_ : (x5_1 : Int) < ((x0_1.length : Int) : Int) := of_decide_eq_true qa_; first | exact h_ | (have e_ := (Kd.R_reads' HO_0.out).1; omega) | simpa using h_)
     obtain rfl := k60_openM hM13
     have HP13 := Kd.R_seg HX13.out (x5_1 : Int) (of_decide_eq_true qa_) (by have h_ : (x5_1 : Int) < ((x0_1.length : Int) : Int) := of_decide_eq_true qa_; first | exact h_ | (have e_ := (Kd.R_reads' HO_0.out).1; omega) | simpa using h_) (seg := [.int .i64 x1_1]) (j := 0) hcl13 hcc13 (show 1 ≤ 4 from by decide) (x' := (⟨x1_1, (rd_T60 x0_1 x5_1).f1, (rd_T60 x0_1 x5_1).f2, (rd_T60 x0_1 x5_1).f3⟩ : S60)) (k60_mkM _ _ _ (⟨x1_1, (rd_T60 x0_1 x5_1).f1, (rd_T60 x0_1 x5_1).f2, (rd_T60 x0_1 x5_1).f3⟩ : S60) ) (fun _ hk => hk)
     have hx13_0 := hcc13 0 _ rfl
     (try simp only [show (k60).sz = 4 from rfl, Nat.mul_one, Nat.add_zero] at hx13_0)
     have hf13_0 := hfr13 0
     (try simp only [show (k60).sz = 4 from rfl, Nat.mul_one, Nat.add_zero] at hf13_0)
     (try clear hcl13); (try clear hcc13); (try clear hfr13); (try clear hM13)
     go_wp2_with (first | ((with_reducible refine gate_store (t := 3) (p := 16) rfl ?_); refine store_event (t := 3) (p := 16) (v := ?vo_w14) (w1 := (wr.setCell ⟨go5, (x5_1 : Int).toNat * 4, none⟩ (.int .i64 x1_1))) ?hg ?ho ?hn ?hr ?_; (case ho => rfl); (case hg => rfl); (case hn => rfl); (case hr => first | (go_simp; done) | (go_simp; rfl)); intro w14 hw; have hg : wr.grownBy w14 (some go5) := (by rw [hw]; exact HP13.2); have hp_ : Kd.R k60 60 w14 w0.heap.size (fun k_ => (P0_ k_ ∨ w.heap.size ≤ k_)) (.slice (some ⟨go5, 0, none⟩) x0_1.length co12) y304 := (by rw [hw, Ny304.out]; exact HP13.1); clear HP13; have n0_ := am_ (hp_); have n1_ := am_ ((by rw [hw]; exact below_set (HB.out) GB5.out : Below w0.heap.size w0 w14)); have n2_ := am_ (Kept.of_grown (S := (fun k_ => P0_ k_)) hg (by repeat (first | (with_reducible first | exact HK.out | apply Kept.alloc | apply Kept.drewN | apply Kept.drew) | exact HK.out)) (fun k_ e_ => (HO_0.out.1 k_ e_))); clear HO_0; clear HB; clear HK; have HO_0 := n0_; have HB := n1_; have HK := n2_; clear n0_ n1_ n2_; clear hg hw hp_) | ((with_reducible refine gate_callee (f := 62) rfl ?_); refine gl_ (some 22) Try.func62 #[.int .i64 (wrap64 (x1_1 + 1))] ?_; (with_reducible refine (laws_markText.calls k1 (wrap64 (x1_1 + 1)) t305 _ A6.out).mono ?_); rintro e w15 ⟨rfl, hb⟩; refine ⟨_, rfl, ?_⟩; replace HO_0 := am_ (Kd.R_below (qR_ HO_0) hb); replace HK := am_ (Kept.below (S := (fun k_ => P0_ k_)) (by repeat (first | (with_reducible first | exact HK.out | apply Kept.alloc | apply Kept.drewN | apply Kept.drew) | exact HK.out)) hb); replace HB := am_ (below_step qB_ hb); (try clear hb); (try clear hb2); (try clear hk); (try clear hi); have p7 : 0 ≤ (x5_1 : Int) := of_decide_eq_true qa_; have q7 : (x5_1 : Int) < ((x0_1.length : Int) : Int) := of_decide_eq_true qa_; obtain ⟨ce7, hcl7, hM7, hcc7, hfr7⟩ := Kd.R_elem HO_0.out z60 (x5_1 : Int) p7 q7; obtain rfl := k60_openM hM7; have hx7_0 : w15.cell? ⟨go5, (x5_1 : Int).toNat * 4, none⟩ = some (.int .i64 ((rd_T60 y304 x5_1).f0)) := hcc7 0 _ rfl; have hx7_1 : w15.cell? ⟨go5, (x5_1 : Int).toNat * 4 + 1, none⟩ = some (.string ((rd_T60 y304 x5_1).f1)) := hcc7 1 _ rfl; have hx7_2 : w15.cell? ⟨go5, (x5_1 : Int).toNat * 4 + 2, none⟩ = some (.string ((rd_T60 y304 x5_1).f2)) := hcc7 2 _ rfl; have hx7_3 : w15.cell? ⟨go5, (x5_1 : Int).toNat * 4 + 3, none⟩ = some (.string ((rd_T60 y304 x5_1).f3)) := hcc7 3 _ rfl; have hf7_0 : w15.frozen? ⟨go5, (x5_1 : Int).toNat * 4, none⟩ = false := hfr7 0; have hf7_1 : w15.frozen? ⟨go5, (x5_1 : Int).toNat * 4 + 1, none⟩ = false := hfr7 1; have hf7_2 : w15.frozen? ⟨go5, (x5_1 : Int).toNat * 4 + 2, none⟩ = false := hfr7 2; have hf7_3 : w15.frozen? ⟨go5, (x5_1 : Int).toNat * 4 + 3, none⟩ = false := hfr7 3; (try clear hcl7); (try clear hcc7); (try clear hfr7); (try clear hM7); replace p7 := eq_true p7; replace q7 := eq_true q7; have HX16 := am_ (show Kd.R k60 60 w15 w0.heap.size (fun k_ => (P0_ k_ ∨ w.heap.size ≤ k_)) (.slice (some ⟨go5, 0, none⟩) x0_1.length co12) y304 from (qR_ HO_0)); obtain ⟨ce16, hcl16, hM16, hcc16, hfr16⟩ := Kd.R_elem HX16.out z60 (x5_1 : Int) (of_decide_eq_true qa_) (by have h_ : (x5_1 : Int) < ((x0_1.length : Int) : Int) := of_decide_eq_true qa_; first | exact h_ | (have e_ := (Kd.R_reads' HO_0.out).1; omega) | simpa using h_); obtain rfl := k60_openM hM16; have HP16 := Kd.R_seg HX16.out (x5_1 : Int) (of_decide_eq_true qa_) (by have h_ : (x5_1 : Int) < ((x0_1.length : Int) : Int) := of_decide_eq_true qa_; first | exact h_ | (have e_ := (Kd.R_reads' HO_0.out).1; omega) | simpa using h_) (seg := [.string t305]) (j := 1) hcl16 hcc16 (show 2 ≤ 4 from by decide) (x' := (⟨(rd_T60 y304 x5_1).f0, t305, (rd_T60 y304 x5_1).f2, (rd_T60 y304 x5_1).f3⟩ : S60)) (k60_mkM _ _ _ (⟨(rd_T60 y304 x5_1).f0, t305, (rd_T60 y304 x5_1).f2, (rd_T60 y304 x5_1).f3⟩ : S60) ) (fun _ hk => hk); have hx16_1 := hcc16 1 _ rfl; (try simp only [show (k60).sz = 4 from rfl, Nat.mul_one, Nat.add_zero] at hx16_1); have hf16_1 := hfr16 1; (try simp only [show (k60).sz = 4 from rfl, Nat.mul_one, Nat.add_zero] at hf16_1); (try clear hcl16); (try clear hcc16); (try clear hfr16); (try clear hM16)) | ((with_reducible refine gate_store (t := 9) (p := 24) rfl ?_); refine store_event (t := 9) (p := 24) (v := ?vo_w17) (w1 := (w15.setCell ⟨go5, (x5_1 : Int).toNat * 4 + 1, none⟩ (.string t305))) ?hg ?ho ?hn ?hr ?_; (case ho => rfl); (case hg => rfl); (case hn => rfl); (case hr => first | (go_simp; done) | (go_simp; rfl)); intro w17 hw; have hg : w15.grownBy w17 (some go5) := (by rw [hw]; exact HP16.2); have hp_ : Kd.R k60 60 w17 w0.heap.size (fun k_ => (P0_ k_ ∨ w.heap.size ≤ k_)) (.slice (some ⟨go5, 0, none⟩) x0_1.length co12) y306 := (by rw [hw, Ny306.out]; exact HP16.1); clear HP16; have n0_ := am_ (hp_); have n1_ := am_ ((by rw [hw]; exact below_set (HB.out) GB5.out : Below w0.heap.size w0 w17)); have n2_ := am_ (Kept.of_grown (S := (fun k_ => P0_ k_)) hg (by repeat (first | (with_reducible first | exact HK.out | apply Kept.alloc | apply Kept.drewN | apply Kept.drew) | exact HK.out)) (fun k_ e_ => (HO_0.out.1 k_ e_))); clear HO_0; clear HB; clear HK; have HO_0 := n0_; have HB := n1_; have HK := n2_; clear n0_ n1_ n2_; clear hg hw hp_) | ((with_reducible refine gate_callee (f := 62) rfl ?_); refine gl_ (some 30) Try.func62 #[.int .i64 (wrap64 ((wrap64 (x1_1 + 1)) + 1))] ?_; (with_reducible refine (laws_markText.calls k1 (wrap64 ((wrap64 (x1_1 + 1)) + 1)) t307 _ A8.out).mono ?_); rintro e w18 ⟨rfl, hb⟩; refine ⟨_, rfl, ?_⟩; replace HO_0 := am_ (Kd.R_below (qR_ HO_0) hb); replace HK := am_ (Kept.below (S := (fun k_ => P0_ k_)) (by repeat (first | (with_reducible first | exact HK.out | apply Kept.alloc | apply Kept.drewN | apply Kept.drew) | exact HK.out)) hb); replace HB := am_ (below_step qB_ hb); (try clear hb); (try clear hb2); (try clear hk); (try clear hi); have p9 : 0 ≤ (x5_1 : Int) := of_decide_eq_true qa_; have q9 : (x5_1 : Int) < ((x0_1.length : Int) : Int) := of_decide_eq_true qa_; obtain ⟨ce9, hcl9, hM9, hcc9, hfr9⟩ := Kd.R_elem HO_0.out z60 (x5_1 : Int) p9 q9; obtain rfl := k60_openM hM9; have hx9_0 : w18.cell? ⟨go5, (x5_1 : Int).toNat * 4, none⟩ = some (.int .i64 ((rd_T60 y306 x5_1).f0)) := hcc9 0 _ rfl; have hx9_1 : w18.cell? ⟨go5, (x5_1 : Int).toNat * 4 + 1, none⟩ = some (.string ((rd_T60 y306 x5_1).f1)) := hcc9 1 _ rfl; have hx9_2 : w18.cell? ⟨go5, (x5_1 : Int).toNat * 4 + 2, none⟩ = some (.string ((rd_T60 y306 x5_1).f2)) := hcc9 2 _ rfl; have hx9_3 : w18.cell? ⟨go5, (x5_1 : Int).toNat * 4 + 3, none⟩ = some (.string ((rd_T60 y306 x5_1).f3)) := hcc9 3 _ rfl; have hf9_0 : w18.frozen? ⟨go5, (x5_1 : Int).toNat * 4, none⟩ = false := hfr9 0; have hf9_1 : w18.frozen? ⟨go5, (x5_1 : Int).toNat * 4 + 1, none⟩ = false := hfr9 1; have hf9_2 : w18.frozen? ⟨go5, (x5_1 : Int).toNat * 4 + 2, none⟩ = false := hfr9 2; have hf9_3 : w18.frozen? ⟨go5, (x5_1 : Int).toNat * 4 + 3, none⟩ = false := hfr9 3; (try clear hcl9); (try clear hcc9); (try clear hfr9); (try clear hM9); replace p9 := eq_true p9; replace q9 := eq_true q9; have HX19 := am_ (show Kd.R k60 60 w18 w0.heap.size (fun k_ => (P0_ k_ ∨ w.heap.size ≤ k_)) (.slice (some ⟨go5, 0, none⟩) x0_1.length co12) y306 from (qR_ HO_0)); obtain ⟨ce19, hcl19, hM19, hcc19, hfr19⟩ := Kd.R_elem HX19.out z60 (x5_1 : Int) (of_decide_eq_true qa_) (by have h_ : (x5_1 : Int) < ((x0_1.length : Int) : Int) := of_decide_eq_true qa_; first | exact h_ | (have e_ := (Kd.R_reads' HO_0.out).1; omega) | simpa using h_); obtain rfl := k60_openM hM19; have HP19 := Kd.R_seg HX19.out (x5_1 : Int) (of_decide_eq_true qa_) (by have h_ : (x5_1 : Int) < ((x0_1.length : Int) : Int) := of_decide_eq_true qa_; first | exact h_ | (have e_ := (Kd.R_reads' HO_0.out).1; omega) | simpa using h_) (seg := [.string t307]) (j := 2) hcl19 hcc19 (show 3 ≤ 4 from by decide) (x' := (⟨(rd_T60 y306 x5_1).f0, (rd_T60 y306 x5_1).f1, t307, (rd_T60 y306 x5_1).f3⟩ : S60)) (k60_mkM _ _ _ (⟨(rd_T60 y306 x5_1).f0, (rd_T60 y306 x5_1).f1, t307, (rd_T60 y306 x5_1).f3⟩ : S60) ) (fun _ hk => hk); have hx19_2 := hcc19 2 _ rfl; (try simp only [show (k60).sz = 4 from rfl, Nat.mul_one, Nat.add_zero] at hx19_2); have hf19_2 := hfr19 2; (try simp only [show (k60).sz = 4 from rfl, Nat.mul_one, Nat.add_zero] at hf19_2); (try clear hcl19); (try clear hcc19); (try clear hfr19); (try clear hM19)) | ((with_reducible refine gate_store (t := 9) (p := 32) rfl ?_); refine store_event (t := 9) (p := 32) (v := ?vo_w20) (w1 := (w18.setCell ⟨go5, (x5_1 : Int).toNat * 4 + 2, none⟩ (.string t307))) ?hg ?ho ?hn ?hr ?_; (case ho => rfl); (case hg => rfl); (case hn => rfl); (case hr => first | (go_simp; done) | (go_simp; rfl)); intro w20 hw; have hg : w18.grownBy w20 (some go5) := (by rw [hw]; exact HP19.2); have hp_ : Kd.R k60 60 w20 w0.heap.size (fun k_ => (P0_ k_ ∨ w.heap.size ≤ k_)) (.slice (some ⟨go5, 0, none⟩) x0_1.length co12) y308 := (by rw [hw, Ny308.out]; exact HP19.1); clear HP19; have n0_ := am_ (hp_); have n1_ := am_ ((by rw [hw]; exact below_set (HB.out) GB5.out : Below w0.heap.size w0 w20)); have n2_ := am_ (Kept.of_grown (S := (fun k_ => P0_ k_)) hg (by repeat (first | (with_reducible first | exact HK.out | apply Kept.alloc | apply Kept.drewN | apply Kept.drew) | exact HK.out)) (fun k_ e_ => (HO_0.out.1 k_ e_))); clear HO_0; clear HB; clear HK; have HO_0 := n0_; have HB := n1_; have HK := n2_; clear n0_ n1_ n2_; clear hg hw hp_) | ((with_reducible refine gate_callee (f := 62) rfl ?_); refine gl_ (some 38) Try.func62 #[.int .i64 (wrap64 ((wrap64 ((wrap64 (x1_1 + 1)) + 1)) + 1))] ?_; (with_reducible refine (laws_markText.calls k1 (wrap64 ((wrap64 ((wrap64 (x1_1 + 1)) + 1)) + 1)) t309 _ A10.out).mono ?_); rintro e w21 ⟨rfl, hb⟩; refine ⟨_, rfl, ?_⟩; replace HO_0 := am_ (Kd.R_below (qR_ HO_0) hb); replace HK := am_ (Kept.below (S := (fun k_ => P0_ k_)) (by repeat (first | (with_reducible first | exact HK.out | apply Kept.alloc | apply Kept.drewN | apply Kept.drew) | exact HK.out)) hb); replace HB := am_ (below_step qB_ hb); (try clear hb); (try clear hb2); (try clear hk); (try clear hi); have p11 : 0 ≤ (x5_1 : Int) := of_decide_eq_true qa_; have q11 : (x5_1 : Int) < ((x0_1.length : Int) : Int) := of_decide_eq_true qa_; obtain ⟨ce11, hcl11, hM11, hcc11, hfr11⟩ := Kd.R_elem HO_0.out z60 (x5_1 : Int) p11 q11; obtain rfl := k60_openM hM11; have hx11_0 : w21.cell? ⟨go5, (x5_1 : Int).toNat * 4, none⟩ = some (.int .i64 ((rd_T60 y308 x5_1).f0)) := hcc11 0 _ rfl; have hx11_1 : w21.cell? ⟨go5, (x5_1 : Int).toNat * 4 + 1, none⟩ = some (.string ((rd_T60 y308 x5_1).f1)) := hcc11 1 _ rfl; have hx11_2 : w21.cell? ⟨go5, (x5_1 : Int).toNat * 4 + 2, none⟩ = some (.string ((rd_T60 y308 x5_1).f2)) := hcc11 2 _ rfl; have hx11_3 : w21.cell? ⟨go5, (x5_1 : Int).toNat * 4 + 3, none⟩ = some (.string ((rd_T60 y308 x5_1).f3)) := hcc11 3 _ rfl; have hf11_0 : w21.frozen? ⟨go5, (x5_1 : Int).toNat * 4, none⟩ = false := hfr11 0; have hf11_1 : w21.frozen? ⟨go5, (x5_1 : Int).toNat * 4 + 1, none⟩ = false := hfr11 1; have hf11_2 : w21.frozen? ⟨go5, (x5_1 : Int).toNat * 4 + 2, none⟩ = false := hfr11 2; have hf11_3 : w21.frozen? ⟨go5, (x5_1 : Int).toNat * 4 + 3, none⟩ = false := hfr11 3; (try clear hcl11); (try clear hcc11); (try clear hfr11); (try clear hM11); replace p11 := eq_true p11; replace q11 := eq_true q11; have HX22 := am_ (show Kd.R k60 60 w21 w0.heap.size (fun k_ => (P0_ k_ ∨ w.heap.size ≤ k_)) (.slice (some ⟨go5, 0, none⟩) x0_1.length co12) y308 from (qR_ HO_0)); obtain ⟨ce22, hcl22, hM22, hcc22, hfr22⟩ := Kd.R_elem HX22.out z60 (x5_1 : Int) (of_decide_eq_true qa_) (by have h_ : (x5_1 : Int) < ((x0_1.length : Int) : Int) := of_decide_eq_true qa_; first | exact h_ | (have e_ := (Kd.R_reads' HO_0.out).1; omega) | simpa using h_); obtain rfl := k60_openM hM22; have HP22 := Kd.R_seg HX22.out (x5_1 : Int) (of_decide_eq_true qa_) (by have h_ : (x5_1 : Int) < ((x0_1.length : Int) : Int) := of_decide_eq_true qa_; first | exact h_ | (have e_ := (Kd.R_reads' HO_0.out).1; omega) | simpa using h_) (seg := [.string t309]) (j := 3) hcl22 hcc22 (show 4 ≤ 4 from by decide) (x' := (⟨(rd_T60 y308 x5_1).f0, (rd_T60 y308 x5_1).f1, (rd_T60 y308 x5_1).f2, t309⟩ : S60)) (k60_mkM _ _ _ (⟨(rd_T60 y308 x5_1).f0, (rd_T60 y308 x5_1).f1, (rd_T60 y308 x5_1).f2, t309⟩ : S60) ) (fun _ hk => hk); have hx22_3 := hcc22 3 _ rfl; (try simp only [show (k60).sz = 4 from rfl, Nat.mul_one, Nat.add_zero] at hx22_3); have hf22_3 := hfr22 3; (try simp only [show (k60).sz = 4 from rfl, Nat.mul_one, Nat.add_zero] at hf22_3); (try clear hcl22); (try clear hcc22); (try clear hfr22); (try clear hM22)) | ((with_reducible refine gate_store (t := 9) (p := 40) rfl ?_); refine store_event (t := 9) (p := 40) (v := ?vo_w23) (w1 := (w21.setCell ⟨go5, (x5_1 : Int).toNat * 4 + 3, none⟩ (.string t309))) ?hg ?ho ?hn ?hr ?_; (case ho => rfl); (case hg => rfl); (case hn => rfl); (case hr => first | (go_simp; done) | (go_simp; rfl)); intro w23 hw; have hg : w21.grownBy w23 (some go5) := (by rw [hw]; exact HP22.2); have hp_ : Kd.R k60 60 w23 w0.heap.size (fun k_ => (P0_ k_ ∨ w.heap.size ≤ k_)) (.slice (some ⟨go5, 0, none⟩) x0_1.length co12) y310 := (by rw [hw, Ny310.out]; exact HP22.1); clear HP22; have n0_ := am_ (hp_); have n1_ := am_ ((by rw [hw]; exact below_set (HB.out) GB5.out : Below w0.heap.size w0 w23)); have n2_ := am_ (Kept.of_grown (S := (fun k_ => P0_ k_)) hg (by repeat (first | (with_reducible first | exact HK.out | apply Kept.alloc | apply Kept.drewN | apply Kept.drew) | exact HK.out)) (fun k_ e_ => (HO_0.out.1 k_ e_))); clear HO_0; clear HB; clear HK; have HO_0 := n0_; have HB := n1_; have HK := n2_; clear n0_ n1_ n2_; clear hg hw hp_))
     go_roundg k1
     case measure => have := HK1.out; omega
     case rel => exact ⟨(y310), (wrap64 ((wrap64 ((wrap64 ((wrap64 (x1_1 + 1)) + 1)) + 1)) + 1)), (wrap64 (x5_1 + 1)), qe_, qe_, H', ⟨by have := HK1.out; omega⟩, ⟨by (with_reducible repeat (first | apply Kd.R_alloc | apply Kd.R_drewN | apply Kd.R_drew)); first | exact HO_0.out | (have h_ := HO_0.out; simp only [own_slice] at h_ ⊢; exact h_)⟩, ⟨by repeat (first | (with_reducible first | exact HK.out | apply Kept.alloc | apply Kept.drewN | apply Kept.drew) | exact HK.out)⟩, ⟨qB_⟩⟩
    ·rw [if_neg c4] at H
     exact absurd H (by simp)
   ·rw [if_neg c3] at H
    have c3b0 : decide (x5_1 < (x0_1.length : Int)) = false := decide_eq_false c3
    clear c3
    simp only [Option.some.injEq, Prod.mk.injEq] at H
    obtain ⟨rfl, rfl⟩ := H
    obtain ⟨Ao24, co24, eo24⟩ := Kd.R_slice HO_0.out
    subst eo24
    go_wp2
    go_ret
    exact ⟨qr_, by (with_reducible repeat (first | apply Kd.R_alloc | apply Kd.R_drewN | apply Kd.R_drew)); exact HO_0.out, by repeat (first | (with_reducible first | exact HB.out | apply below_alloc | apply pw_below_drewN | apply below_drew1) | exact HB.out), by repeat (first | (with_reducible first | exact HK.out | apply Kept.alloc | apply Kept.drewN | apply Kept.drew) | exact HK.out)⟩

end Go.Proofs.Ytacnlodcbbhahaa.QFnExactDoActs
