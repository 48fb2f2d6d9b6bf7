-- printed for this claim by a program of the session's own (no text of the kit's print)
import Derived.Test.YtacnlodcbbhahaaQFnExactCutActsx0
import Derived.Test.YtacnlodcbbhahaaQFnExactCutActsx8
import Derived.Test.YtacnlodcbbhahaaQFnExactCutActsx12
namespace Go.Proofs.Ytacnlodcbbhahaa.QFnExactCutActs
open Go.RowKit Go.Proofs.YtacnlodcbbhahaaW.PrintWords Go.Proofs.YtacnlodcbbhahaaW.PrintLast Go.Proofs.YtacnlodcbbhahaaW.PrintMore
attribute [local go_sem] max2_int min2_int max_two min_two max_three min_three max_four min_four   -- for this text's walks alone
set_option linter.unusedVariables false
set_option linter.unusedSimpArgs false

/-! ### impl_DoActs: function 50 -/
def impl_DoActs.l0 : Nat → List (S60) → List (S60) → Int → Int → List (S99) → Option ((List (S99)) × Int)
  | 0, _, _, _, _, _ => none
  | k + 1, x1, x13, x14, x15, x253000 => if x15 < x14 then (if 0 ≤ x15 then (if x15 < (x13.length : Int) then ((impl_DoAct.f k x253000 ((rd_T60 x13 x15).f0) ((rd_T60 x13 x15).f1) ((rd_T60 x13 x15).f2) ((rd_T60 x13 x15).f3)).bind fun bt255 => (if bt255.2 = true then (impl_DoActs.l0 k x1 x13 x14 (wrap64 (x15 + 1)) bt255.1) else (some (x253000, x15)))) else (none)) else (none)) else (some (x253000, (x1.length : Int)))
def impl_DoActs.f (k : Nat) (l0_0 : List (S99)) (l1 : List (S60)) : Option ((List (S99)) × Int) := (impl_copyDisk.f l0_0).bind fun t249 => (impl_DoActs.l0 k l1 l1 (l1.length : Int) 0 t249)
theorem impl_DoActs.mono_l : ∀ k, (∀ y0 y1 y2 y3 y4, LeO (impl_DoActs.l0 k y0 y1 y2 y3 y4) (impl_DoActs.l0 (k + 1) y0 y1 y2 y3 y4))
  | 0 => fun _ _ _ _ _ r h => by simp [impl_DoActs.l0] at h
  | k + 1 => by
    have ih0 := impl_DoActs.mono_l k
    · intro y0 y1 y2 y3 y4
      unfold impl_DoActs.l0
      repeat' first | (with_reducible first | exact ih0 _ _ _ _ _ | exact impl_DoAct.mono _ _ _ _ _ _ | exact LeO.refl _ | exact LeO.none _ | refine LeO.ite ?_ ?_ | refine LeO.bind ?_ (fun _ => ?_)) | exact LeO.none _ | refine LeO.ite ?_ ?_ | refine LeO.bind ?_ (fun _ => ?_)
theorem impl_DoActs.mono : ∀ a0 a1 k, LeO (impl_DoActs.f k a0 a1) (impl_DoActs.f (k + 1) a0 a1) := by
  intro a0 a1 k
  have ih0 := impl_DoActs.mono_l k
  unfold impl_DoActs.f
  repeat' first | (with_reducible first | exact ih0 _ _ _ _ _ | exact impl_DoAct.mono _ _ _ _ _ _ | exact LeO.refl _ | exact LeO.none _ | refine LeO.ite ?_ ?_ | refine LeO.bind ?_ (fun _ => ?_)) | exact LeO.none _ | refine LeO.ite ?_ ?_ | refine LeO.bind ?_ (fun _ => ?_)
set_option maxHeartbeats 8000000 in
set_option maxRecDepth 100000 in
theorem impl_DoActs.calls (k : Nat) (A0_0 : Option Addr) (c0_0 : Nat) (l0_0 : List (S99)) (A1 : Option Addr) (c1 : Nat) (l1 : List (S60)) (r1 : List (S99)) (r2 : Int) (w : World) (hr0_0 : Kd.C k99 w A0_0 l0_0.length l0_0) (hc0_0 : l0_0.length ≤ c0_0) (hr1 : Kd.C k60 w A1 l1.length l1) (hc1 : l1.length ≤ c1) (h : impl_DoActs.f k l0_0 l1 = some (r1, r2)) :
  Calls Try.prog 50 #[.agg #[.slice A0_0 l0_0.length c0_0], .slice A1 l1.length c1] w fun e w' => ∃ v0_ : Value, e = .returned (.tuple #[.agg #[v0_], .int .i64 r2]) ∧ Kd.R k99 99 w' w.heap.size (fun _ => True) v0_ r1 ∧ Below w.heap.size w w' := by
 have hu44 := Try.underlying44; have hu60 := Try.underlying60
 have HR0_0 := am_ hr0_0
 have HC0_0 := am_ hc0_0
 clear hr0_0 hc0_0
 have HR1 := am_ hr1
 have HC1 := am_ hc1
 clear hr1 hc1
 have HB := am_ (Below.refl w.heap.size w)
 have H : ((impl_copyDisk.f l0_0).bind fun t249 => (impl_DoActs.l0 k l1 l1 (l1.length : Int) 0 t249)) = some (r1, r2) := h
 clear h
 obtain ⟨t249, A30, H⟩ := Option.bind_eq_some_iff.mp H; have A3 := am_ A30; clear A30
 have H' := am_ H; clear H
 go_enter Try.func50, Try.ntmps50
 go_wp2_with (first | ((with_reducible refine gate_dst (N := 2) rfl ?_); refine bx_ 2 (cs := #[.slice A0_0 l0_0.length c0_0]) (t := 44) ?_; intro gb247 hg w4 hbox hb; have BK247 := am_ (hbox); have GW247 := am_ ((qs_ : w.heap.size ≤ gb247)); have GE247 := GW247; replace HB := hs_ hb; clear hb hbox hg) | ((with_reducible refine gate_dst (N := 4) rfl ?_); refine bx_ 4 (cs := #[.slice none 0 0]) (t := 44) ?_; intro gb248 hg w5 hbox hb; have BK248 := am_ (hbox); have GW248 := am_ ((qs_ : w.heap.size ≤ gb248)); have GE248 := GW248; obtain ⟨NB247_248, NB248_247⟩ := qn_ BK247 hg; replace BK247 := qbl_ BK247 hb; replace HB := hs_ hb; clear hb hbox hg; obtain ⟨hnb6, hnc6⟩ := nn_ NB247_248; obtain ⟨hcz7_0, hfz7_0⟩ := bc1_ BK247) | ((with_reducible refine gate_callee (f := 78) rfl ?_); refine gl_ (some 12) Try.func78 #[.agg #[.slice A0_0 l0_0.length c0_0]] ?_; (with_reducible refine (impl_copyDisk.calls _ _ l0_0 t249 _ ?side1 ?side2 A3.out).mono ?_); (case side1 => exact qC_ HR0_0 HB); (case side2 => exact HC0_0.out); rintro e w8 ⟨v250, rfl, ho0, hb⟩; refine ⟨_, rfl, ?_⟩; have HO251 := am_ (Kd.R_lower ho0 (below_size qB_)); replace BK247 := qbl_ BK247 hb; replace BK248 := qbl_ BK248 hb; replace HB := hs_ hb; (try clear hb); (try clear hb2); (try clear hk); (try clear hi); (try clear ho0)) | ((with_reducible refine gate_dst (N := 6) rfl ?_); refine bx_ 6 (cs := #[.slice none 0 0]) (t := 44) ?_; intro gb252 hg w9 hbox hb; have BK252 := am_ (hbox); have GW252 := am_ ((qs_ : w.heap.size ≤ gb252)); have GE252 := GW252; obtain ⟨NB247_252, NB252_247⟩ := qn_ BK247 hg; obtain ⟨NB248_252, NB252_248⟩ := qn_ BK248 hg; replace HO251 := am_ (Kd.R_below (qR_ HO251) hb); replace BK247 := qbl_ BK247 hb; replace BK248 := qbl_ BK248 hb; replace HB := hs_ hb; clear hb hbox hg; obtain ⟨Ao10, co10, eo10⟩ := Kd.R_slice HO251.out; subst eo10; obtain ⟨hnb11, hnc11⟩ := nn_ NB252_247; obtain ⟨hnb12, hnc12⟩ := nn_ NB252_248; obtain ⟨hcz13_0, hfz13_0⟩ := bc1_ BK252))
 go_loopg [15] k (fun kq v15 w' => ∃ (x15_1 : Int) (x253000_1 : List (S99)) (u253000 : Value), v15 = .int .i64 x15_1 ∧ Aside0 (impl_DoActs.l0 kq l1 l1 (l1.length : Int) x15_1 x253000_1 = some (r1, r2)) ∧ Aside0 (kq ≤ k) ∧ Aside0 (Kd.R k99 99 w' w.heap.size (fun _ => True) u253000 x253000_1) ∧ Aside0 (w'.heap[gb247]? = some (.cells #[(.slice A0_0 l0_0.length c0_0)] 44 (0, 0))) ∧ Aside0 (w'.heap[gb248]? = some (.cells #[(.slice none 0 0)] 44 (0, 0))) ∧ Aside0 (w'.heap[gb252]? = some (.cells #[u253000] 44 (0, 0))) ∧ Aside0 (Below w.heap.size w w'))
 case atStart => exact ⟨(0), (t249), (.slice Ao10 t249.length co10), qe_, H', ⟨Nat.le_refl _⟩, ⟨by (with_reducible repeat (first | apply Kd.R_alloc | apply Kd.R_drewN | apply Kd.R_drew)); exact Kd.R_mono (Kd.R_far (p := ⟨gb252, 0, none⟩) (Kd.R_types HO251.out BK252.out (by decide)) (fun _ hk => hk.2) (.slice Ao10 t249.length co10)) (fun _ hk => trivial)⟩, ⟨qf_ BK247⟩, ⟨qf_ BK248⟩, ⟨by (with_reducible repeat (first | refine blk_drewN ?_ _ | refine blk_drew ?_ | refine blk_alloc ?_ _)); refine blk_put (cs := #[.slice none 0 0]) ?_ 0 _ rfl; exact qf_ BK252⟩, ⟨qB_⟩⟩
 case round =>
  clear H'
  (try clear c1); (try clear p2); (try clear c5); (try clear c6); (try clear c7); (try clear c11); (try clear c12); (try clear hcz13_0); (try clear hcz7_0); (try clear hfz13_0); (try clear hfz7_0)
  obtain ⟨x15_1, x253000_1, u253000, rfl, HA, HK1, HO_253000, BK247, BK248, BK252, HB⟩ := hrel
  cases gk with
  | zero => exact absurd HA.out (by simp [impl_DoActs.l0])
  | succ k1 =>
   have H := HA.out; clear HA
   simp only [impl_DoActs.l0] at H
   by_cases c14 : x15_1 < (l1.length : Int)
   ·rw [if_pos c14] at H
    have c14b0 : decide (x15_1 < (l1.length : Int)) = true := decide_eq_true c14
    clear c14
    by_cases c15 : 0 ≤ x15_1
    ·rw [if_pos c15] at H
     have c15b0 : decide (0 ≤ x15_1) = true := decide_eq_true c15
     clear c15
     by_cases c16 : x15_1 < (l1.length : Int)
     ·rw [if_pos c16] at H
      have c16b0 : decide (x15_1 < (l1.length : Int)) = true := decide_eq_true c16
      clear c16
      replace H := Option.bind_eq_some_iff.mp H
      obtain ⟨⟨t255, t258⟩, A170, H⟩ := H
      replace H : (if t258 = true then (impl_DoActs.l0 k1 l1 l1 (l1.length : Int) (wrap64 (x15_1 + 1)) t255) else (some (x253000_1, x15_1))) = some (r1, r2) := H
      have A17 := am_ A170
      clear A170
      by_cases c18 : t258 = true
      ·subst c18
       rw [if_pos rfl] at H; have H' := am_ H; clear H
       have p253 : 0 ≤ (x15_1 : Int) := of_decide_eq_true qa_
       have q253 : x15_1 < (l1.length : Int) := of_decide_eq_true qa_
       obtain ⟨ad253, e253, hx253_0, hx253_1, hx253_2, hx253_3⟩ := at_T60 HR1.out x15_1 p253 q253
       cases e253
       replace hx253_0 := qx_ HB hx253_0
       replace hx253_1 := qx_ HB hx253_1
       replace hx253_2 := qx_ HB hx253_2
       replace hx253_3 := qx_ HB hx253_3
       replace p253 := eq_true p253; replace q253 := eq_true q253
       go_wp2_with (first | ((with_reducible refine gate_dst (N := 8) rfl ?_); refine bx_ 8 (cs := #[.int .i64 0, .string (⟨#[]⟩ : ByteArray), .string (⟨#[]⟩ : ByteArray), .string (⟨#[]⟩ : ByteArray)]) (t := 60) ?_; intro gb254 hg w19 hbox hb; have BK254 := am_ (hbox); have GW254 := am_ ((qs_ : w.heap.size ≤ gb254)); have GE254 := GW254; obtain ⟨NB247_254, NB254_247⟩ := qn_ BK247 hg; obtain ⟨NB248_254, NB254_248⟩ := qn_ BK248 hg; obtain ⟨NB252_254, NB254_252⟩ := qn_ BK252 hg; replace HO_253000 := am_ (Kd.R_below (qR_ HO_253000) hb); replace BK247 := qbl_ BK247 hb; replace BK248 := qbl_ BK248 hb; replace BK252 := qbl_ BK252 hb; replace HB := hs_ hb; clear hb hbox hg; obtain ⟨hnb20, hnc20⟩ := nn_ NB254_247; obtain ⟨hnb21, hnc21⟩ := nn_ NB254_248; obtain ⟨hnb22, hnc22⟩ := nn_ NB254_252; obtain ⟨hcz23_0, hcz23_1, hcz23_2, hcz23_3, hfz23_0, hfz23_1, hfz23_2, hfz23_3⟩ := bc4_ BK254; obtain ⟨hnb24, hnc24⟩ := nn_ NB252_247; obtain ⟨hnb25, hnc25⟩ := nn_ NB252_248; obtain ⟨hcz26_0, hfz26_0⟩ := bc1_ BK252; obtain ⟨Ao27, co27, eo27⟩ := Kd.R_slice HO_253000.out; subst eo27) | ((with_reducible refine gate_callee (f := 40) rfl ?_); refine gl_ (some 23) Try.func40 #[.agg #[.slice Ao27 x253000_1.length co27], .agg #[.int .i64 ((rd_T60 l1 x15_1).f0), .string ((rd_T60 l1 x15_1).f1), .string ((rd_T60 l1 x15_1).f2), .string ((rd_T60 l1 x15_1).f3)]] ?_; (with_reducible refine (impl_DoAct.calls k1 _ _ x253000_1 ((rd_T60 l1 x15_1).f0) ((rd_T60 l1 x15_1).f1) ((rd_T60 l1 x15_1).f2) ((rd_T60 l1 x15_1).f3) t255 true _ ?side1 ?side2 A17.out).mono ?_); (case side1 => refine (Kd.R_reads' (e := 99) (base := w.heap.size) (ok := fun k_ => True) (n := x253000_1.length) (c := co27) ?_).2.2; exact (by (with_reducible repeat (first | apply Kd.R_alloc | apply Kd.R_drewN | apply Kd.R_drew)); exact (Kd.R_mono (Kd.R_far (p := ⟨gb254, 3, none⟩) (Kd.R_far (p := ⟨gb254, 2, none⟩) (Kd.R_far (p := ⟨gb254, 1, none⟩) (Kd.R_far (p := ⟨gb254, 0, none⟩) (Kd.R_types HO_253000.out BK254.out (by decide)) (fun _ hk => hk.2) (.int .i64 ((rd_T60 l1 x15_1).f0))) (fun _ hk => hk.2) (.string ((rd_T60 l1 x15_1).f1))) (fun _ hk => hk.2) (.string ((rd_T60 l1 x15_1).f2))) (fun _ hk => hk.2) (.string ((rd_T60 l1 x15_1).f3))) (fun _ h_ => h_.1)))); (case side2 => exact (Kd.R_reads' HO_253000.out).2.1); rintro e w28 ⟨v256, rfl, ho0, hb⟩; refine ⟨_, rfl, ?_⟩; have HO257 := am_ (Kd.R_lower (Kd.R_new' ho0 (Kd.R_lt (by (with_reducible repeat (first | apply Kd.R_alloc | apply Kd.R_drewN | apply Kd.R_drew)); exact (Kd.R_mono (Kd.R_far (p := ⟨gb254, 3, none⟩) (Kd.R_far (p := ⟨gb254, 2, none⟩) (Kd.R_far (p := ⟨gb254, 1, none⟩) (Kd.R_far (p := ⟨gb254, 0, none⟩) (Kd.R_types HO_253000.out BK254.out (by decide)) (fun _ hk => hk.2) (.int .i64 ((rd_T60 l1 x15_1).f0))) (fun _ hk => hk.2) (.string ((rd_T60 l1 x15_1).f1))) (fun _ hk => hk.2) (.string ((rd_T60 l1 x15_1).f2))) (fun _ hk => hk.2) (.string ((rd_T60 l1 x15_1).f3))) (fun _ h_ => h_.1))))) (below_size qB_)); replace HO_253000 := am_ (Kd.R_elder' (by (with_reducible repeat (first | apply Kd.R_alloc | apply Kd.R_drewN | apply Kd.R_drew)); exact (Kd.R_mono (Kd.R_far (p := ⟨gb254, 3, none⟩) (Kd.R_far (p := ⟨gb254, 2, none⟩) (Kd.R_far (p := ⟨gb254, 1, none⟩) (Kd.R_far (p := ⟨gb254, 0, none⟩) (Kd.R_types HO_253000.out BK254.out (by decide)) (fun _ hk => hk.2) (.int .i64 ((rd_T60 l1 x15_1).f0))) (fun _ hk => hk.2) (.string ((rd_T60 l1 x15_1).f1))) (fun _ hk => hk.2) (.string ((rd_T60 l1 x15_1).f2))) (fun _ hk => hk.2) (.string ((rd_T60 l1 x15_1).f3))) (fun _ h_ => h_.1))) (Kd.R_base ho0) hb); replace BK247 := qbl_ BK247 hb; replace BK248 := qbl_ BK248 hb; replace BK252 := qbl_ BK252 hb; replace BK254 := am_ (blk_below (g := gb254) (o := .cells #[.int .i64 ((rd_T60 l1 x15_1).f0), .string ((rd_T60 l1 x15_1).f1), .string ((rd_T60 l1 x15_1).f2), .string ((rd_T60 l1 x15_1).f3)] 60 (0, 0)) (by (with_reducible repeat (first | refine blk_drewN ?_ _ | refine blk_drew ?_ | refine blk_alloc ?_ _)); refine blk_put (cs := #[.int .i64 ((rd_T60 l1 x15_1).f0), .string ((rd_T60 l1 x15_1).f1), .string ((rd_T60 l1 x15_1).f2), .string (⟨#[]⟩ : ByteArray)]) ?_ 3 _ rfl; (with_reducible repeat (first | refine blk_drewN ?_ _ | refine blk_drew ?_ | refine blk_alloc ?_ _)); refine blk_put (cs := #[.int .i64 ((rd_T60 l1 x15_1).f0), .string ((rd_T60 l1 x15_1).f1), .string (⟨#[]⟩ : ByteArray), .string (⟨#[]⟩ : ByteArray)]) ?_ 2 _ rfl; (with_reducible repeat (first | refine blk_drewN ?_ _ | refine blk_drew ?_ | refine blk_alloc ?_ _)); refine blk_put (cs := #[.int .i64 ((rd_T60 l1 x15_1).f0), .string (⟨#[]⟩ : ByteArray), .string (⟨#[]⟩ : ByteArray), .string (⟨#[]⟩ : ByteArray)]) ?_ 1 _ rfl; (with_reducible repeat (first | refine blk_drewN ?_ _ | refine blk_drew ?_ | refine blk_alloc ?_ _)); refine blk_put (cs := #[.int .i64 0, .string (⟨#[]⟩ : ByteArray), .string (⟨#[]⟩ : ByteArray), .string (⟨#[]⟩ : ByteArray)]) ?_ 0 _ rfl; exact qf_ BK254) hb); replace HB := hs_ hb; (try clear hb); (try clear hb2); (try clear hk); (try clear hi); (try clear ho0)) | ((with_reducible refine gate_dst (N := 9) rfl ?_); refine bx_ 9 (cs := #[.slice none 0 0]) (t := 44) ?_; intro gb259 hg w29 hbox hb; have BK259 := am_ (hbox); have GW259 := am_ ((qs_ : w.heap.size ≤ gb259)); have GE259 := GW259; obtain ⟨NB247_259, NB259_247⟩ := qn_ BK247 hg; obtain ⟨NB248_259, NB259_248⟩ := qn_ BK248 hg; obtain ⟨NB252_259, NB259_252⟩ := qn_ BK252 hg; obtain ⟨NB254_259, NB259_254⟩ := qn_ BK254 hg; replace HO_253000 := am_ (Kd.R_below (qR_ HO_253000) hb); replace HO257 := am_ (Kd.R_below (qR_ HO257) hb); replace BK247 := qbl_ BK247 hb; replace BK248 := qbl_ BK248 hb; replace BK252 := qbl_ BK252 hb; replace BK254 := qbl_ BK254 hb; replace HB := hs_ hb; clear hb hbox hg; obtain ⟨Ao30, co30, eo30⟩ := Kd.R_slice HO257.out; subst eo30; obtain ⟨hnb31, hnc31⟩ := nn_ NB259_247; obtain ⟨hnb32, hnc32⟩ := nn_ NB259_248; obtain ⟨hnb33, hnc33⟩ := nn_ NB259_252; obtain ⟨hnb34, hnc34⟩ := nn_ NB259_254; obtain ⟨hcz35_0, hfz35_0⟩ := bc1_ BK259; obtain ⟨hcz36_0, hfz36_0⟩ := bc1_ BK252))
       go_roundg k1
       case measure => have := HK1.out; omega
       case rel => exact ⟨(wrap64 (x15_1 + 1)), (t255), (.slice Ao30 t255.length co30), qe_, H', ⟨by have := HK1.out; omega⟩, ⟨by (with_reducible repeat (first | apply Kd.R_alloc | apply Kd.R_drewN | apply Kd.R_drew)); exact Kd.R_mono (Kd.R_far (p := ⟨gb252, 0, none⟩) (Kd.R_far (p := ⟨gb259, 0, none⟩) (Kd.R_types (Kd.R_types HO257.out BK259.out (by decide)) BK252.out (by decide)) (fun _ hk => hk.1.2) (.slice Ao30 t255.length co30)) (fun _ hk => hk.2) (.slice Ao30 t255.length co30)) (fun _ hk => trivial)⟩, ⟨qf_ BK247⟩, ⟨qf_ BK248⟩, ⟨by (with_reducible repeat (first | refine blk_drewN ?_ _ | refine blk_drew ?_ | refine blk_alloc ?_ _)); refine blk_put (cs := #[.slice Ao27 x253000_1.length co27]) ?_ 0 _ rfl; exact qf_ BK252⟩, ⟨qB_⟩⟩
      replace c18 := Bool.eq_false_iff.mpr c18
      subst c18
      rw [if_neg (show ¬ (false = true) by decide)] at H
      simp only [Option.some.injEq, Prod.mk.injEq] at H
      obtain ⟨rfl, rfl⟩ := H
      have p253 : 0 ≤ (x15_1 : Int) := of_decide_eq_true qa_
      have q253 : x15_1 < (l1.length : Int) := of_decide_eq_true qa_
      obtain ⟨ad253, e253, hx253_0, hx253_1, hx253_2, hx253_3⟩ := at_T60 HR1.out x15_1 p253 q253
      cases e253
      replace hx253_0 := qx_ HB hx253_0
      replace hx253_1 := qx_ HB hx253_1
      replace hx253_2 := qx_ HB hx253_2
      replace hx253_3 := qx_ HB hx253_3
      replace p253 := eq_true p253; replace q253 := eq_true q253
      go_wp2_with (first | ((with_reducible refine gate_dst (N := 8) rfl ?_); refine bx_ 8 (cs := #[.int .i64 0, .string (⟨#[]⟩ : ByteArray), .string (⟨#[]⟩ : ByteArray), .string (⟨#[]⟩ : ByteArray)]) (t := 60) ?_; intro gb254 hg w37 hbox hb; have BK254 := am_ (hbox); have GW254 := am_ ((qs_ : w.heap.size ≤ gb254)); have GE254 := GW254; obtain ⟨NB247_254, NB254_247⟩ := qn_ BK247 hg; obtain ⟨NB248_254, NB254_248⟩ := qn_ BK248 hg; obtain ⟨NB252_254, NB254_252⟩ := qn_ BK252 hg; replace HO_253000 := am_ (Kd.R_below (qR_ HO_253000) hb); replace BK247 := qbl_ BK247 hb; replace BK248 := qbl_ BK248 hb; replace BK252 := qbl_ BK252 hb; replace HB := hs_ hb; clear hb hbox hg; obtain ⟨hnb38, hnc38⟩ := nn_ NB254_247; obtain ⟨hnb39, hnc39⟩ := nn_ NB254_248; obtain ⟨hnb40, hnc40⟩ := nn_ NB254_252; obtain ⟨hcz41_0, hcz41_1, hcz41_2, hcz41_3, hfz41_0, hfz41_1, hfz41_2, hfz41_3⟩ := bc4_ BK254; obtain ⟨hnb42, hnc42⟩ := nn_ NB252_247; obtain ⟨hnb43, hnc43⟩ := nn_ NB252_248; obtain ⟨hcz44_0, hfz44_0⟩ := bc1_ BK252; obtain ⟨Ao45, co45, eo45⟩ := Kd.R_slice HO_253000.out; subst eo45) | ((with_reducible refine gate_callee (f := 40) rfl ?_); refine gl_ (some 23) Try.func40 #[.agg #[.slice Ao45 x253000_1.length co45], .agg #[.int .i64 ((rd_T60 l1 x15_1).f0), .string ((rd_T60 l1 x15_1).f1), .string ((rd_T60 l1 x15_1).f2), .string ((rd_T60 l1 x15_1).f3)]] ?_; (with_reducible refine (impl_DoAct.calls k1 _ _ x253000_1 ((rd_T60 l1 x15_1).f0) ((rd_T60 l1 x15_1).f1) ((rd_T60 l1 x15_1).f2) ((rd_T60 l1 x15_1).f3) t255 false _ ?side1 ?side2 A17.out).mono ?_); (case side1 => refine (Kd.R_reads' (e := 99) (base := w.heap.size) (ok := fun k_ => True) (n := x253000_1.length) (c := co45) ?_).2.2; exact (by (with_reducible repeat (first | apply Kd.R_alloc | apply Kd.R_drewN | apply Kd.R_drew)); exact (Kd.R_mono (Kd.R_far (p := ⟨gb254, 3, none⟩) (Kd.R_far (p := ⟨gb254, 2, none⟩) (Kd.R_far (p := ⟨gb254, 1, none⟩) (Kd.R_far (p := ⟨gb254, 0, none⟩) (Kd.R_types HO_253000.out BK254.out (by decide)) (fun _ hk => hk.2) (.int .i64 ((rd_T60 l1 x15_1).f0))) (fun _ hk => hk.2) (.string ((rd_T60 l1 x15_1).f1))) (fun _ hk => hk.2) (.string ((rd_T60 l1 x15_1).f2))) (fun _ hk => hk.2) (.string ((rd_T60 l1 x15_1).f3))) (fun _ h_ => h_.1)))); (case side2 => exact (Kd.R_reads' HO_253000.out).2.1); rintro e w46 ⟨v256, rfl, ho0, hb⟩; refine ⟨_, rfl, ?_⟩; have HO257 := am_ (Kd.R_lower (Kd.R_new' ho0 (Kd.R_lt (by (with_reducible repeat (first | apply Kd.R_alloc | apply Kd.R_drewN | apply Kd.R_drew)); exact (Kd.R_mono (Kd.R_far (p := ⟨gb254, 3, none⟩) (Kd.R_far (p := ⟨gb254, 2, none⟩) (Kd.R_far (p := ⟨gb254, 1, none⟩) (Kd.R_far (p := ⟨gb254, 0, none⟩) (Kd.R_types HO_253000.out BK254.out (by decide)) (fun _ hk => hk.2) (.int .i64 ((rd_T60 l1 x15_1).f0))) (fun _ hk => hk.2) (.string ((rd_T60 l1 x15_1).f1))) (fun _ hk => hk.2) (.string ((rd_T60 l1 x15_1).f2))) (fun _ hk => hk.2) (.string ((rd_T60 l1 x15_1).f3))) (fun _ h_ => h_.1))))) (below_size qB_)); replace HO_253000 := am_ (Kd.R_elder' (by (with_reducible repeat (first | apply Kd.R_alloc | apply Kd.R_drewN | apply Kd.R_drew)); exact (Kd.R_mono (Kd.R_far (p := ⟨gb254, 3, none⟩) (Kd.R_far (p := ⟨gb254, 2, none⟩) (Kd.R_far (p := ⟨gb254, 1, none⟩) (Kd.R_far (p := ⟨gb254, 0, none⟩) (Kd.R_types HO_253000.out BK254.out (by decide)) (fun _ hk => hk.2) (.int .i64 ((rd_T60 l1 x15_1).f0))) (fun _ hk => hk.2) (.string ((rd_T60 l1 x15_1).f1))) (fun _ hk => hk.2) (.string ((rd_T60 l1 x15_1).f2))) (fun _ hk => hk.2) (.string ((rd_T60 l1 x15_1).f3))) (fun _ h_ => h_.1))) (Kd.R_base ho0) hb); replace BK247 := qbl_ BK247 hb; replace BK248 := qbl_ BK248 hb; replace BK252 := qbl_ BK252 hb; replace BK254 := am_ (blk_below (g := gb254) (o := .cells #[.int .i64 ((rd_T60 l1 x15_1).f0), .string ((rd_T60 l1 x15_1).f1), .string ((rd_T60 l1 x15_1).f2), .string ((rd_T60 l1 x15_1).f3)] 60 (0, 0)) (by (with_reducible repeat (first | refine blk_drewN ?_ _ | refine blk_drew ?_ | refine blk_alloc ?_ _)); refine blk_put (cs := #[.int .i64 ((rd_T60 l1 x15_1).f0), .string ((rd_T60 l1 x15_1).f1), .string ((rd_T60 l1 x15_1).f2), .string (⟨#[]⟩ : ByteArray)]) ?_ 3 _ rfl; (with_reducible repeat (first | refine blk_drewN ?_ _ | refine blk_drew ?_ | refine blk_alloc ?_ _)); refine blk_put (cs := #[.int .i64 ((rd_T60 l1 x15_1).f0), .string ((rd_T60 l1 x15_1).f1), .string (⟨#[]⟩ : ByteArray), .string (⟨#[]⟩ : ByteArray)]) ?_ 2 _ rfl; (with_reducible repeat (first | refine blk_drewN ?_ _ | refine blk_drew ?_ | refine blk_alloc ?_ _)); refine blk_put (cs := #[.int .i64 ((rd_T60 l1 x15_1).f0), .string (⟨#[]⟩ : ByteArray), .string (⟨#[]⟩ : ByteArray), .string (⟨#[]⟩ : ByteArray)]) ?_ 1 _ rfl; (with_reducible repeat (first | refine blk_drewN ?_ _ | refine blk_drew ?_ | refine blk_alloc ?_ _)); refine blk_put (cs := #[.int .i64 0, .string (⟨#[]⟩ : ByteArray), .string (⟨#[]⟩ : ByteArray), .string (⟨#[]⟩ : ByteArray)]) ?_ 0 _ rfl; exact qf_ BK254) hb); replace HB := hs_ hb; (try clear hb); (try clear hb2); (try clear hk); (try clear hi); (try clear ho0)) | ((with_reducible refine gate_dst (N := 9) rfl ?_); refine bx_ 9 (cs := #[.slice none 0 0]) (t := 44) ?_; intro gb259 hg w47 hbox hb; have BK259 := am_ (hbox); have GW259 := am_ ((qs_ : w.heap.size ≤ gb259)); have GE259 := GW259; obtain ⟨NB247_259, NB259_247⟩ := qn_ BK247 hg; obtain ⟨NB248_259, NB259_248⟩ := qn_ BK248 hg; obtain ⟨NB252_259, NB259_252⟩ := qn_ BK252 hg; obtain ⟨NB254_259, NB259_254⟩ := qn_ BK254 hg; replace HO_253000 := am_ (Kd.R_below (qR_ HO_253000) hb); replace HO257 := am_ (Kd.R_below (qR_ HO257) hb); replace BK247 := qbl_ BK247 hb; replace BK248 := qbl_ BK248 hb; replace BK252 := qbl_ BK252 hb; replace BK254 := qbl_ BK254 hb; replace HB := hs_ hb; clear hb hbox hg; obtain ⟨Ao48, co48, eo48⟩ := Kd.R_slice HO257.out; subst eo48; obtain ⟨hnb49, hnc49⟩ := nn_ NB259_247; obtain ⟨hnb50, hnc50⟩ := nn_ NB259_248; obtain ⟨hnb51, hnc51⟩ := nn_ NB259_252; obtain ⟨hnb52, hnc52⟩ := nn_ NB259_254; obtain ⟨hcz53_0, hfz53_0⟩ := bc1_ BK259; obtain ⟨hcz54_0, hfz54_0⟩ := bc1_ BK252; obtain ⟨hnb55, hnc55⟩ := nn_ NB248_247; obtain ⟨hcz56_0, hfz56_0⟩ := bc1_ BK248))
      refine bodyPost_ret (results_ct rfl _ _ gb248 44 #[.slice Ao45 x253000_1.length co45] (0, 0) _ rfl (by (with_reducible repeat (first | refine blk_drewN ?_ _ | refine blk_drew ?_ | refine blk_alloc ?_ _)); refine blk_put (cs := #[.slice none 0 0]) ?_ 0 _ rfl; exact qf_ BK248) Try.underlying44 rfl (by kernel_rfl)) rfl ?_
      exact ⟨_, qr_, by (with_reducible repeat (first | apply Kd.R_alloc | apply Kd.R_drewN | apply Kd.R_drew)); exact Kd.R_mono (Kd.R_far (p := ⟨gb248, 0, none⟩) (Kd.R_far (p := ⟨gb259, 0, none⟩) (Kd.R_types (Kd.R_types HO_253000.out BK259.out (by decide)) BK248.out (by decide)) (fun _ hk => hk.1.2) (.slice Ao48 t255.length co48)) (fun _ hk => hk.2) (.slice Ao45 x253000_1.length co45)) (fun _ hk => trivial), qB_⟩
     rw [if_neg c16] at H
     exact absurd H (by simp)
    rw [if_neg c15] at H
    exact absurd H (by simp)
   rw [if_neg c14] at H
   have c14b0 : decide (x15_1 < (l1.length : Int)) = false := decide_eq_false c14
   clear c14
   simp only [Option.some.injEq, Prod.mk.injEq] at H
   obtain ⟨rfl, rfl⟩ := H
   obtain ⟨hnb57, hnc57⟩ := nn_ NB252_247; obtain ⟨hnb58, hnc58⟩ := nn_ NB252_248
   obtain ⟨hcz59_0, hfz59_0⟩ := bc1_ BK252
   obtain ⟨Ao60, co60, eo60⟩ := Kd.R_slice HO_253000.out
   subst eo60; obtain ⟨hnb61, hnc61⟩ := nn_ NB248_247
   obtain ⟨hcz62_0, hfz62_0⟩ := bc1_ BK248
   go_wp2
   refine bodyPost_ret (results_ct rfl _ _ gb248 44 #[.slice Ao60 x253000_1.length co60] (0, 0) _ rfl (by (with_reducible repeat (first | refine blk_drewN ?_ _ | refine blk_drew ?_ | refine blk_alloc ?_ _)); refine blk_put (cs := #[.slice none 0 0]) ?_ 0 _ rfl; exact qf_ BK248) Try.underlying44 rfl (by kernel_rfl)) rfl ?_
   exact ⟨_, qr_, by (with_reducible repeat (first | apply Kd.R_alloc | apply Kd.R_drewN | apply Kd.R_drew)); exact Kd.R_mono (Kd.R_far (p := ⟨gb248, 0, none⟩) (Kd.R_types HO_253000.out BK248.out (by decide)) (fun _ hk => hk.2) (.slice Ao60 x253000_1.length co60)) (fun _ hk => trivial), qB_⟩

end Go.Proofs.Ytacnlodcbbhahaa.QFnExactCutActs
