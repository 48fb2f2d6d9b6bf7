-- printed for this claim by a program of the session's own (no text of the kit's print)
import Derived.Test.YtacnlodcbbhahaaQFnExactCutActsx0
namespace Go.Proofs.Ytacnlodcbbhahaa.QFnExactCutActs
open Go.RowKit Go.Proofs.YtacnlodcbbhahaaW.PrintWords Go.Proofs.YtacnlodcbbhahaaW.PrintLast Go.Proofs.YtacnlodcbbhahaaW.PrintMore
attribute [local go_sem] max2_int min2_int max_two min_two max_three min_three max_four min_four   -- for this text's walks alone
set_option linter.unusedVariables false
set_option linter.unusedSimpArgs false

/-! ### impl_fileAt: function 86 -/
def impl_fileAt.l0 : Nat → ByteArray → List (S99) → Int → Int → Option (Int)
  | 0, _, _, _, _ => none
  | k + 1, x1, x8, x9, x10 => if x10 < x9 then (if 0 ≤ x10 then (if x10 < (x8.length : Int) then (if ((rd_T99 x8 x10).f0).toList = x1.toList then (some x10) else (impl_fileAt.l0 k x1 x8 x9 (wrap64 (x10 + 1)))) else (none)) else (none)) else (some (-1))
def impl_fileAt.f (k : Nat) (l0_0 : List (S99)) (a1 : ByteArray) : Option (Int) := impl_fileAt.l0 k a1 l0_0 (l0_0.length : Int) 0
theorem impl_fileAt.mono_l : ∀ k, (∀ y0 y1 y2 y3, LeO (impl_fileAt.l0 k y0 y1 y2 y3) (impl_fileAt.l0 (k + 1) y0 y1 y2 y3))
  | 0 => fun _ _ _ _ r h => by simp [impl_fileAt.l0] at h
  | k + 1 => by
    have ih0 := impl_fileAt.mono_l k
    · intro y0 y1 y2 y3
      unfold impl_fileAt.l0
      repeat' first | (with_reducible first | exact ih0 _ _ _ _ | exact LeO.refl _ | exact LeO.none _ | refine LeO.ite ?_ ?_ | refine LeO.bind ?_ (fun _ => ?_)) | exact LeO.none _ | refine LeO.ite ?_ ?_ | refine LeO.bind ?_ (fun _ => ?_)
theorem impl_fileAt.mono : ∀ a0 a1 k, LeO (impl_fileAt.f k a0 a1) (impl_fileAt.f (k + 1) a0 a1) := by
  intro a0 a1 k
  have ih0 := impl_fileAt.mono_l k
  unfold impl_fileAt.f
  repeat' first | (with_reducible first | exact ih0 _ _ _ _ | exact LeO.refl _ | exact LeO.none _ | refine LeO.ite ?_ ?_ | refine LeO.bind ?_ (fun _ => ?_)) | exact LeO.none _ | refine LeO.ite ?_ ?_ | refine LeO.bind ?_ (fun _ => ?_)
set_option maxHeartbeats 8000000 in
set_option maxRecDepth 100000 in
theorem impl_fileAt.calls (k : Nat) (A0_0 : Option Addr) (c0_0 : Nat) (l0_0 : List (S99)) (a1 : ByteArray) (r : Int) (w : World) (hr0_0 : Kd.C k99 w A0_0 l0_0.length l0_0) (hc0_0 : l0_0.length ≤ c0_0) (h : impl_fileAt.f k l0_0 a1 = some r) :
  Calls Try.prog 86 #[.agg #[.slice A0_0 l0_0.length c0_0], .string a1] w fun e w' => e = .returned (.int .i64 r) ∧ Below w.heap.size w w' := by
 have hu44 := Try.underlying44; have hu99 := Try.underlying99
 have HR0_0 := am_ hr0_0
 have HC0_0 := am_ hc0_0
 clear hr0_0 hc0_0
 have HB := am_ (Below.refl w.heap.size w)
 have H : (impl_fileAt.l0 k a1 l0_0 (l0_0.length : Int) 0) = some r := h
 clear h; have H' := am_ H; clear H
 go_enter Try.func86, Try.ntmps86
 go_wp2_with (first | ((with_reducible refine gate_dst (N := 2) rfl ?_); refine bx_ 2 (cs := #[.slice A0_0 l0_0.length c0_0]) (t := 44) ?_; intro gb214 hg w3 hbox hb; have BK214 := am_ (hbox); have GW214 := am_ ((qs_ : w.heap.size ≤ gb214)); have GE214 := GW214; replace HB := hs_ hb; clear hb hbox hg; obtain ⟨hcz4_0, hfz4_0⟩ := bc1_ BK214))
 go_loopg [10] k (fun kq v10 w' => ∃ (x10_1 : Int), v10 = .int .i64 x10_1 ∧ Aside0 (impl_fileAt.l0 kq a1 l0_0 (l0_0.length : Int) x10_1 = some r) ∧ Aside0 (kq ≤ k) ∧ Aside0 (w'.heap[gb214]? = some (.cells #[(.slice A0_0 l0_0.length c0_0)] 44 (0, 0))) ∧ Aside0 (Below w.heap.size w w'))
 case atStart => exact ⟨(0), qe_, H', ⟨Nat.le_refl _⟩, ⟨qk_ BK214⟩, ⟨qB_⟩⟩
 case round =>
  clear H'
  (try clear p2); (try clear hcz4_0 hfz4_0)
  obtain ⟨x10_1, rfl, HA, HK1, BK214, HB⟩ := hrel
  cases gk with
  | zero => exact absurd HA.out (by simp [impl_fileAt.l0])
  | succ k1 =>
   have H := HA.out; clear HA
   simp only [impl_fileAt.l0] at H
   by_cases c5 : x10_1 < (l0_0.length : Int)
   ·rw [if_pos c5] at H
    have c5b0 : decide (x10_1 < (l0_0.length : Int)) = true := decide_eq_true c5
    clear c5
    by_cases c6 : 0 ≤ x10_1
    ·rw [if_pos c6] at H
     have c6b0 : decide (0 ≤ x10_1) = true := decide_eq_true c6
     clear c6
     by_cases c7 : x10_1 < (l0_0.length : Int)
     ·rw [if_pos c7] at H
      have c7b0 : decide (x10_1 < (l0_0.length : Int)) = true := decide_eq_true c7
      clear c7
      by_cases c8 : ((rd_T99 l0_0 x10_1).f0).toList = a1.toList
      ·rw [if_pos c8] at H
       have c8b0 : (((rd_T99 l0_0 x10_1).f0).toList == a1.toList) = true := beq_iff_eq.mpr c8
       have c8b1 : (((rd_T99 l0_0 x10_1).f0).toList != a1.toList) = false := bne_eq_false_iff_eq.mpr c8
       clear c8
       obtain rfl := Option.some.inj H
       have p215 : 0 ≤ (x10_1 : Int) := of_decide_eq_true qa_
       have q215 : x10_1 < (l0_0.length : Int) := of_decide_eq_true qa_
       obtain ⟨ad215, e215, hx215_0, hx215_1, hx215_2⟩ := at_T99 HR0_0.out x10_1 p215 q215
       cases e215
       replace hx215_0 := qx_ HB hx215_0
       replace hx215_1 := qx_ HB hx215_1
       replace hx215_2 := qx_ HB hx215_2
       replace p215 := eq_true p215; replace q215 := eq_true q215
       go_wp2_with (first | ((with_reducible refine gate_dst (N := 6) rfl ?_); refine bx_ 6 (cs := #[.string (⟨#[]⟩ : ByteArray), .string (⟨#[]⟩ : ByteArray), .int .i64 0]) (t := 99) ?_; intro gb216 hg w9 hbox hb; have BK216 := am_ (hbox); have GW216 := am_ ((qs_ : w.heap.size ≤ gb216)); have GE216 := GW216; obtain ⟨NB214_216, NB216_214⟩ := qn_ BK214 hg; replace BK214 := qbl_ BK214 hb; replace HB := hs_ hb; clear hb hbox hg; obtain ⟨hnb10, hnc10⟩ := nn_ NB216_214; obtain ⟨hcz11_0, hcz11_1, hcz11_2, hfz11_0, hfz11_1, hfz11_2⟩ := bc3_ BK216))
       go_ret
       exact ⟨qr_, qB_⟩
      rw [if_neg c8] at H
      have c8b0 : (((rd_T99 l0_0 x10_1).f0).toList == a1.toList) = false := beq_eq_false_iff_ne.mpr c8
      have c8b1 : (((rd_T99 l0_0 x10_1).f0).toList != a1.toList) = true := bne_iff_ne.mpr c8
      have H' := am_ H; clear H
      have p215 : 0 ≤ (x10_1 : Int) := of_decide_eq_true qa_
      have q215 : x10_1 < (l0_0.length : Int) := of_decide_eq_true qa_
      obtain ⟨ad215, e215, hx215_0, hx215_1, hx215_2⟩ := at_T99 HR0_0.out x10_1 p215 q215
      cases e215
      replace hx215_0 := qx_ HB hx215_0
      replace hx215_1 := qx_ HB hx215_1
      replace hx215_2 := qx_ HB hx215_2
      replace p215 := eq_true p215; replace q215 := eq_true q215
      go_wp2_with (first | ((with_reducible refine gate_dst (N := 6) rfl ?_); refine bx_ 6 (cs := #[.string (⟨#[]⟩ : ByteArray), .string (⟨#[]⟩ : ByteArray), .int .i64 0]) (t := 99) ?_; intro gb216 hg w12 hbox hb; have BK216 := am_ (hbox); have GW216 := am_ ((qs_ : w.heap.size ≤ gb216)); have GE216 := GW216; obtain ⟨NB214_216, NB216_214⟩ := qn_ BK214 hg; replace BK214 := qbl_ BK214 hb; replace HB := hs_ hb; clear hb hbox hg; obtain ⟨hnb13, hnc13⟩ := nn_ NB216_214; obtain ⟨hcz14_0, hcz14_1, hcz14_2, hfz14_0, hfz14_1, hfz14_2⟩ := bc3_ BK216))
      go_roundg k1
      case measure => have := HK1.out; omega
      case rel => exact ⟨(wrap64 (x10_1 + 1)), qe_, H', ⟨by have := HK1.out; omega⟩, ⟨qf_ BK214⟩, ⟨qB_⟩⟩
     rw [if_neg c7] at H
     exact absurd H (by simp)
    rw [if_neg c6] at H
    exact absurd H (by simp)
   rw [if_neg c5] at H
   have c5b0 : decide (x10_1 < (l0_0.length : Int)) = false := decide_eq_false c5
   clear c5
   obtain rfl := Option.some.inj H
   go_wp2
   go_ret
   exact ⟨qr_, qB_⟩

end Go.Proofs.Ytacnlodcbbhahaa.QFnExactCutActs
