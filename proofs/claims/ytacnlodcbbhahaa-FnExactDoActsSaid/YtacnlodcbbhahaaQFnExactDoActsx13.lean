-- printed for this claim by a program of the session's own (no text of the kit's print)
import Derived.Test.YtacnlodcbbhahaaQFnExactDoActsx0
namespace Go.Proofs.Ytacnlodcbbhahaa.QFnExactDoActs
open Go.RowKit Go.Proofs.YtacnlodcbbhahaaW.PrintWords Go.Proofs.YtacnlodcbbhahaaW.PrintLast Go.Proofs.YtacnlodcbbhahaaW.PrintMore
attribute [local go_sem] max2_int min2_int max_two min_two max_three min_three max_four min_four   -- for this text's walks alone
set_option linter.unusedVariables false
set_option linter.unusedSimpArgs false

/-! ### impl_copyDisk: function 78 -/
def impl_copyDisk.f (l0_0 : List (S99)) : Option ((List (S99))) := if ([] : List (S99)).length + l0_0.length < 3518437208883 then (some (([] : List (S99)) ++ l0_0)) else (none)
set_option maxHeartbeats 8000000 in
set_option maxRecDepth 100000 in
theorem impl_copyDisk.calls (A0_0 : Option Addr) (c0_0 : Nat) (l0_0 : List (S99)) (r : List (S99)) (w : World) (hr0_0 : Kd.C k99 w A0_0 l0_0.length l0_0) (hc0_0 : l0_0.length ≤ c0_0) (h : impl_copyDisk.f l0_0 = some r) :
  Calls Try.prog 78 #[.agg #[.slice A0_0 l0_0.length c0_0]] w fun e w' => ∃ v0_ : Value, e = .returned (.agg #[v0_]) ∧ Kd.R k99 99 w' w.heap.size (fun _ => True) v0_ r ∧ Below w.heap.size w w' := by
 have hu44 := Try.underlying44
 have HR0_0 := am_ hr0_0
 have HC0_0 := am_ hc0_0
 clear hr0_0 hc0_0
 have HB := am_ (Below.refl w.heap.size w)
 have H : (if ([] : List (S99)).length + l0_0.length < 3518437208883 then (some (([] : List (S99)) ++ l0_0)) else (none)) = some r := h
 clear h
 by_cases c2 : ([] : List (S99)).length + l0_0.length < 3518437208883
 ·rw [if_pos c2] at H
  have LMc2 := am_ c2
  clear c2
  obtain ⟨y250, hy250⟩ : ∃ y_ : List (S99), y_ = (([] : List (S99)) ++ l0_0) := ⟨_, rfl⟩
  replace H : (some y250) = some r := by first | (rw [hy250]; with_reducible exact H) | (have H2_ := (Option.bind_some _ _).symm.trans H; rw [hy250]; with_reducible exact H2_) | (have H2_ := (Option.bind_some _ _).symm.trans H; with_reducible exact H2_) | with_reducible exact H | (rw [hy250]; exact H) | exact H
  have Ny250 := am_ hy250
  clear hy250
  obtain rfl := Option.some.inj H
  go_enter Try.func78, Try.ntmps78
  go_wp2_with (first | ((with_reducible refine gate_dst (N := 1) rfl ?_); refine bx_ 1 (cs := #[.slice A0_0 l0_0.length c0_0]) (t := 44) ?_; intro gb248 hg w3 hbox hb; have BK248 := am_ (hbox); have GW248 := am_ ((qs_ : w.heap.size ≤ gb248)); have GE248 := GW248; replace HB := am_ (below_step qB_ hb); clear hb hbox hg) | ((with_reducible refine gate_dst (N := 2) rfl ?_); refine bx_ 2 (cs := #[.slice none 0 0]) (t := 44) ?_; intro gb249 hg w4 hbox hb; have BK249 := am_ (hbox); have GW249 := am_ ((qs_ : w.heap.size ≤ gb249)); have GE249 := GW249; obtain ⟨NB248_249, NB249_248⟩ := qn_ BK248 hg; replace BK248 := qbl_ BK248 hb; replace HB := am_ (below_step qB_ hb); clear hb hbox hg; have hnb5 := NB248_249.out; have hnc5 := NB249_248.out; obtain ⟨hcz6_0, hfz6_0⟩ := bc1_ BK248) | ((with_reducible refine gate_builtin (b := .append) (xs := #[.const (.slice none 0 0), .tmp 4]) rfl ?_); at_builtin; refine Kd.R_append_rows k99 (w0 := w) w.heap.size rfl (.const (.slice none 0 0)) (.tmp 4) 42 99 (.agg #[(.string ⟨#[]⟩), (.string ⟨#[]⟩), (.int .i64 0)]) 40 rfl Try.underlying42 info99 rfl (by decide) (by omega) (.slice none 0 0) ([] : List (S99)) l0_0 _ _ _ (fun _ => True) (fun _ => False) rfl rfl ?aO ?aR (fun _ _ h => h) (fun _ h => h.elim) ?aF ?aB ?aS ?aL ?_; (case aR => repeat (first | exact (Kd.C_below HR0_0.out HB.out) | (with_reducible refine Kd.C_alloc ?_ _) | (with_reducible refine Kd.C_drewN ?_ _) | (with_reducible refine Kd.C_drew ?_))); (case aB => exact qB_); (case aF => exact (fun _ _ => trivial)); (case aO => exact ((Kd.R_nil _ _ _ _ (fun _ => True)))); (case aS => exact (below_size qB_)); (case aL => have := LMc2.out; omega); intro v251 w7 ho hb hg hat; rw [← Ny250.out] at ho; have HO252 := am_ (ho); replace BK248 := am_ (blk_grown (qk_ BK248) hg (by simp [Value.ownBlock])); replace BK249 := am_ (blk_grown (qk_ BK249) hg (by simp [Value.ownBlock])); replace HB := am_ (hb); clear ho hb hg hat; obtain ⟨Ao8, co8, eo8⟩ := Kd.R_slice HO252.out; subst eo8; obtain ⟨hcz9_0, hfz9_0⟩ := bc1_ BK249))
  refine bodyPost_ret (results_cell_row rfl _ _ gb249 44 #[.slice Ao8 y250.length co8] (0, 0) _ rfl (by (with_reducible repeat (first | refine blk_drewN ?_ _ | refine blk_drew ?_ | refine blk_alloc ?_ _)); refine blk_put (cs := #[.slice none 0 0]) ?_ 0 _ rfl; exact qf_ BK249) Try.underlying44 rfl (by kernel_rfl)) rfl ?_
  exact ⟨_, qr_, by (with_reducible repeat (first | apply Kd.R_alloc | apply Kd.R_drewN | apply Kd.R_drew)); exact Kd.R_mono (Kd.R_far (p := ⟨gb249, 0, none⟩) (Kd.R_types HO252.out BK249.out (by decide)) (fun _ hk => hk.2) (.slice Ao8 y250.length co8)) (fun _ hk => trivial), qB_⟩
 ·rw [if_neg c2] at H
  exact absurd H (by simp)

/-! ### impl_fileAt: function 86 -/
def impl_fileAt.l0 : Nat → ByteArray → List (S99) → Int → Int → Option (Int)
  | 0, _, _, _, _ => none
  | k + 1, x1, x8, x9, x10 => if x10 < x9 then (if 0 ≤ x10 then (if x10 < (x8.length : Int) then (if ((rd_T99 x8 x10).f0).toList = x1.toList then (some x10) else (impl_fileAt.l0 k x1 x8 x9 (wrap64 (x10 + 1)))) else (none)) else (none)) else (some (-1))
def impl_fileAt.f (k : Nat) (l0_0 : List (S99)) (a1 : ByteArray) : Option (Int) := impl_fileAt.l0 k a1 l0_0 (l0_0.length : Int) 0
theorem impl_fileAt.mono_l : ∀ k, (∀ y0 y1 y2 y3, LeO (impl_fileAt.l0 k y0 y1 y2 y3) (impl_fileAt.l0 (k + 1) y0 y1 y2 y3))
  | 0 => fun _ _ _ _ r h => by simp [impl_fileAt.l0] at h
  | k + 1 => by
    have ih0 := impl_fileAt.mono_l k
    · intro y0 y1 y2 y3
      unfold impl_fileAt.l0
      repeat' first
      | (with_reducible exact ih0 _ _ _ _)
      | (with_reducible exact LeO.refl _)
      | (with_reducible exact LeO.none _)
      | (with_reducible refine LeO.ite ?_ ?_)
      | (with_reducible refine LeO.bind ?_ (fun _ => ?_))
      | exact ih0 _ _ _ _
      | exact LeO.none _
      | refine LeO.ite ?_ ?_
      | refine LeO.bind ?_ (fun _ => ?_)
theorem impl_fileAt.mono : ∀ a0 a1 k, LeO (impl_fileAt.f k a0 a1) (impl_fileAt.f (k + 1) a0 a1) := by
  intro a0 a1 k
  have ih0 := impl_fileAt.mono_l k
  unfold impl_fileAt.f
  repeat' first
      | (with_reducible exact ih0 _ _ _ _)
      | (with_reducible exact LeO.refl _)
      | (with_reducible exact LeO.none _)
      | (with_reducible refine LeO.ite ?_ ?_)
      | (with_reducible refine LeO.bind ?_ (fun _ => ?_))
      | exact ih0 _ _ _ _
      | exact LeO.none _
      | refine LeO.ite ?_ ?_
      | refine LeO.bind ?_ (fun _ => ?_)
set_option maxHeartbeats 8000000 in
set_option maxRecDepth 100000 in
theorem impl_fileAt.calls (k : Nat) (A0_0 : Option Addr) (c0_0 : Nat) (l0_0 : List (S99)) (a1 : ByteArray) (r : Int) (w : World) (hr0_0 : Kd.C k99 w A0_0 l0_0.length l0_0) (hc0_0 : l0_0.length ≤ c0_0) (h : impl_fileAt.f k l0_0 a1 = some r) :
  Calls Try.prog 86 #[.agg #[.slice A0_0 l0_0.length c0_0], .string a1] w fun e w' => e = .returned (.int .i64 r) ∧ Below w.heap.size w w' := by
 have hu44 := Try.underlying44; have hu99 := Try.underlying99
 have HR0_0 := am_ hr0_0
 have HC0_0 := am_ hc0_0
 clear hr0_0 hc0_0
 have HB := am_ (Below.refl w.heap.size w)
 have H : (impl_fileAt.l0 k a1 l0_0 (l0_0.length : Int) 0) = some r := h
 clear h; have H' := am_ H; clear H
 go_enter Try.func86, Try.ntmps86
 go_wp2_with (first | ((with_reducible refine gate_dst (N := 2) rfl ?_); refine bx_ 2 (cs := #[.slice A0_0 l0_0.length c0_0]) (t := 44) ?_; intro gb253 hg w3 hbox hb; have BK253 := am_ (hbox); have GW253 := am_ ((qs_ : w.heap.size ≤ gb253)); have GE253 := GW253; replace HB := am_ (below_step qB_ hb); clear hb hbox hg; obtain ⟨hcz4_0, hfz4_0⟩ := bc1_ BK253))
 go_loopg [10] k (fun kq v10 w' => ∃ (x10_1 : Int), v10 = .int .i64 x10_1 ∧ Aside0 (impl_fileAt.l0 kq a1 l0_0 (l0_0.length : Int) x10_1 = some r) ∧ Aside0 (kq ≤ k) ∧ Aside0 (w'.heap[gb253]? = some (.cells #[(.slice A0_0 l0_0.length c0_0)] 44 (0, 0))) ∧ Aside0 (Below w.heap.size w w'))
 case atStart => exact ⟨(0), qe_, H', ⟨Nat.le_refl _⟩, ⟨qk_ BK253⟩, ⟨qB_⟩⟩
 case round =>
  clear H'
  (try clear p2); (try clear hcz4_0); (try clear hfz4_0)
  obtain ⟨x10_1, rfl, HA, HK1, BK253, HB⟩ := hrel
  cases gk with
  | zero => exact absurd HA.out (by simp [impl_fileAt.l0])
  | succ k1 =>
   have H := HA.out; clear HA
   simp only [impl_fileAt.l0] at H
   by_cases c5 : x10_1 < (l0_0.length : Int)
   ·rw [if_pos c5] at H
    have c5b0 : decide (x10_1 < (l0_0.length : Int)) = true := decide_eq_true c5
    clear c5
    by_cases c6 : 0 ≤ x10_1
    ·rw [if_pos c6] at H
     have c6b0 : decide (0 ≤ x10_1) = true := decide_eq_true c6
     clear c6
     by_cases c7 : x10_1 < (l0_0.length : Int)
     ·rw [if_pos c7] at H
      have c7b0 : decide (x10_1 < (l0_0.length : Int)) = true := decide_eq_true c7
      clear c7
      by_cases c8 : ((rd_T99 l0_0 x10_1).f0).toList = a1.toList
      ·rw [if_pos c8] at H
       have c8b0 : (((rd_T99 l0_0 x10_1).f0).toList == a1.toList) = true := beq_iff_eq.mpr c8
       have c8b1 : (((rd_T99 l0_0 x10_1).f0).toList != a1.toList) = false := bne_eq_false_iff_eq.mpr c8
       clear c8
       obtain rfl := Option.some.inj H
       have p254 : 0 ≤ (x10_1 : Int) := of_decide_eq_true qa_
       have q254 : x10_1 < (l0_0.length : Int) := of_decide_eq_true qa_
       obtain ⟨ad254, e254, hx254_0, hx254_1, hx254_2⟩ := at_T99 HR0_0.out x10_1 p254 q254
       cases e254
       replace hx254_0 := qx_ HB hx254_0
       replace hx254_1 := qx_ HB hx254_1
       replace hx254_2 := qx_ HB hx254_2
       replace p254 := eq_true p254; replace q254 := eq_true q254
       go_wp2_with (first | ((with_reducible refine gate_dst (N := 6) rfl ?_); refine bx_ 6 (cs := #[.string (⟨#[]⟩ : ByteArray), .string (⟨#[]⟩ : ByteArray), .int .i64 0]) (t := 99) ?_; intro gb255 hg w9 hbox hb; have BK255 := am_ (hbox); have GW255 := am_ ((qs_ : w.heap.size ≤ gb255)); have GE255 := GW255; obtain ⟨NB253_255, NB255_253⟩ := qn_ BK253 hg; replace BK253 := qbl_ BK253 hb; replace HB := am_ (below_step qB_ hb); clear hb hbox hg; have hnb10 := NB255_253.out; have hnc10 := NB253_255.out; obtain ⟨hcz11_0, hcz11_1, hcz11_2, hfz11_0, hfz11_1, hfz11_2⟩ := bc3_ BK255))
       go_ret
       exact ⟨qr_, qB_⟩
      ·rw [if_neg c8] at H
       have c8b0 : (((rd_T99 l0_0 x10_1).f0).toList == a1.toList) = false := beq_eq_false_iff_ne.mpr c8
       have c8b1 : (((rd_T99 l0_0 x10_1).f0).toList != a1.toList) = true := bne_iff_ne.mpr c8
       have H' := am_ H; clear H
       have p254 : 0 ≤ (x10_1 : Int) := of_decide_eq_true qa_
       have q254 : x10_1 < (l0_0.length : Int) := of_decide_eq_true qa_
       obtain ⟨ad254, e254, hx254_0, hx254_1, hx254_2⟩ := at_T99 HR0_0.out x10_1 p254 q254
       cases e254
       replace hx254_0 := qx_ HB hx254_0
       replace hx254_1 := qx_ HB hx254_1
       replace hx254_2 := qx_ HB hx254_2
       replace p254 := eq_true p254; replace q254 := eq_true q254
       go_wp2_with (first | ((with_reducible refine gate_dst (N := 6) rfl ?_); refine bx_ 6 (cs := #[.string (⟨#[]⟩ : ByteArray), .string (⟨#[]⟩ : ByteArray), .int .i64 0]) (t := 99) ?_; intro gb255 hg w12 hbox hb; have BK255 := am_ (hbox); have GW255 := am_ ((qs_ : w.heap.size ≤ gb255)); have GE255 := GW255; obtain ⟨NB253_255, NB255_253⟩ := qn_ BK253 hg; replace BK253 := qbl_ BK253 hb; replace HB := am_ (below_step qB_ hb); clear hb hbox hg; have hnb13 := NB255_253.out; have hnc13 := NB253_255.out; obtain ⟨hcz14_0, hcz14_1, hcz14_2, hfz14_0, hfz14_1, hfz14_2⟩ := bc3_ BK255))
       go_roundg k1
       case measure => have := HK1.out; omega
       case rel => exact ⟨(wrap64 (x10_1 + 1)), qe_, H', ⟨by have := HK1.out; omega⟩, ⟨qf_ BK253⟩, ⟨qB_⟩⟩
     ·rw [if_neg c7] at H
      exact absurd H (by simp)
    ·rw [if_neg c6] at H
     exact absurd H (by simp)
   ·rw [if_neg c5] at H
    have c5b0 : decide (x10_1 < (l0_0.length : Int)) = false := decide_eq_false c5
    clear c5
    obtain rfl := Option.some.inj H
    go_wp2
    go_ret
    exact ⟨qr_, qB_⟩

end Go.Proofs.Ytacnlodcbbhahaa.QFnExactDoActs
