import Derived.Test.YtacnlodcbbhahaaQFnActsx0
namespace Go.Proofs.Ytacnlodcbbhahaa.QFnActs
open Go.RowKit Go.Proofs.YtacnlodcbbhahaaW.PrintWords Go.Proofs.YtacnlodcbbhahaaW.PrintLast Go.Proofs.YtacnlodcbbhahaaW.PrintMore
set_option maxHeartbeats 8000000
set_option maxRecDepth 100000
set_option linter.unusedVariables false
set_option linter.unusedSimpArgs false
def impl_copyDisk.f (l0_0 : List (S99)) : Option ((List (S99))) := if ([] : List (S99)).length + l0_0.length < 3518437208883 then (some (([] : List (S99)) ++ l0_0)) else (none)
theorem impl_copyDisk.calls (c : Option Addr) (d : Nat) (a : List (S99)) (r : List (S99)) (w : World) (hr0_0 : Kd.C k99 w c a.length a) (hc0_0 : a.length ≤ d) (h : impl_copyDisk.f a = some r) :
  Calls Try.prog 78 #[.agg #[.slice c a.length d]] w fun e w' => ∃ m : Value, e = .returned (.agg #[m]) ∧ Kd.R k99 99 w' w.heap.size (fun _ => True) m r ∧ Below w.heap.size w w' := by
 have hu44 := Try.underlying44
 have i := am_ hr0_0
 have q := am_ hc0_0
 clear hr0_0 hc0_0
 have HB := am_ (Below.refl w.heap.size w)
 rw [impl_copyDisk.f] at h; have H := h; clear h
 refine jg_ H ?_; clear H; intro s H
 have n := am_ s
 clear s
 generalize g : (([] : List (S99)) ++ a) = u at H; replace H := bh_ H; have j := am_ g.symm; clear g
 obtain rfl := oi_ H
 go_enter Try.func78, Try.ntmps78
 go_wp2_with (first | ((with_reducible refine gd_ 1 ?_); refine by_ 1 (cs := #[.slice c a.length d]) (t := 44) ?_; intro D hg E l hb; have F := gw_ hg; replace HB := hs_ hb; clear hb hg) | ((with_reducible refine gd_ 2 ?_); refine by_ 2 (cs := #[.slice none 0 0]) (t := 44) ?_; intro v hg G o hb; have I := gw_ hg; obtain ⟨A, J⟩ := qn_ l hg; replace l := qbl_ l hb; replace HB := hs_ hb; clear hb hg; obtain ⟨L, M⟩ := nn_ A; obtain ⟨N, O⟩ := bc1_ l) | ((with_reducible refine gate_builtin (b := .append) (xs := #[.const (.slice none 0 0), .tmp 4]) rfl ?_); at_builtin; refine Kd.R_append_rows k99 (w0 := w) w.heap.size rfl (.const (.slice none 0 0)) (.tmp 4) 42 99 (.agg #[(.string ⟨#[]⟩), (.string ⟨#[]⟩), (.int .i64 0)]) 40 rfl Try.underlying42 info99 rfl (by decide) (by omega) (.slice none 0 0) ([] : List (S99)) a _ _ _ (fun _ => True) (fun _ => False) rfl rfl ?aO ?aR (fun _ _ h => h) (fun _ h => h.elim) ?aF ?aB ?aS ?aL ?_; (case aR => repeat (first | exact (Kd.C_below i.out HB.out) | (with_reducible refine Kd.C_alloc ?_ _) | (with_reducible refine Kd.C_drewN ?_ _) | (with_reducible refine Kd.C_drew ?_))); (case aB => exact qB_); (case aF => exact (fun _ _ => trivial)); (case aO => exact ((Kd.R_nil _ _ _ _ (fun _ => True)))); (case aS => exact (below_size qB_)); (case aL => have := n.out; omega); intro T U ho hb hg hat; rw [← j.out] at ho; have x := am_ (ho); replace l := am_ (blk_grown (qk_ l) hg (by simp [Value.ownBlock])); replace o := am_ (blk_grown (qk_ o) hg (by simp [Value.ownBlock])); replace HB := am_ (hb); clear ho hb hg hat; obtain ⟨y, z, B⟩ := Kd.R_slice x.out; subst B; obtain ⟨V, X⟩ := bc1_ o))
 refine bodyPost_ret (results_cell_row rfl _ _ v 44 #[.slice y u.length z] (0, 0) _ rfl (qp_ o) Try.underlying44 rfl (by kernel_rfl)) rfl ?_
 exact ⟨_, qr_, by (with_reducible repeat (first | apply Kd.R_alloc | apply Kd.R_drewN | apply Kd.R_drew)); exact Kd.R_mono (Kd.R_far (p := ⟨v, 0, none⟩) (Kd.R_types x.out o.out (by decide)) (fun _ hk => hk.2) (.slice y u.length z)) (fun _ hk => trivial), qB_⟩
def impl_fileAt.l0 : Nat → ByteArray → List (S99) → Int → Int → Option (Int)
  | 0, _, _, _, _ => none
  | k + 1, x1, x8, x9, x10 => if x10 < x9 then (if 0 ≤ x10 then (if x10 < (x8.length : Int) then (if ((rd_T99 x8 x10).f0).toList = x1.toList then (some x10) else (impl_fileAt.l0 k x1 x8 x9 (wrap64 (x10 + 1)))) else (none)) else (none)) else (some (-1))
def impl_fileAt.f (k : Nat) (l0_0 : List (S99)) (a1 : ByteArray) : Option (Int) := impl_fileAt.l0 k a1 l0_0 (l0_0.length : Int) 0
theorem impl_fileAt.calls (k : Nat) (d : Option Addr) (g : Nat) (c : List (S99)) (o : ByteArray) (r : Int) (w : World) (hr0_0 : Kd.C k99 w d c.length c) (hc0_0 : c.length ≤ g) (h : impl_fileAt.f k c o = some r) :
  Calls Try.prog 86 #[.agg #[.slice d c.length g], .string o] w fun e w' => e = .returned (.int .i64 r) ∧ Below w.heap.size w w' := by
 have hu44 := Try.underlying44; have hu99 := Try.underlying99
 have i := am_ hr0_0
 have z := am_ hc0_0
 clear hr0_0 hc0_0
 have HB := am_ (Below.refl w.heap.size w)
 rw [impl_fileAt.f] at h; have H := h; clear h; have H' := am_ H; clear H
 go_enter Try.func86, Try.ntmps86
 go_wp2_with (first | ((with_reducible refine gd_ 2 ?_); refine by_ 2 (cs := #[.slice d c.length g]) (t := 44) ?_; intro G hg T n hb; have U := gw_ hg; replace HB := hs_ hb; clear hb hg; obtain ⟨I, J⟩ := bc1_ n))
 go_loopg [10] k (fun kq v10 w' => ∃ (a : Int), v10 = .int .i64 a ∧ Aside0 (impl_fileAt.l0 kq o c (c.length : Int) a = some r) ∧ Aside0 (kq ≤ k) ∧ Aside0 (w'.heap[G]? = some (.cells #[(.slice d c.length g)] 44 (0, 0))) ∧ Aside0 (Below w.heap.size w w'))
 case atStart => exact ⟨(0), qe_, H', ⟨Nat.le_refl _⟩, ⟨qk_ n⟩, ⟨qB_⟩⟩
 case round =>
  clear H' I J
  obtain ⟨a, rfl, HA, HK1, n, HB⟩ := hrel
  cases gk with
  | zero => exact absurd HA.out (by simp [impl_fileAt.l0])
  | succ L =>
   have H := HA.out; clear HA
   simp only [impl_fileAt.l0] at H
   refine ib_ H ?_ ?_ <;> clear H <;> intro D H
   ·obtain rfl := oi_ H
    go_wp2
    go_ret
    exact ⟨qr_, qB_⟩
   refine ig_ H ?_; clear H; intro E H
   refine ig_ H ?_; clear H; intro F H
   refine jc_ H ?_ ?_ <;> clear H <;> intro q H
   ·have s : (((rd_T99 c a).f0).toList == o.toList) = true := beq_iff_eq.mpr q
    have u : (((rd_T99 c a).f0).toList != o.toList) = false := bne_eq_false_iff_eq.mpr q
    clear q
    obtain rfl := oi_ H
    have j := dt_ a
    have l := du_ a c.length
    obtain ⟨p, m, v, x, y⟩ := at_T99 i.out a (ot_ j) (ot_ l)
    cases m
    replace v := qx_ HB v
    replace x := qx_ HB x
    replace y := qx_ HB y
    go_wp2_with (first | ((with_reducible refine gd_ 6 ?_); refine by_ 6 (cs := #[.string (⟨#[]⟩ : ByteArray), .string (⟨#[]⟩ : ByteArray), .int .i64 0]) (t := 99) ?_; intro M hg X A hb; have N := gw_ hg; obtain ⟨O, B⟩ := qn_ n hg; replace n := qbl_ n hb; replace HB := hs_ hb; clear hb hg; obtain ⟨Y, Z⟩ := nn_ B; obtain ⟨a0, a1, a2, a3, a4, a5⟩ := bc3_ A))
    go_ret
    exact ⟨qr_, qB_⟩
   have s : (((rd_T99 c a).f0).toList == o.toList) = false := beq_eq_false_iff_ne.mpr q
   have u : (((rd_T99 c a).f0).toList != o.toList) = true := bne_iff_ne.mpr q
   have H' := am_ H; clear H
   have j := dt_ a
   have l := du_ a c.length
   obtain ⟨p, m, v, x, y⟩ := at_T99 i.out a (ot_ j) (ot_ l)
   cases m
   replace v := qx_ HB v
   replace x := qx_ HB x
   replace y := qx_ HB y
   go_wp2_with (first | ((with_reducible refine gd_ 6 ?_); refine by_ 6 (cs := #[.string (⟨#[]⟩ : ByteArray), .string (⟨#[]⟩ : ByteArray), .int .i64 0]) (t := 99) ?_; intro M hg R A hb; have N := gw_ hg; obtain ⟨O, B⟩ := qn_ n hg; replace n := qbl_ n hb; replace HB := hs_ hb; clear hb hg; obtain ⟨a6, a7⟩ := nn_ B; obtain ⟨a8, a9, b0, b1, b2, b3⟩ := bc3_ A))
   go_roundg L
   case measure => have := HK1.out; omega
   case rel => exact ⟨(wrap64 (a + 1)), qe_, H', ⟨by have := HK1.out; omega⟩, ⟨qf_ n⟩, ⟨qB_⟩⟩
end Go.Proofs.Ytacnlodcbbhahaa.QFnActs
