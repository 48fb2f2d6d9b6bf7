import Derived.Test.YtacnlodcbbhahaaQFnActsx0
namespace Go.Proofs.Ytacnlodcbbhahaa.QFnActs
open Go.RowKit Go.Proofs.YtacnlodcbbhahaaW.PrintWords Go.Proofs.YtacnlodcbbhahaaW.PrintLast Go.Proofs.YtacnlodcbbhahaaW.PrintMore
set_option maxHeartbeats 8000000
set_option maxRecDepth 100000
set_option linter.unusedVariables false
set_option linter.unusedSimpArgs false
def spec_l03At.l0 : Nat → ByteArray → Int → List (S99) → Option (Int)
  | 0, _, _, _ => none
  | k + 1, x1, x5, x153000 => if x5 < (x153000.length : Int) then (if 0 ≤ x5 then (if ((rd_T99 x153000 x5).f0).toList = x1.toList then (some x5) else (spec_l03At.l0 k x1 (wrap64 (x5 + 1)) x153000)) else (none)) else (some (-1))
def spec_l03At.f (k : Nat) (l0_0 : List (S99)) (a1 : ByteArray) : Option (Int) := spec_l03At.l0 k a1 0 l0_0
theorem spec_l03At.calls (k : Nat) (d : Option Addr) (g : Nat) (a : List (S99)) (n : ByteArray) (r : Int) (w : World) (hr0_0 : Kd.C k99 w d a.length a) (hc0_0 : a.length ≤ g) (h : spec_l03At.f k a n = some r) :
  Calls Try.prog 83 #[.agg #[.slice d a.length g], .string n] w fun e w' => e = .returned (.int .i64 r) ∧ Below w.heap.size w w' := by
 have hu44 := Try.underlying44
 have i := am_ hr0_0
 have z := am_ hc0_0
 clear hr0_0 hc0_0
 have HB := am_ (Below.refl w.heap.size w)
 rw [spec_l03At.f] at h; have H := h; clear h; have H' := am_ H; clear H
 go_enter Try.func83, Try.ntmps83
 go_wp2_with (first | ((with_reducible refine gd_ 2 ?_); refine by_ 2 (cs := #[.slice d a.length g]) (t := 44) ?_; intro D hg F p hb; have G := gw_ hg; replace HB := hs_ hb; clear hb hg))
 go_loopg [5] k (fun kq v5 w' => ∃ (c : Int), v5 = .int .i64 c ∧ Aside0 (spec_l03At.l0 kq n c a = some r) ∧ Aside0 (kq ≤ k) ∧ Aside0 (w'.heap[D]? = some (.cells #[(.slice d a.length g)] 44 (0, 0))) ∧ Aside0 (Below w.heap.size w w'))
 case atStart => exact ⟨(0), qe_, H', ⟨Nat.le_refl _⟩, ⟨qk_ p⟩, ⟨qB_⟩⟩
 case round =>
  clear H'
  obtain ⟨c, rfl, HA, HK1, p, HB⟩ := hrel
  cases gk with
  | zero => exact absurd HA.out (by simp [spec_l03At.l0])
  | succ E =>
   have H := HA.out; clear HA
   simp only [spec_l03At.l0] at H
   refine ib_ H ?_ ?_ <;> clear H <;> intro A H
   ·obtain rfl := oi_ H
    obtain ⟨J, L⟩ := bc1_ p
    go_wp2
    go_ret
    exact ⟨qr_, qB_⟩
   refine ig_ H ?_; clear H; intro B H
   refine jc_ H ?_ ?_ <;> clear H <;> intro q H
   ·have s : (((rd_T99 a c).f0).toList == n.toList) = true := beq_iff_eq.mpr q
    have u : (((rd_T99 a c).f0).toList != n.toList) = false := bne_eq_false_iff_eq.mpr q
    clear q
    obtain rfl := oi_ H
    obtain ⟨M, N⟩ := bc1_ p
    have j := dt_ c
    have l := du_ c a.length
    obtain ⟨o, m, v, x, y⟩ := at_T99 i.out c (ot_ j) (ot_ l)
    cases m
    replace v := qx_ HB v
    replace x := qx_ HB x
    replace y := qx_ HB y
    go_wp2
    go_ret
    exact ⟨qr_, qB_⟩
   have s : (((rd_T99 a c).f0).toList == n.toList) = false := beq_eq_false_iff_ne.mpr q
   have u : (((rd_T99 a c).f0).toList != n.toList) = true := bne_iff_ne.mpr q
   have H' := am_ H; clear H
   obtain ⟨O, R⟩ := bc1_ p
   have j := dt_ c
   have l := du_ c a.length
   obtain ⟨o, m, v, x, y⟩ := at_T99 i.out c (ot_ j) (ot_ l)
   cases m
   replace v := qx_ HB v
   replace x := qx_ HB x
   replace y := qx_ HB y
   go_wp2
   go_roundg E
   case measure => have := HK1.out; omega
   case rel => exact ⟨(wrap64 (c + 1)), qe_, H', ⟨by have := HK1.out; omega⟩, ⟨qk_ p⟩, ⟨qB_⟩⟩
end Go.Proofs.Ytacnlodcbbhahaa.QFnActs
