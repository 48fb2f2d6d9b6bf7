import Derived.Test.YtacnlodcbbhahaaQFnActsx1
import Derived.Test.YtacnlodcbbhahaaQFnActsx4
namespace Go.Proofs.Ytacnlodcbbhahaa.QFnActs
open Go.RowKit Go.Proofs.YtacnlodcbbhahaaW.PrintWords Go.Proofs.YtacnlodcbbhahaaW.PrintLast Go.Proofs.YtacnlodcbbhahaaW.PrintMore
set_option maxHeartbeats 8000000
set_option maxRecDepth 100000
set_option linter.unusedVariables false
set_option linter.unusedSimpArgs false
attribute [local go_sem high] eqA99
def laws_sameDisk.l0 : Nat → Int → List (S99) → List (S99) → Option (Bool)
  | 0, _, _, _ => none
  | k + 1, x5, x465000, x466000 => if x5 < (x465000.length : Int) then (if 0 ≤ x5 then (if x5 < (x466000.length : Int) then (if (!((((rd_T99 x465000 x5).f0).toList) == (((rd_T99 x466000 x5).f0).toList)) || (!((((rd_T99 x465000 x5).f1).toList) == (((rd_T99 x466000 x5).f1).toList)) || (!(((rd_T99 x465000 x5).f2) == ((rd_T99 x466000 x5).f2))))) = true then (some false) else (laws_sameDisk.l0 k (wrap64 (x5 + 1)) x465000 x466000)) else (none)) else (none)) else (some true)
def laws_sameDisk.f (k : Nat) (l0_0 : List (S99)) (l1_0 : List (S99)) : Option (Bool) := if (l0_0.length : Int) = (l1_0.length : Int) then (laws_sameDisk.l0 k 0 l0_0 l1_0) else (some false)
theorem laws_sameDisk.calls (k : Nat) (i : Option Addr) (j : Nat) (c : List (S99)) (l : Option Addr) (m : Nat) (d : List (S99)) (r : Bool) (w : World) (hr0_0 : Kd.C k99 w i c.length c) (hc0_0 : c.length ≤ j) (hr1_0 : Kd.C k99 w l d.length d) (hc1_0 : d.length ≤ m) (h : laws_sameDisk.f k c d = some r) :
  Calls Try.prog 55 #[.agg #[.slice i c.length j], .agg #[.slice l d.length m]] w fun e w' => e = .returned (.bool r) ∧ Below w.heap.size w w' := by
 have hu44 := Try.underlying44; have hu99 := Try.underlying99
 have o := am_ hr0_0
 have X := am_ hc0_0
 clear hr0_0 hc0_0
 have p := am_ hr1_0
 have Y := am_ hc1_0
 clear hr1_0 hc1_0
 have HB := am_ (Below.refl w.heap.size w)
 rw [laws_sameDisk.f] at h; have H := h; clear h
 refine jb_ H ?_ ?_ <;> clear H <;> intro z H
 ·have D : ((c.length : Int) == (d.length : Int)) = false := beq_eq_false_iff_ne.mpr z
  have E : ((c.length : Int) != (d.length : Int)) = true := bne_iff_ne.mpr z
  have F : (c.length == d.length) = false := by first | simpa using z | (simp at z ⊢; omega)
  obtain rfl := oi_ H
  go_enter Try.func55, Try.ntmps55
  go_wp2_with (first | ((with_reducible refine gd_ 2 ?_); refine by_ 2 (cs := #[.slice i c.length j]) (t := 44) ?_; intro U hg Z g hb; have a0 := gw_ hg; replace HB := hs_ hb; clear hb hg) | ((with_reducible refine gd_ 3 ?_); refine by_ 3 (cs := #[.slice l d.length m]) (t := 44) ?_; intro V hg a1 n hb; have a2 := gw_ hg; obtain ⟨A, a3⟩ := qn_ g hg; replace g := qbl_ g hb; replace HB := hs_ hb; clear hb hg; obtain ⟨b1, b2⟩ := nn_ A; obtain ⟨b3, b4⟩ := bc1_ g; obtain ⟨b5, b6⟩ := bc1_ n))
  repeat (go_quiet (fail); try go_wp2_with (first | ((with_reducible refine gd_ 2 ?_); refine by_ 2 (cs := #[.slice i c.length j]) (t := 44) ?_; intro U hg Z g hb; have a0 := gw_ hg; replace HB := hs_ hb; clear hb hg) | ((with_reducible refine gd_ 3 ?_); refine by_ 3 (cs := #[.slice l d.length m]) (t := 44) ?_; intro V hg a1 n hb; have a2 := gw_ hg; obtain ⟨A, a3⟩ := qn_ g hg; replace g := qbl_ g hb; replace HB := hs_ hb; clear hb hg; obtain ⟨b1, b2⟩ := nn_ A; obtain ⟨b3, b4⟩ := bc1_ g; obtain ⟨b5, b6⟩ := bc1_ n)))
  go_ret
  exact ⟨qr_, qB_⟩
 have D : ((c.length : Int) == (d.length : Int)) = true := beq_iff_eq.mpr z
 have E : ((c.length : Int) != (d.length : Int)) = false := bne_eq_false_iff_eq.mpr z
 have F : (c.length == d.length) = true := by first | simpa using z | (simp at z ⊢; omega)
 clear z; have H' := am_ H; clear H
 go_enter Try.func55, Try.ntmps55
 go_wp2_with (first | ((with_reducible refine gd_ 2 ?_); refine by_ 2 (cs := #[.slice i c.length j]) (t := 44) ?_; intro U hg b7 g hb; have a0 := gw_ hg; replace HB := hs_ hb; clear hb hg) | ((with_reducible refine gd_ 3 ?_); refine by_ 3 (cs := #[.slice l d.length m]) (t := 44) ?_; intro V hg b8 n hb; have a2 := gw_ hg; obtain ⟨A, a3⟩ := qn_ g hg; replace g := qbl_ g hb; replace HB := hs_ hb; clear hb hg; obtain ⟨b9, c0⟩ := nn_ A; obtain ⟨a6, a7⟩ := bc1_ g; obtain ⟨a8, a9⟩ := bc1_ n))
 repeat (go_quiet (fail); try go_wp2_with (first | ((with_reducible refine gd_ 2 ?_); refine by_ 2 (cs := #[.slice i c.length j]) (t := 44) ?_; intro U hg b7 g hb; have a0 := gw_ hg; replace HB := hs_ hb; clear hb hg) | ((with_reducible refine gd_ 3 ?_); refine by_ 3 (cs := #[.slice l d.length m]) (t := 44) ?_; intro V hg b8 n hb; have a2 := gw_ hg; obtain ⟨A, a3⟩ := qn_ g hg; replace g := qbl_ g hb; replace HB := hs_ hb; clear hb hg; obtain ⟨b9, c0⟩ := nn_ A; obtain ⟨a6, a7⟩ := bc1_ g; obtain ⟨a8, a9⟩ := bc1_ n)))
 go_loopg [5] k (fun kq v5 w' => ∃ (a : Int), v5 = .int .i64 a ∧ Aside0 (laws_sameDisk.l0 kq a c d = some r) ∧ Aside0 (kq ≤ k) ∧ Aside0 (w'.heap[U]? = some (.cells #[(.slice i c.length j)] 44 (0, 0))) ∧ Aside0 (w'.heap[V]? = some (.cells #[(.slice l d.length m)] 44 (0, 0))) ∧ Aside0 (Below w.heap.size w w'))
 case atStart => exact ⟨(0), qe_, H', ⟨Nat.le_refl _⟩, ⟨qk_ g⟩, ⟨qk_ n⟩, ⟨qB_⟩⟩
 case round =>
  clear H'
  (try clear c2); clear D E F a6 a8 a7 a9
  obtain ⟨a, rfl, HA, HK1, g, n, HB⟩ := hrel
  cases gk with
  | zero => exact absurd HA.out (by simp [laws_sameDisk.l0])
  | succ c1 =>
   have H := HA.out; clear HA
   simp only [laws_sameDisk.l0] at H
   refine ib_ H ?_ ?_ <;> clear H <;> intro b0 H
   ·obtain rfl := oi_ H
    obtain ⟨c6, c7⟩ := nn_ A
    obtain ⟨c8, c9⟩ := bc1_ g
    go_wp2
    repeat (go_quiet (fail); try go_wp2)
    go_ret
    exact ⟨qr_, qB_⟩
   refine ig_ H ?_; clear H; intro a4 H
   refine ig_ H ?_; clear H; intro a5 H
   refine jc_ H ?_ ?_ <;> clear H <;> intro B H
   ·have G : (!((((rd_T99 c a).f0).toList) == (((rd_T99 d a).f0).toList)) || (!((((rd_T99 c a).f1).toList) == (((rd_T99 d a).f1).toList)) || (!(((rd_T99 c a).f2) == ((rd_T99 d a).f2))))) = true := B
    clear B
    obtain rfl := oi_ H
    obtain ⟨d0, d1⟩ := nn_ A
    obtain ⟨d2, d3⟩ := bc1_ g
    have q := dt_ a
    have s := du_ a c.length
    obtain ⟨I, u, L, M, N⟩ := at_T99 o.out a (ot_ q) (ot_ s)
    cases u
    replace L := qx_ HB L
    replace M := qx_ HB M
    replace N := qx_ HB N
    obtain ⟨d4, d5⟩ := bc1_ n
    have v := dt_ a
    have x := du_ a d.length
    obtain ⟨J, y, O, R, T⟩ := at_T99 p.out a (ot_ v) (ot_ x)
    cases y
    replace O := qx_ HB O
    replace R := qx_ HB R
    replace T := qx_ HB T
    go_wp2
    repeat (go_quiet (fail); try go_wp2)
    go_ret
    exact ⟨qr_, qB_⟩
   have G : (!((((rd_T99 c a).f0).toList) == (((rd_T99 d a).f0).toList)) || (!((((rd_T99 c a).f1).toList) == (((rd_T99 d a).f1).toList)) || (!(((rd_T99 c a).f2) == ((rd_T99 d a).f2))))) = false := by simpa using B
   clear B; have H' := am_ H; clear H; obtain ⟨d6, d7⟩ := nn_ A
   obtain ⟨d8, d9⟩ := bc1_ g
   have q := dt_ a
   have s := du_ a c.length
   obtain ⟨I, u, L, M, N⟩ := at_T99 o.out a (ot_ q) (ot_ s)
   cases u
   replace L := qx_ HB L
   replace M := qx_ HB M
   replace N := qx_ HB N
   obtain ⟨e0, e1⟩ := bc1_ n
   have v := dt_ a
   have x := du_ a d.length
   obtain ⟨J, y, O, R, T⟩ := at_T99 p.out a (ot_ v) (ot_ x)
   cases y
   replace O := qx_ HB O
   replace R := qx_ HB R
   replace T := qx_ HB T
   go_wp2
   repeat (go_quiet (fail); try go_wp2)
   go_roundg c1
   case measure => have := HK1.out; omega
   case rel => exact ⟨(wrap64 (a + 1)), qe_, H', ⟨by have := HK1.out; omega⟩, ⟨qk_ g⟩, ⟨qk_ n⟩, ⟨qB_⟩⟩
def impl_FileAt.f (k : Nat) (l0_0 : List (S99)) (a1 : ByteArray) : Option (ByteArray × Bool) := (impl_fileAt.f k l0_0 a1).bind fun t469 => (if t469 < 0 then (some ((⟨#[]⟩ : ByteArray), false)) else (if 0 ≤ t469 then (if t469 < (l0_0.length : Int) then (some ((rd_T99 l0_0 t469).f1, true)) else (none)) else (none)))
theorem impl_FileAt.calls (k : Nat) (c : Option Addr) (d : Nat) (a : List (S99)) (m : ByteArray) (q : ByteArray) (s : Bool) (w : World) (hr0_0 : Kd.C k99 w c a.length a) (hc0_0 : a.length ≤ d) (h : impl_FileAt.f k a m = some (q, s)) :
  Calls Try.prog 56 #[.agg #[.slice c a.length d], .string m] w fun e w' => e = .returned (.tuple #[.string q, .bool s]) ∧ Below w.heap.size w w' := by
 have hu44 := Try.underlying44
 have g := am_ hr0_0
 have i := am_ hc0_0
 clear hr0_0 hc0_0
 have HB := am_ (Below.refl w.heap.size w)
 have H : ((impl_fileAt.f k a m).bind fun j => (if j < 0 then (some ((⟨#[]⟩ : ByteArray), false)) else (if 0 ≤ j then (if j < (a.length : Int) then (some ((rd_T99 a j).f1, true)) else (none)) else (none)))) = some (q, s) := h
 clear h
 obtain ⟨j, v, H⟩ := bs_ H
 refine ic_ H ?_ ?_ <;> clear H <;> intro x H
 ·simp only [Option.some.injEq, Prod.mk.injEq] at H
  obtain ⟨rfl, rfl⟩ := H
  go_enter Try.func56, Try.ntmps56
  go_wp2_with (first | ((with_reducible refine gd_ 2 ?_); refine by_ 2 (cs := #[.slice c a.length d]) (t := 44) ?_; intro E hg J l hb; have F := gw_ hg; replace HB := hs_ hb; clear hb hg; obtain ⟨L, M⟩ := bc1_ l) | ((with_reducible refine gc_ 86 ?_); refine gl_ (some 9) Try.func86 #[.agg #[.slice c a.length d], .string m] ?_; (with_reducible refine (impl_fileAt.calls k _ _ a m j _ ?_ ?_ v.out).mono ?_); exact qC_ g HB; exact i.out; rintro e N ⟨rfl, hb⟩; refine ⟨_, rfl, ?_⟩; replace l := qbl_ l hb; replace HB := hs_ hb; clear hb))
  go_ret2
  exact ⟨qr_, qB_⟩
 refine ig_ H ?_; clear H; intro y H
 refine ig_ H ?_; clear H; intro z H
 simp only [Option.some.injEq, Prod.mk.injEq] at H
 obtain ⟨rfl, rfl⟩ := H
 go_enter Try.func56, Try.ntmps56
 go_wp2_with (first | ((with_reducible refine gd_ 2 ?_); refine by_ 2 (cs := #[.slice c a.length d]) (t := 44) ?_; intro E hg G l hb; have F := gw_ hg; replace HB := hs_ hb; clear hb hg; obtain ⟨O, R⟩ := bc1_ l) | ((with_reducible refine gc_ 86 ?_); refine gl_ (some 9) Try.func86 #[.agg #[.slice c a.length d], .string m] ?_; (with_reducible refine (impl_fileAt.calls k _ _ a m j _ ?_ ?_ v.out).mono ?_); exact qC_ g HB; exact i.out; rintro e I ⟨rfl, hb⟩; refine ⟨_, rfl, ?_⟩; replace l := qbl_ l hb; replace HB := hs_ hb; clear hb; obtain ⟨T, U⟩ := bc1_ l; have n := dt_ j; have o := du_ j a.length; obtain ⟨u, p, A, B, D⟩ := at_T99 g.out j (ot_ n) (ot_ o); cases p; replace A := qx_ HB A; replace B := qx_ HB B; replace D := qx_ HB D; ))
 go_ret2
 exact ⟨qr_, qB_⟩
end Go.Proofs.Ytacnlodcbbhahaa.QFnActs
