import Derived.Test.YtbkklafkoegdpaaQFnExactWebTakex2
import Derived.Test.YtbkklafkoegdpaaQFnExactWebTakex20
import Derived.Test.YtbkklafkoegdpaaQFnExactWebTakex22
namespace Go.Proofs.Ytbkklafkoegdpaa.QFnExactWebTake
open Go.RowKit Go.Proofs.YtbkklafkoegdpaaW.PrintWords Go.Proofs.YtbkklafkoegdpaaW.PrintLast Go.Proofs.YtbkklafkoegdpaaW.PrintMore
set_option linter.unusedVariables false
set_option linter.unusedSimpArgs false
set_option maxHeartbeats 8000000
set_option maxRecDepth 100000
section
attribute [local go_sem high] eqA43
def impl_hasEdge.l0 : Nat → List (S43) → Int → Int → Int → Int → Option (Bool)
  | 0, _, _, _, _, _ => none
  | k + 1, x7, x8, x9, x478000, x478001 => if x9 < x8 then (if 0 ≤ x9 then (if x9 < (x7.length : Int) then (if (((rd_T43 x7 x9).f0) == x478000 && (((rd_T43 x7 x9).f1) == x478001)) = true then (some true) else (impl_hasEdge.l0 k x7 x8 (wrap64 (x9 + 1)) x478000 x478001)) else (none)) else (none)) else (some false)
def impl_hasEdge.f (k : Nat) (l0 : List (S43)) (a1_0 : Int) (a1_1 : Int) : Option (Bool) := impl_hasEdge.l0 k l0 (l0.length : Int) 0 a1_0 a1_1
theorem impl_hasEdge.mono_l : ∀ k, (∀ y0 y1 y2 y3 y4, LeO (impl_hasEdge.l0 k y0 y1 y2 y3 y4) (impl_hasEdge.l0 (k + 1) y0 y1 y2 y3 y4))
  | 0 => fun _ _ _ _ _ r h => by simp [impl_hasEdge.l0] at h
  | k + 1 => by
    have ih0 := impl_hasEdge.mono_l k
    · intro y0 y1 y2 y3 y4
      unfold impl_hasEdge.l0
      exact lo_
theorem impl_hasEdge.mono : ∀ a0 a1 a2 k, LeO (impl_hasEdge.f k a0 a1 a2) (impl_hasEdge.f (k + 1) a0 a1 a2) := by
  intro a0 a1 a2 k
  have ih0 := impl_hasEdge.mono_l k
  unfold impl_hasEdge.f
  exact lo_
theorem impl_hasEdge.calls (k : Nat) (y : Option Addr) (z : Nat) (l0 : List (S43)) (c : Int) (d : Int) (r : Bool) (w : World) (hr0 : Kd.C k43 w y l0.length l0) (hc0 : l0.length ≤ z) (h : impl_hasEdge.f k l0 c d = some r) :
  Calls Try.prog 129 #[.slice y l0.length z, .agg #[.int .i64 c, .int .i64 d]] w fun e w' => e = .returned (.bool r) ∧ Below w.heap.size w w' := by
 have hu43 := Try.underlying43
 have A := am_ hr0
 have O := am_ hc0
 clear hr0 hc0
 have HB := am_ (Below.refl w.heap.size w)
 rw [impl_hasEdge.f] at h; have H := h; clear h; have H' := am_ H; clear H
 go_enter Try.func129, Try.ntmps129
 go_wp2_with (first | ((with_reducible refine gd_ 3 ?_); refine by_ 3 (cs := #[.int .i64 c, .int .i64 d]) (t := 43) ?_; intro G hg R g hb; have T := gw_ hg; replace HB := hs_ hb; clear hb hg))
 go_loopg [9] k (fun kq v9 w' => ∃ (a : Int), v9 = .int .i64 a ∧ Aside0 (impl_hasEdge.l0 kq l0 (l0.length : Int) a c d = some r) ∧ Aside0 (kq ≤ k) ∧ Aside0 (w'.heap[G]? = some (.cells #[.int .i64 c, .int .i64 d] 43 (0, 0))) ∧ Aside0 (Below w.heap.size w w'))
 case atStart => exact ⟨(0), qe_, H', ⟨Nat.le_refl _⟩, ⟨qk_ g⟩, ⟨qB_⟩⟩
 case round =>
  clear H'
  (try clear U)
  obtain ⟨a, rfl, HA, HK1, g, HB⟩ := hrel
  cases gk with
  | zero => exact absurd HA.out (by simp [impl_hasEdge.l0])
  | succ I =>
   have H := HA.out; clear HA
   simp only [impl_hasEdge.l0] at H
   refine ib_ H ?_ ?_ <;> clear H <;> intro B H
   ·obtain rfl := oi_ H
    go_wp2
    go_ret
    exact ⟨qr_, qB_⟩
   refine ig_ H ?_; clear H; intro D H
   refine ig_ H ?_; clear H; intro E H
   refine jc_ H ?_ ?_ <;> clear H <;> intro m H
   ·have o : (((rd_T43 l0 a).f0) == c && (((rd_T43 l0 a).f1) == d)) = true := m
    (have p : decide (((rd_T43 l0 a).f0) = c && (((rd_T43 l0 a).f1) == d)) = true := by simpa using m)
    (have q : (((rd_T43 l0 a).f0) == c && (((rd_T43 l0 a).f1) == d)) = true := by simpa using m)
    clear m
    obtain rfl := oi_ H
    have i := dt_ a
    have j := du_ a l0.length
    obtain ⟨n, l, s, u⟩ := at_T43 A.out a (ot_ i) (ot_ j)
    cases l
    replace s := qx_ HB s
    replace u := qx_ HB u
    go_wp2_with (first | ((with_reducible refine gd_ 6 ?_); refine by_ 6 (cs := #[.int .i64 0, .int .i64 0]) (t := 43) ?_; intro J hg X v hb; have L := gw_ hg; obtain ⟨M, x⟩ := qn_ g hg; replace g := qbl_ g hb; replace HB := hs_ hb; clear hb hg; obtain ⟨Y, Z⟩ := nn_ x; obtain ⟨a0, a1, a2, a3⟩ := bc2_ v; obtain ⟨a4, a5, a6, a7⟩ := bc2_ g))
    go_ret
    exact ⟨qr_, qB_⟩
   have o : (((rd_T43 l0 a).f0) == c && (((rd_T43 l0 a).f1) == d)) = false := by simpa using m
   (have p : decide (((rd_T43 l0 a).f0) = c && (((rd_T43 l0 a).f1) == d)) = false := by simpa using m)
   (have q : (((rd_T43 l0 a).f0) == c && (((rd_T43 l0 a).f1) == d)) = false := by simpa using m)
   (have F : ¬ (((rd_T43 l0 a).f0) = c && (((rd_T43 l0 a).f1) == d)) := by simpa using m)
   clear m; have H' := am_ H; clear H
   have i := dt_ a
   have j := du_ a l0.length
   obtain ⟨n, l, s, u⟩ := at_T43 A.out a (ot_ i) (ot_ j)
   cases l
   replace s := qx_ HB s
   replace u := qx_ HB u
   go_wp2_with (first | ((with_reducible refine gd_ 6 ?_); refine by_ 6 (cs := #[.int .i64 0, .int .i64 0]) (t := 43) ?_; intro J hg N v hb; have L := gw_ hg; obtain ⟨M, x⟩ := qn_ g hg; replace g := qbl_ g hb; replace HB := hs_ hb; clear hb hg; obtain ⟨a8, a9⟩ := nn_ x; obtain ⟨b0, b1, b2, b3⟩ := bc2_ v; obtain ⟨b4, b5, b6, b7⟩ := bc2_ g))
   go_roundg I
   case measure => have := HK1.out; omega
   case rel => exact ⟨(wrap64 (a + 1)), qe_, H', ⟨by have := HK1.out; omega⟩, ⟨qf_ g⟩, ⟨qB_⟩⟩
def impl_HasEdge.f (k : Nat) (a0_0 : Int) (l0_1 : List (S43)) (a1_0 : Int) (a1_1 : Int) : Option (Bool) := (impl_hasEdge.f k l0_1 a1_0 a1_1).bind fun t482 => (some t482)
theorem impl_HasEdge.mono : ∀ a0 a1 a2 a3 k, LeO (impl_HasEdge.f k a0 a1 a2 a3) (impl_HasEdge.f (k + 1) a0 a1 a2 a3) := by
  intro a0 a1 a2 a3 k
  have m0 := @impl_hasEdge.mono
  unfold impl_HasEdge.f
  exact lo_
theorem impl_HasEdge.calls (k : Nat) (j : Int) (g : Option Addr) (i : Nat) (a : List (S43)) (c : Int) (d : Int) (r : Bool) (w : World) (hr0_1 : Kd.C k43 w g a.length a) (hc0_1 : a.length ≤ i) (h : impl_HasEdge.f k j a c d = some r) :
  Calls Try.prog 94 #[.agg #[.int .i64 j, .slice g a.length i], .agg #[.int .i64 c, .int .i64 d]] w fun e w' => e = .returned (.bool r) ∧ Below w.heap.size w w' := by
 have hu69 := Try.underlying69; have hu43 := Try.underlying43
 have l := am_ hr0_1
 have m := am_ hc0_1
 clear hr0_1 hc0_1
 have HB := am_ (Below.refl w.heap.size w)
 rw [impl_HasEdge.f] at h; have H := h; clear h
 obtain ⟨p, q, H⟩ := bs_ H
 obtain rfl := oi_ H
 go_enter Try.func94, Try.ntmps94
 go_wp2_with (first | ((with_reducible refine gd_ 2 ?_); refine by_ 2 (cs := #[.int .i64 j, .slice g a.length i]) (t := 69) ?_; intro u hg v n hb; have x := gw_ hg; replace HB := hs_ hb; clear hb hg) | ((with_reducible refine gd_ 3 ?_); refine by_ 3 (cs := #[.int .i64 c, .int .i64 d]) (t := 43) ?_; intro y hg z o hb; have A := gw_ hg; obtain ⟨s, B⟩ := qn_ n hg; replace n := qbl_ n hb; replace HB := hs_ hb; clear hb hg; obtain ⟨D, E⟩ := nn_ s; obtain ⟨F, G, I, J⟩ := bc2_ n; obtain ⟨L, M, N, O⟩ := bc2_ o) | ((with_reducible refine gc_ 129 ?_); refine gl_ (some 8) Try.func129 #[.slice g a.length i, .agg #[.int .i64 c, .int .i64 d]] ?_; (with_reducible refine (impl_hasEdge.calls k _ _ a c d p _ ?_ ?_ q.out).mono ?_); exact qC_ l HB; exact m.out; rintro e R ⟨rfl, hb⟩; refine ⟨_, rfl, ?_⟩; replace n := qbl_ n hb; replace o := qbl_ o hb; replace HB := hs_ hb; clear hb))
 go_ret
 exact ⟨qr_, qB_⟩
end
mutual
def impl_WebTake.j0 : Nat → Bool → Int → List (S72) → Int → Int → Option (Int × (List (S72)) × Int × Int × Bool × Bool)
  | 0, _, _, _, _, _ => none
  | k + 1, x24, x523000, x523001, x524000, x524001 => if x24 = true then (some (0, ([] : List (S72)), 0, 0, false, false)) else (impl_WebTake.l0 k x523001 (x523001.length : Int) 0 x524000 x524001 x523000 ([] : List (S72)) 0 0 0 false)
def impl_WebTake.l0 : Nat → List (S72) → Int → Int → Int → Int → Int → List (S72) → Int → Int → Int → Bool → Option (Int × (List (S72)) × Int × Int × Bool × Bool)
  | 0, _, _, _, _, _, _, _, _, _, _, _ => none
  | k + 1, x31, x32, x33, x524000, x524001, x533000, x533001, x534000, x534001, x534002, x534003 => if x33 < x32 then (if 0 ≤ x33 then (if x33 < (x31.length : Int) then (if ((rd_T72 x31 x33).f0) = x524000 then (if ((rd_T72 x31 x33).f1) = x524001 then (impl_WebTake.l0 k x31 x32 (wrap64 (x33 + 1)) x524000 x524001 x533000 x533001 ((rd_T72 x31 x33).f0) ((rd_T72 x31 x33).f1) ((rd_T72 x31 x33).f2) ((rd_T72 x31 x33).f3)) else (if x533001.length < 4398046511104 then (impl_WebTake.l0 k x31 x32 (wrap64 (x33 + 1)) x524000 x524001 x533000 (x533001 ++ [(⟨(rd_T72 x31 x33).f0, (rd_T72 x31 x33).f1, (rd_T72 x31 x33).f2, (rd_T72 x31 x33).f3⟩ : S72)]) x534000 x534001 x534002 x534003) else (none))) else (if x533001.length < 4398046511104 then (impl_WebTake.l0 k x31 x32 (wrap64 (x33 + 1)) x524000 x524001 x533000 (x533001 ++ [(⟨(rd_T72 x31 x33).f0, (rd_T72 x31 x33).f1, (rd_T72 x31 x33).f2, (rd_T72 x31 x33).f3⟩ : S72)]) x534000 x534001 x534002 x534003) else (none))) else (none)) else (none)) else (impl_WebTake.l1 k x534002 x524000 x524001 x533000 x533001 x534000 x534001 x534002 x534003)
def impl_WebTake.l1 : Nat → Int → Int → Int → Int → List (S72) → Int → Int → Int → Bool → Option (Int × (List (S72)) × Int × Int × Bool × Bool)
  | 0, _, _, _, _, _, _, _, _, _ => none
  | k + 1, x12, x524000, x524001, x533000, x533001, x534000, x534001, x534002, x534003 => if x12 ≥ 0 then (impl_WebTake.j3 k x12 x534003 x524000 x524001 x533000 x533001 x534000 x534001 x534002 x534003) else (impl_WebTake.j3 k x12 false x524000 x524001 x533000 x533001 x534000 x534001 x534002 x534003)
def impl_WebTake.j3 : Nat → Int → Bool → Int → Int → Int → List (S72) → Int → Int → Int → Bool → Option (Int × (List (S72)) × Int × Int × Bool × Bool)
  | 0, _, _, _, _, _, _, _, _, _, _ => none
  | k + 1, x12, x64, x524000, x524001, x533000, x533001, x534000, x534001, x534002, x534003 => if x64 = true then ((impl_Web_look.f k x533000 x533001 x524000 x524001 x12).bind fun bt542 => (if bt542.2.2.1 = true then (some (x533000, bt542.2.2.2, bt542.1, bt542.2.1, true, true)) else (impl_WebTake.l1 k (wrap64 (x12 - 1)) x524000 x524001 x533000 bt542.2.2.2 x534000 x534001 x534002 x534003))) else (some (x533000, x533001, 0, 0, false, true))
end
def impl_WebTake.f (k : Nat) (a0_0 : Int) (l0_1 : List (S72)) (a1_0 : Int) (a1_1 : Int) : Option (Int × (List (S72)) × Int × Int × Bool × Bool) := (impl_WebOk.f k a0_0 l0_1).bind fun t526 => (if t526 = true then ((impl_GraphOf.f k a0_0 l0_1).bind fun bt527 => ((impl_HasEdge.f k bt527.1 bt527.2 a1_0 a1_1).bind fun t531 => (impl_WebTake.j0 k (!t531) a0_0 l0_1 a1_0 a1_1))) else (impl_WebTake.j0 k true a0_0 l0_1 a1_0 a1_1))
theorem impl_WebTake.mono_l : ∀ k, (∀ y0 y1 y2 y3 y4, LeO (impl_WebTake.j0 k y0 y1 y2 y3 y4) (impl_WebTake.j0 (k + 1) y0 y1 y2 y3 y4)) ∧ (∀ y0 y1 y2 y3 y4 y5 y6 y7 y8 y9 y10, LeO (impl_WebTake.l0 k y0 y1 y2 y3 y4 y5 y6 y7 y8 y9 y10) (impl_WebTake.l0 (k + 1) y0 y1 y2 y3 y4 y5 y6 y7 y8 y9 y10)) ∧ (∀ y0 y1 y2 y3 y4 y5 y6 y7 y8, LeO (impl_WebTake.l1 k y0 y1 y2 y3 y4 y5 y6 y7 y8) (impl_WebTake.l1 (k + 1) y0 y1 y2 y3 y4 y5 y6 y7 y8)) ∧ (∀ y0 y1 y2 y3 y4 y5 y6 y7 y8 y9, LeO (impl_WebTake.j3 k y0 y1 y2 y3 y4 y5 y6 y7 y8 y9) (impl_WebTake.j3 (k + 1) y0 y1 y2 y3 y4 y5 y6 y7 y8 y9))
  | 0 => ⟨fun _ _ _ _ _ r h => by simp [impl_WebTake.j0] at h, fun _ _ _ _ _ _ _ _ _ _ _ r h => by simp [impl_WebTake.l0] at h, fun _ _ _ _ _ _ _ _ _ r h => by simp [impl_WebTake.l1] at h, fun _ _ _ _ _ _ _ _ _ _ r h => by simp [impl_WebTake.j3] at h⟩
  | k + 1 => by
    obtain ⟨ih0, ih1, ih2, ih3⟩ := impl_WebTake.mono_l k
    have m0 := @impl_GraphOf.mono; have m1 := @impl_HasEdge.mono; have m2 := @impl_WebOk.mono; have m3 := @impl_Web_look.mono
    refine ⟨?_, ?_, ?_, ?_⟩ <;> (intros; first | unfold impl_WebTake.j0 | unfold impl_WebTake.l0 | unfold impl_WebTake.l1 | unfold impl_WebTake.j3) <;> exact lo_
theorem impl_WebTake.mono : ∀ a0 a1 a2 a3 k, LeO (impl_WebTake.f k a0 a1 a2 a3) (impl_WebTake.f (k + 1) a0 a1 a2 a3) := by
  intro a0 a1 a2 a3 k
  obtain ⟨ih0, ih1, ih2, ih3⟩ := impl_WebTake.mono_l k
  have m0 := @impl_GraphOf.mono; have m1 := @impl_HasEdge.mono; have m2 := @impl_WebOk.mono; have m3 := @impl_Web_look.mono
  unfold impl_WebTake.f
  exact lo_
def impl_WebTake.T1 : Bool × List (List Nat × List Nat) := (true, [([], []), ([0], [0]), ([1], [1]), ([2, 1], [2]), ([3], [3]), ([4, 3, 3], [3, 4]), ([3], [3]), ([5, 6, 5, 3], [3, 5, 6]), ([7, 3], [3, 7]), ([3, 8], [3, 8])])
def impl_WebTake.B1 : List Nat := [0, 1, 3, 7, 15, 31, 15, 127, 255, 511]
theorem impl_WebTake.tab1 : rtab .any (opsOf Try.f42 1) = impl_WebTake.T1 := by kernel_rfl
theorem impl_WebTake.bits1 : waitsOk impl_WebTake.T1.2 impl_WebTake.B1 = true := by kernel_rfl
theorem impl_WebTake.calls (k : Nat) (d : Int) (A : Option Addr) (z : Nat) (c : List (S72)) (l : Int) (m : Int) (e0 : Int) (e1 : List (S72)) (e2 : Int) (e3 : Int) (e4 : Bool) (e5 : Bool) (w : World) (hr0_1 : Kd.C k72 w A c.length c) (hc0_1 : c.length ≤ z) (h : impl_WebTake.f k d c l m = some (e0, e1, e2, e3, e4, e5)) :
  Calls Try.prog 42 #[.agg #[.int .i64 d, .slice A c.length z], .agg #[.int .i64 l, .int .i64 m]] w fun e w' => ∃ h3 : Value, e = .returned (.tuple #[.agg #[.int .i64 e0, h3], .agg #[.int .i64 e2, .int .i64 e3], .bool e4, .bool e5]) ∧ Kd.R k72 72 w' w.heap.size (fun _ => True) h3 e1 ∧ Below w.heap.size w w' := by
 have hu29 := Try.underlying29; have hu43 := Try.underlying43; have hu72 := Try.underlying72
 have M := am_ hr0_1
 have a4 := am_ hc0_1
 clear hr0_1 hc0_1
 have HB := am_ (Below.refl w.heap.size w)
 have H : ((impl_WebOk.f k d c).bind fun z5 => (if z5 = true then ((impl_GraphOf.f k d c).bind fun z6 => ((impl_HasEdge.f k z6.1 z6.2 l m).bind fun u5 => (impl_WebTake.j0 k (!u5) d c l m))) else (impl_WebTake.j0 k true d c l m))) = some (e0, e1, e2, e3, e4, e5) := h
 clear h
 have n6 := am_ H
 clear H
 go_enter Try.func42, Try.ntmps42
 go_upto_region 1 with (first | ((with_reducible refine gd_ 2 ?_); refine by_ 2 (cs := #[.int .i64 d, .slice A c.length z]) (t := 29) ?_; intro a5 hg S1 j hb; have z7 := gw_ hg; replace HB := hs_ hb; clear hb hg) | ((with_reducible refine gd_ 3 ?_); refine by_ 3 (cs := #[.int .i64 l, .int .i64 m]) (t := 43) ?_; intro b9 hg S2 q hb; have z8 := gw_ hg; obtain ⟨u6, h4⟩ := qn_ j hg; replace j := qbl_ j hb; replace HB := hs_ hb; clear hb hg) | ((with_reducible refine gd_ 4 ?_); refine by_ 4 (cs := #[.int .i64 0, .slice none 0 0]) (t := 29) ?_; intro I hg S3 s hb; have z9 := gw_ hg; obtain ⟨n7, m6⟩ := qn_ j hg; obtain ⟨e6, m7⟩ := qn_ q hg; replace j := qbl_ j hb; replace q := qbl_ q hb; replace HB := hs_ hb; clear hb hg) | ((with_reducible refine gd_ 5 ?_); refine by_ 5 (cs := #[.int .i64 0, .int .i64 0]) (t := 43) ?_; intro J hg A0 u hb; have A1 := gw_ hg; obtain ⟨n8, m8⟩ := qn_ j hg; obtain ⟨e7, m9⟩ := qn_ q hg; obtain ⟨g8, n0⟩ := qn_ s hg; replace j := qbl_ j hb; replace q := qbl_ q hb; replace s := qbl_ s hb; replace HB := hs_ hb; clear hb hg))
 (try simp only [Act.put, sA_, sB_, sC_])
 go_cut [24] (fun v24 wc => ∃ (kq : Nat) (a6 : Bool), v24 = .bool a6 ∧ Aside0 (impl_WebTake.j0 kq a6 d c l m = some (e0, e1, e2, e3, e4, e5)) ∧ Aside0 (kq ≤ k) ∧ Aside0 (wc.heap[a5]? = some (.cells #[.int .i64 d, (.slice A c.length z)] 29 (0, 0))) ∧ Aside0 (wc.heap[b9]? = some (.cells #[.int .i64 l, .int .i64 m] 43 (0, 0))) ∧ Aside0 (wc.heap[I]? = some (.cells #[.int .i64 0, (.slice none 0 0)] 29 (0, 0))) ∧ Aside0 (wc.heap[J]? = some (.cells #[.int .i64 0, .int .i64 0] 43 (0, 0))) ∧ Aside0 (Below w.heap.size w wc))
 case first =>
  have H := n6.out; clear n6
  obtain ⟨z5, A2, H⟩ := bs_ H
  refine id_ H ?_ ?_ <;> clear H <;> rintro rfl H
  ·have H' := am_ H; clear H
   try go_wp2
   replace j := bd_ j; replace q := bd_ q; replace s := bd_ s; replace u := bd_ u; replace HB := hd_ HB
   refine start_ (n := 10) (S := fun w' => w'.cell? ⟨a5, 0, none⟩ = some (.int .i64 d) ∧ w'.cell? ⟨a5, 1, none⟩ = some (.slice A c.length z)) (ds := []) (bm 10 0) (by kernel_rfl) rfl (by kernel_rfl) ⟨bl_ j 0, bl_ j 1⟩ (fun hHeld => ?_); refine with_tabW impl_WebTake.tab1 impl_WebTake.bits1 (fun HT_ HW_ => ?_)
   generalize A0.drew = K9 at j q s u HB hHeld ⊢
   refine tz2_ 0 15 10 1 ?_
   refine o1_ 1 (some 16) 10 3 (fun K hK => ?_)
   refine gs_ Try.func16 #[.agg #[.int .i64 d, .slice A c.length z]] ?_
   with_reducible refine (impl_WebOk.calls k d _ _ c false _ ?side1 ?side2 A2.out).mono ?_
   (case side1 => exact qC_ M HB)
   (case side2 => exact a4.out)
   rintro e L0 ⟨rfl, hb⟩
   refine ⟨_, rfl, ?_⟩
   replace j := qbl_ j hb; replace q := qbl_ q hb; replace s := qbl_ s hb; replace u := qbl_ u hb; replace HB := hs_ hb; clear hb
   refine hK.out _ _ ⟨bl_ j 0, bl_ j 1⟩ (fun hHeld => ?_)
   clear hK K
   refine nm_ 16 ?_
   refine pz_ 2 17 10 7 ?_; refine pz_ 3 18 10 15 ?_
   refine pu_ 4 19 10 31 ?_
   refine pu_ 5 20 10 63 ?_
   refine pu_ 6 21 10 127 ?_
   refine pu_ 7 22 10 255 ?_
   refine pu_ 8 23 10 511 ?_
   refine pz_ 9 24 10 1023 ?_
   refine done_ (done_of HT_.out (by kernel_rfl)) ?_
   try go_wp2
   go_meet
   case rel => exact ⟨_, (true), qe_, H', ⟨qo_⟩, ⟨qk_ j⟩, ⟨qk_ q⟩, ⟨qk_ s⟩, ⟨qk_ u⟩, ⟨qB_⟩⟩
  obtain ⟨⟨n9, o0⟩, o1, H⟩ := bs_ H; dsimp only at H
  obtain ⟨u5, o2, H⟩ := bs_ H
  have H' := am_ H; clear H
  try go_wp2
  replace j := bd_ j; replace q := bd_ q; replace s := bd_ s; replace u := bd_ u; replace HB := hd_ HB
  refine start_ (n := 10) (S := fun w' => w'.cell? ⟨a5, 0, none⟩ = some (.int .i64 d) ∧ w'.cell? ⟨a5, 1, none⟩ = some (.slice A c.length z) ∧ w'.cell? ⟨b9, 0, none⟩ = some (.int .i64 l) ∧ w'.cell? ⟨b9, 1, none⟩ = some (.int .i64 m)) (ds := []) (bm 10 0) (by kernel_rfl) rfl (by kernel_rfl) ⟨bl_ j 0, bl_ j 1, bl_ q 0, bl_ q 1⟩ (fun hHeld => ?_); refine with_tabW impl_WebTake.tab1 impl_WebTake.bits1 (fun HT_ HW_ => ?_)
  generalize A0.drew = L1 at j q s u HB hHeld ⊢
  refine tz4_ 0 15 10 1 ?_
  refine o1_ 1 (some 16) 10 3 (fun K hK => ?_)
  refine gs_ Try.func16 #[.agg #[.int .i64 d, .slice A c.length z]] ?_
  with_reducible refine (impl_WebOk.calls k d _ _ c true _ ?side1 ?side2 A2.out).mono ?_
  (case side1 => exact qC_ M HB)
  (case side2 => exact a4.out)
  rintro e L2 ⟨rfl, hb⟩
  refine ⟨_, rfl, ?_⟩
  replace j := qbl_ j hb; replace q := qbl_ q hb; replace s := qbl_ s hb; replace u := qbl_ u hb; replace HB := hs_ hb; clear hb
  refine hK.out _ _ ⟨bl_ j 0, bl_ j 1, bl_ q 0, bl_ q 1⟩ (fun hHeld => ?_)
  clear hK K
  refine nm_ 16 ?_
  refine pz_ 2 17 10 7 ?_; refine pz_ 3 18 10 15 ?_; refine tz4_ 4 19 10 31 ?_; refine tz4_ 6 21 10 95 ?_
  refine o1_ 5 (some 20) 10 127 (fun K hK => ?_)
  refine gs_ Try.func63 #[.agg #[.int .i64 d, .slice A c.length z]] ?_
  with_reducible refine (impl_GraphOf.calls k d _ _ c n9 o0 _ ?side1 ?side2 o1.out).mono ?_
  (case side1 => exact qC_ M HB)
  (case side2 => exact a4.out)
  rintro e L3 ⟨L4, rfl, ho0, hb⟩
  refine ⟨_, rfl, ?_⟩
  have h5 := am_ (Kd.R_lower (Kd.R_newB (Kd.R_newB ho0 (qk_ q)) (qk_ u)) (below_size qB_)); replace j := qbl_ j hb; replace q := qbl_ q hb; replace s := qbl_ s hb; replace u := qbl_ u hb; replace HB := hs_ hb; clear hb ho0
  obtain ⟨L5, L6, A3⟩ := Kd.R_slice h5.out
  (first | subst A3 | (injection A3 with h6 o3 h7; have o4 := h6.symm; have o5 := h7.symm; clear h6 o3 h7; subst o4; subst o5))
  refine hK.out _ _ ⟨bl_ j 0, bl_ j 1, bl_ q 0, bl_ q 1⟩ (fun hHeld => ?_)
  clear hK K
  refine nm_ 20 ?_
  refine o1_ 7 (some 22) 10 255 (fun K hK => ?_)
  refine gs_ Try.func94 #[.agg #[.int .i64 n9, .slice L5 o0.length L6], .agg #[.int .i64 l, .int .i64 m]] ?_
  with_reducible refine (impl_HasEdge.calls k n9 _ _ o0 l m u5 _ ?side1 ?side2 o2.out).mono ?_
  (case side1 => exact qD_ (Kd.R_reads' h5.out).2.2)
  (case side2 => exact (Kd.R_reads' h5.out).2.1)
  rintro e L7 ⟨rfl, hb⟩
  refine ⟨_, rfl, ?_⟩
  replace h5 := kb_ h5 hb; replace j := qbl_ j hb; replace q := qbl_ q hb; replace s := qbl_ s hb; replace u := qbl_ u hb; replace HB := hs_ hb; clear hb
  refine hK.out _ _ ⟨bl_ j 0, bl_ j 1, bl_ q 0, bl_ q 1⟩ (fun hHeld => ?_)
  clear hK K
  refine nm_ 22 ?_
  refine pz_ 8 23 10 511 ?_; refine pz_ 9 24 10 1023 ?_
  refine done_ (done_of HT_.out (by kernel_rfl)) ?_
  try go_wp2
  go_meet
  case rel => exact ⟨_, (!u5), qe_, H', ⟨qo_⟩, ⟨qk_ j⟩, ⟨qk_ q⟩, ⟨qk_ s⟩, ⟨qk_ u⟩, ⟨qB_⟩⟩
 case rest =>
  clear n6
  obtain ⟨kq, a6, rfl, HA, c8, j, q, s, u, HB⟩ := hcut
  cases kq with
  | zero => exact absurd HA.out (by simp [impl_WebTake.j0])
  | succ kj2 =>
   have H := HA.out; clear HA
   simp only [impl_WebTake.j0] at H
   refine ie_ H ?_ ?_ <;> clear H <;> rintro rfl H
   ·simp only [Option.some.injEq, Prod.mk.injEq] at H
    obtain ⟨rfl, rfl, rfl, rfl, rfl, rfl⟩ := H
    obtain ⟨S4, T3⟩ := nn_ m6; obtain ⟨T4, T5⟩ := nn_ m7; obtain ⟨T6, T7⟩ := nn_ g8
    obtain ⟨p0, p1, p2, p3⟩ := bc2_ s
    obtain ⟨T8, T9⟩ := nn_ m8; obtain ⟨S5, S6⟩ := nn_ m9
    obtain ⟨p4, p5, p6, p7⟩ := bc2_ u
    go_wp2
    refine bodyPost_ret (results_list (rs := [.cell 4 29, .cell 5 43, .tmp 6, .tmp 7]) rfl (by simp) (.cell I 29 #[.int .i64 0, .slice none 0 0] (0, 0) _ rfl (qp_ s) Try.underlying29 rfl (by kernel_rfl) (.cell J 43 #[.int .i64 0, .int .i64 0] (0, 0) _ rfl (qp_ u) Try.underlying43 rfl (by kernel_rfl) (.tmp (.tmp .nil))))) rfl ?_
    exact ⟨_, qr_, by first | exact Kd.R_nil _ _ _ _ _ | exact Kd.N_nil _ _ _ _ _ | exact Kd.V_nil _ _ _ _ _ | exact Kd.Q_nil _ _ _ _ _ | exact Kd.S_nil _ _ _ _ _, qB_⟩
   have H' := am_ H; clear H; obtain ⟨S7, S8⟩ := nn_ u6; obtain ⟨S9, T0⟩ := nn_ n7; obtain ⟨T2, U0⟩ := nn_ n8
   obtain ⟨p8, p9, q0, l2⟩ := bc2_ j
   go_wp2_with (first | ((with_reducible refine gd_ 8 ?_); refine by_ 8 (cs := #[.int .i64 0, .slice none 0 0]) (t := 29) ?_; intro X hg L8 y hb; have A4 := gw_ hg; obtain ⟨U1, n1⟩ := qn_ j hg; obtain ⟨h8, A5⟩ := qn_ q hg; obtain ⟨A6, c9⟩ := qn_ s hg; obtain ⟨A7, d0⟩ := qn_ u hg; replace j := qbl_ j hb; replace q := qbl_ q hb; replace s := qbl_ s hb; replace u := qbl_ u hb; replace HB := hs_ hb; clear hb hg; obtain ⟨U2, U3⟩ := nn_ n1; obtain ⟨U4, U5⟩ := nn_ A5; obtain ⟨U6, U7⟩ := nn_ c9; obtain ⟨U8, U9⟩ := nn_ d0; obtain ⟨l3, q1, q2, q3⟩ := bc2_ y) | ((with_reducible refine gd_ 9 ?_); refine by_ 9 (cs := #[.int .i64 0, .int .i64 0, .int .i64 0, .bool false]) (t := 72) ?_; intro G hg L9 B hb; have A8 := gw_ hg; have u7 := am_ ((by rw [hg]; exact Nat.ne_of_lt (blk_lt (g := a5) (o := .cells #[.int .i64 d, .slice A c.length z] 29 (0, 0)) (qf_ j)) : a5 ≠ G)); have q4 := am_ ((by rw [hg]; exact Nat.ne_of_gt (blk_lt (g := a5) (o := .cells #[.int .i64 d, .slice A c.length z] 29 (0, 0)) (qf_ j)) : G ≠ a5)); have h9 := am_ ((by rw [hg]; exact Nat.ne_of_lt (blk_lt (g := b9) (o := .cells #[.int .i64 l, .int .i64 m] 43 (0, 0)) (qf_ q)) : b9 ≠ G)); have A9 := am_ ((by rw [hg]; exact Nat.ne_of_gt (blk_lt (g := b9) (o := .cells #[.int .i64 l, .int .i64 m] 43 (0, 0)) (qf_ q)) : G ≠ b9)); have q5 := am_ ((by rw [hg]; exact Nat.ne_of_lt (blk_lt (g := I) (o := .cells #[.int .i64 0, .slice none 0 0] 29 (0, 0)) (qf_ s)) : I ≠ G)); have i0 := am_ ((by rw [hg]; exact Nat.ne_of_gt (blk_lt (g := I) (o := .cells #[.int .i64 0, .slice none 0 0] 29 (0, 0)) (qf_ s)) : G ≠ I)); have q6 := am_ ((by rw [hg]; exact Nat.ne_of_lt (blk_lt (g := J) (o := .cells #[.int .i64 0, .int .i64 0] 43 (0, 0)) (qf_ u)) : J ≠ G)); have i1 := am_ ((by rw [hg]; exact Nat.ne_of_gt (blk_lt (g := J) (o := .cells #[.int .i64 0, .int .i64 0] 43 (0, 0)) (qf_ u)) : G ≠ J)); have q7 := am_ ((by rw [hg]; exact Nat.ne_of_lt (blk_lt (g := X) (o := .cells #[.int .i64 d, .slice none 0 0] 29 (0, 0)) (qp_ y)) : X ≠ G)); have q8 := am_ ((by rw [hg]; exact Nat.ne_of_gt (blk_lt (g := X) (o := .cells #[.int .i64 d, .slice none 0 0] 29 (0, 0)) (qp_ y)) : G ≠ X)); replace j := qbl_ j hb; replace q := qbl_ q hb; replace s := qbl_ s hb; replace u := qbl_ u hb; replace y := am_ (blk_below (g := X) (o := .cells #[.int .i64 d, .slice none 0 0] 29 (0, 0)) (qp_ y) hb); replace HB := hs_ hb; clear hb hg; obtain ⟨V0, V1⟩ := nn_ u7; obtain ⟨q9, r0, r1, r2⟩ := bc2_ j))
   go_loopg [33] kj2 (fun kq v33 w' => ∃ (a : Int) (d5 : List (S72)) (b6 : Int) (b7 : Int) (a7 : Int) (a8 : Bool) (a9 : Value), v33 = .int .i64 a ∧ Aside0 (impl_WebTake.l0 kq c (c.length : Int) a l m d d5 b6 b7 a7 a8 = some (e0, e1, e2, e3, e4, e5)) ∧ Aside0 (kq ≤ kj2) ∧ Aside0 (Kd.R k72 72 w' w.heap.size (fun k_ => k_ ≠ G) a9 d5) ∧ Aside0 (w'.heap[a5]? = some (.cells #[.int .i64 d, (.slice A c.length z)] 29 (0, 0))) ∧ Aside0 (w'.heap[b9]? = some (.cells #[.int .i64 l, .int .i64 m] 43 (0, 0))) ∧ Aside0 (w'.heap[I]? = some (.cells #[.int .i64 0, (.slice none 0 0)] 29 (0, 0))) ∧ Aside0 (w'.heap[J]? = some (.cells #[.int .i64 0, .int .i64 0] 43 (0, 0))) ∧ Aside0 (w'.heap[X]? = some (.cells #[.int .i64 d, a9] 29 (0, 0))) ∧ Aside0 (w'.heap[G]? = some (.cells #[.int .i64 b6, .int .i64 b7, .int .i64 a7, .bool a8] 72 (0, 0))) ∧ Aside0 (Below w.heap.size w w'))
   case atStart => exact ⟨(0), (([] : List (S72))), (0), (0), (0), (false), (.slice none 0 0), qe_, H', ⟨Nat.le_refl _⟩, ⟨by first | exact Kd.R_nil _ _ _ _ _ | exact Kd.N_nil _ _ _ _ _ | exact Kd.V_nil _ _ _ _ _ | exact Kd.Q_nil _ _ _ _ _ | exact Kd.S_nil _ _ _ _ _⟩, ⟨qk_ j⟩, ⟨qk_ q⟩, ⟨qk_ s⟩, ⟨qk_ u⟩, ⟨qk_ y⟩, ⟨qk_ B⟩, ⟨qB_⟩⟩
   case round =>
    clear H' p8 p9 l3 q1 q9 r0 q0 l2 q2 q3 r1 r2
    obtain ⟨a, d5, b6, b7, a7, a8, a9, rfl, HA, HK2, x, j, q, s, u, y, B, HB⟩ := hrel
    cases gk with
    | zero => exact absurd HA.out (by simp [impl_WebTake.l0])
    | succ k1 =>
     have H := HA.out; clear HA
     simp only [impl_WebTake.l0] at H
     refine ic_ H ?_ ?_ <;> clear H <;> intro c1 H
     ·refine ig_ H ?_; clear H; intro c2 H
      refine ig_ H ?_; clear H; intro c3 H
      refine jb_ H ?_ ?_ <;> clear H <;> intro b0 H
      ·have b1 : (((rd_T72 c a).f0) == l) = false := beq_eq_false_iff_ne.mpr b0
       have b2 : (((rd_T72 c a).f0) != l) = true := bne_iff_ne.mpr b0
       refine jg_ H ?_; clear H; intro d6 H
       have e9 := am_ d6
       clear d6
       generalize c4 : (d5 ++ [(⟨(rd_T72 c a).f0, (rd_T72 c a).f1, (rd_T72 c a).f2, (rd_T72 c a).f3⟩ : S72)]) = r3 at H; replace H := bh_ H; have f4 := am_ c4.symm; clear c4; have H' := am_ H; clear H
       have T := dt_ a
       have U := du_ a c.length
       obtain ⟨Y, a2, d1, d2, d3, d4⟩ := at_T72 M.out a (ot_ T) (ot_ U)
       cases a2
       replace d1 := qx_ HB d1
       replace d2 := qx_ HB d2
       replace d3 := qx_ HB d3
       replace d4 := qx_ HB d4
       go_wp2_with (first | ((with_reducible refine gd_ 11 ?_); refine by_ 11 (cs := #[.int .i64 0, .int .i64 0, .int .i64 0, .bool false]) (t := 72) ?_; intro O hg M0 c5 hb; have C0 := gw_ hg; obtain ⟨C1, k2⟩ := qn_ j hg; obtain ⟨j1, k3⟩ := qn_ q hg; obtain ⟨j2, k4⟩ := qn_ s hg; obtain ⟨j4, k5⟩ := qn_ u hg; obtain ⟨C2, k6⟩ := qn_ y hg; obtain ⟨C3, k7⟩ := qn_ B hg; replace x := am_ (Kd.R_below (Kd.R_elderB (qR_ x) O (Nat.le_of_eq hg.symm)) hb); replace j := qbl_ j hb; replace q := qbl_ q hb; replace s := qbl_ s hb; replace u := qbl_ u hb; replace y := qbl_ y hb; replace B := qbl_ B hb; replace HB := hs_ hb; clear hb hg; obtain ⟨V2, V3⟩ := nn_ k2; obtain ⟨V4, V5⟩ := nn_ k3; obtain ⟨V6, V7⟩ := nn_ k4; obtain ⟨V8, V9⟩ := nn_ k5; obtain ⟨W0, W1⟩ := nn_ k6; obtain ⟨W2, W3⟩ := nn_ k7; obtain ⟨C4, C5, C6, C7, C8, C9, D0, D1⟩ := bc4_ c5; obtain ⟨W4, W5⟩ := nn_ h4; obtain ⟨W6, W7⟩ := nn_ e6; obtain ⟨W8, W9⟩ := nn_ e7; obtain ⟨X0, X1⟩ := nn_ h8; obtain ⟨X2, X3⟩ := nn_ h9; obtain ⟨D2, D3, D4, D5⟩ := bc2_ q; obtain ⟨X4, X5⟩ := nn_ n1; obtain ⟨X6, X7⟩ := nn_ c9; obtain ⟨X8, X9⟩ := nn_ d0; obtain ⟨Y0, Y1⟩ := nn_ q7; obtain ⟨D6, D7, D8, D9⟩ := bc2_ y) | ((with_reducible refine gate_builtin (b := .append) (xs := #[.tmp 51, .tmp 53]) rfl ?_); at_builtin; refine Kd.R_append k72 (w0 := w) w.heap.size rfl (.tmp 51) (.tmp 53) 27 72 (.agg #[(.int .i64 0), (.int .i64 0), (.int .i64 0), (.bool false)]) 32 rfl Try.underlying27 info72 rfl (by decide) (by omega) a9 d5 (⟨(rd_T72 c a).f0, (rd_T72 c a).f1, (rd_T72 c a).f2, (rd_T72 c a).f3⟩ : S72) [.int .i64 ((rd_T72 c a).f0), .int .i64 ((rd_T72 c a).f1), .int .i64 ((rd_T72 c a).f2), .bool ((rd_T72 c a).f3)] (fun k_ => k_ ≠ G ∧ k_ ≠ O) (fun _ => False) rfl (by first | (go_simp; done) | (go_simp; rfl)) ?aP (fun _ hk => hk.elim) ?aF ?aO ?aB ?aS ?aL ?_; (case aP => exact k72_mkM _ _ _ (⟨(rd_T72 c a).f0, (rd_T72 c a).f1, (rd_T72 c a).f2, (rd_T72 c a).f3⟩ : S72)); (case aB => exact qB_); (case aF => exact (fun k_ hk => ⟨Kd.freshB (g := G) (o := .cells #[.int .i64 b6, .int .i64 b7, .int .i64 a7, .bool a8] 72 (0, 0)) (qf_ B) k_ hk, Kd.freshB (g := O) (o := .cells #[.int .i64 ((rd_T72 c a).f0), .int .i64 ((rd_T72 c a).f1), .int .i64 ((rd_T72 c a).f2), .bool ((rd_T72 c a).f3)] 72 (0, 0)) (qp_ c5) k_ hk⟩)); (case aO => exact (by (with_reducible repeat (first | apply Kd.R_alloc | apply Kd.R_drewN | apply Kd.R_drew)); exact Kd.R_mono (Kd.R_far (p := ⟨O, 3, none⟩) (Kd.R_far (p := ⟨O, 2, none⟩) (Kd.R_far (p := ⟨O, 1, none⟩) (Kd.R_far (p := ⟨O, 0, none⟩) (Kd.R_mono x.out (fun k_ hk => (⟨hk, hk.2⟩ : _ ∧ k_ ≠ O))) (fun _ hk => hk.2) (.int .i64 ((rd_T72 c a).f0))) (fun _ hk => hk.2) (.int .i64 ((rd_T72 c a).f1))) (fun _ hk => hk.2) (.int .i64 ((rd_T72 c a).f2))) (fun _ hk => hk.2) (.bool ((rd_T72 c a).f3))) (fun _ hk => ⟨hk.1.1, hk.1.2⟩))); (case aS => exact (below_size qB_)); (case aL => have := e9.out; omega); intro M1 E0 ho hb hg hat; rw [← f4.out] at ho; have E1 := am_ (ho); replace j := am_ (blk_grown (g := a5) (o := .cells #[.int .i64 d, .slice (some Y) c.length z] 29 (0, 0)) (qf_ j) hg (Kd.R_ne x.out j.out (by decide))); replace q := am_ (blk_grown (g := b9) (o := .cells #[.int .i64 l, .int .i64 m] 43 (0, 0)) (qf_ q) hg (Kd.R_ne x.out q.out (by decide))); replace s := am_ (blk_grown (g := I) (o := .cells #[.int .i64 0, .slice none 0 0] 29 (0, 0)) (qf_ s) hg (Kd.R_ne x.out s.out (by decide))); replace u := am_ (blk_grown (g := J) (o := .cells #[.int .i64 0, .int .i64 0] 43 (0, 0)) (qf_ u) hg (Kd.R_ne x.out u.out (by decide))); replace y := am_ (blk_grown (g := X) (o := .cells #[.int .i64 d, a9] 29 (0, 0)) (qf_ y) hg (Kd.R_ne x.out y.out (by decide))); replace B := am_ (blk_grown (g := G) (o := .cells #[.int .i64 b6, .int .i64 b7, .int .i64 a7, .bool a8] 72 (0, 0)) (qf_ B) hg (Kd.R_away x.out (fun _ hk => hk.1))); replace c5 := am_ (blk_grown (g := O) (o := .cells #[.int .i64 ((rd_T72 c a).f0), .int .i64 ((rd_T72 c a).f1), .int .i64 ((rd_T72 c a).f2), .bool ((rd_T72 c a).f3)] 72 (0, 0)) (qp_ c5) hg (Kd.R_away x.out (fun _ hk => hk.2))); replace HB := am_ (hb); clear x ho hb hg hat; obtain ⟨E2, E3, M2⟩ := Kd.R_slice E1.out; subst M2; obtain ⟨E4, E5, E6, E7⟩ := bc2_ y))
       go_roundg k1
       case measure => have := c8.out; have := HK2.out; omega
       case rel => exact ⟨(wrap64 (a + 1)), (r3), (b6), (b7), (a7), (a8), (.slice E2 r3.length E3), qe_, H', ⟨by have := c8.out; have := HK2.out; omega⟩, ⟨by (with_reducible repeat (first | apply Kd.R_alloc | apply Kd.R_drewN | apply Kd.R_drew)); exact Kd.R_mono (Kd.R_far (p := ⟨X, 1, none⟩) (Kd.R_types E1.out y.out (by decide)) (fun _ hk => hk.2) (.slice E2 r3.length E3)) (fun _ hk => hk.1.1)⟩, ⟨qf_ j⟩, ⟨qf_ q⟩, ⟨qf_ s⟩, ⟨qf_ u⟩, ⟨qp_ y⟩, ⟨qf_ B⟩, ⟨qB_⟩⟩
      have b1 : (((rd_T72 c a).f0) == l) = true := beq_iff_eq.mpr b0
      have b2 : (((rd_T72 c a).f0) != l) = false := bne_eq_false_iff_eq.mpr b0
      clear b0
      refine jc_ H ?_ ?_ <;> clear H <;> intro b3 H
      ·have b4 : (((rd_T72 c a).f1) == m) = true := beq_iff_eq.mpr b3
       have b5 : (((rd_T72 c a).f1) != m) = false := bne_eq_false_iff_eq.mpr b3
       clear b3; have H' := am_ H; clear H
       have T := dt_ a
       have U := du_ a c.length
       obtain ⟨Y, a2, d1, d2, d3, d4⟩ := at_T72 M.out a (ot_ T) (ot_ U)
       cases a2
       replace d1 := qx_ HB d1
       replace d2 := qx_ HB d2
       replace d3 := qx_ HB d3
       replace d4 := qx_ HB d4
       go_wp2_with (first | ((with_reducible refine gd_ 11 ?_); refine by_ 11 (cs := #[.int .i64 0, .int .i64 0, .int .i64 0, .bool false]) (t := 72) ?_; intro O hg M3 c5 hb; have C0 := gw_ hg; obtain ⟨C1, k2⟩ := qn_ j hg; obtain ⟨j1, k3⟩ := qn_ q hg; obtain ⟨j2, k4⟩ := qn_ s hg; obtain ⟨j4, k5⟩ := qn_ u hg; obtain ⟨C2, k6⟩ := qn_ y hg; obtain ⟨C3, k7⟩ := qn_ B hg; replace x := am_ (Kd.R_below (Kd.R_elderB (qR_ x) O (Nat.le_of_eq hg.symm)) hb); replace j := qbl_ j hb; replace q := qbl_ q hb; replace s := qbl_ s hb; replace u := qbl_ u hb; replace y := qbl_ y hb; replace B := qbl_ B hb; replace HB := hs_ hb; clear hb hg; obtain ⟨Y2, Y3⟩ := nn_ k2; obtain ⟨Y4, Y5⟩ := nn_ k3; obtain ⟨Y6, Y7⟩ := nn_ k4; obtain ⟨Y8, Y9⟩ := nn_ k5; obtain ⟨Z0, Z1⟩ := nn_ k6; obtain ⟨Z2, Z3⟩ := nn_ k7; obtain ⟨E8, E9, F0, F1, F2, F3, F4, F5⟩ := bc4_ c5; obtain ⟨Z4, Z5⟩ := nn_ h4; obtain ⟨Z6, Z7⟩ := nn_ e6; obtain ⟨Z8, Z9⟩ := nn_ e7; obtain ⟨aa, ab⟩ := nn_ h8; obtain ⟨ac, ad⟩ := nn_ h9; obtain ⟨F6, F7, F8, F9⟩ := bc2_ q; obtain ⟨M4, M5⟩ := nn_ q4; obtain ⟨M6, M7⟩ := nn_ i0; obtain ⟨M8, M9⟩ := nn_ i1; obtain ⟨N0, N1⟩ := nn_ q8; obtain ⟨G0, G1, G2, G3, G4, G5, G6, G7⟩ := bc4_ B))
       go_roundg k1
       case measure => have := c8.out; have := HK2.out; omega
       case rel => exact ⟨(wrap64 (a + 1)), (d5), ((rd_T72 c a).f0), ((rd_T72 c a).f1), ((rd_T72 c a).f2), ((rd_T72 c a).f3), (a9), qe_, H', ⟨by have := c8.out; have := HK2.out; omega⟩, ⟨by (with_reducible repeat (first | apply Kd.R_alloc | apply Kd.R_drewN | apply Kd.R_drew)); exact Kd.R_mono (Kd.R_far (p := ⟨G, 3, none⟩) (Kd.R_far (p := ⟨G, 2, none⟩) (Kd.R_far (p := ⟨G, 1, none⟩) (Kd.R_far (p := ⟨G, 0, none⟩) (Kd.R_far (p := ⟨O, 3, none⟩) (Kd.R_far (p := ⟨O, 2, none⟩) (Kd.R_far (p := ⟨O, 1, none⟩) (Kd.R_far (p := ⟨O, 0, none⟩) (Kd.R_mono (Kd.R_mono x.out (fun k_ hk => (⟨hk, hk.2⟩ : _ ∧ k_ ≠ O))) (fun k_ hk => (⟨hk, hk.1.1⟩ : _ ∧ k_ ≠ G))) (fun _ hk => hk.1.2) (.int .i64 ((rd_T72 c a).f0))) (fun _ hk => hk.1.2) (.int .i64 ((rd_T72 c a).f1))) (fun _ hk => hk.1.2) (.int .i64 ((rd_T72 c a).f2))) (fun _ hk => hk.1.2) (.bool ((rd_T72 c a).f3))) (fun _ hk => hk.2) (.int .i64 ((rd_T72 c a).f0))) (fun _ hk => hk.2) (.int .i64 ((rd_T72 c a).f1))) (fun _ hk => hk.2) (.int .i64 ((rd_T72 c a).f2))) (fun _ hk => hk.2) (.bool ((rd_T72 c a).f3))) (fun _ hk => hk.1.1.1)⟩, ⟨qf_ j⟩, ⟨qf_ q⟩, ⟨qf_ s⟩, ⟨qf_ u⟩, ⟨qf_ y⟩, ⟨qp_ B⟩, ⟨qB_⟩⟩
      have b4 : (((rd_T72 c a).f1) == m) = false := beq_eq_false_iff_ne.mpr b3
      have b5 : (((rd_T72 c a).f1) != m) = true := bne_iff_ne.mpr b3
      refine jg_ H ?_; clear H; intro d7 H
      have f5 := am_ d7
      clear d7
      generalize c6 : (d5 ++ [(⟨(rd_T72 c a).f0, (rd_T72 c a).f1, (rd_T72 c a).f2, (rd_T72 c a).f3⟩ : S72)]) = r4 at H; replace H := bh_ H; have f6 := am_ c6.symm; clear c6; have H' := am_ H; clear H
      have T := dt_ a
      have U := du_ a c.length
      obtain ⟨Y, a2, d1, d2, d3, d4⟩ := at_T72 M.out a (ot_ T) (ot_ U)
      cases a2
      replace d1 := qx_ HB d1
      replace d2 := qx_ HB d2
      replace d3 := qx_ HB d3
      replace d4 := qx_ HB d4
      go_wp2_with (first | ((with_reducible refine gd_ 11 ?_); refine by_ 11 (cs := #[.int .i64 0, .int .i64 0, .int .i64 0, .bool false]) (t := 72) ?_; intro O hg N2 c5 hb; have C0 := gw_ hg; obtain ⟨C1, k2⟩ := qn_ j hg; obtain ⟨j1, k3⟩ := qn_ q hg; obtain ⟨j2, k4⟩ := qn_ s hg; obtain ⟨j4, k5⟩ := qn_ u hg; obtain ⟨C2, k6⟩ := qn_ y hg; obtain ⟨C3, k7⟩ := qn_ B hg; replace x := am_ (Kd.R_below (Kd.R_elderB (qR_ x) O (Nat.le_of_eq hg.symm)) hb); replace j := qbl_ j hb; replace q := qbl_ q hb; replace s := qbl_ s hb; replace u := qbl_ u hb; replace y := qbl_ y hb; replace B := qbl_ B hb; replace HB := hs_ hb; clear hb hg; obtain ⟨N3, N4⟩ := nn_ k2; obtain ⟨N5, N6⟩ := nn_ k3; obtain ⟨N7, N8⟩ := nn_ k4; obtain ⟨N9, O0⟩ := nn_ k5; obtain ⟨O1, O2⟩ := nn_ k6; obtain ⟨O3, O4⟩ := nn_ k7; obtain ⟨G8, G9, H0, H1, H2, H3, H4, H5⟩ := bc4_ c5; obtain ⟨O5, O6⟩ := nn_ h4; obtain ⟨O7, O8⟩ := nn_ e6; obtain ⟨O9, P0⟩ := nn_ e7; obtain ⟨P1, P2⟩ := nn_ h8; obtain ⟨P3, P4⟩ := nn_ h9; obtain ⟨H6, H7, H8, H9⟩ := bc2_ q; obtain ⟨P5, P6⟩ := nn_ n1; obtain ⟨P7, P8⟩ := nn_ c9; obtain ⟨P9, Q0⟩ := nn_ d0; obtain ⟨Q1, Q2⟩ := nn_ q7; obtain ⟨I0, I1, I2, u0⟩ := bc2_ y) | ((with_reducible refine gate_builtin (b := .append) (xs := #[.tmp 51, .tmp 53]) rfl ?_); at_builtin; refine Kd.R_append k72 (w0 := w) w.heap.size rfl (.tmp 51) (.tmp 53) 27 72 (.agg #[(.int .i64 0), (.int .i64 0), (.int .i64 0), (.bool false)]) 32 rfl Try.underlying27 info72 rfl (by decide) (by omega) a9 d5 (⟨(rd_T72 c a).f0, (rd_T72 c a).f1, (rd_T72 c a).f2, (rd_T72 c a).f3⟩ : S72) [.int .i64 ((rd_T72 c a).f0), .int .i64 ((rd_T72 c a).f1), .int .i64 ((rd_T72 c a).f2), .bool ((rd_T72 c a).f3)] (fun k_ => k_ ≠ G ∧ k_ ≠ O) (fun _ => False) rfl (by first | (go_simp; done) | (go_simp; rfl)) ?aP (fun _ hk => hk.elim) ?aF ?aO ?aB ?aS ?aL ?_; (case aP => exact k72_mkM _ _ _ (⟨(rd_T72 c a).f0, (rd_T72 c a).f1, (rd_T72 c a).f2, (rd_T72 c a).f3⟩ : S72)); (case aB => exact qB_); (case aF => exact (fun k_ hk => ⟨Kd.freshB (g := G) (o := .cells #[.int .i64 b6, .int .i64 b7, .int .i64 a7, .bool a8] 72 (0, 0)) (qf_ B) k_ hk, Kd.freshB (g := O) (o := .cells #[.int .i64 ((rd_T72 c a).f0), .int .i64 ((rd_T72 c a).f1), .int .i64 ((rd_T72 c a).f2), .bool ((rd_T72 c a).f3)] 72 (0, 0)) (qp_ c5) k_ hk⟩)); (case aO => exact (by (with_reducible repeat (first | apply Kd.R_alloc | apply Kd.R_drewN | apply Kd.R_drew)); exact Kd.R_mono (Kd.R_far (p := ⟨O, 3, none⟩) (Kd.R_far (p := ⟨O, 2, none⟩) (Kd.R_far (p := ⟨O, 1, none⟩) (Kd.R_far (p := ⟨O, 0, none⟩) (Kd.R_mono x.out (fun k_ hk => (⟨hk, hk.2⟩ : _ ∧ k_ ≠ O))) (fun _ hk => hk.2) (.int .i64 ((rd_T72 c a).f0))) (fun _ hk => hk.2) (.int .i64 ((rd_T72 c a).f1))) (fun _ hk => hk.2) (.int .i64 ((rd_T72 c a).f2))) (fun _ hk => hk.2) (.bool ((rd_T72 c a).f3))) (fun _ hk => ⟨hk.1.1, hk.1.2⟩))); (case aS => exact (below_size qB_)); (case aL => have := f5.out; omega); intro Q3 Q4 ho hb hg hat; rw [← f6.out] at ho; have I3 := am_ (ho); replace j := am_ (blk_grown (g := a5) (o := .cells #[.int .i64 d, .slice (some Y) c.length z] 29 (0, 0)) (qf_ j) hg (Kd.R_ne x.out j.out (by decide))); replace q := am_ (blk_grown (g := b9) (o := .cells #[.int .i64 l, .int .i64 m] 43 (0, 0)) (qf_ q) hg (Kd.R_ne x.out q.out (by decide))); replace s := am_ (blk_grown (g := I) (o := .cells #[.int .i64 0, .slice none 0 0] 29 (0, 0)) (qf_ s) hg (Kd.R_ne x.out s.out (by decide))); replace u := am_ (blk_grown (g := J) (o := .cells #[.int .i64 0, .int .i64 0] 43 (0, 0)) (qf_ u) hg (Kd.R_ne x.out u.out (by decide))); replace y := am_ (blk_grown (g := X) (o := .cells #[.int .i64 d, a9] 29 (0, 0)) (qf_ y) hg (Kd.R_ne x.out y.out (by decide))); replace B := am_ (blk_grown (g := G) (o := .cells #[.int .i64 b6, .int .i64 b7, .int .i64 a7, .bool a8] 72 (0, 0)) (qf_ B) hg (Kd.R_away x.out (fun _ hk => hk.1))); replace c5 := am_ (blk_grown (g := O) (o := .cells #[.int .i64 ((rd_T72 c a).f0), .int .i64 ((rd_T72 c a).f1), .int .i64 ((rd_T72 c a).f2), .bool ((rd_T72 c a).f3)] 72 (0, 0)) (qp_ c5) hg (Kd.R_away x.out (fun _ hk => hk.2))); replace HB := am_ (hb); clear x ho hb hg hat; obtain ⟨I4, I5, Q5⟩ := Kd.R_slice I3.out; subst Q5; obtain ⟨u1, u2, u3, u4⟩ := bc2_ y))
      go_roundg k1
      case measure => have := c8.out; have := HK2.out; omega
      case rel => exact ⟨(wrap64 (a + 1)), (r4), (b6), (b7), (a7), (a8), (.slice I4 r4.length I5), qe_, H', ⟨by have := c8.out; have := HK2.out; omega⟩, ⟨by (with_reducible repeat (first | apply Kd.R_alloc | apply Kd.R_drewN | apply Kd.R_drew)); exact Kd.R_mono (Kd.R_far (p := ⟨X, 1, none⟩) (Kd.R_types I3.out y.out (by decide)) (fun _ hk => hk.2) (.slice I4 r4.length I5)) (fun _ hk => hk.1.1)⟩, ⟨qf_ j⟩, ⟨qf_ q⟩, ⟨qf_ s⟩, ⟨qf_ u⟩, ⟨qp_ y⟩, ⟨qf_ B⟩, ⟨qB_⟩⟩
     have H' := am_ H; clear H; obtain ⟨ae, af⟩ := nn_ q4; obtain ⟨ag, ah⟩ := nn_ A9; obtain ⟨ai, aj⟩ := nn_ i0; obtain ⟨ak, al⟩ := nn_ i1; obtain ⟨am, an⟩ := nn_ q8
     obtain ⟨I6, I7, I8, I9, J0, J1, J2, J3⟩ := bc4_ B
     go_wp2
     go_loopg [12] k1 (fun kq v12 w' => ∃ (D : Int) (h0 : Int) (h1 : Int) (h2 : Int) (Z : List (S72)) (a9 : Value), v12 = .int .i64 D ∧ Aside0 (impl_WebTake.l1 kq D l m d Z b6 b7 a7 a8 = some (e0, e1, e2, e3, e4, e5)) ∧ Aside0 (kq ≤ k1) ∧ Aside0 (Kd.R k72 72 w' w.heap.size (fun k_ => k_ ≠ G) a9 Z) ∧ Aside0 (w'.heap[a5]? = some (.cells #[.int .i64 d, (.slice A c.length z)] 29 (0, 0))) ∧ Aside0 (w'.heap[b9]? = some (.cells #[.int .i64 l, .int .i64 m] 43 (0, 0))) ∧ Aside0 (w'.heap[I]? = some (.cells #[.int .i64 h0, (.slice none 0 0)] 29 (0, 0))) ∧ Aside0 (w'.heap[J]? = some (.cells #[.int .i64 h1, .int .i64 h2] 43 (0, 0))) ∧ Aside0 (w'.heap[X]? = some (.cells #[.int .i64 d, a9] 29 (0, 0))) ∧ Aside0 (w'.heap[G]? = some (.cells #[.int .i64 b6, .int .i64 b7, .int .i64 a7, .bool a8] 72 (0, 0))) ∧ Aside0 (Below w.heap.size w w'))
     case atStart => exact ⟨(a7), (0), (0), (0), (d5), (a9), qe_, H', ⟨Nat.le_refl _⟩, ⟨ra_ x⟩, ⟨qk_ j⟩, ⟨qk_ q⟩, ⟨qk_ s⟩, ⟨qk_ u⟩, ⟨qk_ y⟩, ⟨qk_ B⟩, ⟨qB_⟩⟩
     case round =>
      clear H' c1 I6 I7 I8 I9 J0 J1 J2 J3
      obtain ⟨D, h0, h1, h2, Z, a9, rfl, HA, HK3, x, j, q, s, u, y, B, HB⟩ := hrel
      cases gk with
      | zero => exact absurd HA.out (by simp [impl_WebTake.l1])
      | succ R0 =>
       have H := HA.out; clear HA
       simp only [impl_WebTake.l1] at H
       have v3 := am_ H
       clear H
       go_upto_region 13 with (fail)
       go_cut [64] (fun v64 wc => ∃ (kq : Nat) (V : Bool), v64 = .bool V ∧ Aside0 (impl_WebTake.j3 kq D V l m d Z b6 b7 a7 a8 = some (e0, e1, e2, e3, e4, e5)) ∧ Aside0 (kq ≤ R0) ∧ Aside0 (Kd.R k72 72 wc w.heap.size (fun k_ => k_ ≠ G) a9 Z) ∧ Aside0 (wc.heap[a5]? = some (.cells #[.int .i64 d, (.slice A c.length z)] 29 (0, 0))) ∧ Aside0 (wc.heap[b9]? = some (.cells #[.int .i64 l, .int .i64 m] 43 (0, 0))) ∧ Aside0 (wc.heap[I]? = some (.cells #[.int .i64 h0, (.slice none 0 0)] 29 (0, 0))) ∧ Aside0 (wc.heap[J]? = some (.cells #[.int .i64 h1, .int .i64 h2] 43 (0, 0))) ∧ Aside0 (wc.heap[X]? = some (.cells #[.int .i64 d, a9] 29 (0, 0))) ∧ Aside0 (wc.heap[G]? = some (.cells #[.int .i64 b6, .int .i64 b7, .int .i64 a7, .bool a8] 72 (0, 0))) ∧ Aside0 (Below w.heap.size w wc))
       case first =>
        have H := v3.out; clear v3
        refine jc_ H ?_ ?_ <;> clear H <;> intro a3 H
        ·have E : decide (0 ≤ D) = true := decide_eq_true a3
         clear a3
         (first | rw [E] | (simp only [i64_w, i32_w]; rw [E]) | skip)
         have H' := am_ H; clear H; obtain ⟨ao, ap⟩ := nn_ q4; obtain ⟨aq, ar⟩ := nn_ A9; obtain ⟨au, av⟩ := nn_ i0; obtain ⟨aw, ax⟩ := nn_ i1; obtain ⟨ay, az⟩ := nn_ q8
         obtain ⟨v4, v5, v6, v7, v8, v9, R1, R2⟩ := bc4_ B
         go_wp2
         go_meet
         case rel => exact ⟨_, (a8), qe_, H', ⟨by have := c8.out; have := HK2.out; have := HK3.out; first | omega | exact Nat.le_refl _⟩, ⟨ra_ x⟩, ⟨qk_ j⟩, ⟨qk_ q⟩, ⟨qk_ s⟩, ⟨qk_ u⟩, ⟨qk_ y⟩, ⟨qk_ B⟩, ⟨qB_⟩⟩
        have E : decide (0 ≤ D) = false := decide_eq_false a3
        clear a3
        (first | rw [E] | (simp only [i64_w, i32_w]; rw [E]) | skip)
        have H' := am_ H; clear H
        go_wp2
        go_meet
        case rel => exact ⟨_, (false), qe_, H', ⟨by have := c8.out; have := HK2.out; have := HK3.out; first | omega | exact Nat.le_refl _⟩, ⟨ra_ x⟩, ⟨qk_ j⟩, ⟨qk_ q⟩, ⟨qk_ s⟩, ⟨qk_ u⟩, ⟨qk_ y⟩, ⟨qk_ B⟩, ⟨qB_⟩⟩
       case rest =>
        clear v3
        obtain ⟨kq, V, rfl, HA, K2, x, j, q, s, u, y, B, HB⟩ := hcut
        cases kq with
        | zero => exact absurd HA.out (by simp [impl_WebTake.j3])
        | succ kj115 =>
         have H := HA.out; clear HA
         simp only [impl_WebTake.j3] at H
         refine id_ H ?_ ?_ <;> clear H <;> rintro rfl H
         ·simp only [Option.some.injEq, Prod.mk.injEq] at H
          obtain ⟨rfl, rfl, rfl, rfl, rfl, rfl⟩ := H
          obtain ⟨aA, aC⟩ := nn_ n1; obtain ⟨aD, aE⟩ := nn_ A5; obtain ⟨aG, aH⟩ := nn_ c9; obtain ⟨aI, aJ⟩ := nn_ d0; obtain ⟨aK, aM⟩ := nn_ q7
          obtain ⟨aN, aQ, aR, aT⟩ := bc2_ y
          obtain ⟨aU, aV⟩ := nn_ m6; obtain ⟨aW, aX⟩ := nn_ m7; obtain ⟨aY, aZ⟩ := nn_ g8; obtain ⟨ba, bb⟩ := nn_ q5
          obtain ⟨B1, bc, B3, B4⟩ := bc2_ s
          obtain ⟨K3, K4, B5⟩ := Kd.R_slice x.out
          subst B5; obtain ⟨bd, be⟩ := nn_ m8; obtain ⟨bf, bg⟩ := nn_ m9; obtain ⟨bh, bi⟩ := nn_ q6
          obtain ⟨B6, B7, B8, B9⟩ := bc2_ u
          go_wp2
          refine bodyPost_ret (results_list (rs := [.cell 4 29, .cell 5 43, .tmp 6, .tmp 7]) rfl (by simp) (.cell I 29 #[.int .i64 d, .slice K3 Z.length K4] (0, 0) _ rfl (qp_ s) Try.underlying29 rfl (by kernel_rfl) (.cell J 43 #[.int .i64 0, .int .i64 0] (0, 0) _ rfl (qp_ u) Try.underlying43 rfl (by kernel_rfl) (.tmp (.tmp .nil))))) rfl ?_
          exact ⟨_, qr_, by (with_reducible repeat (first | apply Kd.R_alloc | apply Kd.R_drewN | apply Kd.R_drew)); exact Kd.R_mono (Kd.R_far (p := ⟨J, 1, none⟩) (Kd.R_far (p := ⟨J, 0, none⟩) (Kd.R_far (p := ⟨I, 1, none⟩) (Kd.R_far (p := ⟨I, 0, none⟩) (Kd.R_types (Kd.R_types x.out s.out (by decide)) u.out (by decide)) (fun _ hk => hk.1.2) (.int .i64 d)) (fun _ hk => hk.1.2) (.slice K3 Z.length K4)) (fun _ hk => hk.2) (.int .i64 0)) (fun _ hk => hk.2) (.int .i64 0)) (fun _ hk => trivial), qB_⟩
         obtain ⟨⟨a0, a1, bj, u8⟩, K5, H⟩ := bs_ H; dsimp only at H
         refine id_ H ?_ ?_ <;> clear H <;> rintro rfl H
         ·have H' := am_ H; clear H; obtain ⟨bk, bl⟩ := nn_ h4; obtain ⟨bn, bo⟩ := nn_ e6; obtain ⟨bp, bq⟩ := nn_ e7; obtain ⟨br, bs⟩ := nn_ h8; obtain ⟨bt, bu⟩ := nn_ h9
          obtain ⟨bv, bw, bx, bz⟩ := bc2_ q
          obtain ⟨y3, y4, R4⟩ := Kd.R_slice x.out
          subst R4
          go_wp2_with (first | ((with_reducible refine gc_ 95 ?_); refine gl_ (some 70) Try.func95 #[.pointer (some ⟨X, 0, none⟩), .agg #[.int .i64 l, .int .i64 m], .int .i64 D] ?_; (with_reducible refine (impl_Web_look.calls kj115 d (fun k_ => some k_ = (.slice y3 Z.length y4 : Value).ownBlock) (.slice y3 Z.length y4) Z l m D a0 a1 false u8 X w _ ?side1 ?side2 ?side3 K5.out).mono ?_); (case side1 => exact (qk_ y)); (case side2 => repeat (first | (with_reducible first | exact HB.out | apply below_alloc | apply pw_below_drewN | apply below_drew1 | refine below_set ?_ z7.out | refine below_set ?_ z8.out | refine below_set ?_ z9.out | refine below_set ?_ A1.out | refine below_set ?_ A4.out | refine below_set ?_ A8.out) | exact HB.out)); (case side3 => exact Kd.R_tight rfl x.out); rintro e K6 ⟨rfl, c7, hb, hkp⟩; refine ⟨_, rfl, ?_⟩; refine dn8_ (am_ (Kd.R_reok rfl c7 (fun k_ e_ => x.out.1 k_ e_))) (qkp_ j hkp (fun hs_ => (fun e_ => (Kd.R_ne x.out j.out (by decide)) e_) hs_)) (qkp_ q hkp (fun hs_ => (fun e_ => (Kd.R_ne x.out q.out (by decide)) e_) hs_)) (qkp_ s hkp (fun hs_ => (fun e_ => (Kd.R_ne x.out s.out (by decide)) e_) hs_)) (qkp_ u hkp (fun hs_ => (fun e_ => (Kd.R_ne x.out u.out (by decide)) e_) hs_)) (qkp_ y hkp (fun hs_ => (fun e_ => (Kd.R_ne x.out y.out (by decide)) e_) hs_)) (qkp_ B hkp (fun hs_ => (fun e_ => (Kd.R_away x.out (fun _ hk => hk)) e_) hs_)) (am_ (hb)) ?_; clear x j q s u y B HB; intro x j q s u y B HB; clear hb hkp c7) | ((with_reducible refine gd_ 13 ?_); refine by_ 13 (cs := #[.int .i64 0, .int .i64 0]) (t := 43) ?_; intro L hg K7 c0 hb; have R5 := gw_ hg; obtain ⟨u9, y5⟩ := qn_ j hg; obtain ⟨v0, y6⟩ := qn_ q hg; obtain ⟨y7, d8⟩ := qn_ s hg; obtain ⟨y8, d9⟩ := qn_ u hg; obtain ⟨v1, y9⟩ := qn_ y hg; obtain ⟨v2, z0⟩ := qn_ B hg; replace x := kb_ x hb; replace j := qbl_ j hb; replace q := qbl_ q hb; replace s := qbl_ s hb; replace u := qbl_ u hb; replace y := qbl_ y hb; replace B := qbl_ B hb; replace HB := hs_ hb; clear hb hg; obtain ⟨bA, bB⟩ := nn_ y5; obtain ⟨bC, bD⟩ := nn_ y6; obtain ⟨bE, bF⟩ := nn_ d8; obtain ⟨bG, bH⟩ := nn_ d9; obtain ⟨bI, bJ⟩ := nn_ y9; obtain ⟨bK, bL⟩ := nn_ z0; obtain ⟨bM, bN, bO, bP⟩ := bc2_ c0))
          go_roundg kj115
          case measure => have := c8.out; have := HK2.out; have := HK3.out; have := K2.out; omega
          case rel => exact ⟨(wrap64 (D - 1)), (h0), (h1), (h2), (u8), (.slice y3 Z.length y4), qe_, H', ⟨by have := c8.out; have := HK2.out; have := HK3.out; have := K2.out; omega⟩, ⟨by (with_reducible repeat (first | apply Kd.R_alloc | apply Kd.R_drewN | apply Kd.R_drew)); exact Kd.R_mono (Kd.R_far (p := ⟨L, 1, none⟩) (Kd.R_far (p := ⟨L, 0, none⟩) (Kd.R_types x.out c0.out (by decide)) (fun _ hk => hk.2) (.int .i64 a0)) (fun _ hk => hk.2) (.int .i64 a1)) (fun _ hk => hk.1)⟩, ⟨qf_ j⟩, ⟨qf_ q⟩, ⟨qf_ s⟩, ⟨qf_ u⟩, ⟨qf_ y⟩, ⟨qf_ B⟩, ⟨qB_⟩⟩
         simp only [Option.some.injEq, Prod.mk.injEq] at H
         obtain ⟨rfl, rfl, rfl, rfl, rfl, rfl⟩ := H
         obtain ⟨bQ, bR⟩ := nn_ h4; obtain ⟨bS, bT⟩ := nn_ e6; obtain ⟨bU, bV⟩ := nn_ e7; obtain ⟨bW, bX⟩ := nn_ h8; obtain ⟨bY, bZ⟩ := nn_ h9
         obtain ⟨ca, cb, cc, cd⟩ := bc2_ q
         obtain ⟨f7, f8, R6⟩ := Kd.R_slice x.out
         subst R6
         try go_wp2_with (first | ((with_reducible refine gc_ 95 ?_); refine gl_ (some 70) Try.func95 #[.pointer (some ⟨X, 0, none⟩), .agg #[.int .i64 l, .int .i64 m], .int .i64 D] ?_; (with_reducible refine (impl_Web_look.calls kj115 d (fun k_ => some k_ = (.slice f7 Z.length f8 : Value).ownBlock) (.slice f7 Z.length f8) Z l m D a0 a1 true u8 X w _ ?side1 ?side2 ?side3 K5.out).mono ?_); (case side1 => exact (qk_ y)); (case side2 => repeat (first | (with_reducible first | exact HB.out | apply below_alloc | apply pw_below_drewN | apply below_drew1 | refine below_set ?_ z7.out | refine below_set ?_ z8.out | refine below_set ?_ z9.out | refine below_set ?_ A1.out | refine below_set ?_ A4.out | refine below_set ?_ A8.out) | exact HB.out)); (case side3 => exact Kd.R_tight rfl x.out); rintro e K8 ⟨rfl, c7, hb, hkp⟩; refine ⟨_, rfl, ?_⟩; refine dn8_ (am_ (Kd.R_reok rfl c7 (fun k_ e_ => x.out.1 k_ e_))) (qkp_ j hkp (fun hs_ => (fun e_ => (Kd.R_ne x.out j.out (by decide)) e_) hs_)) (qkp_ q hkp (fun hs_ => (fun e_ => (Kd.R_ne x.out q.out (by decide)) e_) hs_)) (qkp_ s hkp (fun hs_ => (fun e_ => (Kd.R_ne x.out s.out (by decide)) e_) hs_)) (qkp_ u hkp (fun hs_ => (fun e_ => (Kd.R_ne x.out u.out (by decide)) e_) hs_)) (qkp_ y hkp (fun hs_ => (fun e_ => (Kd.R_ne x.out y.out (by decide)) e_) hs_)) (qkp_ B hkp (fun hs_ => (fun e_ => (Kd.R_away x.out (fun _ hk => hk)) e_) hs_)) (am_ (hb)) ?_; clear x j q s u y B HB; intro x j q s u y B HB; clear hb hkp c7) | ((with_reducible refine gd_ 13 ?_); refine by_ 13 (cs := #[.int .i64 0, .int .i64 0]) (t := 43) ?_; intro L hg F c0 hb; have R5 := gw_ hg; obtain ⟨u9, y5⟩ := qn_ j hg; obtain ⟨v0, y6⟩ := qn_ q hg; obtain ⟨y7, d8⟩ := qn_ s hg; obtain ⟨y8, d9⟩ := qn_ u hg; obtain ⟨v1, y9⟩ := qn_ y hg; obtain ⟨v2, z0⟩ := qn_ B hg; replace x := kb_ x hb; replace j := qbl_ j hb; replace q := qbl_ q hb; replace s := qbl_ s hb; replace u := qbl_ u hb; replace y := qbl_ y hb; replace B := qbl_ B hb; replace HB := hs_ hb; clear hb hg; obtain ⟨ce, cf⟩ := nn_ y5; obtain ⟨cg, ch⟩ := nn_ y6; obtain ⟨ci, cj⟩ := nn_ d8; obtain ⟨ck, cl⟩ := nn_ d9; obtain ⟨cm, cn⟩ := nn_ y9; obtain ⟨co, T1⟩ := nn_ z0; obtain ⟨cp, cq, cr, ct⟩ := bc2_ c0))
         have f9 : Aside0 (Kd.R k72 72 ((F.setCell ⟨L, 0, none⟩ (.int .i64 a0)).setCell ⟨L, 1, none⟩ (.int .i64 a1)) w.heap.size (fun k_ => k_ ≠ G) (.slice f7 Z.length f8) u8) := ⟨by (with_reducible repeat (first | apply Kd.R_alloc | apply Kd.R_drewN | apply Kd.R_drew)); exact Kd.R_mono (Kd.R_far (p := ⟨L, 1, none⟩) (Kd.R_far (p := ⟨L, 0, none⟩) (Kd.R_types x.out c0.out (by decide)) (fun _ hk => hk.2) (.int .i64 a0)) (fun _ hk => hk.2) (.int .i64 a1)) (fun _ hk => hk.1)⟩
         have g0 : Aside0 (((F.setCell ⟨L, 0, none⟩ (.int .i64 a0)).setCell ⟨L, 1, none⟩ (.int .i64 a1)).heap[a5]? = some (.cells #[.int .i64 d, .slice A c.length z] 29 (0, 0))) := ⟨qf_ j⟩
         have g1 : Aside0 (((F.setCell ⟨L, 0, none⟩ (.int .i64 a0)).setCell ⟨L, 1, none⟩ (.int .i64 a1)).heap[b9]? = some (.cells #[.int .i64 l, .int .i64 m] 43 (0, 0))) := ⟨qf_ q⟩
         have g2 : Aside0 (((F.setCell ⟨L, 0, none⟩ (.int .i64 a0)).setCell ⟨L, 1, none⟩ (.int .i64 a1)).heap[I]? = some (.cells #[.int .i64 h0, .slice none 0 0] 29 (0, 0))) := ⟨qf_ s⟩
         have g3 : Aside0 (((F.setCell ⟨L, 0, none⟩ (.int .i64 a0)).setCell ⟨L, 1, none⟩ (.int .i64 a1)).heap[J]? = some (.cells #[.int .i64 h1, .int .i64 h2] 43 (0, 0))) := ⟨qf_ u⟩
         have g4 : Aside0 (((F.setCell ⟨L, 0, none⟩ (.int .i64 a0)).setCell ⟨L, 1, none⟩ (.int .i64 a1)).heap[X]? = some (.cells #[.int .i64 d, .slice f7 Z.length f8] 29 (0, 0))) := ⟨qf_ y⟩
         have g5 : Aside0 (((F.setCell ⟨L, 0, none⟩ (.int .i64 a0)).setCell ⟨L, 1, none⟩ (.int .i64 a1)).heap[G]? = some (.cells #[.int .i64 b6, .int .i64 b7, .int .i64 a7, .bool a8] 72 (0, 0))) := ⟨qf_ B⟩
         have g6 : Aside0 (((F.setCell ⟨L, 0, none⟩ (.int .i64 a0)).setCell ⟨L, 1, none⟩ (.int .i64 a1)).heap[L]? = some (.cells #[.int .i64 a0, .int .i64 a1] 43 (0, 0))) := ⟨qp_ c0⟩
         have g7 : Aside0 (Below w.heap.size w ((F.setCell ⟨L, 0, none⟩ (.int .i64 a0)).setCell ⟨L, 1, none⟩ (.int .i64 a1))) := ⟨qB_⟩
         clear x j q s u y B c0 HB
         generalize ((F.setCell ⟨L, 0, none⟩ (.int .i64 a0)).setCell ⟨L, 1, none⟩ (.int .i64 a1)) = m5 at f9 g0 g1 g2 g3 g4 g5 g6 g7 ⊢
         have x := f9; have j := g0; have q := g1; have s := g2; have u := g3; have y := g4; have B := g5; have c0 := g6; have HB := g7; clear f9 g0 g1 g2 g3 g4 g5 g6 g7
         replace x := rd_ x; replace j := bd_ j; replace q := bd_ q; replace s := bd_ s; replace u := bd_ u; replace y := bd_ y; replace B := bd_ B; replace c0 := bd_ c0; replace HB := hd_ HB
         refine start_ (n := 6) (S := fun w' => w'.cell? ⟨X, 0, none⟩ = some (.int .i64 d) ∧ w'.cell? ⟨X, 1, none⟩ = some (.slice f7 Z.length f8) ∧ w'.cell? ⟨L, 0, none⟩ = some (.int .i64 a0) ∧ w'.cell? ⟨L, 1, none⟩ = some (.int .i64 a1)) (ds := []) (bm 6 0) (by kernel_rfl) rfl (by kernel_rfl) ⟨bl_ y 0, bl_ y 1, bl_ c0 0, bl_ c0 1⟩ (fun hHeld => ?_)
         generalize m5.drew = b8 at x j q s u y B c0 HB hHeld ⊢
         refine take_ (i := 0) (N := some 74) (v := ?_) (a' := ?_) (bm 6 1) rfl rfl (by kernel_rfl) (fun _ _ _ h => h) (Or.inl ⟨by rfl, ?_⟩) hHeld ?_ ?_
         rotate_left
         ·rintro w' ⟨R7, R8, R9, S0⟩
          go_simp
          with_reducible rfl
         rotate_left
         ·simp only [Act.put, sA_, sB_, sC_, i64_w, i32_w]
          rfl
         refine take_ (i := 1) (N := some 75) (v := ?_) (a' := ?_) (bm 6 3) rfl rfl (by kernel_rfl) (fun _ _ _ h => h) (Or.inl ⟨by rfl, ?_⟩) hHeld ?_ ?_
         rotate_left
         ·rintro w' ⟨R7, R8, R9, S0⟩
          go_simp
          with_reducible rfl
         rotate_left
         ·simp only [Act.put, sA_, sB_, sC_, i64_w, i32_w]
          rfl
         refine one_ (i := 2) (N := none) (bm 6 7) rfl rfl (by kernel_rfl) (by decide) (fun K hK => ?_)
         have z1 : b8.cell? ⟨I, 0, none⟩ = some (.int .i64 h0) := bl_ s 0
         have n2 := blk_frozen s.out 0
         have cu := n7.out; have cv := e6.out; have cw := n0.out; have cx := c9.out; have cy := i0.out; have cz := d8.out; have cA := m6.out; have cB := m7.out; have cC := g8.out; have cD := A6.out; have cE := q5.out; have cF := y7.out
         have z2 : b8.cell? ⟨I, 1, none⟩ = some (.slice none 0 0) := bl_ s 1
         have n3 := blk_frozen s.out 1
         have cG := n7.out; have cH := e6.out; have cI := n0.out; have cJ := c9.out; have cK := i0.out; have cL := d8.out; have cM := m6.out; have cN := m7.out; have cO := g8.out; have cP := A6.out; have cQ := q5.out; have cR := y7.out
         refine skip_ (w1 := ?_) (by rfl) rfl ?_ ?_
         rotate_left
         ·go_simp
          rfl
         refine hK.out _ _ ⟨((cell_far (p := ⟨I, _, none⟩) c9.out _).trans (((cell_far (p := ⟨I, _, none⟩) c9.out _).trans (hHeld.1)))), ((cell_far (p := ⟨I, _, none⟩) c9.out _).trans (((cell_far (p := ⟨I, _, none⟩) c9.out _).trans (hHeld.2.1)))), ((cell_far (p := ⟨I, _, none⟩) d8.out _).trans (((cell_far (p := ⟨I, _, none⟩) d8.out _).trans (hHeld.2.2.1)))), ((cell_far (p := ⟨I, _, none⟩) d8.out _).trans (((cell_far (p := ⟨I, _, none⟩) d8.out _).trans (hHeld.2.2.2))))⟩ (fun hHeld => ?_)
         clear hK K
         refine one_ (i := 3) (N := none) (bm 6 15) rfl rfl (by kernel_rfl) (by decide) (fun K hK => ?_)
         have z3 : b8.cell? ⟨J, 0, none⟩ = some (.int .i64 h1) := bl_ u 0
         have n4 := blk_frozen u.out 0
         have cS := n8.out; have cT := e7.out; have cU := g8.out; have cV := d0.out; have cW := i1.out; have cX := d9.out; have cY := m8.out; have cZ := m9.out; have da := n0.out; have db := A7.out; have dc := q6.out; have dd := y8.out
         have z4 : b8.cell? ⟨J, 1, none⟩ = some (.int .i64 h2) := bl_ u 1
         have n5 := blk_frozen u.out 1
         have de := n8.out; have df := e7.out; have dg := g8.out; have dh := d0.out; have di := i1.out; have dj := d9.out; have dk := m8.out; have dl := m9.out; have dm := n0.out; have dn := A7.out; have dp := q6.out; have dq := y8.out
         refine skip_ (w1 := ?_) (by rfl) rfl ?_ ?_
         rotate_left
         ·go_simp
          rfl
         refine hK.out _ _ ⟨((cell_far (p := ⟨J, _, none⟩) d0.out _).trans (((cell_far (p := ⟨J, _, none⟩) d0.out _).trans (hHeld.1)))), ((cell_far (p := ⟨J, _, none⟩) d0.out _).trans (((cell_far (p := ⟨J, _, none⟩) d0.out _).trans (hHeld.2.1)))), ((cell_far (p := ⟨J, _, none⟩) d9.out _).trans (((cell_far (p := ⟨J, _, none⟩) d9.out _).trans (hHeld.2.2.1)))), ((cell_far (p := ⟨J, _, none⟩) d9.out _).trans (((cell_far (p := ⟨J, _, none⟩) d9.out _).trans (hHeld.2.2.2))))⟩ (fun hHeld => ?_)
         clear hK K
         refine pure_ (i := 4) (N := some 6) (v := ?_) (a' := ?_) (bm 6 31) rfl rfl (by kernel_rfl) (fun _ _ _ h => h) (Or.inl ⟨by rfl, ?_⟩) ?_ ?_
         rotate_left
         ·intro w'
          go_simp
          with_reducible rfl
         rotate_left
         ·simp only [Act.put, sA_, sB_, sC_, i64_w, i32_w]
          rfl
         refine pure_ (i := 5) (N := some 7) (v := ?_) (a' := ?_) (bm 6 63) rfl rfl (by kernel_rfl) (fun _ _ _ h => h) (Or.inl ⟨by rfl, ?_⟩) ?_ ?_
         rotate_left
         ·intro w'
          go_simp
          with_reducible rfl
         rotate_left
         ·simp only [Act.put, sA_, sB_, sC_, i64_w, i32_w]
          rfl
         refine done_ (by kernel_rfl) ?_
         try go_wp2
         refine bodyPost_ret (results_list (rs := [.cell 4 29, .cell 5 43, .tmp 6, .tmp 7]) rfl (by simp) (.cell I 29 #[.int .i64 d, .slice f7 Z.length f8] (0, 0) _ rfl (qp_ s) Try.underlying29 rfl (by kernel_rfl) (.cell J 43 #[.int .i64 a0, .int .i64 a1] (0, 0) _ rfl (qp_ u) Try.underlying43 rfl (by kernel_rfl) (.tmp (.tmp .nil))))) rfl ?_
         exact ⟨_, qr_, by (with_reducible repeat (first | apply Kd.R_alloc | apply Kd.R_drewN | apply Kd.R_drew)); exact Kd.R_mono (Kd.R_far (p := ⟨J, 1, none⟩) (Kd.R_far (p := ⟨J, 0, none⟩) (Kd.R_far (p := ⟨I, 1, none⟩) (Kd.R_far (p := ⟨I, 0, none⟩) (Kd.R_types (Kd.R_types x.out s.out (by decide)) u.out (by decide)) (fun _ hk => hk.1.2) (.int .i64 d)) (fun _ hk => hk.1.2) (.slice f7 Z.length f8)) (fun _ hk => hk.2) (.int .i64 a0)) (fun _ hk => hk.2) (.int .i64 a1)) (fun _ hk => trivial), qB_⟩
end Go.Proofs.Ytbkklafkoegdpaa.QFnExactWebTake
