import Derived.Test.YtacnlodcbbhahaaQFnActsx9
import Derived.Test.YtacnlodcbbhahaaQFnActsx10
import Derived.Test.YtacnlodcbbhahaaQFnActsx11
import Derived.Test.YtacnlodcbbhahaaQFnActsx12
namespace Go.Proofs.Ytacnlodcbbhahaa.QFnActs
open Go.RowKit Go.Proofs.YtacnlodcbbhahaaW.PrintWords Go.Proofs.YtacnlodcbbhahaaW.PrintLast Go.Proofs.YtacnlodcbbhahaaW.PrintMore
set_option maxHeartbeats 8000000
set_option maxRecDepth 100000
set_option linter.unusedVariables false
set_option linter.unusedSimpArgs false
mutual
def spec_DoAct.j0 : Nat → Bool → List (S99) → Int → ByteArray → ByteArray → ByteArray → Option ((List (S99)) × Bool)
  | 0, _, _, _, _, _, _ => none
  | k + 1, x37, x180000, x181000, x181001, x181002, x181003 => if x37 = true then (some (([] : List (S99)), false)) else ((spec_l03At.f k x180000 x181001).bind fun t184 => (if t184 ≥ 0 then (if 0 ≤ t184 then (if t184 < (x180000.length : Int) then (spec_DoAct.j1 k t184 x180000 x181000 x181001 x181002 x181003 ((rd_T99 x180000 t184).f0) ((rd_T99 x180000 t184).f1) ((rd_T99 x180000 t184).f2)) else (none)) else (none)) else (spec_DoAct.j1 k t184 x180000 x181000 x181001 x181002 x181003 x181001 (⟨#[]⟩ : ByteArray) 0)))
def spec_DoAct.j1 : Nat → Int → List (S99) → Int → ByteArray → ByteArray → ByteArray → ByteArray → ByteArray → Int → Option ((List (S99)) × Bool)
  | 0, _, _, _, _, _, _, _, _, _ => none
  | k + 1, x6, x180000, x181000, x181001, x181002, x181003, x186000, x186001, x186002 => if x181000 = 1 then (if x186001.size + x181002.size ≤ 9223372036854775807 then ((spec_l03Put.f k x180000 x186000 (x186001 ++ x181002) x186002).bind fun t188 => ((spec_DiskOk.f k t188).bind fun t191 => (if t191 = true then (some (t188, true)) else (some (([] : List (S99)), false))))) else (none)) else (if x6 < 0 then (some (([] : List (S99)), false)) else (if x181000 = 2 then ((spec_l03Put.f k x180000 x186000 x186001 (x186001.size : Int)).bind fun t192 => ((spec_DiskOk.f k t192).bind fun t195 => (if t195 = true then (some (t192, true)) else (some (([] : List (S99)), false))))) else (if x181000 = 3 then (if x186002 < (x186001.size : Int) then (spec_DoAct.j2 k true x180000 x181000 x181001 x181002 x181003 x186000 x186001 x186002) else (if x181003.toList = x181001.toList then (spec_DoAct.j2 k true x180000 x181000 x181001 x181002 x181003 x186000 x186001 x186002) else ((spec_l03Name.f x181003).bind fun t196 => (spec_DoAct.j2 k (!t196) x180000 x181000 x181001 x181002 x181003 x186000 x186001 x186002)))) else (if x181000 = 4 then ((spec_l03Without.f k x180000 x181001).bind fun t204 => ((spec_DiskOk.f k t204).bind fun t207 => (if t207 = true then (some (t204, true)) else (some (([] : List (S99)), false))))) else (some (([] : List (S99)), false))))))
def spec_DoAct.j2 : Nat → Bool → List (S99) → Int → ByteArray → ByteArray → ByteArray → ByteArray → ByteArray → Int → Option ((List (S99)) × Bool)
  | 0, _, _, _, _, _, _, _, _, _ => none
  | k + 1, x105, x180000, x181000, x181001, x181002, x181003, x186000, x186001, x186002 => if x105 = true then (some (([] : List (S99)), false)) else ((spec_l03Without.f k x180000 x181001).bind fun t197 => ((spec_l03Put.f k t197 x181003 x186001 x186002).bind fun t200 => ((spec_DiskOk.f k t200).bind fun t203 => (if t203 = true then (some (t200, true)) else (some (([] : List (S99)), false))))))
end
def spec_DoAct.f (k : Nat) (l0_0 : List (S99)) (a1_0 : Int) (a1_1 : ByteArray) (a1_2 : ByteArray) (a1_3 : ByteArray) : Option ((List (S99)) × Bool) := (spec_DiskOk.f k l0_0).bind fun t182 => (if t182 = true then ((spec_l03Name.f a1_1).bind fun t183 => (if t183 = true then (if a1_0 = 3 then (if a1_0 = 1 then (spec_DoAct.j0 k false l0_0 a1_0 a1_1 a1_2 a1_3) else (spec_DoAct.j0 k (a1_2.toList != ([] : List UInt8)) l0_0 a1_0 a1_1 a1_2 a1_3)) else (if a1_3.toList = ([] : List UInt8) then (if a1_0 = 1 then (spec_DoAct.j0 k false l0_0 a1_0 a1_1 a1_2 a1_3) else (spec_DoAct.j0 k (a1_2.toList != ([] : List UInt8)) l0_0 a1_0 a1_1 a1_2 a1_3)) else (spec_DoAct.j0 k true l0_0 a1_0 a1_1 a1_2 a1_3))) else (spec_DoAct.j0 k true l0_0 a1_0 a1_1 a1_2 a1_3))) else (spec_DoAct.j0 k true l0_0 a1_0 a1_1 a1_2 a1_3))
theorem spec_DoAct.calls (k : Nat) (z : Option Addr) (A : Nat) (a : List (S99)) (l : Int) (m : ByteArray) (y : ByteArray) (d : ByteArray) (i6 : List (S99)) (i7 : Bool) (w : World) (hr0_0 : Kd.C k99 w z a.length a) (hc0_0 : a.length ≤ A) (h : spec_DoAct.f k a l m y d = some (i6, i7)) :
  Calls Try.prog 38 #[.agg #[.slice z a.length A], .agg #[.int .i64 l, .string m, .string y, .string d]] w fun e w' => ∃ j7 : Value, e = .returned (.tuple #[.agg #[j7], .bool i7]) ∧ Kd.R k99 99 w' w.heap.size (fun _ => True) j7 i6 ∧ Below w.heap.size w w' := by
 have hu44 := Try.underlying44; have hu60 := Try.underlying60; have hu99 := Try.underlying99
 have B := am_ hr0_0
 have D := am_ hc0_0
 clear hr0_0 hc0_0
 have HB := am_ (Below.refl w.heap.size w)
 have H : ((spec_DiskOk.f k a).bind fun A4 => (if A4 = true then ((spec_l03Name.f m).bind fun A5 => (if A5 = true then (if l = 3 then (if l = 1 then (spec_DoAct.j0 k false a l m y d) else (spec_DoAct.j0 k (y.toList != ([] : List UInt8)) a l m y d)) else (if d.toList = ([] : List UInt8) then (if l = 1 then (spec_DoAct.j0 k false a l m y d) else (spec_DoAct.j0 k (y.toList != ([] : List UInt8)) a l m y d)) else (spec_DoAct.j0 k true a l m y d))) else (spec_DoAct.j0 k true a l m y d))) else (spec_DoAct.j0 k true a l m y d))) = some (i6, i7) := h
 clear h
 have p2 := am_ H
 clear H
 go_enter Try.func38, Try.ntmps38
 go_upto_region 1 with (first | ((with_reducible refine gd_ 2 ?_); refine by_ 2 (cs := #[.slice z a.length A]) (t := 44) ?_; intro h7 hg hq s hb; have hr := gw_ hg; replace HB := hs_ hb; clear hb hg) | ((with_reducible refine gd_ 3 ?_); refine by_ 3 (cs := #[.int .i64 l, .string m, .string y, .string d]) (t := 60) ?_; intro e5 hg hs j hb; have ht := gw_ hg; obtain ⟨g9, e6⟩ := qn_ s hg; replace s := qbl_ s hb; replace HB := hs_ hb; clear hb hg) | ((with_reducible refine gd_ 4 ?_); refine by_ 4 (cs := #[.slice none 0 0]) (t := 44) ?_; intro Z hg hu q hb; have hv := gw_ hg; obtain ⟨c5, i8⟩ := qn_ s hg; obtain ⟨a3, A6⟩ := qn_ j hg; replace s := qbl_ s hb; replace j := qbl_ j hb; replace HB := hs_ hb; clear hb hg))
 (try simp only [Act.put, sA_, sB_, sC_])
 go_cut [37] (fun v37 wc => ∃ (kq : Nat) (c6 : Bool), v37 = .bool c6 ∧ Aside0 (spec_DoAct.j0 kq c6 a l m y d = some (i6, i7)) ∧ Aside0 (kq ≤ k) ∧ Aside0 (wc.heap[h7]? = some (.cells #[(.slice z a.length A)] 44 (0, 0))) ∧ Aside0 (wc.heap[e5]? = some (.cells #[.int .i64 l, .string m, .string y, .string d] 60 (0, 0))) ∧ Aside0 (wc.heap[Z]? = some (.cells #[(.slice none 0 0)] 44 (0, 0))) ∧ Aside0 (Below w.heap.size w wc))
 case first =>
  have H := p2.out; clear p2
  obtain ⟨A4, h8, H⟩ := bs_ H
  refine id_ H ?_ ?_ <;> clear H <;> rintro rfl H
  ·have H' := am_ H; clear H; obtain ⟨Q7, Q8⟩ := nn_ g9; obtain ⟨Q9, R0⟩ := nn_ c5
   obtain ⟨p3, p4⟩ := bc1_ s
   go_wp2_with (first | ((with_reducible refine gc_ 75 ?_); refine gl_ (some 10) Try.func75 #[.agg #[.slice z a.length A]] ?_; (with_reducible refine (spec_DiskOk.calls k _ _ a false _ ?_ ?_ h8.out).mono ?_); exact qC_ B HB; exact D.out; rintro e R1 ⟨rfl, hb⟩; refine ⟨_, rfl, ?_⟩; replace s := qbl_ s hb; replace j := qbl_ j hb; replace q := qbl_ q hb; replace HB := hs_ hb; clear hb))
   go_meet
   case rel => exact ⟨_, (true), qe_, H', ⟨qo_⟩, ⟨qk_ s⟩, ⟨qk_ j⟩, ⟨qk_ q⟩, ⟨qB_⟩⟩
  obtain ⟨A5, i9, H⟩ := bs_ H
  refine id_ H ?_ ?_ <;> clear H <;> rintro rfl H
  ·have H' := am_ H; clear H; obtain ⟨R2, R3⟩ := nn_ g9; obtain ⟨R4, R5⟩ := nn_ c5
   obtain ⟨p5, p6⟩ := bc1_ s
   go_wp2_with (first | ((with_reducible refine gc_ 75 ?_); refine gl_ (some 10) Try.func75 #[.agg #[.slice z a.length A]] ?_; (with_reducible refine (spec_DiskOk.calls k _ _ a true _ ?_ ?_ h8.out).mono ?_); exact qC_ B HB; exact D.out; rintro e R6 ⟨rfl, hb⟩; refine ⟨_, rfl, ?_⟩; replace s := qbl_ s hb; replace j := qbl_ j hb; replace q := qbl_ q hb; replace HB := hs_ hb; clear hb; obtain ⟨R7, R8⟩ := nn_ a3; obtain ⟨p7, p8, p9, q0, q1, q2, q3, q4⟩ := bc4_ j) | (go_at_call 82; (with_reducible refine (spec_l03Name.calls m false _ i9.out).mono ?_); rintro e w' ⟨rfl, ⟨nd, rfl⟩⟩))
   go_meet
   case rel => exact ⟨_, (true), qe_, H', ⟨qo_⟩, ⟨qk_ s⟩, ⟨qk_ j⟩, ⟨qk_ q⟩, ⟨qB_⟩⟩
  refine jc_ H ?_ ?_ <;> clear H <;> intro b6 H
  ·have I : (l == 3) = true := beq_iff_eq.mpr b6
   have M : (l != 3) = false := bne_eq_false_iff_eq.mpr b6
   clear b6
   (first | rw [I] | rw [M] | (simp only [i64_w, i32_w]; rw [I]) | skip)
   refine jc_ H ?_ ?_ <;> clear H <;> intro b7 H
   ·have a7 : (l == 1) = true := beq_iff_eq.mpr b7
    have a8 : (l != 1) = false := bne_eq_false_iff_eq.mpr b7
    clear b7; have H' := am_ H; clear H; obtain ⟨R9, S0⟩ := nn_ g9; obtain ⟨S1, S2⟩ := nn_ c5
    obtain ⟨q5, q6⟩ := bc1_ s
    go_wp2_with (first | ((with_reducible refine gc_ 75 ?_); refine gl_ (some 10) Try.func75 #[.agg #[.slice z a.length A]] ?_; (with_reducible refine (spec_DiskOk.calls k _ _ a true _ ?_ ?_ h8.out).mono ?_); exact qC_ B HB; exact D.out; rintro e S3 ⟨rfl, hb⟩; refine ⟨_, rfl, ?_⟩; replace s := qbl_ s hb; replace j := qbl_ j hb; replace q := qbl_ q hb; replace HB := hs_ hb; clear hb; obtain ⟨S4, S5⟩ := nn_ a3; obtain ⟨q7, q8, q9, r0, r1, r2, r3, r4⟩ := bc4_ j) | (go_at_call 82; (with_reducible refine (spec_l03Name.calls m true _ i9.out).mono ?_); rintro e w' ⟨rfl, ⟨nd, rfl⟩⟩))
    go_meet
    case rel => exact ⟨_, (false), qe_, H', ⟨qo_⟩, ⟨qk_ s⟩, ⟨qk_ j⟩, ⟨qk_ q⟩, ⟨qB_⟩⟩
   have a7 : (l == 1) = false := beq_eq_false_iff_ne.mpr b7
   have a8 : (l != 1) = true := bne_iff_ne.mpr b7
   have H' := am_ H; clear H; obtain ⟨S6, S7⟩ := nn_ g9; obtain ⟨S8, S9⟩ := nn_ c5
   obtain ⟨r5, r6⟩ := bc1_ s
   go_wp2_with (first | ((with_reducible refine gc_ 75 ?_); refine gl_ (some 10) Try.func75 #[.agg #[.slice z a.length A]] ?_; (with_reducible refine (spec_DiskOk.calls k _ _ a true _ ?_ ?_ h8.out).mono ?_); exact qC_ B HB; exact D.out; rintro e T1 ⟨rfl, hb⟩; refine ⟨_, rfl, ?_⟩; replace s := qbl_ s hb; replace j := qbl_ j hb; replace q := qbl_ q hb; replace HB := hs_ hb; clear hb; obtain ⟨T8, T9⟩ := nn_ a3; obtain ⟨r7, r8, r9, s0, s1, s2, s3, s4⟩ := bc4_ j) | (go_at_call 82; (with_reducible refine (spec_l03Name.calls m true _ i9.out).mono ?_); rintro e w' ⟨rfl, ⟨nd, rfl⟩⟩))
   go_meet
   case rel => exact ⟨_, ((y.toList != ([] : List UInt8))), qe_, H', ⟨qo_⟩, ⟨qk_ s⟩, ⟨qk_ j⟩, ⟨qk_ q⟩, ⟨qB_⟩⟩
  have I : (l == 3) = false := beq_eq_false_iff_ne.mpr b6
  have M : (l != 3) = true := bne_iff_ne.mpr b6
  (first | rw [I] | rw [M] | (simp only [i64_w, i32_w]; rw [I]) | skip)
  refine jb_ H ?_ ?_ <;> clear H <;> intro b8 H
  ·have a9 : (d.toList == ([] : List UInt8)) = false := beq_eq_false_iff_ne.mpr b8
   have b0 : (d.toList != ([] : List UInt8)) = true := bne_iff_ne.mpr b8
   have H' := am_ H; clear H; obtain ⟨U0, U1⟩ := nn_ g9; obtain ⟨U2, U3⟩ := nn_ c5
   obtain ⟨s5, s6⟩ := bc1_ s
   go_wp2_with (first | ((with_reducible refine gc_ 75 ?_); refine gl_ (some 10) Try.func75 #[.agg #[.slice z a.length A]] ?_; (with_reducible refine (spec_DiskOk.calls k _ _ a true _ ?_ ?_ h8.out).mono ?_); exact qC_ B HB; exact D.out; rintro e U4 ⟨rfl, hb⟩; refine ⟨_, rfl, ?_⟩; replace s := qbl_ s hb; replace j := qbl_ j hb; replace q := qbl_ q hb; replace HB := hs_ hb; clear hb; obtain ⟨U5, U6⟩ := nn_ a3; obtain ⟨s7, s8, s9, t0, l0, l1, t1, t2⟩ := bc4_ j) | (go_at_call 82; (with_reducible refine (spec_l03Name.calls m true _ i9.out).mono ?_); rintro e w' ⟨rfl, ⟨nd, rfl⟩⟩))
   go_meet
   case rel => exact ⟨_, (true), qe_, H', ⟨qo_⟩, ⟨qk_ s⟩, ⟨qk_ j⟩, ⟨qk_ q⟩, ⟨qB_⟩⟩
  have a9 : (d.toList == ([] : List UInt8)) = true := beq_iff_eq.mpr b8
  have b0 : (d.toList != ([] : List UInt8)) = false := bne_eq_false_iff_eq.mpr b8
  clear b8
  refine jc_ H ?_ ?_ <;> clear H <;> intro b9 H
  ·have b1 : (l == 1) = true := beq_iff_eq.mpr b9
   have b2 : (l != 1) = false := bne_eq_false_iff_eq.mpr b9
   clear b9; have H' := am_ H; clear H; obtain ⟨U7, U8⟩ := nn_ g9; obtain ⟨U9, V0⟩ := nn_ c5
   obtain ⟨t3, t4⟩ := bc1_ s
   go_wp2_with (first | ((with_reducible refine gc_ 75 ?_); refine gl_ (some 10) Try.func75 #[.agg #[.slice z a.length A]] ?_; (with_reducible refine (spec_DiskOk.calls k _ _ a true _ ?_ ?_ h8.out).mono ?_); exact qC_ B HB; exact D.out; rintro e V1 ⟨rfl, hb⟩; refine ⟨_, rfl, ?_⟩; replace s := qbl_ s hb; replace j := qbl_ j hb; replace q := qbl_ q hb; replace HB := hs_ hb; clear hb; obtain ⟨V2, V3⟩ := nn_ a3; obtain ⟨t5, t6, t7, t8, t9, w0, w2, w3⟩ := bc4_ j) | (go_at_call 82; (with_reducible refine (spec_l03Name.calls m true _ i9.out).mono ?_); rintro e w' ⟨rfl, ⟨nd, rfl⟩⟩))
   go_meet
   case rel => exact ⟨_, (false), qe_, H', ⟨qo_⟩, ⟨qk_ s⟩, ⟨qk_ j⟩, ⟨qk_ q⟩, ⟨qB_⟩⟩
  have b1 : (l == 1) = false := beq_eq_false_iff_ne.mpr b9
  have b2 : (l != 1) = true := bne_iff_ne.mpr b9
  have H' := am_ H; clear H; obtain ⟨V4, V5⟩ := nn_ g9; obtain ⟨V6, V7⟩ := nn_ c5
  obtain ⟨w4, w5⟩ := bc1_ s
  go_wp2_with (first | ((with_reducible refine gc_ 75 ?_); refine gl_ (some 10) Try.func75 #[.agg #[.slice z a.length A]] ?_; (with_reducible refine (spec_DiskOk.calls k _ _ a true _ ?_ ?_ h8.out).mono ?_); exact qC_ B HB; exact D.out; rintro e V8 ⟨rfl, hb⟩; refine ⟨_, rfl, ?_⟩; replace s := qbl_ s hb; replace j := qbl_ j hb; replace q := qbl_ q hb; replace HB := hs_ hb; clear hb; obtain ⟨V9, W0⟩ := nn_ a3; obtain ⟨w6, w7, w8, w9, x0, x1, x2, x3⟩ := bc4_ j) | (go_at_call 82; (with_reducible refine (spec_l03Name.calls m true _ i9.out).mono ?_); rintro e w' ⟨rfl, ⟨nd, rfl⟩⟩))
  go_meet
  case rel => exact ⟨_, ((y.toList != ([] : List UInt8))), qe_, H', ⟨qo_⟩, ⟨qk_ s⟩, ⟨qk_ j⟩, ⟨qk_ q⟩, ⟨qB_⟩⟩
 case rest =>
  clear p2
  obtain ⟨kq, c6, rfl, HA, m2, s, j, q, HB⟩ := hcut
  cases kq with
  | zero => exact absurd HA.out (by simp [spec_DoAct.j0])
  | succ kj2 =>
   have H := HA.out; clear HA
   simp only [spec_DoAct.j0] at H
   refine ie_ H ?_ ?_ <;> clear H <;> rintro rfl H
   ·simp only [Option.some.injEq, Prod.mk.injEq] at H
    obtain ⟨rfl, rfl⟩ := H
    obtain ⟨W1, W2⟩ := nn_ i8; obtain ⟨W3, W4⟩ := nn_ A6
    obtain ⟨C1, C2⟩ := bc1_ q
    go_wp2
    refine bodyPost_ret (results_ct rfl _ _ Z 44 #[.slice none 0 0] (0, 0) _ rfl (qp_ q) Try.underlying44 rfl (by kernel_rfl)) rfl ?_
    exact ⟨_, qr_, by first | exact Kd.R_nil _ _ _ _ _ | exact Kd.N_nil _ _ _ _ _ | exact Kd.V_nil _ _ _ _ _ | exact Kd.Q_nil _ _ _ _ _ | exact Kd.S_nil _ _ _ _ _, qB_⟩
   obtain ⟨g5, x4, H⟩ := bs_ H
   have x5 := am_ H
   clear H; obtain ⟨W5, W6⟩ := nn_ g9; obtain ⟨W7, W8⟩ := nn_ c5
   obtain ⟨C3, C4⟩ := bc1_ s
   obtain ⟨W9, X0⟩ := nn_ a3
   obtain ⟨C5, C6, C7, C8, C9, D0, D1, D2⟩ := bc4_ j
   go_upto_if 47 with (first | ((with_reducible refine gc_ 83 ?_); refine gl_ (some 42) Try.func83 #[.agg #[.slice z a.length A], .string m] ?_; (with_reducible refine (spec_l03At.calls kj2 _ _ a m g5 _ ?_ ?_ x4.out).mono ?_); exact qC_ B HB; exact D.out; rintro e X1 ⟨rfl, hb⟩; refine ⟨_, rfl, ?_⟩; replace s := qbl_ s hb; replace j := qbl_ j hb; replace q := qbl_ q hb; replace HB := hs_ hb; clear hb; obtain ⟨D3, D4, D5, D6, D7, D8, D9, E0⟩ := bc4_ j) | ((with_reducible refine gd_ 7 ?_); refine by_ 7 (cs := #[.string (⟨#[]⟩ : ByteArray), .string (⟨#[]⟩ : ByteArray), .int .i64 0]) (t := 99) ?_; intro F hg X2 u hb; have x6 := gw_ hg; obtain ⟨x7, g6⟩ := qn_ s hg; obtain ⟨f8, m3⟩ := qn_ j hg; obtain ⟨m4, f9⟩ := qn_ q hg; replace s := qbl_ s hb; replace j := qbl_ j hb; replace q := qbl_ q hb; replace HB := hs_ hb; clear hb hg; obtain ⟨X3, X4⟩ := nn_ g6; obtain ⟨X5, X6⟩ := nn_ m3; obtain ⟨X7, X8⟩ := nn_ f9; obtain ⟨E1, E2, E3, E4, E5, E6⟩ := bc3_ u))
   go_cut [] (fun wc => ∃ (kq : Nat) (T : ByteArray) (G : ByteArray) (U : Int), Aside0 (spec_DoAct.j1 kq g5 a l m y d T G U = some (i6, i7)) ∧ Aside0 (kq ≤ kj2) ∧ Aside0 (wc.heap[h7]? = some (.cells #[(.slice z a.length A)] 44 (0, 0))) ∧ Aside0 (wc.heap[e5]? = some (.cells #[.int .i64 l, .string m, .string y, .string d] 60 (0, 0))) ∧ Aside0 (wc.heap[Z]? = some (.cells #[(.slice none 0 0)] 44 (0, 0))) ∧ Aside0 (wc.heap[F]? = some (.cells #[.string T, .string G, .int .i64 U] 99 (0, 0))) ∧ Aside0 (Below w.heap.size w wc))
   case first =>
    have H := x5.out; clear x5
    refine jb_ H ?_ ?_ <;> clear H <;> intro e7 H
    ·have J : decide (0 ≤ g5) = false := decide_eq_false e7
     clear e7
     (first | rw [J] | (simp only [i64_w, i32_w]; rw [J]) | skip)
     have H' := am_ H; clear H
     go_wp2
     go_meet
     case rel => exact ⟨_, (m), ((⟨#[]⟩ : ByteArray)), (0), H', ⟨by have := m2.out; first | omega | exact Nat.le_refl _⟩, ⟨qf_ s⟩, ⟨qf_ j⟩, ⟨qf_ q⟩, ⟨qp_ u⟩, ⟨qB_⟩⟩
    have J : decide (0 ≤ g5) = true := decide_eq_true e7
    clear e7
    (first | rw [J] | (simp only [i64_w, i32_w]; rw [J]) | skip)
    refine ig_ H ?_; clear H; intro g0 H
    refine ig_ H ?_; clear H; intro g1 H
    have H' := am_ H; clear H; obtain ⟨X9, Y0⟩ := nn_ g9; obtain ⟨Y1, Y2⟩ := nn_ c5; obtain ⟨Y3, Y4⟩ := nn_ x7
    obtain ⟨E7, E8⟩ := bc1_ s
    have d7 := dt_ g5
    have d8 := du_ g5 a.length
    obtain ⟨c7, m5, e8, g7, g8⟩ := at_T99 B.out g5 (ot_ d7) (ot_ d8)
    cases m5
    have hn186_0 : c7.block ≠ F := Nat.ne_of_lt (Nat.lt_of_lt_of_le (by have := World.block_lt_of_cell? _ _ e8; first | rwa [add_block] at this | exact this) x6.out)
    have hn186_1 : c7.block ≠ F := Nat.ne_of_lt (Nat.lt_of_lt_of_le (by have := World.block_lt_of_cell? _ _ e8; first | rwa [add_block] at this | exact this) x6.out)
    have hn186_2 : c7.block ≠ F := Nat.ne_of_lt (Nat.lt_of_lt_of_le (by have := World.block_lt_of_cell? _ _ e8; first | rwa [add_block] at this | exact this) x6.out)
    replace e8 := qx_ HB e8
    replace g7 := qx_ HB g7
    replace g8 := qx_ HB g8
    replace e8 := (cell_far (p := ⟨F, 0, none⟩) (by first | (rw [add_block]; exact hn186_0) | (show (Addr.add _ _).block ≠ _; rw [add_block]; exact hn186_0) | exact hn186_0) (.string m)).trans e8
    replace g7 := (cell_far (p := ⟨F, 0, none⟩) (by first | (rw [add_block]; exact hn186_0) | (show (Addr.add _ _).block ≠ _; rw [add_block]; exact hn186_0) | exact hn186_0) (.string m)).trans g7
    replace g8 := (cell_far (p := ⟨F, 0, none⟩) (by first | (rw [add_block]; exact hn186_0) | (show (Addr.add _ _).block ≠ _; rw [add_block]; exact hn186_0) | exact hn186_0) (.string m)).trans g8
    replace e8 := (cell_far (p := ⟨F, 1, none⟩) (by first | (rw [add_block]; exact hn186_1) | (show (Addr.add _ _).block ≠ _; rw [add_block]; exact hn186_1) | exact hn186_1) (.string (⟨#[]⟩ : ByteArray))).trans e8
    replace g7 := (cell_far (p := ⟨F, 1, none⟩) (by first | (rw [add_block]; exact hn186_1) | (show (Addr.add _ _).block ≠ _; rw [add_block]; exact hn186_1) | exact hn186_1) (.string (⟨#[]⟩ : ByteArray))).trans g7
    replace g8 := (cell_far (p := ⟨F, 1, none⟩) (by first | (rw [add_block]; exact hn186_1) | (show (Addr.add _ _).block ≠ _; rw [add_block]; exact hn186_1) | exact hn186_1) (.string (⟨#[]⟩ : ByteArray))).trans g8
    replace e8 := (cell_far (p := ⟨F, 2, none⟩) (by first | (rw [add_block]; exact hn186_2) | (show (Addr.add _ _).block ≠ _; rw [add_block]; exact hn186_2) | exact hn186_2) (.int .i64 0)).trans e8
    replace g7 := (cell_far (p := ⟨F, 2, none⟩) (by first | (rw [add_block]; exact hn186_2) | (show (Addr.add _ _).block ≠ _; rw [add_block]; exact hn186_2) | exact hn186_2) (.int .i64 0)).trans g7
    replace g8 := (cell_far (p := ⟨F, 2, none⟩) (by first | (rw [add_block]; exact hn186_2) | (show (Addr.add _ _).block ≠ _; rw [add_block]; exact hn186_2) | exact hn186_2) (.int .i64 0)).trans g8
    clear hn186_0 hn186_1 hn186_2; obtain ⟨Y5, Y6⟩ := nn_ m3; obtain ⟨Y7, Y8⟩ := nn_ f9
    obtain ⟨E9, F0, F1, F2, F3, F4⟩ := bc3_ u
    go_wp2
    go_meet
    case rel => exact ⟨_, ((rd_T99 a g5).f0), ((rd_T99 a g5).f1), ((rd_T99 a g5).f2), H', ⟨by have := m2.out; first | omega | exact Nat.le_refl _⟩, ⟨qf_ s⟩, ⟨qf_ j⟩, ⟨qf_ q⟩, ⟨qp_ u⟩, ⟨qB_⟩⟩
   case rest =>
    clear x5 C3 C5 C6 C7 C8 D3 D4 D5 D6 E1 E2 E3 C4 C9 D0 D1 D2 D7 D8 D9 E0 E4 E5 E6
    obtain ⟨kq, T, G, U, HA, z4, s, j, q, u, HB⟩ := hcut
    cases kq with
    | zero => exact absurd HA.out (by simp [spec_DoAct.j1])
    | succ kj59 =>
     have H := HA.out; clear HA
     simp only [spec_DoAct.j1] at H
     refine jc_ H ?_ ?_ <;> clear H <;> intro e9 H
     ·have g2 : (l == 1) = true := beq_iff_eq.mpr e9
      have g3 : (l != 1) = false := bne_eq_false_iff_eq.mpr e9
      clear e9
      refine jg_ H ?_; clear H; intro h0 H
      have h9 := eq_true h0
      have i0 := decide_eq_true h0
      try have i1 : (9223372036854775807 < G.size + y.size) = False := eq_false (Nat.not_lt.2 h0)
      obtain ⟨c2, m8, H⟩ := bs_ H
      obtain ⟨hx, m9, H⟩ := bs_ H
      refine ie_ H ?_ ?_ <;> clear H <;> rintro rfl H
      ·simp only [Option.some.injEq, Prod.mk.injEq] at H
       obtain ⟨rfl, rfl⟩ := H
       go_wp2_with (first | ((with_reducible refine gd_ 8 ?_); refine by_ 8 (cs := #[.slice none 0 0]) (t := 44) ?_; intro E hg Z1 x hb; have h4 := gw_ hg; obtain ⟨f3, a0⟩ := qn_ s hg; obtain ⟨Y, b3⟩ := qn_ j hg; obtain ⟨g4, a1⟩ := qn_ q hg; obtain ⟨a2, b4⟩ := qn_ u hg; replace s := qbl_ s hb; replace j := qbl_ j hb; replace q := qbl_ q hb; replace u := qbl_ u hb; replace HB := hs_ hb; clear hb hg; obtain ⟨Z2, Z3⟩ := nn_ a0; obtain ⟨Z4, Z5⟩ := nn_ b3; obtain ⟨Z6, Z7⟩ := nn_ a1; obtain ⟨Z8, Z9⟩ := nn_ b4; obtain ⟨aa, ab⟩ := bc1_ x; obtain ⟨ac, ad⟩ := nn_ e6; obtain ⟨ae, af⟩ := nn_ a3; obtain ⟨ag, ah⟩ := nn_ f8; obtain ⟨ai, aj, ak, al, am, an, ao, ap⟩ := bc4_ j; obtain ⟨aq, ar⟩ := nn_ g6; obtain ⟨au, av⟩ := nn_ f9; obtain ⟨aw, ax, ay, az, aA, aB⟩ := bc3_ u; obtain ⟨hy, hz⟩ := nn_ c5; obtain ⟨aC, aD⟩ := bc1_ s) | ((with_reducible refine gc_ 84 ?_); refine gl_ (some 67) Try.func84 #[.agg #[.slice z a.length A], .agg #[.string T, .string (G ++ y), .int .i64 U]] ?_; (with_reducible refine (spec_l03Put.calls kj59 _ _ a T (G ++ y) U c2 _ ?_ ?_ m8.out).mono ?_); exact Kd.C_below B.out qB_; exact D.out; rintro e F7 ⟨aE, rfl, ho0, hb⟩; refine ⟨_, rfl, ?_⟩; have f4 := am_ (Kd.R_lower (Kd.R_newB ho0 (g := F) (o := .cells #[.string T, .string (G ++ y), .int .i64 U] 99 (0, 0)) (qp_ u)) (below_size qB_)); replace s := qbl_ s hb; replace j := qbl_ j hb; replace q := qbl_ q hb; replace u := am_ (blk_below (g := F) (o := .cells #[.string T, .string (G ++ y), .int .i64 U] 99 (0, 0)) (qp_ u) hb); replace x := am_ (blk_below (g := E) (o := .cells #[.slice none 0 0] 44 (0, 0)) (qp_ x) hb); replace HB := hs_ hb; clear hb ho0; obtain ⟨j3, i2, aF⟩ := Kd.R_slice f4.out; subst aF; obtain ⟨aG, aH⟩ := bc1_ x) | ((with_reducible refine gc_ 75 ?_); refine gl_ (some 125) Try.func75 #[.agg #[.slice j3 c2.length i2]] ?_; (with_reducible refine (spec_DiskOk.calls kj59 _ _ c2 true _ ?side1 ?side2 m9.out).mono ?_); (case side1 => refine (Kd.R_reads' (e := 99) (base := w.heap.size) (ok := fun k_ => (True ∧ k_ ≠ F)) (n := c2.length) (c := i2) ?_).2.2; exact (by (with_reducible repeat (first | apply Kd.R_alloc | apply Kd.R_drewN | apply Kd.R_drew)); exact (Kd.R_mono (Kd.R_far (p := ⟨E, 0, none⟩) (Kd.R_types f4.out x.out (by decide)) (fun _ hk => hk.2) (.slice j3 c2.length i2)) (fun _ h_ => h_.1)))); (case side2 => exact (Kd.R_reads' f4.out).2.1); rintro e F8 ⟨rfl, hb⟩; refine ⟨_, rfl, ?_⟩; replace f4 := am_ (Kd.R_below (by (with_reducible repeat (first | apply Kd.R_alloc | apply Kd.R_drewN | apply Kd.R_drew)); exact (Kd.R_mono (Kd.R_far (p := ⟨E, 0, none⟩) (Kd.R_types f4.out x.out (by decide)) (fun _ hk => hk.2) (.slice j3 c2.length i2)) (fun _ h_ => h_.1))) hb); replace s := qbl_ s hb; replace j := qbl_ j hb; replace q := qbl_ q hb; replace u := qbl_ u hb; replace x := am_ (blk_below (g := E) (o := .cells #[.slice j3 c2.length i2] 44 (0, 0)) (qp_ x) hb); replace HB := hs_ hb; clear hb; obtain ⟨u0, u1⟩ := bc1_ x; obtain ⟨u2, u3⟩ := bc1_ q))
       refine bodyPost_ret (results_ct rfl _ _ Z 44 #[.slice j3 c2.length i2] (0, 0) _ rfl (qp_ q) Try.underlying44 rfl (by kernel_rfl)) rfl ?_
       exact ⟨_, qr_, by (with_reducible repeat (first | apply Kd.R_alloc | apply Kd.R_drewN | apply Kd.R_drew)); exact Kd.R_mono (Kd.R_far (p := ⟨Z, 0, none⟩) (Kd.R_types f4.out q.out (by decide)) (fun _ hk => hk.2) (.slice j3 c2.length i2)) (fun _ hk => trivial), qB_⟩
      simp only [Option.some.injEq, Prod.mk.injEq] at H
      obtain ⟨rfl, rfl⟩ := H
      go_wp2_with (first | ((with_reducible refine gd_ 8 ?_); refine by_ 8 (cs := #[.slice none 0 0]) (t := 44) ?_; intro E hg F9 x hb; have h4 := gw_ hg; obtain ⟨f3, a0⟩ := qn_ s hg; obtain ⟨Y, b3⟩ := qn_ j hg; obtain ⟨g4, a1⟩ := qn_ q hg; obtain ⟨a2, b4⟩ := qn_ u hg; replace s := qbl_ s hb; replace j := qbl_ j hb; replace q := qbl_ q hb; replace u := qbl_ u hb; replace HB := hs_ hb; clear hb hg; obtain ⟨hA, hB⟩ := nn_ a0; obtain ⟨hC, hD⟩ := nn_ b3; obtain ⟨hE, hF⟩ := nn_ a1; obtain ⟨hG, hH⟩ := nn_ b4; obtain ⟨u4, u5⟩ := bc1_ x; obtain ⟨hI, hJ⟩ := nn_ e6; obtain ⟨hL, hM⟩ := nn_ a3; obtain ⟨hN, hO⟩ := nn_ f8; obtain ⟨u6, u7, u8, u9, v0, v1, v2, v3⟩ := bc4_ j; obtain ⟨hP, hQ⟩ := nn_ g6; obtain ⟨hR, hS⟩ := nn_ f9; obtain ⟨v4, v5, v6, v7, v8, v9⟩ := bc3_ u; obtain ⟨hT, hU⟩ := nn_ c5; obtain ⟨aI, aJ⟩ := bc1_ s) | ((with_reducible refine gc_ 84 ?_); refine gl_ (some 67) Try.func84 #[.agg #[.slice z a.length A], .agg #[.string T, .string (G ++ y), .int .i64 U]] ?_; (with_reducible refine (spec_l03Put.calls kj59 _ _ a T (G ++ y) U c2 _ ?_ ?_ m8.out).mono ?_); exact Kd.C_below B.out qB_; exact D.out; rintro e G0 ⟨aE, rfl, ho0, hb⟩; refine ⟨_, rfl, ?_⟩; have f4 := am_ (Kd.R_lower (Kd.R_newB ho0 (g := F) (o := .cells #[.string T, .string (G ++ y), .int .i64 U] 99 (0, 0)) (qp_ u)) (below_size qB_)); replace s := qbl_ s hb; replace j := qbl_ j hb; replace q := qbl_ q hb; replace u := am_ (blk_below (g := F) (o := .cells #[.string T, .string (G ++ y), .int .i64 U] 99 (0, 0)) (qp_ u) hb); replace x := am_ (blk_below (g := E) (o := .cells #[.slice none 0 0] 44 (0, 0)) (qp_ x) hb); replace HB := hs_ hb; clear hb ho0; obtain ⟨o7, n0, aK⟩ := Kd.R_slice f4.out; subst aK; obtain ⟨aL, aM⟩ := bc1_ x) | ((with_reducible refine gc_ 75 ?_); refine gl_ (some 125) Try.func75 #[.agg #[.slice o7 c2.length n0]] ?_; (with_reducible refine (spec_DiskOk.calls kj59 _ _ c2 false _ ?side1 ?side2 m9.out).mono ?_); (case side1 => refine (Kd.R_reads' (e := 99) (base := w.heap.size) (ok := fun k_ => (True ∧ k_ ≠ F)) (n := c2.length) (c := n0) ?_).2.2; exact (by (with_reducible repeat (first | apply Kd.R_alloc | apply Kd.R_drewN | apply Kd.R_drew)); exact (Kd.R_mono (Kd.R_far (p := ⟨E, 0, none⟩) (Kd.R_types f4.out x.out (by decide)) (fun _ hk => hk.2) (.slice o7 c2.length n0)) (fun _ h_ => h_.1)))); (case side2 => exact (Kd.R_reads' f4.out).2.1); rintro e G1 ⟨rfl, hb⟩; refine ⟨_, rfl, ?_⟩; replace f4 := am_ (Kd.R_below (by (with_reducible repeat (first | apply Kd.R_alloc | apply Kd.R_drewN | apply Kd.R_drew)); exact (Kd.R_mono (Kd.R_far (p := ⟨E, 0, none⟩) (Kd.R_types f4.out x.out (by decide)) (fun _ hk => hk.2) (.slice o7 c2.length n0)) (fun _ h_ => h_.1))) hb); replace s := qbl_ s hb; replace j := qbl_ j hb; replace q := qbl_ q hb; replace u := qbl_ u hb; replace x := am_ (blk_below (g := E) (o := .cells #[.slice o7 c2.length n0] 44 (0, 0)) (qp_ x) hb); replace HB := hs_ hb; clear hb; obtain ⟨aN, aO⟩ := bc1_ q))
      refine bodyPost_ret (results_ct rfl _ _ Z 44 #[.slice none 0 0] (0, 0) _ rfl (qp_ q) Try.underlying44 rfl (by kernel_rfl)) rfl ?_
      exact ⟨_, qr_, by first | exact Kd.R_nil _ _ _ _ _ | exact Kd.N_nil _ _ _ _ _ | exact Kd.V_nil _ _ _ _ _ | exact Kd.Q_nil _ _ _ _ _ | exact Kd.S_nil _ _ _ _ _, qB_⟩
     have g2 : (l == 1) = false := beq_eq_false_iff_ne.mpr e9
     have g3 : (l != 1) = true := bne_iff_ne.mpr e9
     refine ic_ H ?_ ?_ <;> clear H <;> intro h1 H
     ·simp only [Option.some.injEq, Prod.mk.injEq] at H
      obtain ⟨rfl, rfl⟩ := H
      go_wp2_with (first | ((with_reducible refine gd_ 8 ?_); refine by_ 8 (cs := #[.slice none 0 0]) (t := 44) ?_; intro E hg G2 x hb; have h4 := gw_ hg; obtain ⟨f3, a0⟩ := qn_ s hg; obtain ⟨Y, b3⟩ := qn_ j hg; obtain ⟨g4, a1⟩ := qn_ q hg; obtain ⟨a2, b4⟩ := qn_ u hg; replace s := qbl_ s hb; replace j := qbl_ j hb; replace q := qbl_ q hb; replace u := qbl_ u hb; replace HB := hs_ hb; clear hb hg; obtain ⟨hV, hW⟩ := nn_ a0; obtain ⟨hX, hY⟩ := nn_ b3; obtain ⟨hZ, ia⟩ := nn_ a1; obtain ⟨aP, aQ⟩ := nn_ b4; obtain ⟨aR, aS⟩ := bc1_ x; obtain ⟨aT, aU⟩ := nn_ e6; obtain ⟨aV, aW⟩ := nn_ a3; obtain ⟨aX, aY⟩ := nn_ f8; obtain ⟨aZ, ba, bb, bc, bd, be, bf, bg⟩ := bc4_ j; obtain ⟨bh, bi⟩ := nn_ i8; obtain ⟨bj, bk⟩ := nn_ m4; obtain ⟨bl, bn⟩ := bc1_ q))
      refine bodyPost_ret (results_ct rfl _ _ Z 44 #[.slice none 0 0] (0, 0) _ rfl (qp_ q) Try.underlying44 rfl (by kernel_rfl)) rfl ?_
      exact ⟨_, qr_, by first | exact Kd.R_nil _ _ _ _ _ | exact Kd.N_nil _ _ _ _ _ | exact Kd.V_nil _ _ _ _ _ | exact Kd.Q_nil _ _ _ _ _ | exact Kd.S_nil _ _ _ _ _, qB_⟩
     refine jc_ H ?_ ?_ <;> clear H <;> intro a4 H
     ·have d9 : (l == 2) = true := beq_iff_eq.mpr a4
      have e0 : (l != 2) = false := bne_eq_false_iff_eq.mpr a4
      clear a4
      obtain ⟨c3, G3, H⟩ := bs_ H
      obtain ⟨bo, G4, H⟩ := bs_ H
      refine ie_ H ?_ ?_ <;> clear H <;> rintro rfl H
      ·simp only [Option.some.injEq, Prod.mk.injEq] at H
       obtain ⟨rfl, rfl⟩ := H
       go_wp2_with (first | ((with_reducible refine gd_ 8 ?_); refine by_ 8 (cs := #[.slice none 0 0]) (t := 44) ?_; intro E hg G5 x hb; have h4 := gw_ hg; obtain ⟨f3, a0⟩ := qn_ s hg; obtain ⟨Y, b3⟩ := qn_ j hg; obtain ⟨g4, a1⟩ := qn_ q hg; obtain ⟨a2, b4⟩ := qn_ u hg; replace s := qbl_ s hb; replace j := qbl_ j hb; replace q := qbl_ q hb; replace u := qbl_ u hb; replace HB := hs_ hb; clear hb hg; obtain ⟨bp, bq⟩ := nn_ a0; obtain ⟨br, bs⟩ := nn_ b3; obtain ⟨bt, bu⟩ := nn_ a1; obtain ⟨bv, bw⟩ := nn_ b4; obtain ⟨bx, bz⟩ := bc1_ x; obtain ⟨bA, bB⟩ := nn_ e6; obtain ⟨bC, bD⟩ := nn_ a3; obtain ⟨bE, bF⟩ := nn_ f8; obtain ⟨bG, bH, bI, bJ, bK, bL, bM, bN⟩ := bc4_ j; obtain ⟨bO, bP⟩ := nn_ g6; obtain ⟨bQ, bR⟩ := nn_ f9; obtain ⟨bS, bT, bU, bV, bW, bX⟩ := bc3_ u; obtain ⟨bY, bZ⟩ := nn_ c5; obtain ⟨ca, cb⟩ := bc1_ s) | ((with_reducible refine gc_ 84 ?_); refine gl_ (some 82) Try.func84 #[.agg #[.slice z a.length A], .agg #[.string T, .string G, .int .i64 (G.size : Int)]] ?_; (with_reducible refine (spec_l03Put.calls kj59 _ _ a T G (G.size : Int) c3 _ ?_ ?_ G3.out).mono ?_); exact Kd.C_below B.out qB_; exact D.out; rintro e G6 ⟨z5, rfl, ho0, hb⟩; refine ⟨_, rfl, ?_⟩; have f5 := am_ (Kd.R_lower (Kd.R_newB ho0 (g := F) (o := .cells #[.string T, .string G, .int .i64 (G.size : Int)] 99 (0, 0)) (qp_ u)) (below_size qB_)); replace s := qbl_ s hb; replace j := qbl_ j hb; replace q := qbl_ q hb; replace u := am_ (blk_below (g := F) (o := .cells #[.string T, .string G, .int .i64 (G.size : Int)] 99 (0, 0)) (qp_ u) hb); replace x := am_ (blk_below (g := E) (o := .cells #[.slice none 0 0] 44 (0, 0)) (qp_ x) hb); replace HB := hs_ hb; clear hb ho0; obtain ⟨j4, i3, cc⟩ := Kd.R_slice f5.out; subst cc; obtain ⟨cd, ce⟩ := bc1_ x) | ((with_reducible refine gc_ 75 ?_); refine gl_ (some 125) Try.func75 #[.agg #[.slice j4 c3.length i3]] ?_; (with_reducible refine (spec_DiskOk.calls kj59 _ _ c3 true _ ?side1 ?side2 G4.out).mono ?_); (case side1 => refine (Kd.R_reads' (e := 99) (base := w.heap.size) (ok := fun k_ => (True ∧ k_ ≠ F)) (n := c3.length) (c := i3) ?_).2.2; exact (by (with_reducible repeat (first | apply Kd.R_alloc | apply Kd.R_drewN | apply Kd.R_drew)); exact (Kd.R_mono (Kd.R_far (p := ⟨E, 0, none⟩) (Kd.R_types f5.out x.out (by decide)) (fun _ hk => hk.2) (.slice j4 c3.length i3)) (fun _ h_ => h_.1)))); (case side2 => exact (Kd.R_reads' f5.out).2.1); rintro e G7 ⟨rfl, hb⟩; refine ⟨_, rfl, ?_⟩; replace f5 := am_ (Kd.R_below (by (with_reducible repeat (first | apply Kd.R_alloc | apply Kd.R_drewN | apply Kd.R_drew)); exact (Kd.R_mono (Kd.R_far (p := ⟨E, 0, none⟩) (Kd.R_types f5.out x.out (by decide)) (fun _ hk => hk.2) (.slice j4 c3.length i3)) (fun _ h_ => h_.1))) hb); replace s := qbl_ s hb; replace j := qbl_ j hb; replace q := qbl_ q hb; replace u := qbl_ u hb; replace x := am_ (blk_below (g := E) (o := .cells #[.slice j4 c3.length i3] 44 (0, 0)) (qp_ x) hb); replace HB := hs_ hb; clear hb; obtain ⟨cf, cg⟩ := bc1_ x; obtain ⟨ch, ci⟩ := bc1_ q))
       refine bodyPost_ret (results_ct rfl _ _ Z 44 #[.slice j4 c3.length i3] (0, 0) _ rfl (qp_ q) Try.underlying44 rfl (by kernel_rfl)) rfl ?_
       exact ⟨_, qr_, by (with_reducible repeat (first | apply Kd.R_alloc | apply Kd.R_drewN | apply Kd.R_drew)); exact Kd.R_mono (Kd.R_far (p := ⟨Z, 0, none⟩) (Kd.R_types f5.out q.out (by decide)) (fun _ hk => hk.2) (.slice j4 c3.length i3)) (fun _ hk => trivial), qB_⟩
      simp only [Option.some.injEq, Prod.mk.injEq] at H
      obtain ⟨rfl, rfl⟩ := H
      go_wp2_with (first | ((with_reducible refine gd_ 8 ?_); refine by_ 8 (cs := #[.slice none 0 0]) (t := 44) ?_; intro E hg G8 x hb; have h4 := gw_ hg; obtain ⟨f3, a0⟩ := qn_ s hg; obtain ⟨Y, b3⟩ := qn_ j hg; obtain ⟨g4, a1⟩ := qn_ q hg; obtain ⟨a2, b4⟩ := qn_ u hg; replace s := qbl_ s hb; replace j := qbl_ j hb; replace q := qbl_ q hb; replace u := qbl_ u hb; replace HB := hs_ hb; clear hb hg; obtain ⟨cj, ck⟩ := nn_ a0; obtain ⟨cl, cm⟩ := nn_ b3; obtain ⟨cn, co⟩ := nn_ a1; obtain ⟨cp, cq⟩ := nn_ b4; obtain ⟨cr, ct⟩ := bc1_ x; obtain ⟨cu, cv⟩ := nn_ e6; obtain ⟨cw, cx⟩ := nn_ a3; obtain ⟨cy, cz⟩ := nn_ f8; obtain ⟨B0, cA, B2, B3, B4, B5, B6, B7⟩ := bc4_ j; obtain ⟨cB, cC⟩ := nn_ g6; obtain ⟨cD, cE⟩ := nn_ f9; obtain ⟨cF, cG, cH, cI, cJ, cK⟩ := bc3_ u; obtain ⟨cL, cM⟩ := nn_ c5; obtain ⟨cN, cO⟩ := bc1_ s) | ((with_reducible refine gc_ 84 ?_); refine gl_ (some 82) Try.func84 #[.agg #[.slice z a.length A], .agg #[.string T, .string G, .int .i64 (G.size : Int)]] ?_; (with_reducible refine (spec_l03Put.calls kj59 _ _ a T G (G.size : Int) c3 _ ?_ ?_ G3.out).mono ?_); exact Kd.C_below B.out qB_; exact D.out; rintro e G9 ⟨z5, rfl, ho0, hb⟩; refine ⟨_, rfl, ?_⟩; have f5 := am_ (Kd.R_lower (Kd.R_newB ho0 (g := F) (o := .cells #[.string T, .string G, .int .i64 (G.size : Int)] 99 (0, 0)) (qp_ u)) (below_size qB_)); replace s := qbl_ s hb; replace j := qbl_ j hb; replace q := qbl_ q hb; replace u := am_ (blk_below (g := F) (o := .cells #[.string T, .string G, .int .i64 (G.size : Int)] 99 (0, 0)) (qp_ u) hb); replace x := am_ (blk_below (g := E) (o := .cells #[.slice none 0 0] 44 (0, 0)) (qp_ x) hb); replace HB := hs_ hb; clear hb ho0; obtain ⟨o8, n1, cP⟩ := Kd.R_slice f5.out; subst cP; obtain ⟨cQ, cR⟩ := bc1_ x) | ((with_reducible refine gc_ 75 ?_); refine gl_ (some 125) Try.func75 #[.agg #[.slice o8 c3.length n1]] ?_; (with_reducible refine (spec_DiskOk.calls kj59 _ _ c3 false _ ?side1 ?side2 G4.out).mono ?_); (case side1 => refine (Kd.R_reads' (e := 99) (base := w.heap.size) (ok := fun k_ => (True ∧ k_ ≠ F)) (n := c3.length) (c := n1) ?_).2.2; exact (by (with_reducible repeat (first | apply Kd.R_alloc | apply Kd.R_drewN | apply Kd.R_drew)); exact (Kd.R_mono (Kd.R_far (p := ⟨E, 0, none⟩) (Kd.R_types f5.out x.out (by decide)) (fun _ hk => hk.2) (.slice o8 c3.length n1)) (fun _ h_ => h_.1)))); (case side2 => exact (Kd.R_reads' f5.out).2.1); rintro e H0 ⟨rfl, hb⟩; refine ⟨_, rfl, ?_⟩; replace f5 := am_ (Kd.R_below (by (with_reducible repeat (first | apply Kd.R_alloc | apply Kd.R_drewN | apply Kd.R_drew)); exact (Kd.R_mono (Kd.R_far (p := ⟨E, 0, none⟩) (Kd.R_types f5.out x.out (by decide)) (fun _ hk => hk.2) (.slice o8 c3.length n1)) (fun _ h_ => h_.1))) hb); replace s := qbl_ s hb; replace j := qbl_ j hb; replace q := qbl_ q hb; replace u := qbl_ u hb; replace x := am_ (blk_below (g := E) (o := .cells #[.slice o8 c3.length n1] 44 (0, 0)) (qp_ x) hb); replace HB := hs_ hb; clear hb; obtain ⟨cS, cT⟩ := bc1_ q))
      refine bodyPost_ret (results_ct rfl _ _ Z 44 #[.slice none 0 0] (0, 0) _ rfl (qp_ q) Try.underlying44 rfl (by kernel_rfl)) rfl ?_
      exact ⟨_, qr_, by first | exact Kd.R_nil _ _ _ _ _ | exact Kd.N_nil _ _ _ _ _ | exact Kd.V_nil _ _ _ _ _ | exact Kd.Q_nil _ _ _ _ _ | exact Kd.S_nil _ _ _ _ _, qB_⟩
     have d9 : (l == 2) = false := beq_eq_false_iff_ne.mpr a4
     have e0 : (l != 2) = true := bne_iff_ne.mpr a4
     refine jb_ H ?_ ?_ <;> clear H <;> intro a5 H
     ·have e1 : (l == 3) = false := beq_eq_false_iff_ne.mpr a5
      have e2 : (l != 3) = true := bne_iff_ne.mpr a5
      refine jb_ H ?_ ?_ <;> clear H <;> intro c0 H
      ·have h2 : (l == 4) = false := beq_eq_false_iff_ne.mpr c0
       have h3 : (l != 4) = true := bne_iff_ne.mpr c0
       simp only [Option.some.injEq, Prod.mk.injEq] at H
       obtain ⟨rfl, rfl⟩ := H
       go_wp2_with (first | ((with_reducible refine gd_ 8 ?_); refine by_ 8 (cs := #[.slice none 0 0]) (t := 44) ?_; intro E hg H1 x hb; have h4 := gw_ hg; obtain ⟨f3, a0⟩ := qn_ s hg; obtain ⟨Y, b3⟩ := qn_ j hg; obtain ⟨g4, a1⟩ := qn_ q hg; obtain ⟨a2, b4⟩ := qn_ u hg; replace s := qbl_ s hb; replace j := qbl_ j hb; replace q := qbl_ q hb; replace u := qbl_ u hb; replace HB := hs_ hb; clear hb hg; obtain ⟨cU, cV⟩ := nn_ a0; obtain ⟨cW, cX⟩ := nn_ b3; obtain ⟨cY, cZ⟩ := nn_ a1; obtain ⟨da, db⟩ := nn_ b4; obtain ⟨ib, ic⟩ := bc1_ x; obtain ⟨dc, dd⟩ := nn_ e6; obtain ⟨de, df⟩ := nn_ a3; obtain ⟨dg, dh⟩ := nn_ f8; obtain ⟨id, ie, ig, ih, ii, ij, ik, il⟩ := bc4_ j; obtain ⟨di, dj⟩ := nn_ i8; obtain ⟨dk, dl⟩ := nn_ m4; obtain ⟨im, io⟩ := bc1_ q))
       refine bodyPost_ret (results_ct rfl _ _ Z 44 #[.slice none 0 0] (0, 0) _ rfl (qp_ q) Try.underlying44 rfl (by kernel_rfl)) rfl ?_
       exact ⟨_, qr_, by first | exact Kd.R_nil _ _ _ _ _ | exact Kd.N_nil _ _ _ _ _ | exact Kd.V_nil _ _ _ _ _ | exact Kd.Q_nil _ _ _ _ _ | exact Kd.S_nil _ _ _ _ _, qB_⟩
      have h2 : (l == 4) = true := beq_iff_eq.mpr c0
      have h3 : (l != 4) = false := bne_eq_false_iff_eq.mpr c0
      clear c0
      obtain ⟨c4, H2, H⟩ := bs_ H
      obtain ⟨dm, H3, H⟩ := bs_ H
      refine ie_ H ?_ ?_ <;> clear H <;> rintro rfl H
      ·simp only [Option.some.injEq, Prod.mk.injEq] at H
       obtain ⟨rfl, rfl⟩ := H
       go_wp2_with (first | ((with_reducible refine gd_ 8 ?_); refine by_ 8 (cs := #[.slice none 0 0]) (t := 44) ?_; intro E hg H4 x hb; have h4 := gw_ hg; obtain ⟨f3, a0⟩ := qn_ s hg; obtain ⟨Y, b3⟩ := qn_ j hg; obtain ⟨g4, a1⟩ := qn_ q hg; obtain ⟨a2, b4⟩ := qn_ u hg; replace s := qbl_ s hb; replace j := qbl_ j hb; replace q := qbl_ q hb; replace u := qbl_ u hb; replace HB := hs_ hb; clear hb hg; obtain ⟨dn, dp⟩ := nn_ a0; obtain ⟨dq, dr⟩ := nn_ b3; obtain ⟨dt, du⟩ := nn_ a1; obtain ⟨dv, dw⟩ := nn_ b4; obtain ⟨ip, iq⟩ := bc1_ x; obtain ⟨dx, dy⟩ := nn_ e6; obtain ⟨dz, dA⟩ := nn_ a3; obtain ⟨dB, dC⟩ := nn_ f8; obtain ⟨ir, is, it, iu, iv, iw, ix, iy⟩ := bc4_ j; obtain ⟨dD, dE⟩ := nn_ c5; obtain ⟨dF, dG⟩ := nn_ x7; obtain ⟨iz, iA⟩ := bc1_ s) | ((with_reducible refine gc_ 85 ?_); refine gl_ (some 123) Try.func85 #[.agg #[.slice z a.length A], .string m] ?_; (with_reducible refine (spec_l03Without.calls kj59 _ _ a m c4 _ ?_ ?_ H2.out).mono ?_); exact Kd.C_below B.out qB_; exact D.out; rintro e H5 ⟨z6, rfl, ho0, hb⟩; refine ⟨_, rfl, ?_⟩; have f6 := am_ (Kd.R_lower (Kd.R_newB ho0 (g := F) (o := .cells #[.string T, .string G, .int .i64 U] 99 (0, 0)) (qf_ u)) (below_size qB_)); replace s := qbl_ s hb; replace j := qbl_ j hb; replace q := qbl_ q hb; replace u := qbl_ u hb; replace x := am_ (blk_below (g := E) (o := .cells #[.slice none 0 0] 44 (0, 0)) (qp_ x) hb); replace HB := hs_ hb; clear hb ho0; obtain ⟨j5, i4, dH⟩ := Kd.R_slice f6.out; subst dH; obtain ⟨iB, iC⟩ := bc1_ x) | ((with_reducible refine gc_ 75 ?_); refine gl_ (some 125) Try.func75 #[.agg #[.slice j5 c4.length i4]] ?_; (with_reducible refine (spec_DiskOk.calls kj59 _ _ c4 true _ ?side1 ?side2 H3.out).mono ?_); (case side1 => refine (Kd.R_reads' (e := 99) (base := w.heap.size) (ok := fun k_ => (True ∧ k_ ≠ F)) (n := c4.length) (c := i4) ?_).2.2; exact (by (with_reducible repeat (first | apply Kd.R_alloc | apply Kd.R_drewN | apply Kd.R_drew)); exact (Kd.R_mono (Kd.R_far (p := ⟨E, 0, none⟩) (Kd.R_types f6.out x.out (by decide)) (fun _ hk => hk.2) (.slice j5 c4.length i4)) (fun _ h_ => h_.1)))); (case side2 => exact (Kd.R_reads' f6.out).2.1); rintro e H6 ⟨rfl, hb⟩; refine ⟨_, rfl, ?_⟩; replace f6 := am_ (Kd.R_below (by (with_reducible repeat (first | apply Kd.R_alloc | apply Kd.R_drewN | apply Kd.R_drew)); exact (Kd.R_mono (Kd.R_far (p := ⟨E, 0, none⟩) (Kd.R_types f6.out x.out (by decide)) (fun _ hk => hk.2) (.slice j5 c4.length i4)) (fun _ h_ => h_.1))) hb); replace s := qbl_ s hb; replace j := qbl_ j hb; replace q := qbl_ q hb; replace u := qbl_ u hb; replace x := am_ (blk_below (g := E) (o := .cells #[.slice j5 c4.length i4] 44 (0, 0)) (qp_ x) hb); replace HB := hs_ hb; clear hb; obtain ⟨iD, iE⟩ := bc1_ x; obtain ⟨dI, dJ⟩ := nn_ m4; obtain ⟨iF, iG⟩ := bc1_ q))
       refine bodyPost_ret (results_ct rfl _ _ Z 44 #[.slice j5 c4.length i4] (0, 0) _ rfl (qp_ q) Try.underlying44 rfl (by kernel_rfl)) rfl ?_
       exact ⟨_, qr_, by (with_reducible repeat (first | apply Kd.R_alloc | apply Kd.R_drewN | apply Kd.R_drew)); exact Kd.R_mono (Kd.R_far (p := ⟨Z, 0, none⟩) (Kd.R_types f6.out q.out (by decide)) (fun _ hk => hk.2) (.slice j5 c4.length i4)) (fun _ hk => trivial), qB_⟩
      simp only [Option.some.injEq, Prod.mk.injEq] at H
      obtain ⟨rfl, rfl⟩ := H
      go_wp2_with (first | ((with_reducible refine gd_ 8 ?_); refine by_ 8 (cs := #[.slice none 0 0]) (t := 44) ?_; intro E hg H7 x hb; have h4 := gw_ hg; obtain ⟨f3, a0⟩ := qn_ s hg; obtain ⟨Y, b3⟩ := qn_ j hg; obtain ⟨g4, a1⟩ := qn_ q hg; obtain ⟨a2, b4⟩ := qn_ u hg; replace s := qbl_ s hb; replace j := qbl_ j hb; replace q := qbl_ q hb; replace u := qbl_ u hb; replace HB := hs_ hb; clear hb hg; obtain ⟨dK, dL⟩ := nn_ a0; obtain ⟨dM, dN⟩ := nn_ b3; obtain ⟨dO, dP⟩ := nn_ a1; obtain ⟨dQ, dR⟩ := nn_ b4; obtain ⟨iH, iI⟩ := bc1_ x; obtain ⟨dS, dT⟩ := nn_ e6; obtain ⟨dU, dV⟩ := nn_ a3; obtain ⟨dW, dX⟩ := nn_ f8; obtain ⟨iJ, iK, iL, iM, iN, iO, iP, iQ⟩ := bc4_ j; obtain ⟨dY, dZ⟩ := nn_ c5; obtain ⟨ea, eb⟩ := nn_ x7; obtain ⟨iR, iS⟩ := bc1_ s) | ((with_reducible refine gc_ 85 ?_); refine gl_ (some 123) Try.func85 #[.agg #[.slice z a.length A], .string m] ?_; (with_reducible refine (spec_l03Without.calls kj59 _ _ a m c4 _ ?_ ?_ H2.out).mono ?_); exact Kd.C_below B.out qB_; exact D.out; rintro e H8 ⟨z6, rfl, ho0, hb⟩; refine ⟨_, rfl, ?_⟩; have f6 := am_ (Kd.R_lower (Kd.R_newB ho0 (g := F) (o := .cells #[.string T, .string G, .int .i64 U] 99 (0, 0)) (qf_ u)) (below_size qB_)); replace s := qbl_ s hb; replace j := qbl_ j hb; replace q := qbl_ q hb; replace u := qbl_ u hb; replace x := am_ (blk_below (g := E) (o := .cells #[.slice none 0 0] 44 (0, 0)) (qp_ x) hb); replace HB := hs_ hb; clear hb ho0; obtain ⟨o9, n2, ec⟩ := Kd.R_slice f6.out; subst ec; obtain ⟨iT, iU⟩ := bc1_ x) | ((with_reducible refine gc_ 75 ?_); refine gl_ (some 125) Try.func75 #[.agg #[.slice o9 c4.length n2]] ?_; (with_reducible refine (spec_DiskOk.calls kj59 _ _ c4 false _ ?side1 ?side2 H3.out).mono ?_); (case side1 => refine (Kd.R_reads' (e := 99) (base := w.heap.size) (ok := fun k_ => (True ∧ k_ ≠ F)) (n := c4.length) (c := n2) ?_).2.2; exact (by (with_reducible repeat (first | apply Kd.R_alloc | apply Kd.R_drewN | apply Kd.R_drew)); exact (Kd.R_mono (Kd.R_far (p := ⟨E, 0, none⟩) (Kd.R_types f6.out x.out (by decide)) (fun _ hk => hk.2) (.slice o9 c4.length n2)) (fun _ h_ => h_.1)))); (case side2 => exact (Kd.R_reads' f6.out).2.1); rintro e H9 ⟨rfl, hb⟩; refine ⟨_, rfl, ?_⟩; replace f6 := am_ (Kd.R_below (by (with_reducible repeat (first | apply Kd.R_alloc | apply Kd.R_drewN | apply Kd.R_drew)); exact (Kd.R_mono (Kd.R_far (p := ⟨E, 0, none⟩) (Kd.R_types f6.out x.out (by decide)) (fun _ hk => hk.2) (.slice o9 c4.length n2)) (fun _ h_ => h_.1))) hb); replace s := qbl_ s hb; replace j := qbl_ j hb; replace q := qbl_ q hb; replace u := qbl_ u hb; replace x := am_ (blk_below (g := E) (o := .cells #[.slice o9 c4.length n2] 44 (0, 0)) (qp_ x) hb); replace HB := hs_ hb; clear hb; obtain ⟨ed, ee⟩ := nn_ m4; obtain ⟨iV, iW⟩ := bc1_ q))
      refine bodyPost_ret (results_ct rfl _ _ Z 44 #[.slice none 0 0] (0, 0) _ rfl (qp_ q) Try.underlying44 rfl (by kernel_rfl)) rfl ?_
      exact ⟨_, qr_, by first | exact Kd.R_nil _ _ _ _ _ | exact Kd.N_nil _ _ _ _ _ | exact Kd.V_nil _ _ _ _ _ | exact Kd.Q_nil _ _ _ _ _ | exact Kd.S_nil _ _ _ _ _, qB_⟩
     have e1 : (l == 3) = true := beq_iff_eq.mpr a5
     have e2 : (l != 3) = false := bne_eq_false_iff_eq.mpr a5
     clear a5
     have z7 := am_ H
     clear H
     go_upto_region 18 with (first | ((with_reducible refine gd_ 8 ?_); refine by_ 8 (cs := #[.slice none 0 0]) (t := 44) ?_; intro E hg I0 x hb; have h4 := gw_ hg; obtain ⟨f3, a0⟩ := qn_ s hg; obtain ⟨Y, b3⟩ := qn_ j hg; obtain ⟨g4, a1⟩ := qn_ q hg; obtain ⟨a2, b4⟩ := qn_ u hg; replace s := qbl_ s hb; replace j := qbl_ j hb; replace q := qbl_ q hb; replace u := qbl_ u hb; replace HB := hs_ hb; clear hb hg; obtain ⟨ef, eg⟩ := nn_ a0; obtain ⟨eh, ei⟩ := nn_ b3; obtain ⟨ej, ek⟩ := nn_ a1; obtain ⟨el, em⟩ := nn_ b4; obtain ⟨en, eo⟩ := bc1_ x; obtain ⟨ep, eq⟩ := nn_ e6; obtain ⟨er, es⟩ := nn_ a3; obtain ⟨et, eu⟩ := nn_ f8; obtain ⟨ev, ew, ex, ey, ez, eA, eB, eC⟩ := bc4_ j))
     go_cut [105] (fun z8 wc => ∃ (kq : Nat) (O : Bool), z8 = .bool O ∧ Aside0 (spec_DoAct.j2 kq O a l m y d T G U = some (i6, i7)) ∧ Aside0 (kq ≤ kj59) ∧ Aside0 (wc.heap[h7]? = some (.cells #[(.slice z a.length A)] 44 (0, 0))) ∧ Aside0 (wc.heap[e5]? = some (.cells #[.int .i64 l, .string m, .string y, .string d] 60 (0, 0))) ∧ Aside0 (wc.heap[Z]? = some (.cells #[(.slice none 0 0)] 44 (0, 0))) ∧ Aside0 (wc.heap[F]? = some (.cells #[.string T, .string G, .int .i64 U] 99 (0, 0))) ∧ Aside0 (wc.heap[E]? = some (.cells #[(.slice none 0 0)] 44 (0, 0))) ∧ Aside0 (Below w.heap.size w wc))
     case first =>
      have H := z7.out; clear z7
      refine ic_ H ?_ ?_ <;> clear H <;> intro L H
      ·(first | rw [L] | (simp only [i64_w, i32_w]; rw [L]) | skip)
       have H' := am_ H; clear H; obtain ⟨eD, eE⟩ := nn_ g6; obtain ⟨eF, eG⟩ := nn_ m3; obtain ⟨eH, eI⟩ := nn_ f9; obtain ⟨eJ, eK⟩ := nn_ a2
       obtain ⟨eL, eM, eN, eO, eP, eQ⟩ := bc3_ u
       go_wp2
       go_meet
       case rel => exact ⟨_, (true), qe_, H', ⟨by have := m2.out; have := z4.out; first | omega | exact Nat.le_refl _⟩, ⟨qf_ s⟩, ⟨qf_ j⟩, ⟨qf_ q⟩, ⟨qf_ u⟩, ⟨qp_ x⟩, ⟨qB_⟩⟩
      (first | rw [L] | (simp only [i64_w, i32_w]; rw [L]) | skip)
      refine jc_ H ?_ ?_ <;> clear H <;> intro a6 H
      ·have e3 : (d.toList == m.toList) = true := beq_iff_eq.mpr a6
       have e4 : (d.toList != m.toList) = false := bne_eq_false_iff_eq.mpr a6
       clear a6; have H' := am_ H; clear H; obtain ⟨eR, eS⟩ := nn_ g6; obtain ⟨eT, eU⟩ := nn_ m3; obtain ⟨eV, eW⟩ := nn_ f9; obtain ⟨eX, eY⟩ := nn_ a2
       obtain ⟨eZ, fa, fb, fc, fd, fe⟩ := bc3_ u
       obtain ⟨ff, fg⟩ := nn_ e6; obtain ⟨fh, fi⟩ := nn_ a3; obtain ⟨fj, fk⟩ := nn_ Y
       obtain ⟨fl, fm, fn, fo, fp, fq, fr, fs⟩ := bc4_ j
       go_wp2
       go_meet
       case rel => exact ⟨_, (true), qe_, H', ⟨by have := m2.out; have := z4.out; first | omega | exact Nat.le_refl _⟩, ⟨qf_ s⟩, ⟨qf_ j⟩, ⟨qf_ q⟩, ⟨qf_ u⟩, ⟨qp_ x⟩, ⟨qB_⟩⟩
      have e3 : (d.toList == m.toList) = false := beq_eq_false_iff_ne.mpr a6
      have e4 : (d.toList != m.toList) = true := bne_iff_ne.mpr a6
      obtain ⟨I1, z9, H⟩ := bs_ H
      have H' := am_ H; clear H; obtain ⟨ft, fu⟩ := nn_ g6; obtain ⟨fv, fw⟩ := nn_ m3; obtain ⟨fx, fy⟩ := nn_ f9; obtain ⟨fz, fA⟩ := nn_ a2
      obtain ⟨fB, fC, fD, fE, fF, fG⟩ := bc3_ u
      obtain ⟨fH, fI⟩ := nn_ e6; obtain ⟨fJ, fK⟩ := nn_ a3; obtain ⟨fL, fM⟩ := nn_ Y
      obtain ⟨fN, fO, fP, fQ, fR, fS, fT, fU⟩ := bc4_ j
      go_wp2_with (first | (go_at_call 82; (with_reducible refine (spec_l03Name.calls d I1 _ z9.out).mono ?_); rintro e w' ⟨rfl, ⟨nd, rfl⟩⟩))
      go_meet
      case rel => exact ⟨_, (!I1), qe_, H', ⟨by have := m2.out; have := z4.out; first | omega | exact Nat.le_refl _⟩, ⟨qf_ s⟩, ⟨qf_ j⟩, ⟨qf_ q⟩, ⟨qf_ u⟩, ⟨qp_ x⟩, ⟨qB_⟩⟩
     case rest =>
      clear z7 e9 g2 g3 h1 a4 d9 e0 e1 e2 en ev ew ex ey eo ez eA eB eC
      obtain ⟨kq, O, rfl, HA, gn, s, j, q, u, x, HB⟩ := hcut
      cases kq with
      | zero => exact absurd HA.out (by simp [spec_DoAct.j2])
      | succ kj188 =>
       have H := HA.out; clear HA
       simp only [spec_DoAct.j2] at H
       refine ie_ H ?_ ?_ <;> clear H <;> rintro rfl H
       ·simp only [Option.some.injEq, Prod.mk.injEq] at H
        obtain ⟨rfl, rfl⟩ := H
        obtain ⟨go, gp⟩ := nn_ i8; obtain ⟨gq, gr⟩ := nn_ A6; obtain ⟨gs, gt⟩ := nn_ m4; obtain ⟨gu, gv⟩ := nn_ g4
        obtain ⟨iY, iZ⟩ := bc1_ q
        go_wp2
        refine bodyPost_ret (results_ct rfl _ _ Z 44 #[.slice none 0 0] (0, 0) _ rfl (qp_ q) Try.underlying44 rfl (by kernel_rfl)) rfl ?_
        exact ⟨_, qr_, by first | exact Kd.R_nil _ _ _ _ _ | exact Kd.N_nil _ _ _ _ _ | exact Kd.V_nil _ _ _ _ _ | exact Kd.Q_nil _ _ _ _ _ | exact Kd.S_nil _ _ _ _ _, qB_⟩
       obtain ⟨h5, P0, H⟩ := bs_ H
       obtain ⟨b5, P1, H⟩ := bs_ H
       obtain ⟨gw, P2, H⟩ := bs_ H
       refine ie_ H ?_ ?_ <;> clear H <;> rintro rfl H
       ·simp only [Option.some.injEq, Prod.mk.injEq] at H
        obtain ⟨rfl, rfl⟩ := H
        obtain ⟨gx, gy⟩ := nn_ e6; obtain ⟨gz, gA⟩ := nn_ a3; obtain ⟨gB, gC⟩ := nn_ f8; obtain ⟨gD, gE⟩ := nn_ Y
        obtain ⟨ja, jb, jc, jd, je, jf, jg, jh⟩ := bc4_ j
        obtain ⟨gF, gG⟩ := nn_ g6; obtain ⟨gH, gI⟩ := nn_ f9; obtain ⟨gJ, gK⟩ := nn_ a2
        obtain ⟨ji, jj, jk, jl, jm, jn⟩ := bc3_ u
        try go_wp2
        have c8 : Aside0 ((wc.setCell ⟨F, 0, none⟩ (.string d)).heap[h7]? = some (.cells #[.slice z a.length A] 44 (0, 0))) := ⟨qf_ s⟩
        have c9 : Aside0 ((wc.setCell ⟨F, 0, none⟩ (.string d)).heap[e5]? = some (.cells #[.int .i64 l, .string m, .string y, .string d] 60 (0, 0))) := ⟨qf_ j⟩
        have d0 : Aside0 ((wc.setCell ⟨F, 0, none⟩ (.string d)).heap[Z]? = some (.cells #[.slice none 0 0] 44 (0, 0))) := ⟨qf_ q⟩
        have d1 : Aside0 ((wc.setCell ⟨F, 0, none⟩ (.string d)).heap[F]? = some (.cells #[.string d, .string G, .int .i64 U] 99 (0, 0))) := ⟨qp_ u⟩
        have d2 : Aside0 ((wc.setCell ⟨F, 0, none⟩ (.string d)).heap[E]? = some (.cells #[.slice none 0 0] 44 (0, 0))) := ⟨qf_ x⟩
        have d3 : Aside0 (Below w.heap.size w (wc.setCell ⟨F, 0, none⟩ (.string d))) := ⟨qB_⟩
        clear s j q u x HB
        generalize (wc.setCell ⟨F, 0, none⟩ (.string d)) = n3 at c8 c9 d0 d1 d2 d3 ⊢
        have s := c8; have j := c9; have q := d0; have u := d1; have x := d2; have HB := d3; clear c8 c9 d0 d1 d2 d3
        replace s := bd_ s; replace j := bd_ j; replace q := bd_ q; replace u := bd_ u; replace x := bd_ x; replace HB := hd_ HB
        refine start_ (n := 7) (S := fun w' => w'.cell? ⟨h7, 0, none⟩ = some (.slice z a.length A) ∧ w'.cell? ⟨e5, 0, none⟩ = some (.int .i64 l) ∧ w'.cell? ⟨e5, 1, none⟩ = some (.string m) ∧ w'.cell? ⟨e5, 2, none⟩ = some (.string y) ∧ w'.cell? ⟨e5, 3, none⟩ = some (.string d) ∧ w'.cell? ⟨F, 0, none⟩ = some (.string d) ∧ w'.cell? ⟨F, 1, none⟩ = some (.string G) ∧ w'.cell? ⟨F, 2, none⟩ = some (.int .i64 U)) (ds := []) (bm 7 0) (by kernel_rfl) rfl (by kernel_rfl) ⟨bl_ s 0, bl_ j 0, bl_ j 1, bl_ j 2, bl_ j 3, bl_ u 0, bl_ u 1, bl_ u 2⟩ (fun hHeld => ?_)
        generalize n3.drew = P3 at s j q u x HB hHeld ⊢
        refine pure_ (i := 1) (N := some 111) (v := ?_) (a' := ?_) (bm 7 2) rfl rfl (by kernel_rfl) (fun _ _ _ h => h) (Or.inl ⟨by rfl, ?_⟩) ?_ ?_
        rotate_left
        ·intro w'
         go_simp
         with_reducible rfl
        rotate_left
        ·simp only [Act.put, sA_, sB_, sC_, i64_w, i32_w]
         rfl
        refine take_ (i := 0) (N := some 110) (v := ?_) (a' := ?_) (bm 7 3) rfl rfl (by kernel_rfl) (fun _ _ _ h => h) (Or.inl ⟨by rfl, ?_⟩) hHeld ?_ ?_
        rotate_left
        ·rintro w' ⟨n4, n5, n6, n7, n8, n9, o0, o1⟩
         go_simp
         with_reducible rfl
        rotate_left
        ·simp only [Act.put, sA_, sB_, sC_, i64_w, i32_w]
         rfl
        refine take_ (i := 2) (N := some 112) (v := ?_) (a' := ?_) (bm 7 7) rfl rfl (by kernel_rfl) (fun _ _ _ h => h) (Or.inl ⟨by rfl, ?_⟩) hHeld ?_ ?_
        rotate_left
        ·rintro w' ⟨n4, n5, n6, n7, n8, n9, o0, o1⟩
         go_simp
         with_reducible rfl
        rotate_left
        ·simp only [Act.put, sA_, sB_, sC_, i64_w, i32_w]
         rfl
        refine take_ (i := 4) (N := some 114) (v := ?_) (a' := ?_) (bm 7 23) rfl rfl (by kernel_rfl) (fun _ _ _ h => h) (Or.inl ⟨by rfl, ?_⟩) hHeld ?_ ?_
        rotate_left
        ·rintro w' ⟨n4, n5, n6, n7, n8, n9, o0, o1⟩
         go_simp
         with_reducible rfl
        rotate_left
        ·simp only [Act.put, sA_, sB_, sC_, i64_w, i32_w]
         rfl
        refine one_ (i := 3) (N := some 113) (bm 7 31) rfl rfl (by kernel_rfl) (by decide) (fun K hK => ?_)
        refine gs_ Try.func85 #[.agg #[.slice z a.length A], .string m] ?_
        with_reducible refine (spec_l03Without.calls kj188 _ _ a m h5 _ ?side1 ?side2 P0.out).mono ?_
        (case side1 => exact qC_ B HB)
        (case side2 => exact D.out)
        rintro e P4 ⟨A0, rfl, ho0, hb⟩
        refine ⟨_, rfl, ?_⟩
        have c1 := am_ (Kd.R_lower (Kd.R_newB ho0 (qk_ u)) (below_size qB_)); replace s := qbl_ s hb; replace j := qbl_ j hb; replace q := qbl_ q hb; replace u := qbl_ u hb; replace x := qbl_ x hb; replace HB := hs_ hb; clear hb ho0
        obtain ⟨P5, P6, P7⟩ := Kd.R_slice c1.out
        (first | subst P7 | (injection P7 with V d4 X; have d5 := V.symm; have d6 := X.symm; clear V d4 X; subst d5; subst d6))
        refine hK.out _ _ ⟨bl_ s 0, bl_ j 0, bl_ j 1, bl_ j 2, bl_ j 3, bl_ u 0, bl_ u 1, bl_ u 2⟩ (fun hHeld => ?_)
        clear hK K
        refine nm_ 113 ?_
        refine one_ (i := 5) (N := some 115) (bm 7 63) rfl rfl (by kernel_rfl) (by decide) (fun K hK => ?_)
        refine gs_ Try.func84 #[.agg #[.slice P5 h5.length P6], .agg #[.string d, .string G, .int .i64 U]] ?_
        with_reducible refine (spec_l03Put.calls kj188 _ _ h5 d G U b5 _ ?side1 ?side2 P1.out).mono ?_
        (case side1 => exact qD_ (Kd.R_reads' c1.out).2.2)
        (case side2 => exact (Kd.R_reads' c1.out).2.1)
        rintro e o2 ⟨A1, rfl, ho0, hb⟩
        refine ⟨_, rfl, ?_⟩
        have f7 := am_ (Kd.R_lower (Kd.R_newB (Kd.R_new' ho0 (Kd.R_lt (qR_ c1))) (qk_ u)) (below_size qB_)); replace c1 := ke_ c1 ho0 hb; replace s := qbl_ s hb; replace j := qbl_ j hb; replace q := qbl_ q hb; replace u := qbl_ u hb; replace x := qbl_ x hb; replace HB := hs_ hb; clear hb ho0
        obtain ⟨i5, h6, P8⟩ := Kd.R_slice f7.out
        (first | subst P8 | (injection P8 with V d4 X; have d5 := V.symm; have d6 := X.symm; clear V d4 X; subst d5; subst d6))
        refine hK.out _ _ ⟨bl_ s 0, bl_ j 0, bl_ j 1, bl_ j 2, bl_ j 3, bl_ u 0, bl_ u 1, bl_ u 2⟩ (fun hHeld => ?_)
        clear hK K
        refine nm_ 115 ?_
        refine one_ (i := 6) (N := none) (bm 7 127) rfl rfl (by kernel_rfl) (by decide) (fun K hK => ?_)
        have A2 : o2.cell? ⟨E, 0, none⟩ = some (.slice none 0 0) := bl_ x 0
        have p0 := blk_frozen x.out 0
        have jo := f3.out; have jp := Y.out; have T0 := g4.out; have jq := a2.out; have T2 := a0.out; have T3 := b3.out; have T4 := a1.out; have T5 := b4.out
        refine skip_ (w1 := ?_) (by rfl) rfl ?_ ?_
        rotate_left
        ·go_simp
         rfl
        refine hK.out _ _ ⟨((cell_far (p := ⟨E, _, none⟩) f3.out _).trans (hHeld.1)), ((cell_far (p := ⟨E, _, none⟩) Y.out _).trans (hHeld.2.1)), ((cell_far (p := ⟨E, _, none⟩) Y.out _).trans (hHeld.2.2.1)), ((cell_far (p := ⟨E, _, none⟩) Y.out _).trans (hHeld.2.2.2.1)), ((cell_far (p := ⟨E, _, none⟩) Y.out _).trans (hHeld.2.2.2.2.1)), ((cell_far (p := ⟨E, _, none⟩) a2.out _).trans (hHeld.2.2.2.2.2.1)), ((cell_far (p := ⟨E, _, none⟩) a2.out _).trans (hHeld.2.2.2.2.2.2.1)), ((cell_far (p := ⟨E, _, none⟩) a2.out _).trans (hHeld.2.2.2.2.2.2.2))⟩ (fun hHeld => ?_)
        clear hK K
        refine done_ (by kernel_rfl) ?_
        obtain ⟨gL, gM⟩ := nn_ a0; obtain ⟨gN, gO⟩ := nn_ a1
        obtain ⟨T6, T7⟩ := bc1_ x
        try go_wp2_with (first | ((with_reducible refine gc_ 75 ?_); refine gl_ (some 125) Try.func75 #[.agg #[.slice i5 b5.length h6]] ?_; (with_reducible refine (spec_DiskOk.calls kj188 _ _ b5 true _ ?side1 ?side2 P2.out).mono ?_); (case side1 => refine (Kd.R_reads' (e := 99) (base := w.heap.size) (ok := fun k_ => ((True ∧ some k_ ≠ (.slice P5 h5.length P6 : Value).ownBlock) ∧ k_ ≠ F)) (n := b5.length) (c := h6) ?_).2.2; exact (by (with_reducible repeat (first | apply Kd.R_alloc | apply Kd.R_drewN | apply Kd.R_drew)); exact (Kd.R_mono (Kd.R_far (p := ⟨E, 0, none⟩) (Kd.R_types f7.out x.out (by decide)) (fun _ hk => hk.2) (.slice i5 b5.length h6)) (fun _ h_ => h_.1)))); (case side2 => exact (Kd.R_reads' f7.out).2.1); rintro e P9 ⟨rfl, hb⟩; refine ⟨_, rfl, ?_⟩; replace c1 := am_ (Kd.R_below (by (with_reducible repeat (first | apply Kd.R_alloc | apply Kd.R_drewN | apply Kd.R_drew)); exact (Kd.R_mono (Kd.R_far (p := ⟨E, 0, none⟩) (Kd.R_types c1.out x.out (by decide)) (fun _ hk => hk.2) (.slice i5 b5.length h6)) (fun _ h_ => h_.1))) hb); replace f7 := am_ (Kd.R_below (by (with_reducible repeat (first | apply Kd.R_alloc | apply Kd.R_drewN | apply Kd.R_drew)); exact (Kd.R_mono (Kd.R_far (p := ⟨E, 0, none⟩) (Kd.R_types f7.out x.out (by decide)) (fun _ hk => hk.2) (.slice i5 b5.length h6)) (fun _ h_ => h_.1))) hb); replace s := qbl_ s hb; replace j := qbl_ j hb; replace q := qbl_ q hb; replace u := qbl_ u hb; replace x := am_ (blk_below (g := E) (o := .cells #[.slice i5 b5.length h6] 44 (0, 0)) (qp_ x) hb); replace HB := hs_ hb; clear hb; obtain ⟨jr, js⟩ := bc1_ x; obtain ⟨gP, gQ⟩ := nn_ i8; obtain ⟨jt, ju⟩ := bc1_ q))
        refine bodyPost_ret (results_ct rfl _ _ Z 44 #[.slice i5 b5.length h6] (0, 0) _ rfl (qp_ q) Try.underlying44 rfl (by kernel_rfl)) rfl ?_
        exact ⟨_, qr_, by (with_reducible repeat (first | apply Kd.R_alloc | apply Kd.R_drewN | apply Kd.R_drew)); exact Kd.R_mono (Kd.R_far (p := ⟨Z, 0, none⟩) (Kd.R_types f7.out q.out (by decide)) (fun _ hk => hk.2) (.slice i5 b5.length h6)) (fun _ hk => trivial), qB_⟩
       simp only [Option.some.injEq, Prod.mk.injEq] at H
       obtain ⟨rfl, rfl⟩ := H
       obtain ⟨gR, gS⟩ := nn_ e6; obtain ⟨gT, gU⟩ := nn_ a3; obtain ⟨gV, gW⟩ := nn_ f8; obtain ⟨gX, gY⟩ := nn_ Y
       obtain ⟨jv, jw, jx, jy, jz, jA, jB, jC⟩ := bc4_ j
       obtain ⟨gZ, hc⟩ := nn_ g6; obtain ⟨hd, he⟩ := nn_ f9; obtain ⟨hf, hh⟩ := nn_ a2
       obtain ⟨jD, jE, jF, jG, jH, jI⟩ := bc3_ u
       try go_wp2
       have c8 : Aside0 ((wc.setCell ⟨F, 0, none⟩ (.string d)).heap[h7]? = some (.cells #[.slice z a.length A] 44 (0, 0))) := ⟨qf_ s⟩
       have c9 : Aside0 ((wc.setCell ⟨F, 0, none⟩ (.string d)).heap[e5]? = some (.cells #[.int .i64 l, .string m, .string y, .string d] 60 (0, 0))) := ⟨qf_ j⟩
       have d0 : Aside0 ((wc.setCell ⟨F, 0, none⟩ (.string d)).heap[Z]? = some (.cells #[.slice none 0 0] 44 (0, 0))) := ⟨qf_ q⟩
       have d1 : Aside0 ((wc.setCell ⟨F, 0, none⟩ (.string d)).heap[F]? = some (.cells #[.string d, .string G, .int .i64 U] 99 (0, 0))) := ⟨qp_ u⟩
       have d2 : Aside0 ((wc.setCell ⟨F, 0, none⟩ (.string d)).heap[E]? = some (.cells #[.slice none 0 0] 44 (0, 0))) := ⟨qf_ x⟩
       have d3 : Aside0 (Below w.heap.size w (wc.setCell ⟨F, 0, none⟩ (.string d))) := ⟨qB_⟩
       clear s j q u x HB
       generalize (wc.setCell ⟨F, 0, none⟩ (.string d)) = o3 at c8 c9 d0 d1 d2 d3 ⊢
       have s := c8; have j := c9; have q := d0; have u := d1; have x := d2; have HB := d3; clear c8 c9 d0 d1 d2 d3
       replace s := bd_ s; replace j := bd_ j; replace q := bd_ q; replace u := bd_ u; replace x := bd_ x; replace HB := hd_ HB
       refine start_ (n := 7) (S := fun w' => w'.cell? ⟨h7, 0, none⟩ = some (.slice z a.length A) ∧ w'.cell? ⟨e5, 0, none⟩ = some (.int .i64 l) ∧ w'.cell? ⟨e5, 1, none⟩ = some (.string m) ∧ w'.cell? ⟨e5, 2, none⟩ = some (.string y) ∧ w'.cell? ⟨e5, 3, none⟩ = some (.string d) ∧ w'.cell? ⟨F, 0, none⟩ = some (.string d) ∧ w'.cell? ⟨F, 1, none⟩ = some (.string G) ∧ w'.cell? ⟨F, 2, none⟩ = some (.int .i64 U)) (ds := []) (bm 7 0) (by kernel_rfl) rfl (by kernel_rfl) ⟨bl_ s 0, bl_ j 0, bl_ j 1, bl_ j 2, bl_ j 3, bl_ u 0, bl_ u 1, bl_ u 2⟩ (fun hHeld => ?_)
       generalize o3.drew = Q0 at s j q u x HB hHeld ⊢
       refine pure_ (i := 1) (N := some 111) (v := ?_) (a' := ?_) (bm 7 2) rfl rfl (by kernel_rfl) (fun _ _ _ h => h) (Or.inl ⟨by rfl, ?_⟩) ?_ ?_
       rotate_left
       ·intro w'
        go_simp
        with_reducible rfl
       rotate_left
       ·simp only [Act.put, sA_, sB_, sC_, i64_w, i32_w]
        rfl
       refine take_ (i := 0) (N := some 110) (v := ?_) (a' := ?_) (bm 7 3) rfl rfl (by kernel_rfl) (fun _ _ _ h => h) (Or.inl ⟨by rfl, ?_⟩) hHeld ?_ ?_
       rotate_left
       ·rintro w' ⟨n4, n5, n6, n7, n8, n9, o0, o1⟩
        go_simp
        with_reducible rfl
       rotate_left
       ·simp only [Act.put, sA_, sB_, sC_, i64_w, i32_w]
        rfl
       refine take_ (i := 2) (N := some 112) (v := ?_) (a' := ?_) (bm 7 7) rfl rfl (by kernel_rfl) (fun _ _ _ h => h) (Or.inl ⟨by rfl, ?_⟩) hHeld ?_ ?_
       rotate_left
       ·rintro w' ⟨n4, n5, n6, n7, n8, n9, o0, o1⟩
        go_simp
        with_reducible rfl
       rotate_left
       ·simp only [Act.put, sA_, sB_, sC_, i64_w, i32_w]
        rfl
       refine take_ (i := 4) (N := some 114) (v := ?_) (a' := ?_) (bm 7 23) rfl rfl (by kernel_rfl) (fun _ _ _ h => h) (Or.inl ⟨by rfl, ?_⟩) hHeld ?_ ?_
       rotate_left
       ·rintro w' ⟨n4, n5, n6, n7, n8, n9, o0, o1⟩
        go_simp
        with_reducible rfl
       rotate_left
       ·simp only [Act.put, sA_, sB_, sC_, i64_w, i32_w]
        rfl
       refine one_ (i := 3) (N := some 113) (bm 7 31) rfl rfl (by kernel_rfl) (by decide) (fun K hK => ?_)
       refine gs_ Try.func85 #[.agg #[.slice z a.length A], .string m] ?_
       with_reducible refine (spec_l03Without.calls kj188 _ _ a m h5 _ ?side1 ?side2 P0.out).mono ?_
       (case side1 => exact qC_ B HB)
       (case side2 => exact D.out)
       rintro e Q1 ⟨A0, rfl, ho0, hb⟩
       refine ⟨_, rfl, ?_⟩
       have c1 := am_ (Kd.R_lower (Kd.R_newB ho0 (qk_ u)) (below_size qB_)); replace s := qbl_ s hb; replace j := qbl_ j hb; replace q := qbl_ q hb; replace u := qbl_ u hb; replace x := qbl_ x hb; replace HB := hs_ hb; clear hb ho0
       obtain ⟨Q2, Q3, Q4⟩ := Kd.R_slice c1.out
       (first | subst Q4 | (injection Q4 with V d4 X; have d5 := V.symm; have d6 := X.symm; clear V d4 X; subst d5; subst d6))
       refine hK.out _ _ ⟨bl_ s 0, bl_ j 0, bl_ j 1, bl_ j 2, bl_ j 3, bl_ u 0, bl_ u 1, bl_ u 2⟩ (fun hHeld => ?_)
       clear hK K
       refine nm_ 113 ?_
       refine one_ (i := 5) (N := some 115) (bm 7 63) rfl rfl (by kernel_rfl) (by decide) (fun K hK => ?_)
       refine gs_ Try.func84 #[.agg #[.slice Q2 h5.length Q3], .agg #[.string d, .string G, .int .i64 U]] ?_
       with_reducible refine (spec_l03Put.calls kj188 _ _ h5 d G U b5 _ ?side1 ?side2 P1.out).mono ?_
       (case side1 => exact qD_ (Kd.R_reads' c1.out).2.2)
       (case side2 => exact (Kd.R_reads' c1.out).2.1)
       rintro e o4 ⟨A1, rfl, ho0, hb⟩
       refine ⟨_, rfl, ?_⟩
       have f7 := am_ (Kd.R_lower (Kd.R_newB (Kd.R_new' ho0 (Kd.R_lt (qR_ c1))) (qk_ u)) (below_size qB_)); replace c1 := ke_ c1 ho0 hb; replace s := qbl_ s hb; replace j := qbl_ j hb; replace q := qbl_ q hb; replace u := qbl_ u hb; replace x := qbl_ x hb; replace HB := hs_ hb; clear hb ho0
       obtain ⟨o5, j6, Q5⟩ := Kd.R_slice f7.out
       (first | subst Q5 | (injection Q5 with V d4 X; have d5 := V.symm; have d6 := X.symm; clear V d4 X; subst d5; subst d6))
       refine hK.out _ _ ⟨bl_ s 0, bl_ j 0, bl_ j 1, bl_ j 2, bl_ j 3, bl_ u 0, bl_ u 1, bl_ u 2⟩ (fun hHeld => ?_)
       clear hK K
       refine nm_ 115 ?_
       refine one_ (i := 6) (N := none) (bm 7 127) rfl rfl (by kernel_rfl) (by decide) (fun K hK => ?_)
       have A3 : o4.cell? ⟨E, 0, none⟩ = some (.slice none 0 0) := bl_ x 0
       have p1 := blk_frozen x.out 0
       have jJ := f3.out; have jK := Y.out; have jL := g4.out; have jM := a2.out; have jN := a0.out; have jO := b3.out; have jP := a1.out; have jQ := b4.out
       refine skip_ (w1 := ?_) (by rfl) rfl ?_ ?_
       rotate_left
       ·go_simp
        rfl
       refine hK.out _ _ ⟨((cell_far (p := ⟨E, _, none⟩) f3.out _).trans (hHeld.1)), ((cell_far (p := ⟨E, _, none⟩) Y.out _).trans (hHeld.2.1)), ((cell_far (p := ⟨E, _, none⟩) Y.out _).trans (hHeld.2.2.1)), ((cell_far (p := ⟨E, _, none⟩) Y.out _).trans (hHeld.2.2.2.1)), ((cell_far (p := ⟨E, _, none⟩) Y.out _).trans (hHeld.2.2.2.2.1)), ((cell_far (p := ⟨E, _, none⟩) a2.out _).trans (hHeld.2.2.2.2.2.1)), ((cell_far (p := ⟨E, _, none⟩) a2.out _).trans (hHeld.2.2.2.2.2.2.1)), ((cell_far (p := ⟨E, _, none⟩) a2.out _).trans (hHeld.2.2.2.2.2.2.2))⟩ (fun hHeld => ?_)
       clear hK K
       refine done_ (by kernel_rfl) ?_
       obtain ⟨hj, hl⟩ := nn_ a0; obtain ⟨hm, hn⟩ := nn_ a1
       obtain ⟨jR, jS⟩ := bc1_ x
       try go_wp2_with (first | ((with_reducible refine gc_ 75 ?_); refine gl_ (some 125) Try.func75 #[.agg #[.slice o5 b5.length j6]] ?_; (with_reducible refine (spec_DiskOk.calls kj188 _ _ b5 false _ ?side1 ?side2 P2.out).mono ?_); (case side1 => refine (Kd.R_reads' (e := 99) (base := w.heap.size) (ok := fun k_ => ((True ∧ some k_ ≠ (.slice Q2 h5.length Q3 : Value).ownBlock) ∧ k_ ≠ F)) (n := b5.length) (c := j6) ?_).2.2; exact (by (with_reducible repeat (first | apply Kd.R_alloc | apply Kd.R_drewN | apply Kd.R_drew)); exact (Kd.R_mono (Kd.R_far (p := ⟨E, 0, none⟩) (Kd.R_types f7.out x.out (by decide)) (fun _ hk => hk.2) (.slice o5 b5.length j6)) (fun _ h_ => h_.1)))); (case side2 => exact (Kd.R_reads' f7.out).2.1); rintro e Q6 ⟨rfl, hb⟩; refine ⟨_, rfl, ?_⟩; replace c1 := am_ (Kd.R_below (by (with_reducible repeat (first | apply Kd.R_alloc | apply Kd.R_drewN | apply Kd.R_drew)); exact (Kd.R_mono (Kd.R_far (p := ⟨E, 0, none⟩) (Kd.R_types c1.out x.out (by decide)) (fun _ hk => hk.2) (.slice o5 b5.length j6)) (fun _ h_ => h_.1))) hb); replace f7 := am_ (Kd.R_below (by (with_reducible repeat (first | apply Kd.R_alloc | apply Kd.R_drewN | apply Kd.R_drew)); exact (Kd.R_mono (Kd.R_far (p := ⟨E, 0, none⟩) (Kd.R_types f7.out x.out (by decide)) (fun _ hk => hk.2) (.slice o5 b5.length j6)) (fun _ h_ => h_.1))) hb); replace s := qbl_ s hb; replace j := qbl_ j hb; replace q := qbl_ q hb; replace u := qbl_ u hb; replace x := am_ (blk_below (g := E) (o := .cells #[.slice o5 b5.length j6] 44 (0, 0)) (qp_ x) hb); replace HB := hs_ hb; clear hb; obtain ⟨ho, hp⟩ := nn_ i8; obtain ⟨jT, jU⟩ := bc1_ q))
       refine bodyPost_ret (results_ct rfl _ _ Z 44 #[.slice none 0 0] (0, 0) _ rfl (qp_ q) Try.underlying44 rfl (by kernel_rfl)) rfl ?_
       exact ⟨_, qr_, by first | exact Kd.R_nil _ _ _ _ _ | exact Kd.N_nil _ _ _ _ _ | exact Kd.V_nil _ _ _ _ _ | exact Kd.Q_nil _ _ _ _ _ | exact Kd.S_nil _ _ _ _ _, qB_⟩
end Go.Proofs.Ytacnlodcbbhahaa.QFnActs
