import Derived.Test.YtacnlodcbbhahaaQFnActsx3
import Derived.Test.YtacnlodcbbhahaaQFnActsx4
import Derived.Test.YtacnlodcbbhahaaQFnActsx5
import Derived.Test.YtacnlodcbbhahaaQFnActsx6
namespace Go.Proofs.Ytacnlodcbbhahaa.QFnActs
open Go.RowKit Go.Proofs.YtacnlodcbbhahaaW.PrintWords Go.Proofs.YtacnlodcbbhahaaW.PrintLast Go.Proofs.YtacnlodcbbhahaaW.PrintMore
set_option maxHeartbeats 8000000
set_option maxRecDepth 100000
set_option linter.unusedVariables false
set_option linter.unusedSimpArgs false
mutual
def impl_DoAct.j0 : Nat → Bool → List (S99) → Int → ByteArray → ByteArray → ByteArray → Option ((List (S99)) × Bool)
  | 0, _, _, _, _, _, _ => none
  | k + 1, x31, x116000, x117000, x117001, x117002, x117003 => if x31 = true then (some (([] : List (S99)), false)) else ((impl_copyDisk.f x116000).bind fun t119 => ((impl_fileAt.f k x116000 x117001).bind fun t123 => (if t123 ≥ 0 then (if 0 ≤ t123 then (if t123 < (x116000.length : Int) then (impl_DoAct.j1 k t123 x117000 x117001 x117002 x117003 t119 ((rd_T99 x116000 t123).f0) ((rd_T99 x116000 t123).f1) ((rd_T99 x116000 t123).f2)) else (none)) else (none)) else (if x117000 = 1 then (impl_DoAct.j1 k t123 x117000 x117001 x117002 x117003 t119 x117001 (⟨#[]⟩ : ByteArray) 0) else (some (([] : List (S99)), false))))))
def impl_DoAct.j1 : Nat → Int → Int → ByteArray → ByteArray → ByteArray → List (S99) → ByteArray → ByteArray → Int → Option ((List (S99)) × Bool)
  | 0, _, _, _, _, _, _, _, _, _ => none
  | k + 1, x7, x117000, x117001, x117002, x117003, x123000, x125000, x125001, x125002 => if x117000 = 1 then (if x125001.size + x117002.size ≤ 9223372036854775807 then ((impl_Disk_put.f k x123000 x125000 (x125001 ++ x117002) x125002).bind fun t126 => ((impl_DiskOk.f k t126).bind fun t129 => (if t129 = true then (some (t126, true)) else (some (([] : List (S99)), false))))) else (none)) else (if x117000 = 2 then ((impl_Disk_put.f k x123000 x125000 x125001 (x125001.size : Int)).bind fun t130 => ((impl_DiskOk.f k t130).bind fun t133 => (if t133 = true then (some (t130, true)) else (some (([] : List (S99)), false))))) else (if x117000 = 3 then (if x117003.toList = x117001.toList then (impl_DoAct.j2 k x7 false x117000 x117001 x117002 x117003 x123000 x125000 x125001 x125002) else (impl_DoAct.j2 k x7 (x125002 == (x125001.size : Int)) x117000 x117001 x117002 x117003 x123000 x125000 x125001 x125002)) else (impl_DoAct.j2 k x7 false x117000 x117001 x117002 x117003 x123000 x125000 x125001 x125002)))
def impl_DoAct.j2 : Nat → Int → Bool → Int → ByteArray → ByteArray → ByteArray → List (S99) → ByteArray → ByteArray → Int → Option ((List (S99)) × Bool)
  | 0, _, _, _, _, _, _, _, _, _, _ => none
  | k + 1, x7, x76, x117000, x117001, x117002, x117003, x123000, x125000, x125001, x125002 => if x76 = true then ((impl_Disk_drop.f x123000 x7).bind fun t134 => ((impl_Disk_put.f k t134 x117003 x125001 x125002).bind fun t137 => ((impl_DiskOk.f k t137).bind fun t140 => (if t140 = true then (some (t137, true)) else (some (([] : List (S99)), false)))))) else (if x117000 = 4 then ((impl_Disk_drop.f x123000 x7).bind fun t141 => ((impl_DiskOk.f k t141).bind fun t144 => (if t144 = true then (some (t141, true)) else (some (([] : List (S99)), false))))) else (some (([] : List (S99)), false)))
end
def impl_DoAct.f (k : Nat) (l0_0 : List (S99)) (a1_0 : Int) (a1_1 : ByteArray) (a1_2 : ByteArray) (a1_3 : ByteArray) : Option ((List (S99)) × Bool) := (impl_DiskOk.f k l0_0).bind fun t118 => (if t118 = true then (if a1_3.toList = ([] : List UInt8) then (if a1_2.toList = ([] : List UInt8) then (impl_DoAct.j0 k false l0_0 a1_0 a1_1 a1_2 a1_3) else (impl_DoAct.j0 k (a1_0 != 1) l0_0 a1_0 a1_1 a1_2 a1_3)) else (if a1_0 = 3 then (if a1_2.toList = ([] : List UInt8) then (impl_DoAct.j0 k false l0_0 a1_0 a1_1 a1_2 a1_3) else (impl_DoAct.j0 k (a1_0 != 1) l0_0 a1_0 a1_1 a1_2 a1_3)) else (impl_DoAct.j0 k true l0_0 a1_0 a1_1 a1_2 a1_3))) else (impl_DoAct.j0 k true l0_0 a1_0 a1_1 a1_2 a1_3))
theorem impl_DoAct.calls (k : Nat) (B : Option Addr) (D : Nat) (i : List (S99)) (a : Int) (v : ByteArray) (j : ByteArray) (d : ByteArray) (h9 : List (S99)) (i0 : Bool) (w : World) (hr0_0 : Kd.C k99 w B i.length i) (hc0_0 : i.length ≤ D) (h : impl_DoAct.f k i a v j d = some (h9, i0)) :
  Calls Try.prog 40 #[.agg #[.slice B i.length D], .agg #[.int .i64 a, .string v, .string j, .string d]] w fun e w' => ∃ i6 : Value, e = .returned (.tuple #[.agg #[i6], .bool i0]) ∧ Kd.R k99 99 w' w.heap.size (fun _ => True) i6 h9 ∧ Below w.heap.size w w' := by
 have hu44 := Try.underlying44; have hu60 := Try.underlying60; have hu99 := Try.underlying99
 have E := am_ hr0_0
 have F := am_ hc0_0
 clear hr0_0 hc0_0
 have HB := am_ (Below.refl w.heap.size w)
 have H : ((impl_DiskOk.f k i).bind fun x6 => (if x6 = true then (if d.toList = ([] : List UInt8) then (if j.toList = ([] : List UInt8) then (impl_DoAct.j0 k false i a v j d) else (impl_DoAct.j0 k (a != 1) i a v j d)) else (if a = 3 then (if j.toList = ([] : List UInt8) then (impl_DoAct.j0 k false i a v j d) else (impl_DoAct.j0 k (a != 1) i a v j d)) else (impl_DoAct.j0 k true i a v j d))) else (impl_DoAct.j0 k true i a v j d))) = some (h9, i0) := h
 clear h
 have m1 := am_ H
 clear H
 go_enter Try.func40, Try.ntmps40
 go_upto_region 1 with (first | ((with_reducible refine gd_ 2 ?_); ((refine gate_guard (by rfl) ?_; dsimp only)); refine by_ 2 (cs := #[.slice B i.length D]) (t := 44) ?_; intro m2 hg eI u hb; have eJ := gw_ hg; replace HB := hs_ hb; clear hb hg) | ((with_reducible refine gd_ 3 ?_); ((refine gate_guard (by rfl) ?_; dsimp only)); refine by_ 3 (cs := #[.int .i64 a, .string v, .string j, .string d]) (t := 60) ?_; intro u0 hg eK s hb; have eL := gw_ hg; obtain ⟨g4, c1⟩ := qn_ u hg; replace u := qbl_ u hb; replace HB := hs_ hb; clear hb hg) | ((with_reducible refine gd_ 4 ?_); ((refine gate_guard (by rfl) ?_; dsimp only)); refine by_ 4 (cs := #[.slice none 0 0]) (t := 44) ?_; intro b2 hg eM m hb; have eN := gw_ hg; obtain ⟨g5, e4⟩ := qn_ u hg; obtain ⟨X, N8⟩ := qn_ s hg; replace u := qbl_ u hb; replace s := qbl_ s hb; replace HB := hs_ hb; clear hb hg))
 go_cut [31] (fun v31 wc => ∃ (kq : Nat) (c2 : Bool), v31 = .bool c2 ∧ Aside0 (impl_DoAct.j0 kq c2 i a v j d = some (h9, i0)) ∧ Aside0 (kq ≤ k) ∧ Aside0 (wc.heap[m2]? = some (.cells #[(.slice B i.length D)] 44 (0, 0))) ∧ Aside0 (wc.heap[u0]? = some (.cells #[.int .i64 a, .string v, .string j, .string d] 60 (0, 0))) ∧ Aside0 (wc.heap[b2]? = some (.cells #[(.slice none 0 0)] 44 (0, 0))) ∧ Aside0 (Below w.heap.size w wc))
 case first =>
  have H := m1.out; clear m1
  obtain ⟨x6, i1, H⟩ := bs_ H
  refine id_ H ?_ ?_ <;> clear H <;> rintro rfl H
  ·have H' := am_ H; clear H; obtain ⟨N9, O0⟩ := nn_ g4; obtain ⟨O1, O2⟩ := nn_ g5
   obtain ⟨m3, m4⟩ := bc1_ u
   go_wp2_with (first | ((with_reducible refine gc_ 77 ?_); refine gl_ (some 10) Try.func77 #[.agg #[.slice B i.length D]] ?_; (with_reducible refine (impl_DiskOk.calls k _ _ i false _ ?_ ?_ i1.out).mono ?_); exact qC_ E HB; exact F.out; rintro e O3 ⟨rfl, hb⟩; refine ⟨_, rfl, ?_⟩; replace u := qbl_ u hb; replace s := qbl_ s hb; replace m := qbl_ m hb; replace HB := hs_ hb; clear hb))
   go_meet
   case rel => exact ⟨_, (true), qe_, H', ⟨qo_⟩, ⟨qk_ u⟩, ⟨qk_ s⟩, ⟨qk_ m⟩, ⟨qB_⟩⟩
  refine jc_ H ?_ ?_ <;> clear H <;> intro g6 H
  ·have M : (d.toList == ([] : List UInt8)) = true := beq_iff_eq.mpr g6
   have Z : (d.toList != ([] : List UInt8)) = false := bne_eq_false_iff_eq.mpr g6
   clear g6
   (first | rw [M] | rw [Z] | (simp only [i64_w, i32_w]; rw [M]) | skip)
   refine jc_ H ?_ ?_ <;> clear H <;> intro b6 H
   ·have a6 : (j.toList == ([] : List UInt8)) = true := beq_iff_eq.mpr b6
    have a7 : (j.toList != ([] : List UInt8)) = false := bne_eq_false_iff_eq.mpr b6
    clear b6; have H' := am_ H; clear H; obtain ⟨O4, O5⟩ := nn_ g4; obtain ⟨O6, O7⟩ := nn_ g5
    obtain ⟨m5, m6⟩ := bc1_ u
    go_wp2_with (first | ((with_reducible refine gc_ 77 ?_); refine gl_ (some 10) Try.func77 #[.agg #[.slice B i.length D]] ?_; (with_reducible refine (impl_DiskOk.calls k _ _ i true _ ?_ ?_ i1.out).mono ?_); exact qC_ E HB; exact F.out; rintro e O8 ⟨rfl, hb⟩; refine ⟨_, rfl, ?_⟩; replace u := qbl_ u hb; replace s := qbl_ s hb; replace m := qbl_ m hb; replace HB := hs_ hb; clear hb; obtain ⟨O9, P0⟩ := nn_ X; obtain ⟨m7, m8, m9, n0, n1, n2, n3, n4⟩ := bc4_ s))
    go_meet
    case rel => exact ⟨_, (false), qe_, H', ⟨qo_⟩, ⟨qk_ u⟩, ⟨qk_ s⟩, ⟨qk_ m⟩, ⟨qB_⟩⟩
   have a6 : (j.toList == ([] : List UInt8)) = false := beq_eq_false_iff_ne.mpr b6
   have a7 : (j.toList != ([] : List UInt8)) = true := bne_iff_ne.mpr b6
   have H' := am_ H; clear H; obtain ⟨P1, P2⟩ := nn_ g4; obtain ⟨P3, P4⟩ := nn_ g5
   obtain ⟨n5, n6⟩ := bc1_ u
   go_wp2_with (first | ((with_reducible refine gc_ 77 ?_); refine gl_ (some 10) Try.func77 #[.agg #[.slice B i.length D]] ?_; (with_reducible refine (impl_DiskOk.calls k _ _ i true _ ?_ ?_ i1.out).mono ?_); exact qC_ E HB; exact F.out; rintro e P5 ⟨rfl, hb⟩; refine ⟨_, rfl, ?_⟩; replace u := qbl_ u hb; replace s := qbl_ s hb; replace m := qbl_ m hb; replace HB := hs_ hb; clear hb; obtain ⟨P6, P7⟩ := nn_ X; obtain ⟨n7, n8, n9, o0, o1, o2, o3, o4⟩ := bc4_ s))
   go_meet
   case rel => exact ⟨_, ((a != 1)), qe_, H', ⟨qo_⟩, ⟨qk_ u⟩, ⟨qk_ s⟩, ⟨qk_ m⟩, ⟨qB_⟩⟩
  have M : (d.toList == ([] : List UInt8)) = false := beq_eq_false_iff_ne.mpr g6
  have Z : (d.toList != ([] : List UInt8)) = true := bne_iff_ne.mpr g6
  (first | rw [M] | rw [Z] | (simp only [i64_w, i32_w]; rw [M]) | skip)
  refine jb_ H ?_ ?_ <;> clear H <;> intro b7 H
  ·have a8 : (a == 3) = false := beq_eq_false_iff_ne.mpr b7
   have a9 : (a != 3) = true := bne_iff_ne.mpr b7
   have H' := am_ H; clear H; obtain ⟨P8, P9⟩ := nn_ g4; obtain ⟨Q0, Q1⟩ := nn_ g5
   obtain ⟨o5, o6⟩ := bc1_ u
   go_wp2_with (first | ((with_reducible refine gc_ 77 ?_); refine gl_ (some 10) Try.func77 #[.agg #[.slice B i.length D]] ?_; (with_reducible refine (impl_DiskOk.calls k _ _ i true _ ?_ ?_ i1.out).mono ?_); exact qC_ E HB; exact F.out; rintro e Q2 ⟨rfl, hb⟩; refine ⟨_, rfl, ?_⟩; replace u := qbl_ u hb; replace s := qbl_ s hb; replace m := qbl_ m hb; replace HB := hs_ hb; clear hb; obtain ⟨Q3, Q4⟩ := nn_ X; obtain ⟨o7, o8, o9, p0, p1, p2, p3, l0⟩ := bc4_ s))
   go_meet
   case rel => exact ⟨_, (true), qe_, H', ⟨qo_⟩, ⟨qk_ u⟩, ⟨qk_ s⟩, ⟨qk_ m⟩, ⟨qB_⟩⟩
  have a8 : (a == 3) = true := beq_iff_eq.mpr b7
  have a9 : (a != 3) = false := bne_eq_false_iff_eq.mpr b7
  clear b7
  refine jc_ H ?_ ?_ <;> clear H <;> intro b8 H
  ·have b0 : (j.toList == ([] : List UInt8)) = true := beq_iff_eq.mpr b8
   have b1 : (j.toList != ([] : List UInt8)) = false := bne_eq_false_iff_eq.mpr b8
   clear b8; have H' := am_ H; clear H; obtain ⟨Q5, Q6⟩ := nn_ g4; obtain ⟨Q7, Q8⟩ := nn_ g5
   obtain ⟨l1, p4⟩ := bc1_ u
   go_wp2_with (first | ((with_reducible refine gc_ 77 ?_); refine gl_ (some 10) Try.func77 #[.agg #[.slice B i.length D]] ?_; (with_reducible refine (impl_DiskOk.calls k _ _ i true _ ?_ ?_ i1.out).mono ?_); exact qC_ E HB; exact F.out; rintro e Q9 ⟨rfl, hb⟩; refine ⟨_, rfl, ?_⟩; replace u := qbl_ u hb; replace s := qbl_ s hb; replace m := qbl_ m hb; replace HB := hs_ hb; clear hb; obtain ⟨R0, R1⟩ := nn_ X; obtain ⟨p5, p6, p7, p8, p9, q0, q1, q2⟩ := bc4_ s))
   go_meet
   case rel => exact ⟨_, (false), qe_, H', ⟨qo_⟩, ⟨qk_ u⟩, ⟨qk_ s⟩, ⟨qk_ m⟩, ⟨qB_⟩⟩
  have b0 : (j.toList == ([] : List UInt8)) = false := beq_eq_false_iff_ne.mpr b8
  have b1 : (j.toList != ([] : List UInt8)) = true := bne_iff_ne.mpr b8
  have H' := am_ H; clear H; obtain ⟨R2, R3⟩ := nn_ g4; obtain ⟨R4, R5⟩ := nn_ g5
  obtain ⟨q3, q4⟩ := bc1_ u
  go_wp2_with (first | ((with_reducible refine gc_ 77 ?_); refine gl_ (some 10) Try.func77 #[.agg #[.slice B i.length D]] ?_; (with_reducible refine (impl_DiskOk.calls k _ _ i true _ ?_ ?_ i1.out).mono ?_); exact qC_ E HB; exact F.out; rintro e R6 ⟨rfl, hb⟩; refine ⟨_, rfl, ?_⟩; replace u := qbl_ u hb; replace s := qbl_ s hb; replace m := qbl_ m hb; replace HB := hs_ hb; clear hb; obtain ⟨R7, R8⟩ := nn_ X; obtain ⟨q5, q6, q7, q8, q9, r0, r1, r2⟩ := bc4_ s))
  go_meet
  case rel => exact ⟨_, ((a != 1)), qe_, H', ⟨qo_⟩, ⟨qk_ u⟩, ⟨qk_ s⟩, ⟨qk_ m⟩, ⟨qB_⟩⟩
 case rest =>
  clear m1
  obtain ⟨kq, c2, rfl, HA, k8, u, s, m, HB⟩ := hcut
  cases kq with
  | zero => exact absurd HA.out (by simp [impl_DoAct.j0])
  | succ kj2 =>
   have H := HA.out; clear HA
   simp only [impl_DoAct.j0] at H
   refine ie_ H ?_ ?_ <;> clear H <;> rintro rfl H
   ·simp only [Option.some.injEq, Prod.mk.injEq] at H
    obtain ⟨rfl, rfl⟩ := H
    obtain ⟨R9, S0⟩ := nn_ e4; obtain ⟨S1, S2⟩ := nn_ N8
    obtain ⟨y3, y4⟩ := bc1_ m
    go_wp2
    refine bodyPost_ret (results_ct rfl _ _ b2 44 #[.slice none 0 0] (0, 0) _ rfl (qp_ m) Try.underlying44 rfl (by kernel_rfl)) rfl ?_
    exact ⟨_, qr_, by first | exact Kd.R_nil _ _ _ _ _ | exact Kd.N_nil _ _ _ _ _ | exact Kd.V_nil _ _ _ _ _ | exact Kd.Q_nil _ _ _ _ _ | exact Kd.S_nil _ _ _ _ _, qB_⟩
   obtain ⟨I, r3, H⟩ := bs_ H
   obtain ⟨U, r4, H⟩ := bs_ H
   have r5 := am_ H
   clear H; obtain ⟨S3, S4⟩ := nn_ g4; obtain ⟨S5, S6⟩ := nn_ g5
   obtain ⟨y5, y6⟩ := bc1_ u
   go_upto_if 43 with (first | ((with_reducible refine gc_ 78 ?_); refine gl_ (some 34) Try.func78 #[.agg #[.slice B i.length D]] ?_; (with_reducible refine (impl_copyDisk.calls _ _ i I _ ?_ ?_ r3.out).mono ?_); exact qC_ E HB; exact F.out; rintro e S7 ⟨S8, rfl, ho0, hb⟩; refine ⟨_, rfl, ?_⟩; have e9 := am_ (Kd.R_lower ho0 (below_size qB_)); replace u := qbl_ u hb; replace s := qbl_ s hb; replace m := qbl_ m hb; replace HB := hs_ hb; clear hb ho0) | ((with_reducible refine gd_ 6 ?_); ((refine gate_guard (by rfl) ?_; dsimp only)); refine by_ 6 (cs := #[.slice none 0 0]) (t := 44) ?_; intro x hg S9 l hb; have eO := gw_ hg; obtain ⟨T1, f3⟩ := qn_ u hg; obtain ⟨d7, r6⟩ := qn_ s hg; obtain ⟨y7, f4⟩ := qn_ m hg; replace e9 := kb_ e9 hb; replace u := qbl_ u hb; replace s := qbl_ s hb; replace m := qbl_ m hb; replace HB := hs_ hb; clear hb hg; obtain ⟨N, L, T8⟩ := Kd.R_slice e9.out; subst T8; obtain ⟨T9, U0⟩ := nn_ f3; obtain ⟨U1, U2⟩ := nn_ r6; obtain ⟨U3, U4⟩ := nn_ f4; obtain ⟨y8, y9⟩ := bc1_ l; obtain ⟨z0, z1⟩ := bc1_ u; obtain ⟨U5, U6⟩ := nn_ X; obtain ⟨z2, z3, z4, z5, z6, z7, z8, z9⟩ := bc4_ s) | ((with_reducible refine gc_ 86 ?_); refine gl_ (some 38) Try.func86 #[.agg #[.slice B i.length D], .string v] ?_; (with_reducible refine (impl_fileAt.calls kj2 _ _ i v U _ ?_ ?_ r4.out).mono ?_); exact Kd.C_below E.out qB_; exact F.out; rintro e U7 ⟨rfl, hb⟩; refine ⟨_, rfl, ?_⟩; replace e9 := am_ (Kd.R_below (by (with_reducible repeat (first | apply Kd.R_alloc | apply Kd.R_drewN | apply Kd.R_drew)); exact (Kd.R_mono (Kd.R_far (p := ⟨x, 0, none⟩) (Kd.R_types e9.out l.out (by decide)) (fun _ hk => hk.2) (.slice N I.length L)) (fun _ h_ => h_.1))) hb); replace u := qbl_ u hb; replace s := qbl_ s hb; replace m := qbl_ m hb; replace l := am_ (blk_below (g := x) (o := .cells #[.slice N I.length L] 44 (0, 0)) (qp_ l) hb); replace HB := hs_ hb; clear hb; obtain ⟨A0, A1, A2, A3, A4, A5, A6, A7⟩ := bc4_ s) | ((with_reducible refine gd_ 8 ?_); ((refine gate_guard (by rfl) ?_; dsimp only)); refine by_ 8 (cs := #[.string (⟨#[]⟩ : ByteArray), .string (⟨#[]⟩ : ByteArray), .int .i64 0]) (t := 99) ?_; intro q hg U8 z hb; have r7 := gw_ hg; obtain ⟨U9, g7⟩ := qn_ u hg; obtain ⟨c3, A8⟩ := qn_ s hg; obtain ⟨l9, f5⟩ := qn_ m hg; obtain ⟨m0, h4⟩ := qn_ l hg; replace e9 := am_ (Kd.R_below (Kd.R_elderB (qR_ e9) q (Nat.le_of_eq hg.symm)) hb); replace u := qbl_ u hb; replace s := qbl_ s hb; replace m := qbl_ m hb; replace l := qbl_ l hb; replace HB := hs_ hb; clear hb hg; obtain ⟨V0, V1⟩ := nn_ g7; obtain ⟨V2, V3⟩ := nn_ A8; obtain ⟨V4, V5⟩ := nn_ f5; obtain ⟨V6, V7⟩ := nn_ h4; obtain ⟨A9, B1, B8, B9, C0, C1⟩ := bc3_ z))
   go_cut [] (fun wc => ∃ (kq : Nat) (Y : ByteArray) (A : ByteArray) (V : Int), Aside0 (impl_DoAct.j1 kq U a v j d I Y A V = some (h9, i0)) ∧ Aside0 (kq ≤ kj2) ∧ Aside0 (Kd.R k99 99 wc w.heap.size (fun k_ => k_ ≠ q) (.slice N I.length L) I) ∧ Aside0 (wc.heap[m2]? = some (.cells #[(.slice B i.length D)] 44 (0, 0))) ∧ Aside0 (wc.heap[u0]? = some (.cells #[.int .i64 a, .string v, .string j, .string d] 60 (0, 0))) ∧ Aside0 (wc.heap[b2]? = some (.cells #[(.slice none 0 0)] 44 (0, 0))) ∧ Aside0 (wc.heap[x]? = some (.cells #[(.slice N I.length L)] 44 (0, 0))) ∧ Aside0 (wc.heap[q]? = some (.cells #[.string Y, .string A, .int .i64 V] 99 (0, 0))) ∧ Aside0 (Below w.heap.size w wc))
   case first =>
    have H := r5.out; clear r5
    refine jb_ H ?_ ?_ <;> clear H <;> intro d8 H
    ·have J : decide (0 ≤ U) = false := decide_eq_false d8
     clear d8
     (first | rw [J] | (simp only [i64_w, i32_w]; rw [J]) | skip)
     refine jc_ H ?_ ?_ <;> clear H <;> intro c4 H
     ·have c5 : (a == 1) = true := beq_iff_eq.mpr c4
      have c6 : (a != 1) = false := bne_eq_false_iff_eq.mpr c4
      clear c4; have H' := am_ H; clear H; obtain ⟨V8, V9⟩ := nn_ c1; obtain ⟨W0, W1⟩ := nn_ X; obtain ⟨W2, W3⟩ := nn_ d7; obtain ⟨W4, W5⟩ := nn_ c3
      obtain ⟨C2, C3, C4, C5, C6, C7, C8, C9⟩ := bc4_ s
      go_wp2
      go_meet
      case rel => exact ⟨_, (v), ((⟨#[]⟩ : ByteArray)), (0), H', ⟨by have := k8.out; first | omega | exact Nat.le_refl _⟩, ⟨by (with_reducible repeat (first | apply Kd.R_alloc | apply Kd.R_drewN | apply Kd.R_drew)); exact Kd.R_mono (Kd.R_far (p := ⟨q, 2, none⟩) (Kd.R_far (p := ⟨q, 1, none⟩) (Kd.R_far (p := ⟨q, 0, none⟩) (Kd.R_mono e9.out (fun k_ hk => (⟨hk, hk.2⟩ : _ ∧ k_ ≠ q))) (fun _ hk => hk.2) (.string v)) (fun _ hk => hk.2) (.string (⟨#[]⟩ : ByteArray))) (fun _ hk => hk.2) (.int .i64 0)) (fun _ hk => hk.1.2)⟩, ⟨qf_ u⟩, ⟨qf_ s⟩, ⟨qf_ m⟩, ⟨qf_ l⟩, ⟨qp_ z⟩, ⟨qB_⟩⟩
     have c5 : (a == 1) = false := beq_eq_false_iff_ne.mpr c4
     have c6 : (a != 1) = true := bne_iff_ne.mpr c4
     simp only [Option.some.injEq, Prod.mk.injEq] at H
     obtain ⟨rfl, rfl⟩ := H
     obtain ⟨W6, W7⟩ := nn_ c1; obtain ⟨W8, W9⟩ := nn_ X; obtain ⟨X0, X1⟩ := nn_ d7; obtain ⟨X2, X3⟩ := nn_ c3
     obtain ⟨D0, D1, D2, D3, D4, D5, D6, D7⟩ := bc4_ s
     obtain ⟨X4, X5⟩ := nn_ e4; obtain ⟨X6, X7⟩ := nn_ y7; obtain ⟨eP, eQ⟩ := nn_ l9
     obtain ⟨D8, D9⟩ := bc1_ m
     go_wp2
     refine bodyPost_ret (results_ct rfl _ _ b2 44 #[.slice none 0 0] (0, 0) _ rfl (qp_ m) Try.underlying44 rfl (by kernel_rfl)) rfl ?_
     exact ⟨_, qr_, by first | exact Kd.R_nil _ _ _ _ _ | exact Kd.N_nil _ _ _ _ _ | exact Kd.V_nil _ _ _ _ _ | exact Kd.Q_nil _ _ _ _ _ | exact Kd.S_nil _ _ _ _ _, qB_⟩
    have J : decide (0 ≤ U) = true := decide_eq_true d8
    clear d8
    (first | rw [J] | (simp only [i64_w, i32_w]; rw [J]) | skip)
    refine ig_ H ?_; clear H; intro e5 H
    refine ig_ H ?_; clear H; intro e6 H
    have H' := am_ H; clear H; obtain ⟨X8, X9⟩ := nn_ g4; obtain ⟨Y0, Y1⟩ := nn_ g5; obtain ⟨Y2, Y3⟩ := nn_ T1; obtain ⟨Y4, Y5⟩ := nn_ U9
    obtain ⟨E0, E1⟩ := bc1_ u
    have c8 := dt_ U
    have c9 := du_ U i.length
    obtain ⟨c7, k9, d9, e7, e8⟩ := at_T99 E.out U (ot_ c8) (ot_ c9)
    cases k9
    have hn125_0 : c7.block ≠ q := Nat.ne_of_lt (Nat.lt_of_lt_of_le (by have := World.block_lt_of_cell? _ _ d9; first | rwa [add_block] at this | exact this) r7.out)
    have hn125_1 : c7.block ≠ q := Nat.ne_of_lt (Nat.lt_of_lt_of_le (by have := World.block_lt_of_cell? _ _ d9; first | rwa [add_block] at this | exact this) r7.out)
    have hn125_2 : c7.block ≠ q := Nat.ne_of_lt (Nat.lt_of_lt_of_le (by have := World.block_lt_of_cell? _ _ d9; first | rwa [add_block] at this | exact this) r7.out)
    replace d9 := qx_ HB d9
    replace e7 := qx_ HB e7
    replace e8 := qx_ HB e8
    replace d9 := (cell_far (p := ⟨q, 0, none⟩) (by first | (rw [add_block]; exact hn125_0) | (show (Addr.add _ _).block ≠ _; rw [add_block]; exact hn125_0) | exact hn125_0) (.string v)).trans d9
    replace e7 := (cell_far (p := ⟨q, 0, none⟩) (by first | (rw [add_block]; exact hn125_0) | (show (Addr.add _ _).block ≠ _; rw [add_block]; exact hn125_0) | exact hn125_0) (.string v)).trans e7
    replace e8 := (cell_far (p := ⟨q, 0, none⟩) (by first | (rw [add_block]; exact hn125_0) | (show (Addr.add _ _).block ≠ _; rw [add_block]; exact hn125_0) | exact hn125_0) (.string v)).trans e8
    replace d9 := (cell_far (p := ⟨q, 1, none⟩) (by first | (rw [add_block]; exact hn125_1) | (show (Addr.add _ _).block ≠ _; rw [add_block]; exact hn125_1) | exact hn125_1) (.string (⟨#[]⟩ : ByteArray))).trans d9
    replace e7 := (cell_far (p := ⟨q, 1, none⟩) (by first | (rw [add_block]; exact hn125_1) | (show (Addr.add _ _).block ≠ _; rw [add_block]; exact hn125_1) | exact hn125_1) (.string (⟨#[]⟩ : ByteArray))).trans e7
    replace e8 := (cell_far (p := ⟨q, 1, none⟩) (by first | (rw [add_block]; exact hn125_1) | (show (Addr.add _ _).block ≠ _; rw [add_block]; exact hn125_1) | exact hn125_1) (.string (⟨#[]⟩ : ByteArray))).trans e8
    replace d9 := (cell_far (p := ⟨q, 2, none⟩) (by first | (rw [add_block]; exact hn125_2) | (show (Addr.add _ _).block ≠ _; rw [add_block]; exact hn125_2) | exact hn125_2) (.int .i64 0)).trans d9
    replace e7 := (cell_far (p := ⟨q, 2, none⟩) (by first | (rw [add_block]; exact hn125_2) | (show (Addr.add _ _).block ≠ _; rw [add_block]; exact hn125_2) | exact hn125_2) (.int .i64 0)).trans e7
    replace e8 := (cell_far (p := ⟨q, 2, none⟩) (by first | (rw [add_block]; exact hn125_2) | (show (Addr.add _ _).block ≠ _; rw [add_block]; exact hn125_2) | exact hn125_2) (.int .i64 0)).trans e8
    clear hn125_0 hn125_1 hn125_2; obtain ⟨Y6, Y7⟩ := nn_ A8; obtain ⟨Y8, Y9⟩ := nn_ f5; obtain ⟨Z0, Z1⟩ := nn_ h4
    obtain ⟨E2, E3, E4, E5, E6, E7⟩ := bc3_ z
    go_wp2
    go_meet
    case rel => exact ⟨_, ((rd_T99 i U).f0), ((rd_T99 i U).f1), ((rd_T99 i U).f2), H', ⟨by have := k8.out; first | omega | exact Nat.le_refl _⟩, ⟨by (with_reducible repeat (first | apply Kd.R_alloc | apply Kd.R_drewN | apply Kd.R_drew)); exact Kd.R_mono (Kd.R_far (p := ⟨q, 2, none⟩) (Kd.R_far (p := ⟨q, 1, none⟩) (Kd.R_far (p := ⟨q, 0, none⟩) (Kd.R_far (p := ⟨q, 2, none⟩) (Kd.R_far (p := ⟨q, 1, none⟩) (Kd.R_far (p := ⟨q, 0, none⟩) (Kd.R_mono e9.out (fun k_ hk => (⟨hk, hk.2⟩ : _ ∧ k_ ≠ q))) (fun _ hk => hk.2) (.string v)) (fun _ hk => hk.2) (.string (⟨#[]⟩ : ByteArray))) (fun _ hk => hk.2) (.int .i64 0)) (fun _ hk => hk.2) (.string ((rd_T99 i U).f0))) (fun _ hk => hk.2) (.string ((rd_T99 i U).f1))) (fun _ hk => hk.2) (.int .i64 ((rd_T99 i U).f2))) (fun _ hk => hk.1.2)⟩, ⟨qf_ u⟩, ⟨qf_ s⟩, ⟨qf_ m⟩, ⟨qf_ l⟩, ⟨qp_ z⟩, ⟨qB_⟩⟩
   case rest =>
    clear r5 y5 y8 z0 z2 z3 z4 z5 A0 A1 A2 A3 A9 B1 B8 y6 y9 z1 z6 z7 z8 z9 A4 A5 A6 A7 B9 C0 C1
    obtain ⟨kq, Y, A, V, HA, x1, y, u, s, m, l, z, HB⟩ := hcut
    cases kq with
    | zero => exact absurd HA.out (by simp [impl_DoAct.j1])
    | succ kj52 =>
     have H := HA.out; clear HA
     simp only [impl_DoAct.j1] at H
     refine jc_ H ?_ ?_ <;> clear H <;> intro a0 H
     ·have d0 : (a == 1) = true := beq_iff_eq.mpr a0
      have d1 : (a != 1) = false := bne_eq_false_iff_eq.mpr a0
      clear a0
      refine jg_ H ?_; clear H; intro d2 H
      have f6 := eq_true d2
      have f7 := decide_eq_true d2
      try have f8 : (9223372036854775807 < A.size + j.size) = False := eq_false (Nat.not_lt.2 d2)
      obtain ⟨b3, F0, H⟩ := bs_ H
      obtain ⟨eR, F1, H⟩ := bs_ H
      refine ie_ H ?_ ?_ <;> clear H <;> rintro rfl H
      ·simp only [Option.some.injEq, Prod.mk.injEq] at H
       obtain ⟨rfl, rfl⟩ := H
       obtain ⟨eS, eT⟩ := nn_ c1; obtain ⟨eU, eV⟩ := nn_ X; obtain ⟨eW, eX⟩ := nn_ d7; obtain ⟨eY, eZ⟩ := nn_ c3
       obtain ⟨u1, u2, u3, u4, u5, u6, u7, u8⟩ := bc4_ s
       obtain ⟨T0, fa⟩ := nn_ g7; obtain ⟨T2, T3⟩ := nn_ f5; obtain ⟨T4, T5⟩ := nn_ h4
       obtain ⟨u9, v0, v1, v2, v3, v4⟩ := bc3_ z
       go_wp2_with (first | ((with_reducible refine gc_ 87 ?_); refine gl_ (some 65) Try.func87 #[.pointer (some ⟨x, 0, none⟩), .agg #[.string Y, .string (A ++ j), .int .i64 V]] ?_; (with_reducible refine (impl_Disk_put.calls kj52 N L I Y (A ++ j) V b3 x _ ?side1 ?side2 ?side3 F0.out).mono ?_); (case side1 => exact (qf_ l)); (case side2 => refine (Kd.R_reads' (e := 99) (base := w.heap.size) (ok := fun k_ => k_ ≠ q) (n := I.length) (c := L) ?_).2.2; exact (by (with_reducible repeat (first | apply Kd.R_alloc | apply Kd.R_drewN | apply Kd.R_drew)); exact (Kd.R_mono (Kd.R_far (p := ⟨q, 1, none⟩) (Kd.R_mono y.out (fun k_ hk => (⟨hk, hk⟩ : _ ∧ k_ ≠ q))) (fun _ hk => hk.2) (.string (A ++ j))) (fun _ h_ => h_.1)))); (case side3 => exact (Kd.R_reads' y.out).2.1); rintro e w__ ⟨F2, T6, rfl, ho0, hb, rfl⟩; refine ⟨_, rfl, ?_⟩; have e0 := am_ (Kd.R_lower (Kd.R_newB (Kd.R_new' ho0 (Kd.R_lt (by (with_reducible repeat (first | apply Kd.R_alloc | apply Kd.R_drewN | apply Kd.R_drew)); exact (Kd.R_mono (Kd.R_far (p := ⟨q, 1, none⟩) (Kd.R_mono y.out (fun k_ hk => (⟨hk, hk⟩ : _ ∧ k_ ≠ q))) (fun _ hk => hk.2) (.string (A ++ j))) (fun _ h_ => h_.1))))) (g := q) (o := .cells #[.string Y, .string (A ++ j), .int .i64 V] 99 (0, 0)) (qp_ z)) (below_size qB_)); replace y := am_ (Kd.R_elder' (by (with_reducible repeat (first | apply Kd.R_alloc | apply Kd.R_drewN | apply Kd.R_drew)); exact (Kd.R_mono (Kd.R_far (p := ⟨q, 1, none⟩) (Kd.R_mono y.out (fun k_ hk => (⟨hk, hk⟩ : _ ∧ k_ ≠ q))) (fun _ hk => hk.2) (.string (A ++ j))) (fun _ h_ => h_.1))) (Kd.R_base ho0) hb); replace u := qbl_ u hb; replace s := qbl_ s hb; replace m := qbl_ m hb; replace l := qbl_ l hb; replace z := am_ (blk_below (g := q) (o := .cells #[.string Y, .string (A ++ j), .int .i64 V] 99 (0, 0)) (qp_ z) hb); replace HB := hs_ hb; clear hb ho0; obtain ⟨h5, g8, Z5⟩ := Kd.R_slice e0.out; subst Z5; obtain ⟨T7, fb⟩ := nn_ f3; obtain ⟨fc, fd⟩ := nn_ f4; obtain ⟨v5, v6⟩ := bc1_ l) | ((with_reducible refine gc_ 77 ?_); refine gl_ (some 109) Try.func77 #[.agg #[.slice h5 b3.length g8]] ?_; (with_reducible refine (impl_DiskOk.calls kj52 _ _ b3 true _ ?side1 ?side2 F1.out).mono ?_); (case side1 => refine (Kd.R_reads' (e := 99) (base := w.heap.size) (ok := fun k_ => ((True ∧ some k_ ≠ (.slice N I.length L : Value).ownBlock) ∧ k_ ≠ q)) (n := b3.length) (c := g8) ?_).2.2; exact (by (with_reducible repeat (first | apply Kd.R_alloc | apply Kd.R_drewN | apply Kd.R_drew)); exact (Kd.R_mono (Kd.R_far (p := ⟨x, 0, none⟩) (Kd.R_types e0.out l.out (by decide)) (fun _ hk => hk.2) (.slice h5 b3.length g8)) (fun _ h_ => h_.1)))); (case side2 => exact (Kd.R_reads' e0.out).2.1); rintro e F3 ⟨rfl, hb⟩; refine ⟨_, rfl, ?_⟩; replace y := am_ (Kd.R_below (by (with_reducible repeat (first | apply Kd.R_alloc | apply Kd.R_drewN | apply Kd.R_drew)); exact (Kd.R_mono (Kd.R_far (p := ⟨x, 0, none⟩) (Kd.R_types y.out l.out (by decide)) (fun _ hk => hk.2) (.slice h5 b3.length g8)) (fun _ h_ => h_.1))) hb); replace e0 := am_ (Kd.R_below (by (with_reducible repeat (first | apply Kd.R_alloc | apply Kd.R_drewN | apply Kd.R_drew)); exact (Kd.R_mono (Kd.R_far (p := ⟨x, 0, none⟩) (Kd.R_types e0.out l.out (by decide)) (fun _ hk => hk.2) (.slice h5 b3.length g8)) (fun _ h_ => h_.1))) hb); replace u := qbl_ u hb; replace s := qbl_ s hb; replace m := qbl_ m hb; replace l := am_ (blk_below (g := x) (o := .cells #[.slice h5 b3.length g8] 44 (0, 0)) (qp_ l) hb); replace z := qbl_ z hb; replace HB := hs_ hb; clear hb; obtain ⟨v7, v8⟩ := bc1_ l; obtain ⟨fe, ff⟩ := nn_ e4; obtain ⟨v9, Z6⟩ := bc1_ m))
       refine bodyPost_ret (results_ct rfl _ _ b2 44 #[.slice h5 b3.length g8] (0, 0) _ rfl (qp_ m) Try.underlying44 rfl (by kernel_rfl)) rfl ?_
       exact ⟨_, qr_, by (with_reducible repeat (first | apply Kd.R_alloc | apply Kd.R_drewN | apply Kd.R_drew)); exact Kd.R_mono (Kd.R_far (p := ⟨b2, 0, none⟩) (Kd.R_types e0.out m.out (by decide)) (fun _ hk => hk.2) (.slice h5 b3.length g8)) (fun _ hk => trivial), qB_⟩
      simp only [Option.some.injEq, Prod.mk.injEq] at H
      obtain ⟨rfl, rfl⟩ := H
      obtain ⟨fg, fh⟩ := nn_ c1; obtain ⟨fi, fj⟩ := nn_ X; obtain ⟨fk, fl⟩ := nn_ d7; obtain ⟨fm, fn⟩ := nn_ c3
      obtain ⟨Z7, Z8, Z9, aa, ab, ac, ad, ae⟩ := bc4_ s
      obtain ⟨fo, fp⟩ := nn_ g7; obtain ⟨fq, fr⟩ := nn_ f5; obtain ⟨fs, ft⟩ := nn_ h4
      obtain ⟨af, ag, ah, ai, aj, ak⟩ := bc3_ z
      go_wp2_with (first | ((with_reducible refine gc_ 87 ?_); refine gl_ (some 65) Try.func87 #[.pointer (some ⟨x, 0, none⟩), .agg #[.string Y, .string (A ++ j), .int .i64 V]] ?_; (with_reducible refine (impl_Disk_put.calls kj52 N L I Y (A ++ j) V b3 x _ ?side1 ?side2 ?side3 F0.out).mono ?_); (case side1 => exact (qf_ l)); (case side2 => refine (Kd.R_reads' (e := 99) (base := w.heap.size) (ok := fun k_ => k_ ≠ q) (n := I.length) (c := L) ?_).2.2; exact (by (with_reducible repeat (first | apply Kd.R_alloc | apply Kd.R_drewN | apply Kd.R_drew)); exact (Kd.R_mono (Kd.R_far (p := ⟨q, 1, none⟩) (Kd.R_mono y.out (fun k_ hk => (⟨hk, hk⟩ : _ ∧ k_ ≠ q))) (fun _ hk => hk.2) (.string (A ++ j))) (fun _ h_ => h_.1)))); (case side3 => exact (Kd.R_reads' y.out).2.1); rintro e w__ ⟨F4, T6, rfl, ho0, hb, rfl⟩; refine ⟨_, rfl, ?_⟩; have e0 := am_ (Kd.R_lower (Kd.R_newB (Kd.R_new' ho0 (Kd.R_lt (by (with_reducible repeat (first | apply Kd.R_alloc | apply Kd.R_drewN | apply Kd.R_drew)); exact (Kd.R_mono (Kd.R_far (p := ⟨q, 1, none⟩) (Kd.R_mono y.out (fun k_ hk => (⟨hk, hk⟩ : _ ∧ k_ ≠ q))) (fun _ hk => hk.2) (.string (A ++ j))) (fun _ h_ => h_.1))))) (g := q) (o := .cells #[.string Y, .string (A ++ j), .int .i64 V] 99 (0, 0)) (qp_ z)) (below_size qB_)); replace y := am_ (Kd.R_elder' (by (with_reducible repeat (first | apply Kd.R_alloc | apply Kd.R_drewN | apply Kd.R_drew)); exact (Kd.R_mono (Kd.R_far (p := ⟨q, 1, none⟩) (Kd.R_mono y.out (fun k_ hk => (⟨hk, hk⟩ : _ ∧ k_ ≠ q))) (fun _ hk => hk.2) (.string (A ++ j))) (fun _ h_ => h_.1))) (Kd.R_base ho0) hb); replace u := qbl_ u hb; replace s := qbl_ s hb; replace m := qbl_ m hb; replace l := qbl_ l hb; replace z := am_ (blk_below (g := q) (o := .cells #[.string Y, .string (A ++ j), .int .i64 V] 99 (0, 0)) (qp_ z) hb); replace HB := hs_ hb; clear hb ho0; obtain ⟨l5, i2, al⟩ := Kd.R_slice e0.out; subst al; obtain ⟨fu, fv⟩ := nn_ f3; obtain ⟨fw, fx⟩ := nn_ f4; obtain ⟨am, an⟩ := bc1_ l) | ((with_reducible refine gc_ 77 ?_); refine gl_ (some 109) Try.func77 #[.agg #[.slice l5 b3.length i2]] ?_; (with_reducible refine (impl_DiskOk.calls kj52 _ _ b3 false _ ?side1 ?side2 F1.out).mono ?_); (case side1 => refine (Kd.R_reads' (e := 99) (base := w.heap.size) (ok := fun k_ => ((True ∧ some k_ ≠ (.slice N I.length L : Value).ownBlock) ∧ k_ ≠ q)) (n := b3.length) (c := i2) ?_).2.2; exact (by (with_reducible repeat (first | apply Kd.R_alloc | apply Kd.R_drewN | apply Kd.R_drew)); exact (Kd.R_mono (Kd.R_far (p := ⟨x, 0, none⟩) (Kd.R_types e0.out l.out (by decide)) (fun _ hk => hk.2) (.slice l5 b3.length i2)) (fun _ h_ => h_.1)))); (case side2 => exact (Kd.R_reads' e0.out).2.1); rintro e F5 ⟨rfl, hb⟩; refine ⟨_, rfl, ?_⟩; replace y := am_ (Kd.R_below (by (with_reducible repeat (first | apply Kd.R_alloc | apply Kd.R_drewN | apply Kd.R_drew)); exact (Kd.R_mono (Kd.R_far (p := ⟨x, 0, none⟩) (Kd.R_types y.out l.out (by decide)) (fun _ hk => hk.2) (.slice l5 b3.length i2)) (fun _ h_ => h_.1))) hb); replace e0 := am_ (Kd.R_below (by (with_reducible repeat (first | apply Kd.R_alloc | apply Kd.R_drewN | apply Kd.R_drew)); exact (Kd.R_mono (Kd.R_far (p := ⟨x, 0, none⟩) (Kd.R_types e0.out l.out (by decide)) (fun _ hk => hk.2) (.slice l5 b3.length i2)) (fun _ h_ => h_.1))) hb); replace u := qbl_ u hb; replace s := qbl_ s hb; replace m := qbl_ m hb; replace l := am_ (blk_below (g := x) (o := .cells #[.slice l5 b3.length i2] 44 (0, 0)) (qp_ l) hb); replace z := qbl_ z hb; replace HB := hs_ hb; clear hb; obtain ⟨fy, fz⟩ := nn_ e4; obtain ⟨ao, ap⟩ := bc1_ m))
      refine bodyPost_ret (results_ct rfl _ _ b2 44 #[.slice none 0 0] (0, 0) _ rfl (qp_ m) Try.underlying44 rfl (by kernel_rfl)) rfl ?_
      exact ⟨_, qr_, by first | exact Kd.R_nil _ _ _ _ _ | exact Kd.N_nil _ _ _ _ _ | exact Kd.V_nil _ _ _ _ _ | exact Kd.Q_nil _ _ _ _ _ | exact Kd.S_nil _ _ _ _ _, qB_⟩
     have d0 : (a == 1) = false := beq_eq_false_iff_ne.mpr a0
     have d1 : (a != 1) = true := bne_iff_ne.mpr a0
     refine jc_ H ?_ ?_ <;> clear H <;> intro a1 H
     ·have d3 : (a == 2) = true := beq_iff_eq.mpr a1
      have d4 : (a != 2) = false := bne_eq_false_iff_eq.mpr a1
      clear a1
      obtain ⟨b4, F6, H⟩ := bs_ H
      obtain ⟨fA, F7, H⟩ := bs_ H
      refine ie_ H ?_ ?_ <;> clear H <;> rintro rfl H
      ·simp only [Option.some.injEq, Prod.mk.injEq] at H
       obtain ⟨rfl, rfl⟩ := H
       obtain ⟨fB, fC⟩ := nn_ c1; obtain ⟨fD, fE⟩ := nn_ X; obtain ⟨fF, fG⟩ := nn_ d7; obtain ⟨fH, fI⟩ := nn_ c3
       obtain ⟨aq, ar, au, av, aw, ax, ay, az⟩ := bc4_ s
       obtain ⟨fJ, fK⟩ := nn_ g7; obtain ⟨fL, fM⟩ := nn_ f5; obtain ⟨fN, fO⟩ := nn_ h4
       obtain ⟨aA, aB, aC, aD, aE, aF⟩ := bc3_ z
       go_wp2_with (first | ((with_reducible refine gc_ 87 ?_); refine gl_ (some 75) Try.func87 #[.pointer (some ⟨x, 0, none⟩), .agg #[.string Y, .string A, .int .i64 (A.size : Int)]] ?_; (with_reducible refine (impl_Disk_put.calls kj52 N L I Y A (A.size : Int) b4 x _ ?side1 ?side2 ?side3 F6.out).mono ?_); (case side1 => exact (qf_ l)); (case side2 => refine (Kd.R_reads' (e := 99) (base := w.heap.size) (ok := fun k_ => k_ ≠ q) (n := I.length) (c := L) ?_).2.2; exact (by (with_reducible repeat (first | apply Kd.R_alloc | apply Kd.R_drewN | apply Kd.R_drew)); exact (Kd.R_mono (Kd.R_far (p := ⟨q, 2, none⟩) (Kd.R_mono y.out (fun k_ hk => (⟨hk, hk⟩ : _ ∧ k_ ≠ q))) (fun _ hk => hk.2) (.int .i64 (A.size : Int))) (fun _ h_ => h_.1)))); (case side3 => exact (Kd.R_reads' y.out).2.1); rintro e w__ ⟨F8, aG, rfl, ho0, hb, rfl⟩; refine ⟨_, rfl, ?_⟩; have e1 := am_ (Kd.R_lower (Kd.R_newB (Kd.R_new' ho0 (Kd.R_lt (by (with_reducible repeat (first | apply Kd.R_alloc | apply Kd.R_drewN | apply Kd.R_drew)); exact (Kd.R_mono (Kd.R_far (p := ⟨q, 2, none⟩) (Kd.R_mono y.out (fun k_ hk => (⟨hk, hk⟩ : _ ∧ k_ ≠ q))) (fun _ hk => hk.2) (.int .i64 (A.size : Int))) (fun _ h_ => h_.1))))) (g := q) (o := .cells #[.string Y, .string A, .int .i64 (A.size : Int)] 99 (0, 0)) (qp_ z)) (below_size qB_)); replace y := am_ (Kd.R_elder' (by (with_reducible repeat (first | apply Kd.R_alloc | apply Kd.R_drewN | apply Kd.R_drew)); exact (Kd.R_mono (Kd.R_far (p := ⟨q, 2, none⟩) (Kd.R_mono y.out (fun k_ hk => (⟨hk, hk⟩ : _ ∧ k_ ≠ q))) (fun _ hk => hk.2) (.int .i64 (A.size : Int))) (fun _ h_ => h_.1))) (Kd.R_base ho0) hb); replace u := qbl_ u hb; replace s := qbl_ s hb; replace m := qbl_ m hb; replace l := qbl_ l hb; replace z := am_ (blk_below (g := q) (o := .cells #[.string Y, .string A, .int .i64 (A.size : Int)] 99 (0, 0)) (qp_ z) hb); replace HB := hs_ hb; clear hb ho0; obtain ⟨h6, g9, aH⟩ := Kd.R_slice e1.out; subst aH; obtain ⟨fP, fQ⟩ := nn_ f3; obtain ⟨fR, fS⟩ := nn_ f4; obtain ⟨aI, aJ⟩ := bc1_ l) | ((with_reducible refine gc_ 77 ?_); refine gl_ (some 109) Try.func77 #[.agg #[.slice h6 b4.length g9]] ?_; (with_reducible refine (impl_DiskOk.calls kj52 _ _ b4 true _ ?side1 ?side2 F7.out).mono ?_); (case side1 => refine (Kd.R_reads' (e := 99) (base := w.heap.size) (ok := fun k_ => ((True ∧ some k_ ≠ (.slice N I.length L : Value).ownBlock) ∧ k_ ≠ q)) (n := b4.length) (c := g9) ?_).2.2; exact (by (with_reducible repeat (first | apply Kd.R_alloc | apply Kd.R_drewN | apply Kd.R_drew)); exact (Kd.R_mono (Kd.R_far (p := ⟨x, 0, none⟩) (Kd.R_types e1.out l.out (by decide)) (fun _ hk => hk.2) (.slice h6 b4.length g9)) (fun _ h_ => h_.1)))); (case side2 => exact (Kd.R_reads' e1.out).2.1); rintro e F9 ⟨rfl, hb⟩; refine ⟨_, rfl, ?_⟩; replace y := am_ (Kd.R_below (by (with_reducible repeat (first | apply Kd.R_alloc | apply Kd.R_drewN | apply Kd.R_drew)); exact (Kd.R_mono (Kd.R_far (p := ⟨x, 0, none⟩) (Kd.R_types y.out l.out (by decide)) (fun _ hk => hk.2) (.slice h6 b4.length g9)) (fun _ h_ => h_.1))) hb); replace e1 := am_ (Kd.R_below (by (with_reducible repeat (first | apply Kd.R_alloc | apply Kd.R_drewN | apply Kd.R_drew)); exact (Kd.R_mono (Kd.R_far (p := ⟨x, 0, none⟩) (Kd.R_types e1.out l.out (by decide)) (fun _ hk => hk.2) (.slice h6 b4.length g9)) (fun _ h_ => h_.1))) hb); replace u := qbl_ u hb; replace s := qbl_ s hb; replace m := qbl_ m hb; replace l := am_ (blk_below (g := x) (o := .cells #[.slice h6 b4.length g9] 44 (0, 0)) (qp_ l) hb); replace z := qbl_ z hb; replace HB := hs_ hb; clear hb; obtain ⟨aK, aL⟩ := bc1_ l; obtain ⟨fT, fU⟩ := nn_ e4; obtain ⟨aM, aN⟩ := bc1_ m))
       refine bodyPost_ret (results_ct rfl _ _ b2 44 #[.slice h6 b4.length g9] (0, 0) _ rfl (qp_ m) Try.underlying44 rfl (by kernel_rfl)) rfl ?_
       exact ⟨_, qr_, by (with_reducible repeat (first | apply Kd.R_alloc | apply Kd.R_drewN | apply Kd.R_drew)); exact Kd.R_mono (Kd.R_far (p := ⟨b2, 0, none⟩) (Kd.R_types e1.out m.out (by decide)) (fun _ hk => hk.2) (.slice h6 b4.length g9)) (fun _ hk => trivial), qB_⟩
      simp only [Option.some.injEq, Prod.mk.injEq] at H
      obtain ⟨rfl, rfl⟩ := H
      obtain ⟨fV, fW⟩ := nn_ c1; obtain ⟨fX, fY⟩ := nn_ X; obtain ⟨fZ, ga⟩ := nn_ d7; obtain ⟨gb, gc⟩ := nn_ c3
      obtain ⟨aO, aP, aQ, aR, aS, aT, aU, B0⟩ := bc4_ s
      obtain ⟨gd, gf⟩ := nn_ g7; obtain ⟨gg, gh⟩ := nn_ f5; obtain ⟨gi, gj⟩ := nn_ h4
      obtain ⟨aV, B2, B3, B4, B5, B6⟩ := bc3_ z
      go_wp2_with (first | ((with_reducible refine gc_ 87 ?_); refine gl_ (some 75) Try.func87 #[.pointer (some ⟨x, 0, none⟩), .agg #[.string Y, .string A, .int .i64 (A.size : Int)]] ?_; (with_reducible refine (impl_Disk_put.calls kj52 N L I Y A (A.size : Int) b4 x _ ?side1 ?side2 ?side3 F6.out).mono ?_); (case side1 => exact (qf_ l)); (case side2 => refine (Kd.R_reads' (e := 99) (base := w.heap.size) (ok := fun k_ => k_ ≠ q) (n := I.length) (c := L) ?_).2.2; exact (by (with_reducible repeat (first | apply Kd.R_alloc | apply Kd.R_drewN | apply Kd.R_drew)); exact (Kd.R_mono (Kd.R_far (p := ⟨q, 2, none⟩) (Kd.R_mono y.out (fun k_ hk => (⟨hk, hk⟩ : _ ∧ k_ ≠ q))) (fun _ hk => hk.2) (.int .i64 (A.size : Int))) (fun _ h_ => h_.1)))); (case side3 => exact (Kd.R_reads' y.out).2.1); rintro e w__ ⟨G0, aG, rfl, ho0, hb, rfl⟩; refine ⟨_, rfl, ?_⟩; have e1 := am_ (Kd.R_lower (Kd.R_newB (Kd.R_new' ho0 (Kd.R_lt (by (with_reducible repeat (first | apply Kd.R_alloc | apply Kd.R_drewN | apply Kd.R_drew)); exact (Kd.R_mono (Kd.R_far (p := ⟨q, 2, none⟩) (Kd.R_mono y.out (fun k_ hk => (⟨hk, hk⟩ : _ ∧ k_ ≠ q))) (fun _ hk => hk.2) (.int .i64 (A.size : Int))) (fun _ h_ => h_.1))))) (g := q) (o := .cells #[.string Y, .string A, .int .i64 (A.size : Int)] 99 (0, 0)) (qp_ z)) (below_size qB_)); replace y := am_ (Kd.R_elder' (by (with_reducible repeat (first | apply Kd.R_alloc | apply Kd.R_drewN | apply Kd.R_drew)); exact (Kd.R_mono (Kd.R_far (p := ⟨q, 2, none⟩) (Kd.R_mono y.out (fun k_ hk => (⟨hk, hk⟩ : _ ∧ k_ ≠ q))) (fun _ hk => hk.2) (.int .i64 (A.size : Int))) (fun _ h_ => h_.1))) (Kd.R_base ho0) hb); replace u := qbl_ u hb; replace s := qbl_ s hb; replace m := qbl_ m hb; replace l := qbl_ l hb; replace z := am_ (blk_below (g := q) (o := .cells #[.string Y, .string A, .int .i64 (A.size : Int)] 99 (0, 0)) (qp_ z) hb); replace HB := hs_ hb; clear hb ho0; obtain ⟨l6, i3, aW⟩ := Kd.R_slice e1.out; subst aW; obtain ⟨gl, aX⟩ := nn_ f3; obtain ⟨aY, aZ⟩ := nn_ f4; obtain ⟨B7, ba⟩ := bc1_ l) | ((with_reducible refine gc_ 77 ?_); refine gl_ (some 109) Try.func77 #[.agg #[.slice l6 b4.length i3]] ?_; (with_reducible refine (impl_DiskOk.calls kj52 _ _ b4 false _ ?side1 ?side2 F7.out).mono ?_); (case side1 => refine (Kd.R_reads' (e := 99) (base := w.heap.size) (ok := fun k_ => ((True ∧ some k_ ≠ (.slice N I.length L : Value).ownBlock) ∧ k_ ≠ q)) (n := b4.length) (c := i3) ?_).2.2; exact (by (with_reducible repeat (first | apply Kd.R_alloc | apply Kd.R_drewN | apply Kd.R_drew)); exact (Kd.R_mono (Kd.R_far (p := ⟨x, 0, none⟩) (Kd.R_types e1.out l.out (by decide)) (fun _ hk => hk.2) (.slice l6 b4.length i3)) (fun _ h_ => h_.1)))); (case side2 => exact (Kd.R_reads' e1.out).2.1); rintro e G1 ⟨rfl, hb⟩; refine ⟨_, rfl, ?_⟩; replace y := am_ (Kd.R_below (by (with_reducible repeat (first | apply Kd.R_alloc | apply Kd.R_drewN | apply Kd.R_drew)); exact (Kd.R_mono (Kd.R_far (p := ⟨x, 0, none⟩) (Kd.R_types y.out l.out (by decide)) (fun _ hk => hk.2) (.slice l6 b4.length i3)) (fun _ h_ => h_.1))) hb); replace e1 := am_ (Kd.R_below (by (with_reducible repeat (first | apply Kd.R_alloc | apply Kd.R_drewN | apply Kd.R_drew)); exact (Kd.R_mono (Kd.R_far (p := ⟨x, 0, none⟩) (Kd.R_types e1.out l.out (by decide)) (fun _ hk => hk.2) (.slice l6 b4.length i3)) (fun _ h_ => h_.1))) hb); replace u := qbl_ u hb; replace s := qbl_ s hb; replace m := qbl_ m hb; replace l := am_ (blk_below (g := x) (o := .cells #[.slice l6 b4.length i3] 44 (0, 0)) (qp_ l) hb); replace z := qbl_ z hb; replace HB := hs_ hb; clear hb; obtain ⟨bb, bc⟩ := nn_ e4; obtain ⟨bd, be⟩ := bc1_ m))
      refine bodyPost_ret (results_ct rfl _ _ b2 44 #[.slice none 0 0] (0, 0) _ rfl (qp_ m) Try.underlying44 rfl (by kernel_rfl)) rfl ?_
      exact ⟨_, qr_, by first | exact Kd.R_nil _ _ _ _ _ | exact Kd.N_nil _ _ _ _ _ | exact Kd.V_nil _ _ _ _ _ | exact Kd.Q_nil _ _ _ _ _ | exact Kd.S_nil _ _ _ _ _, qB_⟩
     have d3 : (a == 2) = false := beq_eq_false_iff_ne.mpr a1
     have d4 : (a != 2) = true := bne_iff_ne.mpr a1
     have x2 := am_ H
     clear H; obtain ⟨bf, bg⟩ := nn_ c1; obtain ⟨bh, bi⟩ := nn_ X; obtain ⟨bj, bk⟩ := nn_ d7; obtain ⟨bl, bn⟩ := nn_ c3
     obtain ⟨bo, bp, bq, br, bs, bt, bu, bv⟩ := bc4_ s
     go_upto_region 17 with (fail)
     go_cut [76] (fun v76 wc => ∃ (kq : Nat) (T : Bool), v76 = .bool T ∧ Aside0 (impl_DoAct.j2 kq U T a v j d I Y A V = some (h9, i0)) ∧ Aside0 (kq ≤ kj52) ∧ Aside0 (Kd.R k99 99 wc w.heap.size (fun k_ => k_ ≠ q) (.slice N I.length L) I) ∧ Aside0 (wc.heap[m2]? = some (.cells #[(.slice B i.length D)] 44 (0, 0))) ∧ Aside0 (wc.heap[u0]? = some (.cells #[.int .i64 a, .string v, .string j, .string d] 60 (0, 0))) ∧ Aside0 (wc.heap[b2]? = some (.cells #[(.slice none 0 0)] 44 (0, 0))) ∧ Aside0 (wc.heap[x]? = some (.cells #[(.slice N I.length L)] 44 (0, 0))) ∧ Aside0 (wc.heap[q]? = some (.cells #[.string Y, .string A, .int .i64 V] 99 (0, 0))) ∧ Aside0 (Below w.heap.size w wc))
     case first =>
      have H := x2.out; clear x2
      refine jb_ H ?_ ?_ <;> clear H <;> intro a2 H
      ·have G : (a == 3) = false := beq_eq_false_iff_ne.mpr a2
       have O : (a != 3) = true := bne_iff_ne.mpr a2
       (first | rw [G] | rw [O] | (simp only [i64_w, i32_w]; rw [G]) | skip)
       have H' := am_ H; clear H; obtain ⟨bw, bx⟩ := nn_ c1; obtain ⟨bz, bA⟩ := nn_ X; obtain ⟨bB, bC⟩ := nn_ d7; obtain ⟨bD, bE⟩ := nn_ c3
       obtain ⟨bF, bG, bH, bI, bJ, bK, bL, bM⟩ := bc4_ s
       go_wp2
       go_meet
       case rel => exact ⟨_, (false), qe_, H', ⟨by have := k8.out; have := x1.out; first | omega | exact Nat.le_refl _⟩, ⟨ra_ y⟩, ⟨qk_ u⟩, ⟨qk_ s⟩, ⟨qk_ m⟩, ⟨qk_ l⟩, ⟨qk_ z⟩, ⟨qB_⟩⟩
      have G : (a == 3) = true := beq_iff_eq.mpr a2
      have O : (a != 3) = false := bne_eq_false_iff_eq.mpr a2
      clear a2
      (first | rw [G] | rw [O] | (simp only [i64_w, i32_w]; rw [G]) | skip)
      refine jc_ H ?_ ?_ <;> clear H <;> intro a3 H
      ·have d5 : (d.toList == v.toList) = true := beq_iff_eq.mpr a3
       have d6 : (d.toList != v.toList) = false := bne_eq_false_iff_eq.mpr a3
       clear a3; have H' := am_ H; clear H; obtain ⟨bN, bO⟩ := nn_ c1; obtain ⟨bP, bQ⟩ := nn_ X; obtain ⟨bR, bS⟩ := nn_ d7; obtain ⟨bT, bU⟩ := nn_ c3
       obtain ⟨bV, bW, bX, bY, bZ, ca, cb, cc⟩ := bc4_ s
       go_wp2
       go_meet
       case rel => exact ⟨_, (false), qe_, H', ⟨by have := k8.out; have := x1.out; first | omega | exact Nat.le_refl _⟩, ⟨ra_ y⟩, ⟨qk_ u⟩, ⟨qk_ s⟩, ⟨qk_ m⟩, ⟨qk_ l⟩, ⟨qk_ z⟩, ⟨qB_⟩⟩
      have d5 : (d.toList == v.toList) = false := beq_eq_false_iff_ne.mpr a3
      have d6 : (d.toList != v.toList) = true := bne_iff_ne.mpr a3
      have H' := am_ H; clear H; obtain ⟨cd, ce⟩ := nn_ c1; obtain ⟨cf, cg⟩ := nn_ X; obtain ⟨ch, ci⟩ := nn_ d7; obtain ⟨cj, ck⟩ := nn_ c3
      obtain ⟨cl, cm, cn, co, cp, cq, cr, ct⟩ := bc4_ s
      obtain ⟨cu, cv⟩ := nn_ g7; obtain ⟨cw, cx⟩ := nn_ f5; obtain ⟨cy, cz⟩ := nn_ h4
      obtain ⟨cA, cB, cC, cD, cE, cF⟩ := bc3_ z
      go_wp2
      go_meet
      case rel => exact ⟨_, ((V == (A.size : Int))), qe_, H', ⟨by have := k8.out; have := x1.out; first | omega | exact Nat.le_refl _⟩, ⟨ra_ y⟩, ⟨qk_ u⟩, ⟨qk_ s⟩, ⟨qk_ m⟩, ⟨qk_ l⟩, ⟨qk_ z⟩, ⟨qB_⟩⟩
     case rest =>
      clear x2 a0 d0 d1 a1 d3 d4 bo bp bq br bs bt bu bv
      obtain ⟨kq, T, rfl, HA, cM, y, u, s, m, l, z, HB⟩ := hcut
      cases kq with
      | zero => exact absurd HA.out (by simp [impl_DoAct.j2])
      | succ kj180 =>
       have H := HA.out; clear HA
       simp only [impl_DoAct.j2] at H
       refine ie_ H ?_ ?_ <;> clear H <;> rintro rfl H
       ·obtain ⟨a4, M3, H⟩ := bs_ H
        obtain ⟨a5, M4, H⟩ := bs_ H
        obtain ⟨cN, M5, H⟩ := bs_ H
        refine ie_ H ?_ ?_ <;> clear H <;> rintro rfl H
        ·simp only [Option.some.injEq, Prod.mk.injEq] at H
         obtain ⟨rfl, rfl⟩ := H
         go_wp2_with (first | ((with_reducible refine gc_ 88 ?_); refine gl_ (some 96) Try.func88 #[.pointer (some ⟨x, 0, none⟩), .int .i64 U] ?_; (with_reducible refine (impl_Disk_drop.calls N L I U a4 x _ ?_ ?_ ?_ M3.out).mono ?_); exact (qk_ l); exact qD_ (Kd.R_reads' y.out).2.2; exact (Kd.R_reads' y.out).2.1; rintro e w__ ⟨M6, x3, rfl, ho0, hb, rfl⟩; refine ⟨_, rfl, ?_⟩; have b9 := am_ (Kd.R_lower (Kd.R_newB (Kd.R_new' ho0 (Kd.R_lt (qR_ y))) (qk_ z)) (below_size qB_)); replace y := ke_ y ho0 hb; replace u := qbl_ u hb; replace s := qbl_ s hb; replace m := qbl_ m hb; replace l := qbl_ l hb; replace z := qbl_ z hb; replace HB := hs_ hb; clear hb ho0; obtain ⟨h0, f9, cO⟩ := Kd.R_slice b9.out; subst cO; obtain ⟨cP, cQ⟩ := nn_ f3; obtain ⟨cR, cS⟩ := nn_ r6; obtain ⟨cT, cU⟩ := nn_ f4; obtain ⟨cV, cW⟩ := nn_ m0; obtain ⟨gm, gn⟩ := bc1_ l; obtain ⟨cX, cY⟩ := nn_ c1; obtain ⟨cZ, da⟩ := nn_ X; obtain ⟨db, dc⟩ := nn_ c3; obtain ⟨go, gp, gq, gr, gs, gt, gu, gv⟩ := bc4_ s; obtain ⟨dd, de⟩ := nn_ g7; obtain ⟨df, dg⟩ := nn_ f5; obtain ⟨gw, gx, gy, gz, gA, gB⟩ := bc3_ z) | ((with_reducible refine gc_ 87 ?_); refine gl_ (some 101) Try.func87 #[.pointer (some ⟨x, 0, none⟩), .agg #[.string d, .string A, .int .i64 V]] ?_; (with_reducible refine (impl_Disk_put.calls kj180 h0 f9 a4 d A V a5 x _ ?side1 ?side2 ?side3 M4.out).mono ?_); (case side1 => exact (qp_ l)); (case side2 => refine (Kd.R_reads' (e := 99) (base := w.heap.size) (ok := fun k_ => ((True ∧ some k_ ≠ (.slice N I.length L : Value).ownBlock) ∧ k_ ≠ q)) (n := a4.length) (c := f9) ?_).2.2; exact (by (with_reducible repeat (first | apply Kd.R_alloc | apply Kd.R_drewN | apply Kd.R_drew)); exact (Kd.R_mono (Kd.R_mono (Kd.R_far (p := ⟨q, 0, none⟩) (Kd.R_far (p := ⟨x, 0, none⟩) (Kd.R_mono (Kd.R_types b9.out l.out (by decide)) (fun k_ hk => (⟨hk, hk.1.2⟩ : _ ∧ k_ ≠ q))) (fun _ hk => hk.1.2) (.slice h0 a4.length f9)) (fun _ hk => hk.2) (.string d)) (fun _ h_ => h_.1)) (fun _ h_ => h_.1)))); (case side3 => exact (Kd.R_reads' b9.out).2.1); rintro e w__ ⟨M7, x4, rfl, ho0, hb, rfl⟩; refine ⟨_, rfl, ?_⟩; have e2 := am_ (Kd.R_lower (Kd.R_newB (Kd.R_new' (Kd.R_new' ho0 (Kd.R_lt (by (with_reducible repeat (first | apply Kd.R_alloc | apply Kd.R_drewN | apply Kd.R_drew)); exact (Kd.R_mono (Kd.R_mono (Kd.R_far (p := ⟨q, 0, none⟩) (Kd.R_far (p := ⟨x, 0, none⟩) (Kd.R_mono (Kd.R_types y.out l.out (by decide)) (fun k_ hk => (⟨hk, hk.1.1⟩ : _ ∧ k_ ≠ q))) (fun _ hk => hk.1.2) (.slice h0 a4.length f9)) (fun _ hk => hk.2) (.string d)) (fun _ h_ => h_.1)) (fun _ h_ => h_.1))))) (Kd.R_lt (by (with_reducible repeat (first | apply Kd.R_alloc | apply Kd.R_drewN | apply Kd.R_drew)); exact (Kd.R_mono (Kd.R_mono (Kd.R_far (p := ⟨q, 0, none⟩) (Kd.R_far (p := ⟨x, 0, none⟩) (Kd.R_mono (Kd.R_types b9.out l.out (by decide)) (fun k_ hk => (⟨hk, hk.1.2⟩ : _ ∧ k_ ≠ q))) (fun _ hk => hk.1.2) (.slice h0 a4.length f9)) (fun _ hk => hk.2) (.string d)) (fun _ h_ => h_.1)) (fun _ h_ => h_.1))))) (g := q) (o := .cells #[.string d, .string A, .int .i64 V] 99 (0, 0)) (qp_ z)) (below_size qB_)); replace y := am_ (Kd.R_elder' (by (with_reducible repeat (first | apply Kd.R_alloc | apply Kd.R_drewN | apply Kd.R_drew)); exact (Kd.R_mono (Kd.R_mono (Kd.R_far (p := ⟨q, 0, none⟩) (Kd.R_far (p := ⟨x, 0, none⟩) (Kd.R_mono (Kd.R_types y.out l.out (by decide)) (fun k_ hk => (⟨hk, hk.1.1⟩ : _ ∧ k_ ≠ q))) (fun _ hk => hk.1.2) (.slice h0 a4.length f9)) (fun _ hk => hk.2) (.string d)) (fun _ h_ => h_.1)) (fun _ h_ => h_.1))) (Kd.R_base ho0) hb); replace b9 := am_ (Kd.R_elder' (by (with_reducible repeat (first | apply Kd.R_alloc | apply Kd.R_drewN | apply Kd.R_drew)); exact (Kd.R_mono (Kd.R_mono (Kd.R_far (p := ⟨q, 0, none⟩) (Kd.R_far (p := ⟨x, 0, none⟩) (Kd.R_mono (Kd.R_types b9.out l.out (by decide)) (fun k_ hk => (⟨hk, hk.1.2⟩ : _ ∧ k_ ≠ q))) (fun _ hk => hk.1.2) (.slice h0 a4.length f9)) (fun _ hk => hk.2) (.string d)) (fun _ h_ => h_.1)) (fun _ h_ => h_.1))) (Kd.R_base ho0) hb); replace u := qbl_ u hb; replace s := qbl_ s hb; replace m := qbl_ m hb; replace l := am_ (blk_below (g := x) (o := .cells #[.slice h0 a4.length f9] 44 (0, 0)) (qp_ l) hb); replace z := am_ (blk_below (g := q) (o := .cells #[.string d, .string A, .int .i64 V] 99 (0, 0)) (qp_ z) hb); replace HB := hs_ hb; clear hb ho0; obtain ⟨h1, g0, dh⟩ := Kd.R_slice e2.out; subst dh; obtain ⟨gC, gD⟩ := bc1_ l) | ((with_reducible refine gc_ 77 ?_); refine gl_ (some 109) Try.func77 #[.agg #[.slice h1 a5.length g0]] ?_; (with_reducible refine (impl_DiskOk.calls kj180 _ _ a5 true _ ?side1 ?side2 M5.out).mono ?_); (case side1 => refine (Kd.R_reads' (e := 99) (base := w.heap.size) (ok := fun k_ => (((True ∧ some k_ ≠ (.slice N I.length L : Value).ownBlock) ∧ some k_ ≠ (.slice h0 a4.length f9 : Value).ownBlock) ∧ k_ ≠ q)) (n := a5.length) (c := g0) ?_).2.2; exact (by (with_reducible repeat (first | apply Kd.R_alloc | apply Kd.R_drewN | apply Kd.R_drew)); exact (Kd.R_mono (Kd.R_far (p := ⟨x, 0, none⟩) (Kd.R_types e2.out l.out (by decide)) (fun _ hk => hk.2) (.slice h1 a5.length g0)) (fun _ h_ => h_.1)))); (case side2 => exact (Kd.R_reads' e2.out).2.1); rintro e M8 ⟨rfl, hb⟩; refine ⟨_, rfl, ?_⟩; replace y := am_ (Kd.R_below (by (with_reducible repeat (first | apply Kd.R_alloc | apply Kd.R_drewN | apply Kd.R_drew)); exact (Kd.R_mono (Kd.R_far (p := ⟨x, 0, none⟩) (Kd.R_types y.out l.out (by decide)) (fun _ hk => hk.2) (.slice h1 a5.length g0)) (fun _ h_ => h_.1))) hb); replace b9 := am_ (Kd.R_below (by (with_reducible repeat (first | apply Kd.R_alloc | apply Kd.R_drewN | apply Kd.R_drew)); exact (Kd.R_mono (Kd.R_far (p := ⟨x, 0, none⟩) (Kd.R_types b9.out l.out (by decide)) (fun _ hk => hk.2) (.slice h1 a5.length g0)) (fun _ h_ => h_.1))) hb); replace e2 := am_ (Kd.R_below (by (with_reducible repeat (first | apply Kd.R_alloc | apply Kd.R_drewN | apply Kd.R_drew)); exact (Kd.R_mono (Kd.R_far (p := ⟨x, 0, none⟩) (Kd.R_types e2.out l.out (by decide)) (fun _ hk => hk.2) (.slice h1 a5.length g0)) (fun _ h_ => h_.1))) hb); replace u := qbl_ u hb; replace s := qbl_ s hb; replace m := qbl_ m hb; replace l := am_ (blk_below (g := x) (o := .cells #[.slice h1 a5.length g0] 44 (0, 0)) (qp_ l) hb); replace z := qbl_ z hb; replace HB := hs_ hb; clear hb; obtain ⟨gE, gF⟩ := bc1_ l; obtain ⟨di, dj⟩ := nn_ e4; obtain ⟨gG, gH⟩ := bc1_ m))
         refine bodyPost_ret (results_ct rfl _ _ b2 44 #[.slice h1 a5.length g0] (0, 0) _ rfl (qp_ m) Try.underlying44 rfl (by kernel_rfl)) rfl ?_
         exact ⟨_, qr_, by (with_reducible repeat (first | apply Kd.R_alloc | apply Kd.R_drewN | apply Kd.R_drew)); exact Kd.R_mono (Kd.R_far (p := ⟨b2, 0, none⟩) (Kd.R_types e2.out m.out (by decide)) (fun _ hk => hk.2) (.slice h1 a5.length g0)) (fun _ hk => trivial), qB_⟩
        simp only [Option.some.injEq, Prod.mk.injEq] at H
        obtain ⟨rfl, rfl⟩ := H
        go_wp2_with (first | ((with_reducible refine gc_ 88 ?_); refine gl_ (some 96) Try.func88 #[.pointer (some ⟨x, 0, none⟩), .int .i64 U] ?_; (with_reducible refine (impl_Disk_drop.calls N L I U a4 x _ ?_ ?_ ?_ M3.out).mono ?_); exact (qk_ l); exact qD_ (Kd.R_reads' y.out).2.2; exact (Kd.R_reads' y.out).2.1; rintro e w__ ⟨M9, x3, rfl, ho0, hb, rfl⟩; refine ⟨_, rfl, ?_⟩; have b9 := am_ (Kd.R_lower (Kd.R_newB (Kd.R_new' ho0 (Kd.R_lt (qR_ y))) (qk_ z)) (below_size qB_)); replace y := ke_ y ho0 hb; replace u := qbl_ u hb; replace s := qbl_ s hb; replace m := qbl_ m hb; replace l := qbl_ l hb; replace z := qbl_ z hb; replace HB := hs_ hb; clear hb ho0; obtain ⟨h2, g1, dk⟩ := Kd.R_slice b9.out; subst dk; obtain ⟨dl, dm⟩ := nn_ f3; obtain ⟨dn, dp⟩ := nn_ r6; obtain ⟨dq, dr⟩ := nn_ f4; obtain ⟨ds, dt⟩ := nn_ m0; obtain ⟨gI, gJ⟩ := bc1_ l; obtain ⟨du, dv⟩ := nn_ c1; obtain ⟨dw, dx⟩ := nn_ X; obtain ⟨dy, dz⟩ := nn_ c3; obtain ⟨gK, gL, gM, gN, gO, gP, gQ, gR⟩ := bc4_ s; obtain ⟨dA, dB⟩ := nn_ g7; obtain ⟨dC, dD⟩ := nn_ f5; obtain ⟨gS, gT, gU, gV, gW, gX⟩ := bc3_ z) | ((with_reducible refine gc_ 87 ?_); refine gl_ (some 101) Try.func87 #[.pointer (some ⟨x, 0, none⟩), .agg #[.string d, .string A, .int .i64 V]] ?_; (with_reducible refine (impl_Disk_put.calls kj180 h2 g1 a4 d A V a5 x _ ?side1 ?side2 ?side3 M4.out).mono ?_); (case side1 => exact (qp_ l)); (case side2 => refine (Kd.R_reads' (e := 99) (base := w.heap.size) (ok := fun k_ => ((True ∧ some k_ ≠ (.slice N I.length L : Value).ownBlock) ∧ k_ ≠ q)) (n := a4.length) (c := g1) ?_).2.2; exact (by (with_reducible repeat (first | apply Kd.R_alloc | apply Kd.R_drewN | apply Kd.R_drew)); exact (Kd.R_mono (Kd.R_mono (Kd.R_far (p := ⟨q, 0, none⟩) (Kd.R_far (p := ⟨x, 0, none⟩) (Kd.R_mono (Kd.R_types b9.out l.out (by decide)) (fun k_ hk => (⟨hk, hk.1.2⟩ : _ ∧ k_ ≠ q))) (fun _ hk => hk.1.2) (.slice h2 a4.length g1)) (fun _ hk => hk.2) (.string d)) (fun _ h_ => h_.1)) (fun _ h_ => h_.1)))); (case side3 => exact (Kd.R_reads' b9.out).2.1); rintro e w__ ⟨N0, x4, rfl, ho0, hb, rfl⟩; refine ⟨_, rfl, ?_⟩; have e2 := am_ (Kd.R_lower (Kd.R_newB (Kd.R_new' (Kd.R_new' ho0 (Kd.R_lt (by (with_reducible repeat (first | apply Kd.R_alloc | apply Kd.R_drewN | apply Kd.R_drew)); exact (Kd.R_mono (Kd.R_mono (Kd.R_far (p := ⟨q, 0, none⟩) (Kd.R_far (p := ⟨x, 0, none⟩) (Kd.R_mono (Kd.R_types y.out l.out (by decide)) (fun k_ hk => (⟨hk, hk.1.1⟩ : _ ∧ k_ ≠ q))) (fun _ hk => hk.1.2) (.slice h2 a4.length g1)) (fun _ hk => hk.2) (.string d)) (fun _ h_ => h_.1)) (fun _ h_ => h_.1))))) (Kd.R_lt (by (with_reducible repeat (first | apply Kd.R_alloc | apply Kd.R_drewN | apply Kd.R_drew)); exact (Kd.R_mono (Kd.R_mono (Kd.R_far (p := ⟨q, 0, none⟩) (Kd.R_far (p := ⟨x, 0, none⟩) (Kd.R_mono (Kd.R_types b9.out l.out (by decide)) (fun k_ hk => (⟨hk, hk.1.2⟩ : _ ∧ k_ ≠ q))) (fun _ hk => hk.1.2) (.slice h2 a4.length g1)) (fun _ hk => hk.2) (.string d)) (fun _ h_ => h_.1)) (fun _ h_ => h_.1))))) (g := q) (o := .cells #[.string d, .string A, .int .i64 V] 99 (0, 0)) (qp_ z)) (below_size qB_)); replace y := am_ (Kd.R_elder' (by (with_reducible repeat (first | apply Kd.R_alloc | apply Kd.R_drewN | apply Kd.R_drew)); exact (Kd.R_mono (Kd.R_mono (Kd.R_far (p := ⟨q, 0, none⟩) (Kd.R_far (p := ⟨x, 0, none⟩) (Kd.R_mono (Kd.R_types y.out l.out (by decide)) (fun k_ hk => (⟨hk, hk.1.1⟩ : _ ∧ k_ ≠ q))) (fun _ hk => hk.1.2) (.slice h2 a4.length g1)) (fun _ hk => hk.2) (.string d)) (fun _ h_ => h_.1)) (fun _ h_ => h_.1))) (Kd.R_base ho0) hb); replace b9 := am_ (Kd.R_elder' (by (with_reducible repeat (first | apply Kd.R_alloc | apply Kd.R_drewN | apply Kd.R_drew)); exact (Kd.R_mono (Kd.R_mono (Kd.R_far (p := ⟨q, 0, none⟩) (Kd.R_far (p := ⟨x, 0, none⟩) (Kd.R_mono (Kd.R_types b9.out l.out (by decide)) (fun k_ hk => (⟨hk, hk.1.2⟩ : _ ∧ k_ ≠ q))) (fun _ hk => hk.1.2) (.slice h2 a4.length g1)) (fun _ hk => hk.2) (.string d)) (fun _ h_ => h_.1)) (fun _ h_ => h_.1))) (Kd.R_base ho0) hb); replace u := qbl_ u hb; replace s := qbl_ s hb; replace m := qbl_ m hb; replace l := am_ (blk_below (g := x) (o := .cells #[.slice h2 a4.length g1] 44 (0, 0)) (qp_ l) hb); replace z := am_ (blk_below (g := q) (o := .cells #[.string d, .string A, .int .i64 V] 99 (0, 0)) (qp_ z) hb); replace HB := hs_ hb; clear hb ho0; obtain ⟨i4, h7, dE⟩ := Kd.R_slice e2.out; subst dE; obtain ⟨gY, gZ⟩ := bc1_ l) | ((with_reducible refine gc_ 77 ?_); refine gl_ (some 109) Try.func77 #[.agg #[.slice i4 a5.length h7]] ?_; (with_reducible refine (impl_DiskOk.calls kj180 _ _ a5 false _ ?side1 ?side2 M5.out).mono ?_); (case side1 => refine (Kd.R_reads' (e := 99) (base := w.heap.size) (ok := fun k_ => (((True ∧ some k_ ≠ (.slice N I.length L : Value).ownBlock) ∧ some k_ ≠ (.slice h2 a4.length g1 : Value).ownBlock) ∧ k_ ≠ q)) (n := a5.length) (c := h7) ?_).2.2; exact (by (with_reducible repeat (first | apply Kd.R_alloc | apply Kd.R_drewN | apply Kd.R_drew)); exact (Kd.R_mono (Kd.R_far (p := ⟨x, 0, none⟩) (Kd.R_types e2.out l.out (by decide)) (fun _ hk => hk.2) (.slice i4 a5.length h7)) (fun _ h_ => h_.1)))); (case side2 => exact (Kd.R_reads' e2.out).2.1); rintro e N1 ⟨rfl, hb⟩; refine ⟨_, rfl, ?_⟩; replace y := am_ (Kd.R_below (by (with_reducible repeat (first | apply Kd.R_alloc | apply Kd.R_drewN | apply Kd.R_drew)); exact (Kd.R_mono (Kd.R_far (p := ⟨x, 0, none⟩) (Kd.R_types y.out l.out (by decide)) (fun _ hk => hk.2) (.slice i4 a5.length h7)) (fun _ h_ => h_.1))) hb); replace b9 := am_ (Kd.R_below (by (with_reducible repeat (first | apply Kd.R_alloc | apply Kd.R_drewN | apply Kd.R_drew)); exact (Kd.R_mono (Kd.R_far (p := ⟨x, 0, none⟩) (Kd.R_types b9.out l.out (by decide)) (fun _ hk => hk.2) (.slice i4 a5.length h7)) (fun _ h_ => h_.1))) hb); replace e2 := am_ (Kd.R_below (by (with_reducible repeat (first | apply Kd.R_alloc | apply Kd.R_drewN | apply Kd.R_drew)); exact (Kd.R_mono (Kd.R_far (p := ⟨x, 0, none⟩) (Kd.R_types e2.out l.out (by decide)) (fun _ hk => hk.2) (.slice i4 a5.length h7)) (fun _ h_ => h_.1))) hb); replace u := qbl_ u hb; replace s := qbl_ s hb; replace m := qbl_ m hb; replace l := am_ (blk_below (g := x) (o := .cells #[.slice i4 a5.length h7] 44 (0, 0)) (qp_ l) hb); replace z := qbl_ z hb; replace HB := hs_ hb; clear hb; obtain ⟨dF, dG⟩ := nn_ e4; obtain ⟨hc, hd⟩ := bc1_ m))
        refine bodyPost_ret (results_ct rfl _ _ b2 44 #[.slice none 0 0] (0, 0) _ rfl (qp_ m) Try.underlying44 rfl (by kernel_rfl)) rfl ?_
        exact ⟨_, qr_, by first | exact Kd.R_nil _ _ _ _ _ | exact Kd.N_nil _ _ _ _ _ | exact Kd.V_nil _ _ _ _ _ | exact Kd.Q_nil _ _ _ _ _ | exact Kd.S_nil _ _ _ _ _, qB_⟩
       refine jb_ H ?_ ?_ <;> clear H <;> intro c0 H
       ·have g2 : (a == 4) = false := beq_eq_false_iff_ne.mpr c0
        have g3 : (a != 4) = true := bne_iff_ne.mpr c0
        simp only [Option.some.injEq, Prod.mk.injEq] at H
        obtain ⟨rfl, rfl⟩ := H
        obtain ⟨dH, dI⟩ := nn_ c1; obtain ⟨dJ, dK⟩ := nn_ X; obtain ⟨dL, dM⟩ := nn_ d7; obtain ⟨dN, dO⟩ := nn_ c3
        obtain ⟨he, hf, hh, hj, hl, hm, hn, ho⟩ := bc4_ s
        obtain ⟨dP, dQ⟩ := nn_ e4; obtain ⟨dR, dS⟩ := nn_ y7; obtain ⟨dT, dU⟩ := nn_ l9
        obtain ⟨hp, hq⟩ := bc1_ m
        go_wp2
        refine bodyPost_ret (results_ct rfl _ _ b2 44 #[.slice none 0 0] (0, 0) _ rfl (qp_ m) Try.underlying44 rfl (by kernel_rfl)) rfl ?_
        exact ⟨_, qr_, by first | exact Kd.R_nil _ _ _ _ _ | exact Kd.N_nil _ _ _ _ _ | exact Kd.V_nil _ _ _ _ _ | exact Kd.Q_nil _ _ _ _ _ | exact Kd.S_nil _ _ _ _ _, qB_⟩
       have g2 : (a == 4) = true := beq_iff_eq.mpr c0
       have g3 : (a != 4) = false := bne_eq_false_iff_eq.mpr c0
       clear c0
       obtain ⟨b5, N2, H⟩ := bs_ H
       obtain ⟨dV, N3, H⟩ := bs_ H
       refine ie_ H ?_ ?_ <;> clear H <;> rintro rfl H
       ·simp only [Option.some.injEq, Prod.mk.injEq] at H
        obtain ⟨rfl, rfl⟩ := H
        obtain ⟨dW, dX⟩ := nn_ c1; obtain ⟨dY, dZ⟩ := nn_ X; obtain ⟨ea, eb⟩ := nn_ d7; obtain ⟨ec, ed⟩ := nn_ c3
        obtain ⟨hr, hs, ht, hu, hv, hx, hy, hz⟩ := bc4_ s
        go_wp2_with (first | ((with_reducible refine gc_ 88 ?_); refine gl_ (some 107) Try.func88 #[.pointer (some ⟨x, 0, none⟩), .int .i64 U] ?_; (with_reducible refine (impl_Disk_drop.calls N L I U b5 x _ ?_ ?_ ?_ N2.out).mono ?_); exact (qk_ l); exact qD_ (Kd.R_reads' y.out).2.2; exact (Kd.R_reads' y.out).2.1; rintro e w__ ⟨N4, x5, rfl, ho0, hb, rfl⟩; refine ⟨_, rfl, ?_⟩; have e3 := am_ (Kd.R_lower (Kd.R_newB (Kd.R_new' ho0 (Kd.R_lt (qR_ y))) (qk_ z)) (below_size qB_)); replace y := ke_ y ho0 hb; replace u := qbl_ u hb; replace s := qbl_ s hb; replace m := qbl_ m hb; replace l := qbl_ l hb; replace z := qbl_ z hb; replace HB := hs_ hb; clear hb ho0; obtain ⟨h8, h3, ee⟩ := Kd.R_slice e3.out; subst ee; obtain ⟨ef, eg⟩ := nn_ f3; obtain ⟨eh, ei⟩ := nn_ f4; obtain ⟨ej, ek⟩ := nn_ m0; obtain ⟨hA, hB⟩ := bc1_ l) | ((with_reducible refine gc_ 77 ?_); refine gl_ (some 109) Try.func77 #[.agg #[.slice h8 b5.length h3]] ?_; (with_reducible refine (impl_DiskOk.calls kj180 _ _ b5 true _ ?side1 ?side2 N3.out).mono ?_); (case side1 => refine (Kd.R_reads' (e := 99) (base := w.heap.size) (ok := fun k_ => ((True ∧ some k_ ≠ (.slice N I.length L : Value).ownBlock) ∧ k_ ≠ q)) (n := b5.length) (c := h3) ?_).2.2; exact (by (with_reducible repeat (first | apply Kd.R_alloc | apply Kd.R_drewN | apply Kd.R_drew)); exact (Kd.R_mono (Kd.R_far (p := ⟨x, 0, none⟩) (Kd.R_types e3.out l.out (by decide)) (fun _ hk => hk.2) (.slice h8 b5.length h3)) (fun _ h_ => h_.1)))); (case side2 => exact (Kd.R_reads' e3.out).2.1); rintro e N5 ⟨rfl, hb⟩; refine ⟨_, rfl, ?_⟩; replace y := am_ (Kd.R_below (by (with_reducible repeat (first | apply Kd.R_alloc | apply Kd.R_drewN | apply Kd.R_drew)); exact (Kd.R_mono (Kd.R_far (p := ⟨x, 0, none⟩) (Kd.R_types y.out l.out (by decide)) (fun _ hk => hk.2) (.slice h8 b5.length h3)) (fun _ h_ => h_.1))) hb); replace e3 := am_ (Kd.R_below (by (with_reducible repeat (first | apply Kd.R_alloc | apply Kd.R_drewN | apply Kd.R_drew)); exact (Kd.R_mono (Kd.R_far (p := ⟨x, 0, none⟩) (Kd.R_types e3.out l.out (by decide)) (fun _ hk => hk.2) (.slice h8 b5.length h3)) (fun _ h_ => h_.1))) hb); replace u := qbl_ u hb; replace s := qbl_ s hb; replace m := qbl_ m hb; replace l := am_ (blk_below (g := x) (o := .cells #[.slice h8 b5.length h3] 44 (0, 0)) (qp_ l) hb); replace z := qbl_ z hb; replace HB := hs_ hb; clear hb; obtain ⟨hC, hD⟩ := bc1_ l; obtain ⟨el, em⟩ := nn_ e4; obtain ⟨en, eo⟩ := nn_ l9; obtain ⟨hE, hF⟩ := bc1_ m))
        refine bodyPost_ret (results_ct rfl _ _ b2 44 #[.slice h8 b5.length h3] (0, 0) _ rfl (qp_ m) Try.underlying44 rfl (by kernel_rfl)) rfl ?_
        exact ⟨_, qr_, by (with_reducible repeat (first | apply Kd.R_alloc | apply Kd.R_drewN | apply Kd.R_drew)); exact Kd.R_mono (Kd.R_far (p := ⟨b2, 0, none⟩) (Kd.R_types e3.out m.out (by decide)) (fun _ hk => hk.2) (.slice h8 b5.length h3)) (fun _ hk => trivial), qB_⟩
       simp only [Option.some.injEq, Prod.mk.injEq] at H
       obtain ⟨rfl, rfl⟩ := H
       obtain ⟨ep, eq⟩ := nn_ c1; obtain ⟨er, es⟩ := nn_ X; obtain ⟨et, eu⟩ := nn_ d7; obtain ⟨ev, ew⟩ := nn_ c3
       obtain ⟨hG, hH, hI, hJ, hL, hM, hN, hO⟩ := bc4_ s
       go_wp2_with (first | ((with_reducible refine gc_ 88 ?_); refine gl_ (some 107) Try.func88 #[.pointer (some ⟨x, 0, none⟩), .int .i64 U] ?_; (with_reducible refine (impl_Disk_drop.calls N L I U b5 x _ ?_ ?_ ?_ N2.out).mono ?_); exact (qk_ l); exact qD_ (Kd.R_reads' y.out).2.2; exact (Kd.R_reads' y.out).2.1; rintro e w__ ⟨N6, x5, rfl, ho0, hb, rfl⟩; refine ⟨_, rfl, ?_⟩; have e3 := am_ (Kd.R_lower (Kd.R_newB (Kd.R_new' ho0 (Kd.R_lt (qR_ y))) (qk_ z)) (below_size qB_)); replace y := ke_ y ho0 hb; replace u := qbl_ u hb; replace s := qbl_ s hb; replace m := qbl_ m hb; replace l := qbl_ l hb; replace z := qbl_ z hb; replace HB := hs_ hb; clear hb ho0; obtain ⟨l7, i5, ex⟩ := Kd.R_slice e3.out; subst ex; obtain ⟨ey, ez⟩ := nn_ f3; obtain ⟨eA, eB⟩ := nn_ f4; obtain ⟨eC, eD⟩ := nn_ m0; obtain ⟨hP, hQ⟩ := bc1_ l) | ((with_reducible refine gc_ 77 ?_); refine gl_ (some 109) Try.func77 #[.agg #[.slice l7 b5.length i5]] ?_; (with_reducible refine (impl_DiskOk.calls kj180 _ _ b5 false _ ?side1 ?side2 N3.out).mono ?_); (case side1 => refine (Kd.R_reads' (e := 99) (base := w.heap.size) (ok := fun k_ => ((True ∧ some k_ ≠ (.slice N I.length L : Value).ownBlock) ∧ k_ ≠ q)) (n := b5.length) (c := i5) ?_).2.2; exact (by (with_reducible repeat (first | apply Kd.R_alloc | apply Kd.R_drewN | apply Kd.R_drew)); exact (Kd.R_mono (Kd.R_far (p := ⟨x, 0, none⟩) (Kd.R_types e3.out l.out (by decide)) (fun _ hk => hk.2) (.slice l7 b5.length i5)) (fun _ h_ => h_.1)))); (case side2 => exact (Kd.R_reads' e3.out).2.1); rintro e N7 ⟨rfl, hb⟩; refine ⟨_, rfl, ?_⟩; replace y := am_ (Kd.R_below (by (with_reducible repeat (first | apply Kd.R_alloc | apply Kd.R_drewN | apply Kd.R_drew)); exact (Kd.R_mono (Kd.R_far (p := ⟨x, 0, none⟩) (Kd.R_types y.out l.out (by decide)) (fun _ hk => hk.2) (.slice l7 b5.length i5)) (fun _ h_ => h_.1))) hb); replace e3 := am_ (Kd.R_below (by (with_reducible repeat (first | apply Kd.R_alloc | apply Kd.R_drewN | apply Kd.R_drew)); exact (Kd.R_mono (Kd.R_far (p := ⟨x, 0, none⟩) (Kd.R_types e3.out l.out (by decide)) (fun _ hk => hk.2) (.slice l7 b5.length i5)) (fun _ h_ => h_.1))) hb); replace u := qbl_ u hb; replace s := qbl_ s hb; replace m := qbl_ m hb; replace l := am_ (blk_below (g := x) (o := .cells #[.slice l7 b5.length i5] 44 (0, 0)) (qp_ l) hb); replace z := qbl_ z hb; replace HB := hs_ hb; clear hb; obtain ⟨eE, eF⟩ := nn_ e4; obtain ⟨eG, eH⟩ := nn_ l9; obtain ⟨hR, hS⟩ := bc1_ m))
       refine bodyPost_ret (results_ct rfl _ _ b2 44 #[.slice none 0 0] (0, 0) _ rfl (qp_ m) Try.underlying44 rfl (by kernel_rfl)) rfl ?_
       exact ⟨_, qr_, by first | exact Kd.R_nil _ _ _ _ _ | exact Kd.N_nil _ _ _ _ _ | exact Kd.V_nil _ _ _ _ _ | exact Kd.Q_nil _ _ _ _ _ | exact Kd.S_nil _ _ _ _ _, qB_⟩
end Go.Proofs.Ytacnlodcbbhahaa.QFnActs
