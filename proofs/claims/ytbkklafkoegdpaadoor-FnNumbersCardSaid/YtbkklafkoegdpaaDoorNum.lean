/- For every code the law FnNumbers answers true: a drawn number comes back from VarText and from Decimal, a drawn text from ShortText and Hex; the row's five variables are as the program's text lays them: the tied card. -/
import Derived.Test.YtbkklafkoegdpaaDoorNumP
import Derived.Test.YtbkklafkoegdpaaDoorRdd
import Derived.Test.YtbkklafkoegdpaaDoorWSized
namespace Go.Proofs.YtbkklafkoegdpaaDoor.fnNum
open Go.ChangeShapes Go.WideShapes Go.ChangeAt Go.RowKit QFnNumbers fnDec Go.Proofs.YtbkklafkoegdpaaDoorW.PrintWords Go.Proofs.YtbkklafkoegdpaaDoorW.PrintLast Go.Proofs.YtbkklafkoegdpaaDoorW.PrintMore
set_option linter.unusedVariables false
theorem rd_n (n : Int) (h0 : 0 ≤ n) (h1 : n ≤ 1000000000) (w : World) (hw : Has w) :
    Calls Tryd.prog 6 #[.string ⟨(Lib.itoa n).toArray⟩] w fun e w' => e = .returned (.tuple #[.int .i64 n, .bool true]) ∧ Below w.heap.size w w' := by
  obtain ⟨u, rfl⟩ := Int.eq_ofNat_of_zero_le h0
  rw [Lib.itoa_nonneg]
  have hz : (⟨(Lib.decDigits u).toArray⟩ : ByteArray).size ≤ 20 := by
    show (Lib.decDigits u).toArray.size ≤ 20
    simp [Lib.decDigits_length]
    exact fnRdd.nd20 u (by omega)
  have er : readD ⟨(Lib.decDigits u).toArray⟩ = ((u : Int), true) := by
    unfold readD
    rw [show (⟨(Lib.decDigits u).toArray⟩ : ByteArray).data.toList = Lib.decDigits u from rfl, fnRdd.atoi_dec u (by omega)]
    simp only
    rw [if_pos (by omega), if_pos (by omega), Lib.itoa_nonneg, if_pos (by rw [Go.Lib.toList_data])]
  have := impl_read ⟨(Lib.decDigits u).toArray⟩ (by omega) w hw
  rw [er] at this
  exact this
theorem way0 (A0 : Option Addr) (c0 : Nat) (l0 : List Int) (w : World) (hr0 : Kd.C (Kd.int .u8) w A0 l0.length l0) (hc0 : l0.length ≤ c0) (hw : Has w) (hb0 : laws_big.f l0 = some false)
    (n0 : Int) (t0 s a h : ByteArray) (k0 k1 k2 k3 k4 k5 k6 k7 : Nat) (e0 : spec_DrawVarText.f k0 l0 = some n0) (e3 : spec_DrawHex.f k3 l0 = some t0) (q1 : decide (n0 < 0) = true) (q3 : decide (300 < (t0.size : Int)) = true)
    (e1 : impl_VarText.f k1 12345 = some (s, true)) (e2 : impl_ReadVar.f k2 (((⟨#[120]⟩ : ByteArray) ++ s) ++ (⟨#[121]⟩ : ByteArray)) 1 = some (12345, (s.size : Int) + 1, true)) (hs : s.size ≤ 1000)
    (e4 : impl_ShortText.f k4 (⟨#[97, 98, 99]⟩ : ByteArray) = some (a, true)) (e5 : impl_ReadShort.f k5 a 0 = some ((⟨#[97, 98, 99]⟩ : ByteArray), (a.size : Int), true)) (e6 : impl_Hex.f k6 (⟨#[97, 98, 99]⟩ : ByteArray) = some (h, true)) (e7 : impl_Unhex.f k7 h = some ((⟨#[97, 98, 99]⟩ : ByteArray), true))
    (hn0 : (-9223372036854775808 : Int) ≤ 12345) (hn1 : (12345 : Int) ≤ 9223372036854775807) (hm0 : (0 : Int) ≤ 12345) (hm1 : (12345 : Int) ≤ 1000000000) :
    Calls Tryd.prog 4 #[.slice A0 l0.length c0] w fun e w' => e = .returned (.bool true) ∧ Below w.heap.size w w' := by
  have HB := Aside0.mk (Below.refl w.heap.size w)
  have z1 : (1 + s.size ≤ 9223372036854775807) = True := eq_true (by omega)
  have z2 : decide (1 + s.size ≤ 9223372036854775807) = true := decide_eq_true (by omega)
  have z3 : (9223372036854775807 < 1 + s.size) = False := eq_false (by omega)
  have z4 : (1 + s.size + 1 ≤ 9223372036854775807) = True := eq_true (by omega)
  have z5 : decide (1 + s.size + 1 ≤ 9223372036854775807) = true := decide_eq_true (by omega)
  have z6 : (9223372036854775807 < 1 + s.size + 1) = False := eq_false (by omega)
  have z7 : wrap64 ((s.size : Int) + 1) = (s.size : Int) + 1 := by unfold wrap64; omega
  go_enter Tryd.func4, Tryd.ntmps4
  go_wp2_with (first
      | (go_at_call 7; refine (laws_big.calls _ _ l0 _ _ (by repeat (first | exact (Kd.C_below hr0 HB.out) | (with_reducible refine Kd.C_alloc ?_ _) | (with_reducible refine Kd.C_drewN ?_ _) | (with_reducible refine Kd.C_drew ?_))) hc0 hb0).mono ?_; rintro e w1 ⟨rfl, ⟨nd, rfl⟩⟩)
      | (go_at_call 8; refine (spec_DrawVarText.calls k0 _ _ l0 n0 _ (by repeat (first | exact (Kd.C_below hr0 HB.out) | (with_reducible refine Kd.C_alloc ?_ _) | (with_reducible refine Kd.C_drewN ?_ _) | (with_reducible refine Kd.C_drew ?_))) hc0 e0).mono ?_; rintro e w2 ⟨rfl, hb⟩; have n0_ := Aside0.mk (below_step (by repeat (first | (with_reducible first | exact HB.out | apply below_alloc | apply pw_below_drewN | apply below_drew1) | exact HB.out)) hb); clear HB hb; have HB := n0_; clear n0_)
      | (go_at_call 9; refine (impl_VarText.calls k1 _ s true _ e1).mono ?_; rintro e w3 ⟨rfl, hb⟩; have n0_ := Aside0.mk (below_step (by repeat (first | (with_reducible first | exact HB.out | apply below_alloc | apply pw_below_drewN | apply below_drew1) | exact HB.out)) hb); clear HB hb; have HB := n0_; clear n0_)
      | (go_at_call 10; refine (impl_ReadVar.calls k2 _ 1 _ _ true _ e2).mono ?_; rintro e w4 ⟨rfl, ⟨nd4, rfl⟩⟩)
      | (go_at_call 11; refine (impl_dec _ hn0 hn1 _ (hw.on (by repeat (first | (with_reducible first | exact HB.out | apply below_alloc | apply pw_below_drewN | apply below_drew1) | exact HB.out)))).mono ?_; rintro e w5 ⟨rfl, hb⟩; have n0_ := Aside0.mk (below_step (by repeat (first | (with_reducible first | exact HB.out | apply below_alloc | apply pw_below_drewN | apply below_drew1) | exact HB.out)) hb); clear HB hb; have HB := n0_; clear n0_)
      | (go_at_call 6; refine (rd_n _ hm0 hm1 _ (hw.on (by repeat (first | (with_reducible first | exact HB.out | apply below_alloc | apply pw_below_drewN | apply below_drew1) | exact HB.out)))).mono ?_; rintro e w6 ⟨rfl, hb⟩; have n0_ := Aside0.mk (below_step (by repeat (first | (with_reducible first | exact HB.out | apply below_alloc | apply pw_below_drewN | apply below_drew1) | exact HB.out)) hb); clear HB hb; have HB := n0_; clear n0_)
      | (go_at_call 12; refine (spec_DrawHex.calls k3 _ _ l0 t0 _ (by repeat (first | exact (Kd.C_below hr0 HB.out) | (with_reducible refine Kd.C_alloc ?_ _) | (with_reducible refine Kd.C_drewN ?_ _) | (with_reducible refine Kd.C_drew ?_))) hc0 e3).mono ?_; rintro e w7 ⟨rfl, hb⟩; have n0_ := Aside0.mk (below_step (by repeat (first | (with_reducible first | exact HB.out | apply below_alloc | apply pw_below_drewN | apply below_drew1) | exact HB.out)) hb); clear HB hb; have HB := n0_; clear n0_)
      | (go_at_call 13; refine (impl_ShortText.calls k4 _ a true _ e4).mono ?_; rintro e w8 ⟨rfl, hb⟩; have n0_ := Aside0.mk (below_step (by repeat (first | (with_reducible first | exact HB.out | apply below_alloc | apply pw_below_drewN | apply below_drew1) | exact HB.out)) hb); clear HB hb; have HB := n0_; clear n0_)
      | (go_at_call 14; refine (impl_ReadShort.calls k5 _ 0 _ _ true _ e5).mono ?_; rintro e w9 ⟨rfl, ⟨nd9, rfl⟩⟩)
      | (go_at_call 15; refine (impl_Hex.calls k6 _ h true _ e6).mono ?_; rintro e w10 ⟨rfl, hb⟩; have n0_ := Aside0.mk (below_step (by repeat (first | (with_reducible first | exact HB.out | apply below_alloc | apply pw_below_drewN | apply below_drew1) | exact HB.out)) hb); clear HB hb; have HB := n0_; clear n0_)
      | (go_at_call 16; refine (impl_Unhex.calls k7 _ _ true _ e7).mono ?_; rintro e w11 ⟨rfl, hb⟩; have n0_ := Aside0.mk (below_step (by repeat (first | (with_reducible first | exact HB.out | apply below_alloc | apply pw_below_drewN | apply below_drew1) | exact HB.out)) hb); clear HB hb; have HB := n0_; clear n0_))
  go_ret
  exact ⟨by first | rfl | (simp; done) | (simp [*]; done), by repeat (first | (with_reducible first | exact HB.out | apply below_alloc | apply pw_below_drewN | apply below_drew1) | exact HB.out)⟩
theorem way1 (A0 : Option Addr) (c0 : Nat) (l0 : List Int) (w : World) (hr0 : Kd.C (Kd.int .u8) w A0 l0.length l0) (hc0 : l0.length ≤ c0) (hw : Has w) (hb0 : laws_big.f l0 = some false)
    (n0 : Int) (t0 s a h : ByteArray) (k0 k1 k2 k3 k4 k5 k6 k7 : Nat) (e0 : spec_DrawVarText.f k0 l0 = some n0) (e3 : spec_DrawHex.f k3 l0 = some t0) (q1 : decide (n0 < 0) = true) (q3 : decide (300 < (t0.size : Int)) = false)
    (e1 : impl_VarText.f k1 12345 = some (s, true)) (e2 : impl_ReadVar.f k2 (((⟨#[120]⟩ : ByteArray) ++ s) ++ (⟨#[121]⟩ : ByteArray)) 1 = some (12345, (s.size : Int) + 1, true)) (hs : s.size ≤ 1000)
    (e4 : impl_ShortText.f k4 t0 = some (a, true)) (e5 : impl_ReadShort.f k5 a 0 = some (t0, (a.size : Int), true)) (e6 : impl_Hex.f k6 t0 = some (h, true)) (e7 : impl_Unhex.f k7 h = some (t0, true))
    (hn0 : (-9223372036854775808 : Int) ≤ 12345) (hn1 : (12345 : Int) ≤ 9223372036854775807) (hm0 : (0 : Int) ≤ 12345) (hm1 : (12345 : Int) ≤ 1000000000) :
    Calls Tryd.prog 4 #[.slice A0 l0.length c0] w fun e w' => e = .returned (.bool true) ∧ Below w.heap.size w w' := by
  have HB := Aside0.mk (Below.refl w.heap.size w)
  have z1 : (1 + s.size ≤ 9223372036854775807) = True := eq_true (by omega)
  have z2 : decide (1 + s.size ≤ 9223372036854775807) = true := decide_eq_true (by omega)
  have z3 : (9223372036854775807 < 1 + s.size) = False := eq_false (by omega)
  have z4 : (1 + s.size + 1 ≤ 9223372036854775807) = True := eq_true (by omega)
  have z5 : decide (1 + s.size + 1 ≤ 9223372036854775807) = true := decide_eq_true (by omega)
  have z6 : (9223372036854775807 < 1 + s.size + 1) = False := eq_false (by omega)
  have z7 : wrap64 ((s.size : Int) + 1) = (s.size : Int) + 1 := by unfold wrap64; omega
  go_enter Tryd.func4, Tryd.ntmps4
  go_wp2_with (first
      | (go_at_call 7; refine (laws_big.calls _ _ l0 _ _ (by repeat (first | exact (Kd.C_below hr0 HB.out) | (with_reducible refine Kd.C_alloc ?_ _) | (with_reducible refine Kd.C_drewN ?_ _) | (with_reducible refine Kd.C_drew ?_))) hc0 hb0).mono ?_; rintro e w1 ⟨rfl, ⟨nd, rfl⟩⟩)
      | (go_at_call 8; refine (spec_DrawVarText.calls k0 _ _ l0 n0 _ (by repeat (first | exact (Kd.C_below hr0 HB.out) | (with_reducible refine Kd.C_alloc ?_ _) | (with_reducible refine Kd.C_drewN ?_ _) | (with_reducible refine Kd.C_drew ?_))) hc0 e0).mono ?_; rintro e w2 ⟨rfl, hb⟩; have n0_ := Aside0.mk (below_step (by repeat (first | (with_reducible first | exact HB.out | apply below_alloc | apply pw_below_drewN | apply below_drew1) | exact HB.out)) hb); clear HB hb; have HB := n0_; clear n0_)
      | (go_at_call 9; refine (impl_VarText.calls k1 _ s true _ e1).mono ?_; rintro e w3 ⟨rfl, hb⟩; have n0_ := Aside0.mk (below_step (by repeat (first | (with_reducible first | exact HB.out | apply below_alloc | apply pw_below_drewN | apply below_drew1) | exact HB.out)) hb); clear HB hb; have HB := n0_; clear n0_)
      | (go_at_call 10; refine (impl_ReadVar.calls k2 _ 1 _ _ true _ e2).mono ?_; rintro e w4 ⟨rfl, ⟨nd4, rfl⟩⟩)
      | (go_at_call 11; refine (impl_dec _ hn0 hn1 _ (hw.on (by repeat (first | (with_reducible first | exact HB.out | apply below_alloc | apply pw_below_drewN | apply below_drew1) | exact HB.out)))).mono ?_; rintro e w5 ⟨rfl, hb⟩; have n0_ := Aside0.mk (below_step (by repeat (first | (with_reducible first | exact HB.out | apply below_alloc | apply pw_below_drewN | apply below_drew1) | exact HB.out)) hb); clear HB hb; have HB := n0_; clear n0_)
      | (go_at_call 6; refine (rd_n _ hm0 hm1 _ (hw.on (by repeat (first | (with_reducible first | exact HB.out | apply below_alloc | apply pw_below_drewN | apply below_drew1) | exact HB.out)))).mono ?_; rintro e w6 ⟨rfl, hb⟩; have n0_ := Aside0.mk (below_step (by repeat (first | (with_reducible first | exact HB.out | apply below_alloc | apply pw_below_drewN | apply below_drew1) | exact HB.out)) hb); clear HB hb; have HB := n0_; clear n0_)
      | (go_at_call 12; refine (spec_DrawHex.calls k3 _ _ l0 t0 _ (by repeat (first | exact (Kd.C_below hr0 HB.out) | (with_reducible refine Kd.C_alloc ?_ _) | (with_reducible refine Kd.C_drewN ?_ _) | (with_reducible refine Kd.C_drew ?_))) hc0 e3).mono ?_; rintro e w7 ⟨rfl, hb⟩; have n0_ := Aside0.mk (below_step (by repeat (first | (with_reducible first | exact HB.out | apply below_alloc | apply pw_below_drewN | apply below_drew1) | exact HB.out)) hb); clear HB hb; have HB := n0_; clear n0_)
      | (go_at_call 13; refine (impl_ShortText.calls k4 _ a true _ e4).mono ?_; rintro e w8 ⟨rfl, hb⟩; have n0_ := Aside0.mk (below_step (by repeat (first | (with_reducible first | exact HB.out | apply below_alloc | apply pw_below_drewN | apply below_drew1) | exact HB.out)) hb); clear HB hb; have HB := n0_; clear n0_)
      | (go_at_call 14; refine (impl_ReadShort.calls k5 _ 0 _ _ true _ e5).mono ?_; rintro e w9 ⟨rfl, ⟨nd9, rfl⟩⟩)
      | (go_at_call 15; refine (impl_Hex.calls k6 _ h true _ e6).mono ?_; rintro e w10 ⟨rfl, hb⟩; have n0_ := Aside0.mk (below_step (by repeat (first | (with_reducible first | exact HB.out | apply below_alloc | apply pw_below_drewN | apply below_drew1) | exact HB.out)) hb); clear HB hb; have HB := n0_; clear n0_)
      | (go_at_call 16; refine (impl_Unhex.calls k7 _ _ true _ e7).mono ?_; rintro e w11 ⟨rfl, hb⟩; have n0_ := Aside0.mk (below_step (by repeat (first | (with_reducible first | exact HB.out | apply below_alloc | apply pw_below_drewN | apply below_drew1) | exact HB.out)) hb); clear HB hb; have HB := n0_; clear n0_))
  go_ret
  exact ⟨by first | rfl | (simp; done) | (simp [*]; done), by repeat (first | (with_reducible first | exact HB.out | apply below_alloc | apply pw_below_drewN | apply below_drew1) | exact HB.out)⟩
theorem way2 (A0 : Option Addr) (c0 : Nat) (l0 : List Int) (w : World) (hr0 : Kd.C (Kd.int .u8) w A0 l0.length l0) (hc0 : l0.length ≤ c0) (hw : Has w) (hb0 : laws_big.f l0 = some false)
    (n0 : Int) (t0 s a h : ByteArray) (k0 k1 k2 k3 k4 k5 k6 k7 : Nat) (e0 : spec_DrawVarText.f k0 l0 = some n0) (e3 : spec_DrawHex.f k3 l0 = some t0) (q1 : decide (n0 < 0) = false) (q2 : decide (1000000000 < n0) = true) (q3 : decide (300 < (t0.size : Int)) = true)
    (e1 : impl_VarText.f k1 12345 = some (s, true)) (e2 : impl_ReadVar.f k2 (((⟨#[120]⟩ : ByteArray) ++ s) ++ (⟨#[121]⟩ : ByteArray)) 1 = some (12345, (s.size : Int) + 1, true)) (hs : s.size ≤ 1000)
    (e4 : impl_ShortText.f k4 (⟨#[97, 98, 99]⟩ : ByteArray) = some (a, true)) (e5 : impl_ReadShort.f k5 a 0 = some ((⟨#[97, 98, 99]⟩ : ByteArray), (a.size : Int), true)) (e6 : impl_Hex.f k6 (⟨#[97, 98, 99]⟩ : ByteArray) = some (h, true)) (e7 : impl_Unhex.f k7 h = some ((⟨#[97, 98, 99]⟩ : ByteArray), true))
    (hn0 : (-9223372036854775808 : Int) ≤ 12345) (hn1 : (12345 : Int) ≤ 9223372036854775807) (hm0 : (0 : Int) ≤ 12345) (hm1 : (12345 : Int) ≤ 1000000000) :
    Calls Tryd.prog 4 #[.slice A0 l0.length c0] w fun e w' => e = .returned (.bool true) ∧ Below w.heap.size w w' := by
  have HB := Aside0.mk (Below.refl w.heap.size w)
  have z1 : (1 + s.size ≤ 9223372036854775807) = True := eq_true (by omega)
  have z2 : decide (1 + s.size ≤ 9223372036854775807) = true := decide_eq_true (by omega)
  have z3 : (9223372036854775807 < 1 + s.size) = False := eq_false (by omega)
  have z4 : (1 + s.size + 1 ≤ 9223372036854775807) = True := eq_true (by omega)
  have z5 : decide (1 + s.size + 1 ≤ 9223372036854775807) = true := decide_eq_true (by omega)
  have z6 : (9223372036854775807 < 1 + s.size + 1) = False := eq_false (by omega)
  have z7 : wrap64 ((s.size : Int) + 1) = (s.size : Int) + 1 := by unfold wrap64; omega
  go_enter Tryd.func4, Tryd.ntmps4
  go_wp2_with (first
      | (go_at_call 7; refine (laws_big.calls _ _ l0 _ _ (by repeat (first | exact (Kd.C_below hr0 HB.out) | (with_reducible refine Kd.C_alloc ?_ _) | (with_reducible refine Kd.C_drewN ?_ _) | (with_reducible refine Kd.C_drew ?_))) hc0 hb0).mono ?_; rintro e w1 ⟨rfl, ⟨nd, rfl⟩⟩)
      | (go_at_call 8; refine (spec_DrawVarText.calls k0 _ _ l0 n0 _ (by repeat (first | exact (Kd.C_below hr0 HB.out) | (with_reducible refine Kd.C_alloc ?_ _) | (with_reducible refine Kd.C_drewN ?_ _) | (with_reducible refine Kd.C_drew ?_))) hc0 e0).mono ?_; rintro e w2 ⟨rfl, hb⟩; have n0_ := Aside0.mk (below_step (by repeat (first | (with_reducible first | exact HB.out | apply below_alloc | apply pw_below_drewN | apply below_drew1) | exact HB.out)) hb); clear HB hb; have HB := n0_; clear n0_)
      | (go_at_call 9; refine (impl_VarText.calls k1 _ s true _ e1).mono ?_; rintro e w3 ⟨rfl, hb⟩; have n0_ := Aside0.mk (below_step (by repeat (first | (with_reducible first | exact HB.out | apply below_alloc | apply pw_below_drewN | apply below_drew1) | exact HB.out)) hb); clear HB hb; have HB := n0_; clear n0_)
      | (go_at_call 10; refine (impl_ReadVar.calls k2 _ 1 _ _ true _ e2).mono ?_; rintro e w4 ⟨rfl, ⟨nd4, rfl⟩⟩)
      | (go_at_call 11; refine (impl_dec _ hn0 hn1 _ (hw.on (by repeat (first | (with_reducible first | exact HB.out | apply below_alloc | apply pw_below_drewN | apply below_drew1) | exact HB.out)))).mono ?_; rintro e w5 ⟨rfl, hb⟩; have n0_ := Aside0.mk (below_step (by repeat (first | (with_reducible first | exact HB.out | apply below_alloc | apply pw_below_drewN | apply below_drew1) | exact HB.out)) hb); clear HB hb; have HB := n0_; clear n0_)
      | (go_at_call 6; refine (rd_n _ hm0 hm1 _ (hw.on (by repeat (first | (with_reducible first | exact HB.out | apply below_alloc | apply pw_below_drewN | apply below_drew1) | exact HB.out)))).mono ?_; rintro e w6 ⟨rfl, hb⟩; have n0_ := Aside0.mk (below_step (by repeat (first | (with_reducible first | exact HB.out | apply below_alloc | apply pw_below_drewN | apply below_drew1) | exact HB.out)) hb); clear HB hb; have HB := n0_; clear n0_)
      | (go_at_call 12; refine (spec_DrawHex.calls k3 _ _ l0 t0 _ (by repeat (first | exact (Kd.C_below hr0 HB.out) | (with_reducible refine Kd.C_alloc ?_ _) | (with_reducible refine Kd.C_drewN ?_ _) | (with_reducible refine Kd.C_drew ?_))) hc0 e3).mono ?_; rintro e w7 ⟨rfl, hb⟩; have n0_ := Aside0.mk (below_step (by repeat (first | (with_reducible first | exact HB.out | apply below_alloc | apply pw_below_drewN | apply below_drew1) | exact HB.out)) hb); clear HB hb; have HB := n0_; clear n0_)
      | (go_at_call 13; refine (impl_ShortText.calls k4 _ a true _ e4).mono ?_; rintro e w8 ⟨rfl, hb⟩; have n0_ := Aside0.mk (below_step (by repeat (first | (with_reducible first | exact HB.out | apply below_alloc | apply pw_below_drewN | apply below_drew1) | exact HB.out)) hb); clear HB hb; have HB := n0_; clear n0_)
      | (go_at_call 14; refine (impl_ReadShort.calls k5 _ 0 _ _ true _ e5).mono ?_; rintro e w9 ⟨rfl, ⟨nd9, rfl⟩⟩)
      | (go_at_call 15; refine (impl_Hex.calls k6 _ h true _ e6).mono ?_; rintro e w10 ⟨rfl, hb⟩; have n0_ := Aside0.mk (below_step (by repeat (first | (with_reducible first | exact HB.out | apply below_alloc | apply pw_below_drewN | apply below_drew1) | exact HB.out)) hb); clear HB hb; have HB := n0_; clear n0_)
      | (go_at_call 16; refine (impl_Unhex.calls k7 _ _ true _ e7).mono ?_; rintro e w11 ⟨rfl, hb⟩; have n0_ := Aside0.mk (below_step (by repeat (first | (with_reducible first | exact HB.out | apply below_alloc | apply pw_below_drewN | apply below_drew1) | exact HB.out)) hb); clear HB hb; have HB := n0_; clear n0_))
  go_ret
  exact ⟨by first | rfl | (simp; done) | (simp [*]; done), by repeat (first | (with_reducible first | exact HB.out | apply below_alloc | apply pw_below_drewN | apply below_drew1) | exact HB.out)⟩
theorem way3 (A0 : Option Addr) (c0 : Nat) (l0 : List Int) (w : World) (hr0 : Kd.C (Kd.int .u8) w A0 l0.length l0) (hc0 : l0.length ≤ c0) (hw : Has w) (hb0 : laws_big.f l0 = some false)
    (n0 : Int) (t0 s a h : ByteArray) (k0 k1 k2 k3 k4 k5 k6 k7 : Nat) (e0 : spec_DrawVarText.f k0 l0 = some n0) (e3 : spec_DrawHex.f k3 l0 = some t0) (q1 : decide (n0 < 0) = false) (q2 : decide (1000000000 < n0) = true) (q3 : decide (300 < (t0.size : Int)) = false)
    (e1 : impl_VarText.f k1 12345 = some (s, true)) (e2 : impl_ReadVar.f k2 (((⟨#[120]⟩ : ByteArray) ++ s) ++ (⟨#[121]⟩ : ByteArray)) 1 = some (12345, (s.size : Int) + 1, true)) (hs : s.size ≤ 1000)
    (e4 : impl_ShortText.f k4 t0 = some (a, true)) (e5 : impl_ReadShort.f k5 a 0 = some (t0, (a.size : Int), true)) (e6 : impl_Hex.f k6 t0 = some (h, true)) (e7 : impl_Unhex.f k7 h = some (t0, true))
    (hn0 : (-9223372036854775808 : Int) ≤ 12345) (hn1 : (12345 : Int) ≤ 9223372036854775807) (hm0 : (0 : Int) ≤ 12345) (hm1 : (12345 : Int) ≤ 1000000000) :
    Calls Tryd.prog 4 #[.slice A0 l0.length c0] w fun e w' => e = .returned (.bool true) ∧ Below w.heap.size w w' := by
  have HB := Aside0.mk (Below.refl w.heap.size w)
  have z1 : (1 + s.size ≤ 9223372036854775807) = True := eq_true (by omega)
  have z2 : decide (1 + s.size ≤ 9223372036854775807) = true := decide_eq_true (by omega)
  have z3 : (9223372036854775807 < 1 + s.size) = False := eq_false (by omega)
  have z4 : (1 + s.size + 1 ≤ 9223372036854775807) = True := eq_true (by omega)
  have z5 : decide (1 + s.size + 1 ≤ 9223372036854775807) = true := decide_eq_true (by omega)
  have z6 : (9223372036854775807 < 1 + s.size + 1) = False := eq_false (by omega)
  have z7 : wrap64 ((s.size : Int) + 1) = (s.size : Int) + 1 := by unfold wrap64; omega
  go_enter Tryd.func4, Tryd.ntmps4
  go_wp2_with (first
      | (go_at_call 7; refine (laws_big.calls _ _ l0 _ _ (by repeat (first | exact (Kd.C_below hr0 HB.out) | (with_reducible refine Kd.C_alloc ?_ _) | (with_reducible refine Kd.C_drewN ?_ _) | (with_reducible refine Kd.C_drew ?_))) hc0 hb0).mono ?_; rintro e w1 ⟨rfl, ⟨nd, rfl⟩⟩)
      | (go_at_call 8; refine (spec_DrawVarText.calls k0 _ _ l0 n0 _ (by repeat (first | exact (Kd.C_below hr0 HB.out) | (with_reducible refine Kd.C_alloc ?_ _) | (with_reducible refine Kd.C_drewN ?_ _) | (with_reducible refine Kd.C_drew ?_))) hc0 e0).mono ?_; rintro e w2 ⟨rfl, hb⟩; have n0_ := Aside0.mk (below_step (by repeat (first | (with_reducible first | exact HB.out | apply below_alloc | apply pw_below_drewN | apply below_drew1) | exact HB.out)) hb); clear HB hb; have HB := n0_; clear n0_)
      | (go_at_call 9; refine (impl_VarText.calls k1 _ s true _ e1).mono ?_; rintro e w3 ⟨rfl, hb⟩; have n0_ := Aside0.mk (below_step (by repeat (first | (with_reducible first | exact HB.out | apply below_alloc | apply pw_below_drewN | apply below_drew1) | exact HB.out)) hb); clear HB hb; have HB := n0_; clear n0_)
      | (go_at_call 10; refine (impl_ReadVar.calls k2 _ 1 _ _ true _ e2).mono ?_; rintro e w4 ⟨rfl, ⟨nd4, rfl⟩⟩)
      | (go_at_call 11; refine (impl_dec _ hn0 hn1 _ (hw.on (by repeat (first | (with_reducible first | exact HB.out | apply below_alloc | apply pw_below_drewN | apply below_drew1) | exact HB.out)))).mono ?_; rintro e w5 ⟨rfl, hb⟩; have n0_ := Aside0.mk (below_step (by repeat (first | (with_reducible first | exact HB.out | apply below_alloc | apply pw_below_drewN | apply below_drew1) | exact HB.out)) hb); clear HB hb; have HB := n0_; clear n0_)
      | (go_at_call 6; refine (rd_n _ hm0 hm1 _ (hw.on (by repeat (first | (with_reducible first | exact HB.out | apply below_alloc | apply pw_below_drewN | apply below_drew1) | exact HB.out)))).mono ?_; rintro e w6 ⟨rfl, hb⟩; have n0_ := Aside0.mk (below_step (by repeat (first | (with_reducible first | exact HB.out | apply below_alloc | apply pw_below_drewN | apply below_drew1) | exact HB.out)) hb); clear HB hb; have HB := n0_; clear n0_)
      | (go_at_call 12; refine (spec_DrawHex.calls k3 _ _ l0 t0 _ (by repeat (first | exact (Kd.C_below hr0 HB.out) | (with_reducible refine Kd.C_alloc ?_ _) | (with_reducible refine Kd.C_drewN ?_ _) | (with_reducible refine Kd.C_drew ?_))) hc0 e3).mono ?_; rintro e w7 ⟨rfl, hb⟩; have n0_ := Aside0.mk (below_step (by repeat (first | (with_reducible first | exact HB.out | apply below_alloc | apply pw_below_drewN | apply below_drew1) | exact HB.out)) hb); clear HB hb; have HB := n0_; clear n0_)
      | (go_at_call 13; refine (impl_ShortText.calls k4 _ a true _ e4).mono ?_; rintro e w8 ⟨rfl, hb⟩; have n0_ := Aside0.mk (below_step (by repeat (first | (with_reducible first | exact HB.out | apply below_alloc | apply pw_below_drewN | apply below_drew1) | exact HB.out)) hb); clear HB hb; have HB := n0_; clear n0_)
      | (go_at_call 14; refine (impl_ReadShort.calls k5 _ 0 _ _ true _ e5).mono ?_; rintro e w9 ⟨rfl, ⟨nd9, rfl⟩⟩)
      | (go_at_call 15; refine (impl_Hex.calls k6 _ h true _ e6).mono ?_; rintro e w10 ⟨rfl, hb⟩; have n0_ := Aside0.mk (below_step (by repeat (first | (with_reducible first | exact HB.out | apply below_alloc | apply pw_below_drewN | apply below_drew1) | exact HB.out)) hb); clear HB hb; have HB := n0_; clear n0_)
      | (go_at_call 16; refine (impl_Unhex.calls k7 _ _ true _ e7).mono ?_; rintro e w11 ⟨rfl, hb⟩; have n0_ := Aside0.mk (below_step (by repeat (first | (with_reducible first | exact HB.out | apply below_alloc | apply pw_below_drewN | apply below_drew1) | exact HB.out)) hb); clear HB hb; have HB := n0_; clear n0_))
  go_ret
  exact ⟨by first | rfl | (simp; done) | (simp [*]; done), by repeat (first | (with_reducible first | exact HB.out | apply below_alloc | apply pw_below_drewN | apply below_drew1) | exact HB.out)⟩
theorem way4 (A0 : Option Addr) (c0 : Nat) (l0 : List Int) (w : World) (hr0 : Kd.C (Kd.int .u8) w A0 l0.length l0) (hc0 : l0.length ≤ c0) (hw : Has w) (hb0 : laws_big.f l0 = some false)
    (n0 : Int) (t0 s a h : ByteArray) (k0 k1 k2 k3 k4 k5 k6 k7 : Nat) (e0 : spec_DrawVarText.f k0 l0 = some n0) (e3 : spec_DrawHex.f k3 l0 = some t0) (q1 : decide (n0 < 0) = false) (q2 : decide (1000000000 < n0) = false) (q3 : decide (300 < (t0.size : Int)) = true)
    (e1 : impl_VarText.f k1 n0 = some (s, true)) (e2 : impl_ReadVar.f k2 (((⟨#[120]⟩ : ByteArray) ++ s) ++ (⟨#[121]⟩ : ByteArray)) 1 = some (n0, (s.size : Int) + 1, true)) (hs : s.size ≤ 1000)
    (e4 : impl_ShortText.f k4 (⟨#[97, 98, 99]⟩ : ByteArray) = some (a, true)) (e5 : impl_ReadShort.f k5 a 0 = some ((⟨#[97, 98, 99]⟩ : ByteArray), (a.size : Int), true)) (e6 : impl_Hex.f k6 (⟨#[97, 98, 99]⟩ : ByteArray) = some (h, true)) (e7 : impl_Unhex.f k7 h = some ((⟨#[97, 98, 99]⟩ : ByteArray), true))
    (hn0 : (-9223372036854775808 : Int) ≤ n0) (hn1 : (n0 : Int) ≤ 9223372036854775807) (hm0 : (0 : Int) ≤ n0) (hm1 : (n0 : Int) ≤ 1000000000) :
    Calls Tryd.prog 4 #[.slice A0 l0.length c0] w fun e w' => e = .returned (.bool true) ∧ Below w.heap.size w w' := by
  have HB := Aside0.mk (Below.refl w.heap.size w)
  have z1 : (1 + s.size ≤ 9223372036854775807) = True := eq_true (by omega)
  have z2 : decide (1 + s.size ≤ 9223372036854775807) = true := decide_eq_true (by omega)
  have z3 : (9223372036854775807 < 1 + s.size) = False := eq_false (by omega)
  have z4 : (1 + s.size + 1 ≤ 9223372036854775807) = True := eq_true (by omega)
  have z5 : decide (1 + s.size + 1 ≤ 9223372036854775807) = true := decide_eq_true (by omega)
  have z6 : (9223372036854775807 < 1 + s.size + 1) = False := eq_false (by omega)
  have z7 : wrap64 ((s.size : Int) + 1) = (s.size : Int) + 1 := by unfold wrap64; omega
  go_enter Tryd.func4, Tryd.ntmps4
  go_wp2_with (first
      | (go_at_call 7; refine (laws_big.calls _ _ l0 _ _ (by repeat (first | exact (Kd.C_below hr0 HB.out) | (with_reducible refine Kd.C_alloc ?_ _) | (with_reducible refine Kd.C_drewN ?_ _) | (with_reducible refine Kd.C_drew ?_))) hc0 hb0).mono ?_; rintro e w1 ⟨rfl, ⟨nd, rfl⟩⟩)
      | (go_at_call 8; refine (spec_DrawVarText.calls k0 _ _ l0 n0 _ (by repeat (first | exact (Kd.C_below hr0 HB.out) | (with_reducible refine Kd.C_alloc ?_ _) | (with_reducible refine Kd.C_drewN ?_ _) | (with_reducible refine Kd.C_drew ?_))) hc0 e0).mono ?_; rintro e w2 ⟨rfl, hb⟩; have n0_ := Aside0.mk (below_step (by repeat (first | (with_reducible first | exact HB.out | apply below_alloc | apply pw_below_drewN | apply below_drew1) | exact HB.out)) hb); clear HB hb; have HB := n0_; clear n0_)
      | (go_at_call 9; refine (impl_VarText.calls k1 _ s true _ e1).mono ?_; rintro e w3 ⟨rfl, hb⟩; have n0_ := Aside0.mk (below_step (by repeat (first | (with_reducible first | exact HB.out | apply below_alloc | apply pw_below_drewN | apply below_drew1) | exact HB.out)) hb); clear HB hb; have HB := n0_; clear n0_)
      | (go_at_call 10; refine (impl_ReadVar.calls k2 _ 1 _ _ true _ e2).mono ?_; rintro e w4 ⟨rfl, ⟨nd4, rfl⟩⟩)
      | (go_at_call 11; refine (impl_dec _ hn0 hn1 _ (hw.on (by repeat (first | (with_reducible first | exact HB.out | apply below_alloc | apply pw_below_drewN | apply below_drew1) | exact HB.out)))).mono ?_; rintro e w5 ⟨rfl, hb⟩; have n0_ := Aside0.mk (below_step (by repeat (first | (with_reducible first | exact HB.out | apply below_alloc | apply pw_below_drewN | apply below_drew1) | exact HB.out)) hb); clear HB hb; have HB := n0_; clear n0_)
      | (go_at_call 6; refine (rd_n _ hm0 hm1 _ (hw.on (by repeat (first | (with_reducible first | exact HB.out | apply below_alloc | apply pw_below_drewN | apply below_drew1) | exact HB.out)))).mono ?_; rintro e w6 ⟨rfl, hb⟩; have n0_ := Aside0.mk (below_step (by repeat (first | (with_reducible first | exact HB.out | apply below_alloc | apply pw_below_drewN | apply below_drew1) | exact HB.out)) hb); clear HB hb; have HB := n0_; clear n0_)
      | (go_at_call 12; refine (spec_DrawHex.calls k3 _ _ l0 t0 _ (by repeat (first | exact (Kd.C_below hr0 HB.out) | (with_reducible refine Kd.C_alloc ?_ _) | (with_reducible refine Kd.C_drewN ?_ _) | (with_reducible refine Kd.C_drew ?_))) hc0 e3).mono ?_; rintro e w7 ⟨rfl, hb⟩; have n0_ := Aside0.mk (below_step (by repeat (first | (with_reducible first | exact HB.out | apply below_alloc | apply pw_below_drewN | apply below_drew1) | exact HB.out)) hb); clear HB hb; have HB := n0_; clear n0_)
      | (go_at_call 13; refine (impl_ShortText.calls k4 _ a true _ e4).mono ?_; rintro e w8 ⟨rfl, hb⟩; have n0_ := Aside0.mk (below_step (by repeat (first | (with_reducible first | exact HB.out | apply below_alloc | apply pw_below_drewN | apply below_drew1) | exact HB.out)) hb); clear HB hb; have HB := n0_; clear n0_)
      | (go_at_call 14; refine (impl_ReadShort.calls k5 _ 0 _ _ true _ e5).mono ?_; rintro e w9 ⟨rfl, ⟨nd9, rfl⟩⟩)
      | (go_at_call 15; refine (impl_Hex.calls k6 _ h true _ e6).mono ?_; rintro e w10 ⟨rfl, hb⟩; have n0_ := Aside0.mk (below_step (by repeat (first | (with_reducible first | exact HB.out | apply below_alloc | apply pw_below_drewN | apply below_drew1) | exact HB.out)) hb); clear HB hb; have HB := n0_; clear n0_)
      | (go_at_call 16; refine (impl_Unhex.calls k7 _ _ true _ e7).mono ?_; rintro e w11 ⟨rfl, hb⟩; have n0_ := Aside0.mk (below_step (by repeat (first | (with_reducible first | exact HB.out | apply below_alloc | apply pw_below_drewN | apply below_drew1) | exact HB.out)) hb); clear HB hb; have HB := n0_; clear n0_))
  go_ret
  exact ⟨by first | rfl | (simp; done) | (simp [*]; done), by repeat (first | (with_reducible first | exact HB.out | apply below_alloc | apply pw_below_drewN | apply below_drew1) | exact HB.out)⟩
theorem way5 (A0 : Option Addr) (c0 : Nat) (l0 : List Int) (w : World) (hr0 : Kd.C (Kd.int .u8) w A0 l0.length l0) (hc0 : l0.length ≤ c0) (hw : Has w) (hb0 : laws_big.f l0 = some false)
    (n0 : Int) (t0 s a h : ByteArray) (k0 k1 k2 k3 k4 k5 k6 k7 : Nat) (e0 : spec_DrawVarText.f k0 l0 = some n0) (e3 : spec_DrawHex.f k3 l0 = some t0) (q1 : decide (n0 < 0) = false) (q2 : decide (1000000000 < n0) = false) (q3 : decide (300 < (t0.size : Int)) = false)
    (e1 : impl_VarText.f k1 n0 = some (s, true)) (e2 : impl_ReadVar.f k2 (((⟨#[120]⟩ : ByteArray) ++ s) ++ (⟨#[121]⟩ : ByteArray)) 1 = some (n0, (s.size : Int) + 1, true)) (hs : s.size ≤ 1000)
    (e4 : impl_ShortText.f k4 t0 = some (a, true)) (e5 : impl_ReadShort.f k5 a 0 = some (t0, (a.size : Int), true)) (e6 : impl_Hex.f k6 t0 = some (h, true)) (e7 : impl_Unhex.f k7 h = some (t0, true))
    (hn0 : (-9223372036854775808 : Int) ≤ n0) (hn1 : (n0 : Int) ≤ 9223372036854775807) (hm0 : (0 : Int) ≤ n0) (hm1 : (n0 : Int) ≤ 1000000000) :
    Calls Tryd.prog 4 #[.slice A0 l0.length c0] w fun e w' => e = .returned (.bool true) ∧ Below w.heap.size w w' := by
  have HB := Aside0.mk (Below.refl w.heap.size w)
  have z1 : (1 + s.size ≤ 9223372036854775807) = True := eq_true (by omega)
  have z2 : decide (1 + s.size ≤ 9223372036854775807) = true := decide_eq_true (by omega)
  have z3 : (9223372036854775807 < 1 + s.size) = False := eq_false (by omega)
  have z4 : (1 + s.size + 1 ≤ 9223372036854775807) = True := eq_true (by omega)
  have z5 : decide (1 + s.size + 1 ≤ 9223372036854775807) = true := decide_eq_true (by omega)
  have z6 : (9223372036854775807 < 1 + s.size + 1) = False := eq_false (by omega)
  have z7 : wrap64 ((s.size : Int) + 1) = (s.size : Int) + 1 := by unfold wrap64; omega
  go_enter Tryd.func4, Tryd.ntmps4
  go_wp2_with (first
      | (go_at_call 7; refine (laws_big.calls _ _ l0 _ _ (by repeat (first | exact (Kd.C_below hr0 HB.out) | (with_reducible refine Kd.C_alloc ?_ _) | (with_reducible refine Kd.C_drewN ?_ _) | (with_reducible refine Kd.C_drew ?_))) hc0 hb0).mono ?_; rintro e w1 ⟨rfl, ⟨nd, rfl⟩⟩)
      | (go_at_call 8; refine (spec_DrawVarText.calls k0 _ _ l0 n0 _ (by repeat (first | exact (Kd.C_below hr0 HB.out) | (with_reducible refine Kd.C_alloc ?_ _) | (with_reducible refine Kd.C_drewN ?_ _) | (with_reducible refine Kd.C_drew ?_))) hc0 e0).mono ?_; rintro e w2 ⟨rfl, hb⟩; have n0_ := Aside0.mk (below_step (by repeat (first | (with_reducible first | exact HB.out | apply below_alloc | apply pw_below_drewN | apply below_drew1) | exact HB.out)) hb); clear HB hb; have HB := n0_; clear n0_)
      | (go_at_call 9; refine (impl_VarText.calls k1 _ s true _ e1).mono ?_; rintro e w3 ⟨rfl, hb⟩; have n0_ := Aside0.mk (below_step (by repeat (first | (with_reducible first | exact HB.out | apply below_alloc | apply pw_below_drewN | apply below_drew1) | exact HB.out)) hb); clear HB hb; have HB := n0_; clear n0_)
      | (go_at_call 10; refine (impl_ReadVar.calls k2 _ 1 _ _ true _ e2).mono ?_; rintro e w4 ⟨rfl, ⟨nd4, rfl⟩⟩)
      | (go_at_call 11; refine (impl_dec _ hn0 hn1 _ (hw.on (by repeat (first | (with_reducible first | exact HB.out | apply below_alloc | apply pw_below_drewN | apply below_drew1) | exact HB.out)))).mono ?_; rintro e w5 ⟨rfl, hb⟩; have n0_ := Aside0.mk (below_step (by repeat (first | (with_reducible first | exact HB.out | apply below_alloc | apply pw_below_drewN | apply below_drew1) | exact HB.out)) hb); clear HB hb; have HB := n0_; clear n0_)
      | (go_at_call 6; refine (rd_n _ hm0 hm1 _ (hw.on (by repeat (first | (with_reducible first | exact HB.out | apply below_alloc | apply pw_below_drewN | apply below_drew1) | exact HB.out)))).mono ?_; rintro e w6 ⟨rfl, hb⟩; have n0_ := Aside0.mk (below_step (by repeat (first | (with_reducible first | exact HB.out | apply below_alloc | apply pw_below_drewN | apply below_drew1) | exact HB.out)) hb); clear HB hb; have HB := n0_; clear n0_)
      | (go_at_call 12; refine (spec_DrawHex.calls k3 _ _ l0 t0 _ (by repeat (first | exact (Kd.C_below hr0 HB.out) | (with_reducible refine Kd.C_alloc ?_ _) | (with_reducible refine Kd.C_drewN ?_ _) | (with_reducible refine Kd.C_drew ?_))) hc0 e3).mono ?_; rintro e w7 ⟨rfl, hb⟩; have n0_ := Aside0.mk (below_step (by repeat (first | (with_reducible first | exact HB.out | apply below_alloc | apply pw_below_drewN | apply below_drew1) | exact HB.out)) hb); clear HB hb; have HB := n0_; clear n0_)
      | (go_at_call 13; refine (impl_ShortText.calls k4 _ a true _ e4).mono ?_; rintro e w8 ⟨rfl, hb⟩; have n0_ := Aside0.mk (below_step (by repeat (first | (with_reducible first | exact HB.out | apply below_alloc | apply pw_below_drewN | apply below_drew1) | exact HB.out)) hb); clear HB hb; have HB := n0_; clear n0_)
      | (go_at_call 14; refine (impl_ReadShort.calls k5 _ 0 _ _ true _ e5).mono ?_; rintro e w9 ⟨rfl, ⟨nd9, rfl⟩⟩)
      | (go_at_call 15; refine (impl_Hex.calls k6 _ h true _ e6).mono ?_; rintro e w10 ⟨rfl, hb⟩; have n0_ := Aside0.mk (below_step (by repeat (first | (with_reducible first | exact HB.out | apply below_alloc | apply pw_below_drewN | apply below_drew1) | exact HB.out)) hb); clear HB hb; have HB := n0_; clear n0_)
      | (go_at_call 16; refine (impl_Unhex.calls k7 _ _ true _ e7).mono ?_; rintro e w11 ⟨rfl, hb⟩; have n0_ := Aside0.mk (below_step (by repeat (first | (with_reducible first | exact HB.out | apply below_alloc | apply pw_below_drewN | apply below_drew1) | exact HB.out)) hb); clear HB hb; have HB := n0_; clear n0_))
  go_ret
  exact ⟨by first | rfl | (simp; done) | (simp [*]; done), by repeat (first | (with_reducible first | exact HB.out | apply below_alloc | apply pw_below_drewN | apply below_drew1) | exact HB.out)⟩

theorem facts (n : Int) (hn0 : 0 ≤ n) (hn1 : n ≤ 1000000000) (t : ByteArray) (ht : t.size ≤ 300) :
    ∃ (s a h : ByteArray) (k1 k2 k4 k5 k6 k7 : Nat), impl_VarText.f k1 n = some (s, true) ∧ impl_ReadVar.f k2 (((⟨#[120]⟩ : ByteArray) ++ s) ++ (⟨#[121]⟩ : ByteArray)) 1 = some (n, (s.size : Int) + 1, true) ∧ s.size ≤ 1000 ∧
      impl_ShortText.f k4 t = some (a, true) ∧ impl_ReadShort.f k5 a 0 = some (t, (a.size : Int), true) ∧ impl_Hex.f k6 t = some (h, true) ∧ impl_Unhex.f k7 h = some (t, true) := by
  obtain ⟨u, rfl⟩ := Int.eq_ofNat_of_zero_le hn0
  have hs5 : (strOfNums (varL u)).size ≤ 5 := by rw [str_size]; exact varL_len5 5 u (by omega) (by omega)
  have ha : (strOfNums (varL t.size) ++ t).size ≤ 1000 := by
    rw [ByteArray.size_append, str_size]
    have := varL_len5 5 t.size (by omega) (by omega)
    omega
  obtain ⟨h, hh1, hh2⟩ := hex_back t (by omega)
  obtain ⟨k1, e1⟩ := impl_VarText_ev (x := (u : Int)) (by omega) hn1
  obtain ⟨k2, e2⟩ := impl_ReadVar_ev (((⟨#[120]⟩ : ByteArray) ++ strOfNums (varL u)) ++ (⟨#[121]⟩ : ByteArray)) 1 (by
    rw [ByteArray.size_append, ByteArray.size_append]; show 1 + _ + 1 ≤ _; omega)
  obtain ⟨k4, e4⟩ := impl_ShortText_ev t
  obtain ⟨k5, e5⟩ := impl_ReadShort_ev (strOfNums (varL t.size) ++ t) 0 (by omega)
  obtain ⟨k6, e6⟩ := impl_Hex_ev t
  obtain ⟨k7, e7⟩ := impl_Unhex_ev h
  have f1 := e1 k1 (Nat.le_refl _)
  have f2 := e2 k2 (Nat.le_refl _)
  have f4 := e4 k4 (Nat.le_refl _)
  have f5 := e5 k5 (Nat.le_refl _)
  have f6 := e6 k6 (Nat.le_refl _)
  have f7 := e7 k7 (Nat.le_refl _)
  rw [Int.toNat_natCast] at f1
  rw [var_back u (by omega)] at f2
  rw [shortP, if_neg (by omega)] at f4
  rw [short_back t (by omega)] at f5
  rw [hh1] at f6
  rw [hh2] at f7
  exact ⟨_, _, _, k1, k2, k4, k5, k6, k7, f1, f2, by omega, f4, f5, f6, f7⟩
theorem law_walk (A0 : Option Addr) (c0 : Nat) (l0 : List Int) (w : World) (hr0 : Kd.C (Kd.int .u8) w A0 l0.length l0) (hc0 : l0.length ≤ c0) (hl : l0.length ≤ 4611686018427387904) (hw : Has w) :
    Calls Tryd.prog 4 #[.slice A0 l0.length c0] w fun e w' => e = .returned (.bool true) ∧ Below w.heap.size w w' := by
  by_cases hb : (l0.length : Int) > 1048576
  · have hb0 : laws_big.f l0 = some true := by unfold laws_big.f; rw [decide_eq_true hb]
    have HB := Aside0.mk (Below.refl w.heap.size w)
    go_enter Tryd.func4, Tryd.ntmps4
    go_wp2_with (go_at_call 7; refine (laws_big.calls _ _ l0 _ _ (by repeat (first | exact (Kd.C_below hr0 HB.out) | (with_reducible refine Kd.C_alloc ?_ _) | (with_reducible refine Kd.C_drewN ?_ _) | (with_reducible refine Kd.C_drew ?_))) hc0 hb0).mono ?_; rintro e w1 ⟨rfl, ⟨nd, rfl⟩⟩)
    go_ret
    exact ⟨rfl, by repeat (first | (with_reducible first | exact HB.out | apply below_alloc | apply pw_below_drewN | apply below_drew1) | exact HB.out)⟩
  · have hb0 : laws_big.f l0 = some false := by unfold laws_big.f; rw [decide_eq_false hb]
    obtain ⟨n0, k0, e0'⟩ := draw_var l0 hl
    obtain ⟨t0, ⟨k3, e3'⟩, ht0⟩ := spec_DrawHex_ev l0 hl
    have e0 := e0' k0 (Nat.le_refl _)
    have e3 := e3' k3 (Nat.le_refl _)
    have hT : t0.size ≤ 300 ∨ (300 < (t0.size : Int)) := by omega
    have hA : (⟨#[97, 98, 99]⟩ : ByteArray).size ≤ 300 := by show 3 ≤ 300; omega
    by_cases h1 : n0 < 0
    · rcases hT with hT | hT
      · obtain ⟨s, a, h, k1, k2, k4, k5, k6, k7, f1, f2, fs, f4, f5, f6, f7⟩ := facts 12345 (by omega) (by omega) t0 hT
        exact way1 A0 c0 l0 w hr0 hc0 hw hb0 n0 t0 s a h k0 k1 k2 k3 k4 k5 k6 k7 e0 e3 (decide_eq_true h1) (decide_eq_false (by omega)) f1 f2 fs f4 f5 f6 f7 (by omega) (by omega) (by omega) (by omega)
      · obtain ⟨s, a, h, k1, k2, k4, k5, k6, k7, f1, f2, fs, f4, f5, f6, f7⟩ := facts 12345 (by omega) (by omega) _ hA
        exact way0 A0 c0 l0 w hr0 hc0 hw hb0 n0 t0 s a h k0 k1 k2 k3 k4 k5 k6 k7 e0 e3 (decide_eq_true h1) (decide_eq_true hT) f1 f2 fs f4 f5 f6 f7 (by omega) (by omega) (by omega) (by omega)
    · by_cases h2 : 1000000000 < n0
      · rcases hT with hT | hT
        · obtain ⟨s, a, h, k1, k2, k4, k5, k6, k7, f1, f2, fs, f4, f5, f6, f7⟩ := facts 12345 (by omega) (by omega) t0 hT
          exact way3 A0 c0 l0 w hr0 hc0 hw hb0 n0 t0 s a h k0 k1 k2 k3 k4 k5 k6 k7 e0 e3 (decide_eq_false h1) (decide_eq_true h2) (decide_eq_false (by omega)) f1 f2 fs f4 f5 f6 f7 (by omega) (by omega) (by omega) (by omega)
        · obtain ⟨s, a, h, k1, k2, k4, k5, k6, k7, f1, f2, fs, f4, f5, f6, f7⟩ := facts 12345 (by omega) (by omega) _ hA
          exact way2 A0 c0 l0 w hr0 hc0 hw hb0 n0 t0 s a h k0 k1 k2 k3 k4 k5 k6 k7 e0 e3 (decide_eq_false h1) (decide_eq_true h2) (decide_eq_true hT) f1 f2 fs f4 f5 f6 f7 (by omega) (by omega) (by omega) (by omega)
      · rcases hT with hT | hT
        · obtain ⟨s, a, h, k1, k2, k4, k5, k6, k7, f1, f2, fs, f4, f5, f6, f7⟩ := facts n0 (by omega) (by omega) t0 hT
          exact way5 A0 c0 l0 w hr0 hc0 hw hb0 n0 t0 s a h k0 k1 k2 k3 k4 k5 k6 k7 e0 e3 (decide_eq_false h1) (decide_eq_false h2) (decide_eq_false (by omega)) f1 f2 fs f4 f5 f6 f7 (by omega) (by omega) (by omega) (by omega)
        · obtain ⟨s, a, h, k1, k2, k4, k5, k6, k7, f1, f2, fs, f4, f5, f6, f7⟩ := facts n0 (by omega) (by omega) _ hA
          exact way4 A0 c0 l0 w hr0 hc0 hw hb0 n0 t0 s a h k0 k1 k2 k3 k4 k5 k6 k7 e0 e3 (decide_eq_false h1) (decide_eq_false h2) (decide_eq_true hT) f1 f2 fs f4 f5 f6 f7 (by omega) (by omega) (by omega) (by omega)

/-! ### the row and its card -/
theorem laidOut : laidOutB Tryd.prog = true := by kernel_rfl
def IsRow (k : IntKind) (w : World) (a : Option Addr) (len cap : Nat) (zs : List Int) : Prop :=
  (a = none ∧ len = 0 ∧ cap = 0 ∧ zs = []) ∨
  ∃ x, a = some x ∧ len ≤ cap ∧ cap ≤ maxLen ∧ zs.length = cap ∧ (∀ i, i < zs.length → w.cell? (x.add i) = some (.int k (zs.getD i 0))) ∧ ∀ n ∈ zs, (Lit.int k n).wf = true
theorem contract (H : Type) (enc : TypeId × Value → H) (W : World) (base : Nat) (args : Array Value) (ds gs : List (DataW H)) (before : List MemPlace)
    (hval : ∀ (j : Nat) t v, Tryd.f4.params[j]? = some t → args[j]? = some v → Value.okWide Tryd.prog W .any base t v)
    (hW : DataW.Whole enc Tryd.prog Tryd.f4.params.toList Rows.fnNumbersSpec.vars false W args.toList ds gs before)
    (hsz0 : (DataW.weightsEach Tryd.prog (Tryd.f4.params.toList ++ (OpenSpec.ofChange Rows.fnNumbersSpec).bare.plain.varTypes Tryd.prog) (ds ++ gs)).all (· ≤ reachBytes) = true)
    (hL : laidMetH Tryd.prog Rows.fnNumbersRow.laid W) :
    Calls Tryd.prog 4 args W fun e W' => ∃ v, e = .returned v ∧ Rows.fnNumbersSpec.post enc Tryd.prog Tryd.f4 false true false false W args v W' := by
  have hW' := hW
  have hsz := hsz0
  obtain ⟨p, q, hA0, hV, rfl, hfz, hnd⟩ := hW
  have hA : DataW.TrodAll enc Tryd.prog W 0 (fun _ => true) true Tryd.f4.params.toList args.toList ds p := hA0
  rw [Tryd.params4] at hA hval hsz
  obtain ⟨v0, vs0, d0, ds0, p0, q0, hargs, rfl, rfl, h0, r0⟩ := trodAll_cons hA
  obtain ⟨rfl, rfl, rfl⟩ := trodAll_nil r0
  obtain rfl : args = #[v0] := by cases args; simp_all
  obtain ⟨rfl, rfl⟩ := trodVars_none hV
  obtain ⟨a0, len0, cap0, rfl⟩ := okWide_slice Tryd.underlying25 (hval 0 25 v0 rfl rfl)
  have k0 := h0
  have lt0 : ∀ x ∈ p0, x.block < W.heap.size := by obtain ⟨m, hm⟩ := k0; exact DataW.trod_lt m _ _ _ hm
  obtain ⟨z0, w0⟩ : ∃ zs, IsRow .u8 W a0 len0 cap0 zs := by
    obtain ⟨fuel, hf⟩ := h0
    rcases open_ints Tryd.underlying25 Tryd.underlying5 (by kernel_rfl) hf with ⟨hcs, _⟩ | ⟨x, l, c, zs, hcs, _, hl, hm, hz, _, hcell, hwz⟩
    · simp [Value.cells] at hcs
      obtain ⟨rfl, rfl, rfl⟩ := hcs
      exact ⟨[], .inl ⟨rfl, rfl, rfl, rfl⟩⟩
    · simp [Value.cells] at hcs
      obtain ⟨rfl, rfl, rfl⟩ := hcs
      exact ⟨zs, .inr ⟨_, rfl, hl, hm, by simpa using hz, hcell, hwz⟩⟩
  have y0 : len0 * 1 ≤ 140737488351232 := Go.Proofs.YtbkklafkoegdpaaDoorW.PrintWords.sized_ints hsz (j := 0) (t := 25) rfl rfl Tryd.underlying25 Tryd.underlying5 (by kernel_rfl) (by kernel_rfl) h0
  obtain ⟨l0, rfl, hr0, hm0, hw0, hc0⟩ := ReadsInt.ofRowC w0
  refine (law_walk a0 cap0 l0 W (Kd.C_of_reads (d := (0 : Int)) (h1 := fun _ => rfl) hr0) hc0 (by omega) (has hL)).mono fun e W' ⟨he, bel⟩ => ?_
  subst he
  exact ⟨_, rfl, _, _, _, [], _, [], hW', trodAll_mk1 (shut_bool Tryd.underlying4 _), (trodAll_cons_mk (Below.trod laidOut (by kernel_rfl) (of_decide_eq_true (by kernel_rfl)) k0 bel lt0) trodAll_mk0), rfl, bel.frame _, fun h => by cases h⟩
theorem laid_met (os : Os) : laidMet Tryd.prog Rows.fnNumbersRow.laid ((laidWorld os).forCall (fun _ _ => 0) ⟨#[], #[.slice none 0 0], []⟩).memory :=
  laidMet_of_run' 8 (by kernel_rfl) (by kernel_rfl)
theorem reads (os : Os) {H : Type} (enc : TypeId × Value → H) : ∃ places, DataW.whole enc Tryd.prog ((laidWorld os).forCall (fun _ _ => 0) ⟨#[], #[.slice none 0 0], []⟩).memory Tryd.f4.params.toList Rows.fnNumbersSpec.vars false #[Value.slice none 0 0].toList 8 = some ([.nil], [], places) :=
  ⟨[], by kernel_rfl⟩
set_option maxRecDepth 100000 in
theorem lifted (os : Os) (started : os.Started) (H : Type) (enc : TypeId × Value → H) (F : Stop.Interp) :
    ReturnsInHanded {} Tryd.checked os 4 .any ((OpenSpec.ofChange Rows.fnNumbersSpec).preRow enc Tryd.prog Tryd.f4 Rows.fnNumbersRow.domain false Rows.fnNumbersRow.laid) (((OpenSpec.ofChange Rows.fnNumbersSpec).at F).post enc Tryd.prog Tryd.f4 false true false false) := by
  obtain ⟨places, hx⟩ := reads os enc
  refine returnsInHanded_of_row (C := Tryd.checked) (s := OpenSpec.ofChange Rows.fnNumbersSpec) own started (by kernel_rfl) Tryd.func4
    (witness_row_at (enc := enc) (C := Tryd.checked) false (laidWorld os) #[.slice none 0 0] rfl (by kernel_rfl) (by kernel_rfl) (by kernel_rfl)
      (OpenSpec.preRow_of_cond 8 hx (by kernel_rfl) (fun k hk => by cases hk) (by kernel_rfl) (laid_met os))) ?_
  intro W base args ds gs before hval hW _ _ hsz hL _ _
  exact contract H enc W base args ds gs before hval hW hsz hL
theorem said : Rows.FnNumbersSaid :=
  OpenClaim.holds_of_cond 4 Tryd.f4 rfl rfl rfl rfl rfl rfl rfl ⟨rfl, rfl, rfl, rfl, rfl⟩ rfl rfl rfl rfl rfl (by kernel_rfl) Tryd.func4 (by kernel_rfl)
    (of_decide_eq_true (by kernel_rfl)) (by unfold Func.isWrapper; first | (rw [if_pos (by decide +kernel)]; kernel_rfl) | (rw [if_neg (by decide +kernel)]; exact ⟨rfl, rfl⟩))
    (fun os started H enc _ F => by rw [OpenClaim.pre_eq_preRow]; exact lifted os started H enc F)
/-- No parameter wants a stand-in; the program's own looks are off. -/
theorem plain (f : FuncId) (fn : Func) (hf : Tryd.pinned.checked.prog.funcNamed "loop.example/g00130/laws.FnNumbers" = some f) (hfn : Tryd.pinned.checked.prog.funcs[f]? = some fn) :
    true = Tryd.pinned.checked.prog.looks [] ∧ ∀ (j : Nat) t, fn.params[j]? = some t → Tryd.pinned.checked.prog.wantsStandIn t = false := by
  obtain rfl : f = 4 := Option.some.inj ((show Tryd.prog.funcNamed "loop.example/g00130/laws.FnNumbers" = some 4 by kernel_rfl).symm.trans hf) |>.symm
  obtain rfl : fn = Tryd.f4 := (Option.some.inj (Tryd.func4.symm.trans hfn)).symm
  refine ⟨by kernel_rfl, fun j t ht => ?_⟩
  rw [Tryd.params4] at ht
  obtain rfl : t = 25 := by simpa using Array.mem_of_getElem? ht
  exact (show Tryd.prog.wantsStandIn 25 = false by kernel_rfl)
theorem card : Rows.FnNumbersCardSaid :=
  Claim7.holds_tied_plain_at .later [] _ _ _ _ said (fun _ h => by cases h) (by kernel_rfl) (fun _ h => by cases h) fnNumbers_row_tie rfl ⟨rfl, rfl⟩ (by kernel_rfl) rfl plain (by kernel_rfl)
#print axioms card
end Go.Proofs.YtbkklafkoegdpaaDoor.fnNum
namespace Go.Proofs.YtbkklafkoegdpaaDoor
/-- The tied card, under a short name, for the claim. -/
theorem fnNumbers_holds : Rows.FnNumbersCardSaid := fnNum.card
end Go.Proofs.YtbkklafkoegdpaaDoor
