import Derived.Test.YtacnlodcbbhahaaQFnActsx15
namespace Go.Proofs.Ytacnlodcbbhahaa.QFnActs
open Go.RowKit Go.Proofs.YtacnlodcbbhahaaW.PrintWords Go.Proofs.YtacnlodcbbhahaaW.PrintLast Go.Proofs.YtacnlodcbbhahaaW.PrintMore
set_option maxHeartbeats 8000000
set_option maxRecDepth 100000
set_option linter.unusedVariables false
set_option linter.unusedSimpArgs false
def spec_Decimal.l0 : Nat → Int → Bool → ByteArray → Option (ByteArray)
  | 0, _, _, _ => none
  | k + 1, x0, x3, x4 => if x0 = 0 then (if x3 = true then (if 1 + x4.size ≤ 9223372036854775807 then (some ((⟨#[45]⟩ : ByteArray) ++ x4)) else (none)) else (some x4)) else (if (Int.tmod x0 10) < 0 then ((spec_l01Figure.f (wrap64 (-(Int.tmod x0 10)))).bind fun t278 => ((some (([t278] : List Int) : List Int)).bind fun y279 => (if (strOfNums y279).size + x4.size ≤ 9223372036854775807 then (spec_Decimal.l0 k (wrap64 (Int.tdiv x0 10)) x3 ((strOfNums y279) ++ x4)) else (none)))) else ((spec_l01Figure.f (Int.tmod x0 10)).bind fun t282 => ((some (([t282] : List Int) : List Int)).bind fun y283 => (if (strOfNums y283).size + x4.size ≤ 9223372036854775807 then (spec_Decimal.l0 k (wrap64 (Int.tdiv x0 10)) x3 ((strOfNums y283) ++ x4)) else (none)))))
def spec_Decimal.f (k : Nat) (a0 : Int) : Option (ByteArray) := if a0 = 0 then (some (⟨#[48]⟩ : ByteArray)) else (spec_Decimal.l0 k a0 (decide (a0 < 0)) (⟨#[]⟩ : ByteArray))
theorem spec_Decimal.calls (k : Nat) (l : Int) (r : ByteArray) (w : World) (h : spec_Decimal.f k l = some r) :
  Calls Try.prog 118 #[.int .i64 l] w fun e w' => e = .returned (.string r) ∧ Below w.heap.size w w' := by
 have HB := am_ (Below.refl w.heap.size w)
 rw [spec_Decimal.f] at h; have H := h; clear h
 refine jc_ H ?_ ?_ <;> clear H <;> intro p H
 ·have m : (l == 0) = true := beq_iff_eq.mpr p
  have n : (l != 0) = false := bne_eq_false_iff_eq.mpr p
  clear p
  obtain rfl := oi_ H
  go_enter Try.func118, Try.ntmps118
  go_wp2
  go_ret
  exact ⟨qr_, qB_⟩
 have m : (l == 0) = false := beq_eq_false_iff_ne.mpr p
 have n : (l != 0) = true := bne_iff_ne.mpr p
 have H' := am_ H; clear H
 go_enter Try.func118, Try.ntmps118
 go_wp2
 generalize decide (l < 0) = bn at H' ⊢
 go_loopg [0, 4] k (fun kq v0 v4 w' => ∃ (a : Int) (c : ByteArray), v0 = .int .i64 a ∧ v4 = .string c ∧ Aside0 (spec_Decimal.l0 kq a bn c = some r) ∧ Aside0 (kq ≤ k) ∧ Aside0 (Below w.heap.size w w'))
 case atStart => exact ⟨(l), ((⟨#[]⟩ : ByteArray)), qe_, qe_, H', ⟨Nat.le_refl _⟩, ⟨qB_⟩⟩
 case round =>
  clear H'
  (try clear a0); clear p m n
  obtain ⟨a, c, rfl, rfl, HA, HK1, HB⟩ := hrel
  cases gk with
  | zero => exact absurd HA.out (by simp [spec_Decimal.l0])
  | succ E =>
   have H := HA.out; clear HA
   simp only [spec_Decimal.l0] at H
   refine jc_ H ?_ ?_ <;> clear H <;> intro t H
   ·have u : (a == 0) = true := beq_iff_eq.mpr t
    have v : (a != 0) = false := bne_eq_false_iff_eq.mpr t
    clear t
    refine jb_ H ?_ ?_ <;> clear H <;> intro x H
    ·replace x := Bool.eq_false_iff.mpr x; subst x
     obtain rfl := oi_ H
     go_wp2
     go_ret
     exact ⟨qr_, qB_⟩
    subst x
    refine jg_ H ?_; clear H; intro y H
    have F := eq_true y
    have G := decide_eq_true y
    try have I : (9223372036854775807 < 1 + c.size) = False := eq_false (Nat.not_lt.2 y)
    obtain rfl := oi_ H
    go_wp2
    go_ret
    exact ⟨qr_, qB_⟩
   have u : (a == 0) = false := beq_eq_false_iff_ne.mpr t
   have v : (a != 0) = true := bne_iff_ne.mpr t
   refine ic_ H ?_ ?_ <;> clear H <;> intro J H
   ·obtain ⟨q, V, H⟩ := bs_ H
    generalize d : (([q] : List Int)) = L at H; replace H := bh_ H; have g := am_ d.symm; clear d
    refine jg_ H ?_; clear H; intro z H
    have O := eq_true z
    have R := decide_eq_true z
    try have T : (9223372036854775807 < (strOfNums L).size + c.size) = False := eq_false (Nat.not_lt.2 z)
    have H' := am_ H; clear H
    go_wp2_with (first | ((with_reducible refine gc_ 127 ?_); refine gl_ (some 19) Try.func127 #[.int .i64 (wrap64 (-(Int.tmod a 10)))] ?_; (with_reducible refine (spec_l01Figure.calls (wrap64 (-(Int.tmod a 10))) q _ V.out).mono ?_); rintro e w' ⟨rfl, ⟨nd, rfl⟩⟩; refine ⟨_, rfl, ?_⟩) | ((with_reducible refine gd_ 20 ?_); refine Kd.R_lit (Kd.int .u8) _ 5 ?hg (N := 20) ?hd (xs := ([q] : List Int)) (inner := [.int .u8 q]) (ok := fun _ => True) (okp := fun _ => True) ?hr ?hp (fun _ hk => hk) trivial (Below.refl _ _) (Nat.le_refl _) (by simp) ?_; (case hd => rfl); (case hg => rfl); (case hr => first | (go_simp; done) | (go_simp; rfl)); (case hp => exact (Reps.one (show Kd.M (Kd.int .u8) _ _ _ q [.int .u8 q] from rfl) (Reps.none _ _))); intro a2 a3 ho10 hb hg_ hnew_; clear hg_ hnew_; (first | rw [← g.out] at ho10 | (simp only [Int.reduceToNat] at ho10; rw [← g.out] at ho10)); have X := am_ (Kd.R_lower ho10 (below_size qB_)); replace HB := hs_ hb; clear hb ho10; have hcv11 := own_string (P := Try.prog) Try.underlying76 Try.underlying5 Try.underlying9 (Kd.own_of_R X.out)))
    go_roundg E
    case measure => have := HK1.out; omega
    case rel => exact ⟨(wrap64 (Int.tdiv a 10)), ((strOfNums L) ++ c), qe_, qe_, H', ⟨by have := HK1.out; omega⟩, ⟨qB_⟩⟩
   obtain ⟨s, A, H⟩ := bs_ H
   generalize i : (([s] : List Int)) = U at H; replace H := bh_ H; have j := am_ i.symm; clear i
   refine jg_ H ?_; clear H; intro o H
   have B := eq_true o
   have C := decide_eq_true o
   try have D : (9223372036854775807 < (strOfNums U).size + c.size) = False := eq_false (Nat.not_lt.2 o)
   have H' := am_ H; clear H
   go_wp2_with (first | ((with_reducible refine gc_ 127 ?_); refine gl_ (some 19) Try.func127 #[.int .i64 (Int.tmod a 10)] ?_; (with_reducible refine (spec_l01Figure.calls (Int.tmod a 10) s _ A.out).mono ?_); rintro e w' ⟨rfl, ⟨nd, rfl⟩⟩; refine ⟨_, rfl, ?_⟩) | ((with_reducible refine gd_ 20 ?_); refine Kd.R_lit (Kd.int .u8) _ 5 ?hg (N := 20) ?hd (xs := ([s] : List Int)) (inner := [.int .u8 s]) (ok := fun _ => True) (okp := fun _ => True) ?hr ?hp (fun _ hk => hk) trivial (Below.refl _ _) (Nat.le_refl _) (by simp) ?_; (case hd => rfl); (case hg => rfl); (case hr => first | (go_simp; done) | (go_simp; rfl)); (case hp => exact (Reps.one (show Kd.M (Kd.int .u8) _ _ _ s [.int .u8 s] from rfl) (Reps.none _ _))); intro a4 Y ho15 hb hg_ hnew_; clear hg_ hnew_; (first | rw [← j.out] at ho15 | (simp only [Int.reduceToNat] at ho15; rw [← j.out] at ho15)); have Z := am_ (Kd.R_lower ho15 (below_size qB_)); replace HB := hs_ hb; clear hb ho15; have hcv16 := own_string (P := Try.prog) Try.underlying76 Try.underlying5 Try.underlying9 (Kd.own_of_R Z.out)))
   go_roundg E
   case measure => have := HK1.out; omega
   case rel => exact ⟨(wrap64 (Int.tdiv a 10)), ((strOfNums U) ++ c), qe_, qe_, H', ⟨by have := HK1.out; omega⟩, ⟨qB_⟩⟩
def spec_l01Long.l0 : Nat → Int → Int → List Int → Int → Option (ByteArray)
  | 0, _, _, _, _ => none
  | k + 1, x0, x1, x5, x6 => if x6 < x0 then (if 0 ≤ x6 then (if x6 < (x5.length : Int) then (spec_l01Long.l0 k x0 x1 (x5.set (x6 : Int).toNat x1) (wrap64 (x6 + 1))) else (none)) else (none)) else (some (strOfNums x5))
def spec_l01Long.f (k : Nat) (a0 : Int) (a1 : Int) : Option (ByteArray) := if 0 ≤ a0 then (if (a0 : Int).toNat ≤ 281474976710656 then (spec_l01Long.l0 k a0 a1 (List.replicate (a0 : Int).toNat 0) 0) else (none)) else (none)
theorem spec_l01Long.calls (k : Nat) (u : Int) (x : Int) (r : ByteArray) (w : World) (h : spec_l01Long.f k u x = some r) :
  Calls Try.prog 119 #[.int .i64 u, .int .u8 x] w fun e w' => e = .returned (.string r) ∧ Below w.heap.size w w' := by
 have HB := am_ (Below.refl w.heap.size w)
 rw [spec_l01Long.f] at h; have H := h; clear h
 refine jg_ H ?_; clear H; intro F H
 have z := eq_true F
 have A := decide_eq_true F
 clear F
 refine jg_ H ?_; clear H; intro G H
 have B := eq_true G
 have C := decide_eq_true G
 clear G
 generalize d : (List.replicate (u : Int).toNat 0 : List Int) = Y at H; replace H := bh_ H; have g := am_ d.symm; clear d; have H' := am_ H; clear H
 go_enter Try.func119, Try.ntmps119
 go_wp2_with (first | ((with_reducible refine gd_ 8 ?_); refine Kd.R_make (Kd.int .u8) _ 5 rfl (N := 8) rfl 76 _ _ rfl u rfl rfl Try.underlying76 (.int .u8 0) 1 info5 rfl (by decide) (by omega) 0 (ok := fun _ => True) (okp := fun _ => True) rfl (fun _ hk => hk) trivial (of_decide_eq_true qa_) (Nat.le_trans (Nat.mul_le_mul_right _ (of_decide_eq_true qa_ : u.toNat ≤ 281474976710656)) (by omega)) (Below.refl _ _) (Nat.le_refl _) ?_; intro Z a3 ho6 hb hg_ hnew_; clear hg_ hnew_; (first | rw [← g.out] at ho6 | (simp only [Int.reduceToNat] at ho6; rw [← g.out] at ho6)); have a0 := am_ (Kd.R_lower ho6 (below_size qB_)); replace HB := hs_ hb; clear hb ho6))
 go_loopg [6] k (fun kq v6 w' => ∃ (c : List Int) (a : Int), v6 = .int .i64 a ∧ Aside0 (spec_l01Long.l0 kq u x c a = some r) ∧ Aside0 (kq ≤ k) ∧ Aside0 (Kd.R (Kd.int .u8) 5 w' w.heap.size (fun _ => True) Z c) ∧ Aside0 (Below w.heap.size w w'))
 case atStart => exact ⟨(Y), (0), qe_, H', ⟨Nat.le_refl _⟩, ⟨ra_ a0⟩, ⟨qB_⟩⟩
 case round =>
  clear H' z A B C
  obtain ⟨c, a, rfl, HA, HK1, y, HB⟩ := hrel
  cases gk with
  | zero => exact absurd HA.out (by simp [spec_l01Long.l0])
  | succ a1 =>
   have H := HA.out; clear HA
   simp only [spec_l01Long.l0] at H
   refine ib_ H ?_ ?_ <;> clear H <;> intro J H
   ·obtain rfl := oi_ H
    have hcv13 := own_string (P := Try.prog) Try.underlying76 Try.underlying5 Try.underlying9 (Kd.own_of_R y.out)
    go_wp2
    go_ret
    exact ⟨qr_, qB_⟩
   refine ig_ H ?_; clear H; intro L H
   refine ig_ H ?_; clear H; intro M H
   generalize i : (c.set (a : Int).toNat x) = O at H; replace H := bh_ H; have n := am_ i.symm; clear i; have H' := am_ H; clear H
   have o := dp_ a
   have q : (a : Int) < ((c.length : Int) : Int) := of_decide_eq_true qa_
   obtain ⟨j, a2, T, U, D, V, m⟩ := Kd.R_form y.out (by omega)
   (first | cases T | (injection T with ea_ en_ ec_; (first | subst ea_ | (injection ea_ with ea_; subst ea_)); subst ec_; clear en_))
   have E := am_ U
   have X := am_ m
   clear U D m
   obtain ⟨a6, I⟩ := Kd.R_celln 0 y.out (a : Int) o q
   replace o := eq_true o; replace q := eq_true q
   have l := Kd.R_putg y.out (a : Int) x
   go_wp2_with (first | ((with_reducible refine gate_store (t := 5) (p := 17) rfl ?_); refine store_event (t := 5) (p := 17) (v := ?vo_w12) (w1 := (wr.setCell ⟨j, (a : Int).toNat, none⟩ (.int .u8 x))) ?hg ?ho ?hn ?hr ?_; (case ho => rfl); (case hg => rfl); (case hn => rfl); (case hr => first | (go_simp; done) | (go_simp; rfl)); intro s hw; have hg : wr.grownBy s (some j) := (by rw [hw]; exact l.2); have hp_ : Kd.R (Kd.int .u8) 5 s w.heap.size (fun _ => True) (.slice (some ⟨j, 0, none⟩) c.length a2) O := (by rw [hw, n.out]; exact l.1); clear l; replace y := am_ (hp_); replace HB := am_ ((by rw [hw]; exact below_set (HB.out) E.out : Below w.heap.size w s)); clear hg hw hp_))
   go_roundg a1
   case measure => have := HK1.out; omega
   case rel => exact ⟨(O), (wrap64 (a + 1)), qe_, H', ⟨by have := HK1.out; omega⟩, ⟨ra_ y⟩, ⟨qB_⟩⟩
end Go.Proofs.Ytacnlodcbbhahaa.QFnActs
