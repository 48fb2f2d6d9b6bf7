-- printed for this claim by a program of the session's own (no text of the kit's print)
import Derived.Test.YtacnlodcbbhahaaQFnExactCutActsx0
namespace Go.Proofs.Ytacnlodcbbhahaa.QFnExactCutActs
open Go.RowKit Go.Proofs.YtacnlodcbbhahaaW.PrintWords Go.Proofs.YtacnlodcbbhahaaW.PrintLast Go.Proofs.YtacnlodcbbhahaaW.PrintMore
attribute [local go_sem] max2_int min2_int max_two min_two max_three min_three max_four min_four   -- for this text's walks alone
set_option linter.unusedVariables false
set_option linter.unusedSimpArgs false

/-! ### spec_l03Put: function 84 -/
mutual
def spec_l03Put.l0 : Nat → Int → List (S99) → ByteArray → ByteArray → Int → List (S99) → Option ((List (S99)))
  | 0, _, _, _, _, _, _ => none
  | k + 1, x6, x306000, x307000, x307001, x307002, x309000 => if x6 < (x306000.length : Int) then (if 0 ≤ x6 then (if (Op.bytesLess (((rd_T99 x306000 x6).f0).toList) x307000.toList) = true then (if x309000.length < 3518437208883 then (spec_l03Put.l0 k (wrap64 (x6 + 1)) x306000 x307000 x307001 x307002 (x309000 ++ [(⟨(rd_T99 x306000 x6).f0, (rd_T99 x306000 x6).f1, (rd_T99 x306000 x6).f2⟩ : S99)])) else (none)) else (spec_l03Put.l0 k (wrap64 (x6 + 1)) x306000 x307000 x307001 x307002 x309000)) else (none)) else (if x309000.length < 3518437208883 then (spec_l03Put.l1 k 0 x306000 x307000 x307001 x307002 (x309000 ++ [(⟨x307000, x307001, x307002⟩ : S99)])) else (none))
def spec_l03Put.l1 : Nat → Int → List (S99) → ByteArray → ByteArray → Int → List (S99) → Option ((List (S99)))
  | 0, _, _, _, _, _, _ => none
  | k + 1, x7, x306000, x307000, x307001, x307002, x309000 => if x7 < (x306000.length : Int) then (if 0 ≤ x7 then (if ((Op.bytesLess (((rd_T99 x306000 x7).f0).toList) x307000.toList || ((((rd_T99 x306000 x7).f0).toList) == x307000.toList)) = true) then (spec_l03Put.l1 k (wrap64 (x7 + 1)) x306000 x307000 x307001 x307002 x309000) else (if x309000.length < 3518437208883 then (spec_l03Put.l1 k (wrap64 (x7 + 1)) x306000 x307000 x307001 x307002 (x309000 ++ [(⟨(rd_T99 x306000 x7).f0, (rd_T99 x306000 x7).f1, (rd_T99 x306000 x7).f2⟩ : S99)])) else (none))) else (none)) else (some x309000)
end
def spec_l03Put.f (k : Nat) (l0_0 : List (S99)) (a1_0 : ByteArray) (a1_1 : ByteArray) (a1_2 : Int) : Option ((List (S99))) := spec_l03Put.l0 k 0 l0_0 a1_0 a1_1 a1_2 ([] : List (S99))
theorem spec_l03Put.mono_l : ∀ k, (∀ y0 y1 y2 y3 y4 y5, LeO (spec_l03Put.l0 k y0 y1 y2 y3 y4 y5) (spec_l03Put.l0 (k + 1) y0 y1 y2 y3 y4 y5)) ∧ (∀ y0 y1 y2 y3 y4 y5, LeO (spec_l03Put.l1 k y0 y1 y2 y3 y4 y5) (spec_l03Put.l1 (k + 1) y0 y1 y2 y3 y4 y5))
  | 0 => ⟨fun _ _ _ _ _ _ r h => by simp [spec_l03Put.l0] at h, fun _ _ _ _ _ _ r h => by simp [spec_l03Put.l1] at h⟩
  | k + 1 => by
    obtain ⟨ih0, ih1⟩ := spec_l03Put.mono_l k
    refine ⟨?_, ?_⟩ <;> (intros; first | unfold spec_l03Put.l0 | unfold spec_l03Put.l1) <;> repeat' first | (with_reducible first | exact ih0 _ _ _ _ _ _ | exact ih1 _ _ _ _ _ _ | exact LeO.refl _ | exact LeO.none _ | refine LeO.ite ?_ ?_ | refine LeO.bind ?_ (fun _ => ?_)) | exact LeO.none _ | refine LeO.ite ?_ ?_ | refine LeO.bind ?_ (fun _ => ?_)
theorem spec_l03Put.mono : ∀ a0 a1 a2 a3 k, LeO (spec_l03Put.f k a0 a1 a2 a3) (spec_l03Put.f (k + 1) a0 a1 a2 a3) := by
  intro a0 a1 a2 a3 k
  obtain ⟨ih0, ih1⟩ := spec_l03Put.mono_l k
  unfold spec_l03Put.f
  repeat' first | (with_reducible first | exact ih0 _ _ _ _ _ _ | exact ih1 _ _ _ _ _ _ | exact LeO.refl _ | exact LeO.none _ | refine LeO.ite ?_ ?_ | refine LeO.bind ?_ (fun _ => ?_)) | exact LeO.none _ | refine LeO.ite ?_ ?_ | refine LeO.bind ?_ (fun _ => ?_)
def spec_l03Put.T5 : Bool × List (List Nat × List Nat) := (true, [([], []), ([0], [0]), ([], []), ([1, 2], [1, 2]), ([3], [3]), ([4], [4]), ([], []), ([6], [6]), ([5, 7], [5, 7])])
def spec_l03Put.B5 : List Nat := [0, 1, 0, 7, 15, 31, 0, 64, 255]
theorem spec_l03Put.tab5 : rtab .any (opsOf Try.f84 5) = spec_l03Put.T5 := by kernel_rfl
theorem spec_l03Put.bits5 : waitsOk spec_l03Put.T5.2 spec_l03Put.B5 = true := by kernel_rfl
def spec_l03Put.T6 : Bool × List (List Nat × List Nat) := (true, [([], []), ([0], [0]), ([], []), ([2], [2]), ([], []), ([3, 4], [3, 4]), ([5], [5]), ([6], [6]), ([1, 7], [1, 7]), ([0, 1, 2, 3, 4, 5, 6, 7, 8], []), ([9, 8, 8, 0, 1, 2, 3, 4, 5, 6, 7, 8], [8, 9])])
def spec_l03Put.B6 : List Nat := [0, 1, 0, 4, 0, 28, 60, 124, 255, 511, 1023]
theorem spec_l03Put.tab6 : rtab .any (opsOf Try.f84 6) = spec_l03Put.T6 := by kernel_rfl
theorem spec_l03Put.bits6 : waitsOk spec_l03Put.T6.2 spec_l03Put.B6 = true := by kernel_rfl
def spec_l03Put.T11 : Bool × List (List Nat × List Nat) := (true, [([], []), ([0], [0]), ([], []), ([1, 2], [1, 2]), ([3], [3]), ([4], [4]), ([], []), ([6], [6]), ([5, 7], [5, 7])])
def spec_l03Put.B11 : List Nat := [0, 1, 0, 7, 15, 31, 0, 64, 255]
theorem spec_l03Put.tab11 : rtab .any (opsOf Try.f84 11) = spec_l03Put.T11 := by kernel_rfl
theorem spec_l03Put.bits11 : waitsOk spec_l03Put.T11.2 spec_l03Put.B11 = true := by kernel_rfl
def spec_l03Put.T12 : Bool × List (List Nat × List Nat) := (true, [([], []), ([0], [0]), ([], []), ([2], [2]), ([], []), ([3, 4], [3, 4]), ([5], [5]), ([6], [6]), ([1, 7], [1, 7]), ([0, 1, 2, 3, 4, 5, 6, 7, 8], []), ([9, 8, 8, 0, 1, 2, 3, 4, 5, 6, 7, 8], [8, 9])])
def spec_l03Put.B12 : List Nat := [0, 1, 0, 4, 0, 28, 60, 124, 255, 511, 1023]
theorem spec_l03Put.tab12 : rtab .any (opsOf Try.f84 12) = spec_l03Put.T12 := by kernel_rfl
theorem spec_l03Put.bits12 : waitsOk spec_l03Put.T12.2 spec_l03Put.B12 = true := by kernel_rfl
set_option maxHeartbeats 8000000 in
set_option maxRecDepth 100000 in
theorem spec_l03Put.calls (k : Nat) (A0_0 : Option Addr) (c0_0 : Nat) (l0_0 : List (S99)) (a1_0 : ByteArray) (a1_1 : ByteArray) (a1_2 : Int) (r : List (S99)) (w : World) (hr0_0 : Kd.C k99 w A0_0 l0_0.length l0_0) (hc0_0 : l0_0.length ≤ c0_0) (h : spec_l03Put.f k l0_0 a1_0 a1_1 a1_2 = some r) :
  Calls Try.prog 84 #[.agg #[.slice A0_0 l0_0.length c0_0], .agg #[.string a1_0, .string a1_1, .int .i64 a1_2]] w fun e w' => ∃ v0_ : Value, e = .returned (.agg #[v0_]) ∧ Kd.R k99 99 w' w.heap.size (fun _ => True) v0_ r ∧ Below w.heap.size w w' := by
 have hu44 := Try.underlying44; have hu99 := Try.underlying99
 have HR0_0 := am_ hr0_0
 have HC0_0 := am_ hc0_0
 clear hr0_0 hc0_0
 have HB := am_ (Below.refl w.heap.size w)
 have H : (spec_l03Put.l0 k 0 l0_0 a1_0 a1_1 a1_2 ([] : List (S99))) = some r := h
 clear h; have H' := am_ H; clear H
 go_enter Try.func84, Try.ntmps84
 go_wp2_with (first | ((with_reducible refine gate_dst (N := 2) rfl ?_); refine bx_ 2 (cs := #[.slice A0_0 l0_0.length c0_0]) (t := 44) ?_; intro gb305 hg w3 hbox hb; have BK305 := am_ (hbox); have GW305 := am_ ((qs_ : w.heap.size ≤ gb305)); have GE305 := GW305; replace HB := hs_ hb; clear hb hbox hg) | ((with_reducible refine gate_dst (N := 3) rfl ?_); refine bx_ 3 (cs := #[.string a1_0, .string a1_1, .int .i64 a1_2]) (t := 99) ?_; intro gb306 hg w4 hbox hb; have BK306 := am_ (hbox); have GW306 := am_ ((qs_ : w.heap.size ≤ gb306)); have GE306 := GW306; obtain ⟨NB305_306, NB306_305⟩ := qn_ BK305 hg; replace BK305 := qbl_ BK305 hb; replace HB := hs_ hb; clear hb hbox hg) | ((with_reducible refine gate_dst (N := 4) rfl ?_); refine bx_ 4 (cs := #[.slice none 0 0]) (t := 44) ?_; intro gb307 hg w5 hbox hb; have BK307 := am_ (hbox); have GW307 := am_ ((qs_ : w.heap.size ≤ gb307)); have GE307 := GW307; obtain ⟨NB305_307, NB307_305⟩ := qn_ BK305 hg; obtain ⟨NB306_307, NB307_306⟩ := qn_ BK306 hg; replace BK305 := qbl_ BK305 hb; replace BK306 := qbl_ BK306 hb; replace HB := hs_ hb; clear hb hbox hg) | ((with_reducible refine gate_dst (N := 5) rfl ?_); refine bx_ 5 (cs := #[.slice none 0 0]) (t := 44) ?_; intro gb308 hg w6 hbox hb; have BK308 := am_ (hbox); have GW308 := am_ ((qs_ : w.heap.size ≤ gb308)); have GE308 := GW308; obtain ⟨NB305_308, NB308_305⟩ := qn_ BK305 hg; obtain ⟨NB306_308, NB308_306⟩ := qn_ BK306 hg; obtain ⟨NB307_308, NB308_307⟩ := qn_ BK307 hg; replace BK305 := qbl_ BK305 hb; replace BK306 := qbl_ BK306 hb; replace BK307 := qbl_ BK307 hb; replace HB := hs_ hb; clear hb hbox hg; obtain ⟨hnb7, hnc7⟩ := nn_ NB308_305; obtain ⟨hnb8, hnc8⟩ := nn_ NB308_306; obtain ⟨hnb9, hnc9⟩ := nn_ NB308_307; obtain ⟨hcz10_0, hfz10_0⟩ := bc1_ BK308))
 go_loopg [6] k (fun kq v6 w' => ∃ (x6_1 : Int) (x309000_1 : List (S99)) (u309000 : Value), v6 = .int .i64 x6_1 ∧ Aside0 (spec_l03Put.l0 kq x6_1 l0_0 a1_0 a1_1 a1_2 x309000_1 = some r) ∧ Aside0 (kq ≤ k) ∧ Aside0 (Kd.R k99 99 w' w.heap.size (fun k_ => k_ ≠ gb306) u309000 x309000_1) ∧ Aside0 (w'.heap[gb305]? = some (.cells #[(.slice A0_0 l0_0.length c0_0)] 44 (0, 0))) ∧ Aside0 (w'.heap[gb306]? = some (.cells #[.string a1_0, .string a1_1, .int .i64 a1_2] 99 (0, 0))) ∧ Aside0 (w'.heap[gb307]? = some (.cells #[(.slice none 0 0)] 44 (0, 0))) ∧ Aside0 (w'.heap[gb308]? = some (.cells #[u309000] 44 (0, 0))) ∧ Aside0 (Below w.heap.size w w'))
 case atStart => exact ⟨(0), (([] : List (S99))), (.slice none 0 0), qe_, H', ⟨Nat.le_refl _⟩, ⟨by first | exact Kd.R_nil _ _ _ _ _ | exact Kd.N_nil _ _ _ _ _ | exact Kd.V_nil _ _ _ _ _ | exact Kd.Q_nil _ _ _ _ _ | exact Kd.S_nil _ _ _ _ _⟩, ⟨qf_ BK305⟩, ⟨qf_ BK306⟩, ⟨qf_ BK307⟩, ⟨by (with_reducible repeat (first | refine blk_drewN ?_ _ | refine blk_drew ?_ | refine blk_alloc ?_ _)); refine blk_put (cs := #[.slice none 0 0]) ?_ 0 _ rfl; exact qf_ BK308⟩, ⟨qB_⟩⟩
 case round =>
  clear H'
  (try clear p2); (try clear c7); (try clear c8); (try clear c9); (try clear hcz10_0 hfz10_0)
  obtain ⟨x6_1, x309000_1, u309000, rfl, HA, HK1, HO_309000, BK305, BK306, BK307, BK308, HB⟩ := hrel
  cases gk with
  | zero => exact absurd HA.out (by simp [spec_l03Put.l0])
  | succ k1 =>
   have H := HA.out; clear HA
   simp only [spec_l03Put.l0] at H
   by_cases c11 : x6_1 < (l0_0.length : Int)
   ·rw [if_pos c11] at H
    have c11b0 : decide (x6_1 < (l0_0.length : Int)) = true := decide_eq_true c11
    clear c11
    by_cases c12 : 0 ≤ x6_1
    ·rw [if_pos c12] at H
     have c12b0 : decide (0 ≤ x6_1) = true := decide_eq_true c12
     clear c12
     by_cases c13 : (Op.bytesLess (((rd_T99 l0_0 x6_1).f0).toList) a1_0.toList) = true
     ·rw [if_pos c13] at H
      have c13b0 : (Op.bytesLess (((rd_T99 l0_0 x6_1).f0).toList) a1_0.toList) = true := c13
      clear c13
      by_cases c14 : x309000_1.length < 3518437208883
      ·rw [if_pos c14] at H
       have LMc14 := am_ c14
       clear c14
       obtain ⟨y311, hy311⟩ : ∃ y_ : List (S99), y_ = (x309000_1 ++ [(⟨(rd_T99 l0_0 x6_1).f0, (rd_T99 l0_0 x6_1).f1, (rd_T99 l0_0 x6_1).f2⟩ : S99)]) := ⟨_, rfl⟩
       replace H : (spec_l03Put.l0 k1 (wrap64 (x6_1 + 1)) l0_0 a1_0 a1_1 a1_2 y311) = some r := by first | (rw [hy311]; with_reducible exact H) | (have H2_ := (Option.bind_some _ _).symm.trans H; rw [hy311]; with_reducible exact H2_) | (have H2_ := (Option.bind_some _ _).symm.trans H; with_reducible exact H2_) | with_reducible exact H | (rw [hy311]; exact H) | exact H
       have Ny311 := am_ hy311
       clear hy311; have H' := am_ H; clear H; obtain ⟨hnb15, hnc15⟩ := nn_ NB305_306; obtain ⟨hnb16, hnc16⟩ := nn_ NB305_307; obtain ⟨hnb17, hnc17⟩ := nn_ NB305_308
       obtain ⟨hcz18_0, hfz18_0⟩ := bc1_ BK305
       try go_wp2
       replace HO_309000 := am_ (Kd.R_drew HO_309000.out); replace BK305 := am_ (blk_drew BK305.out); replace BK306 := am_ (blk_drew BK306.out); replace BK307 := am_ (blk_drew BK307.out); replace BK308 := am_ (blk_drew BK308.out); replace HB := am_ (below_drew1 HB.out)
       have p309 : 0 ≤ (x6_1 : Int) := of_decide_eq_true qa_
       have q309 : x6_1 < (l0_0.length : Int) := of_decide_eq_true qa_
       obtain ⟨ad309, e309, hx309_0, hx309_1, hx309_2⟩ := at_T99 HR0_0.out x6_1 p309 q309
       have hw309_2 := hx309_2; have hw309_1 := hx309_1; have hw309_0 := hx309_0; cases e309
       replace hx309_0 := qx_ HB hx309_0
       replace hx309_1 := qx_ HB hx309_1
       replace hx309_2 := qx_ HB hx309_2
       replace p309 := eq_true p309; replace q309 := eq_true q309
       refine start_ (n := 9) (S := fun w' => w'.cell? ⟨gb305, 0, none⟩ = some (.slice (some ad309) l0_0.length c0_0) ∧ w'.cell? ⟨gb306, 0, none⟩ = some (.string a1_0) ∧ w'.cell? ⟨gb306, 1, none⟩ = some (.string a1_1) ∧ w'.cell? ⟨gb306, 2, none⟩ = some (.int .i64 a1_2) ∧ w'.cell? (ad309.add ((x6_1).toNat * 3)) = some (.string ((rd_T99 l0_0 x6_1).f0)) ∧ w'.cell? ⟨(ad309.add ((x6_1).toNat * 3)).block, (ad309.add ((x6_1).toNat * 3)).off + 1, none⟩ = some (.string ((rd_T99 l0_0 x6_1).f1)) ∧ w'.cell? ⟨(ad309.add ((x6_1).toNat * 3)).block, (ad309.add ((x6_1).toNat * 3)).off + 2, none⟩ = some (.int .i64 ((rd_T99 l0_0 x6_1).f2))) (ds := []) (bm 9 0) (by kernel_rfl) rfl (by kernel_rfl) ⟨bl_ BK305 0, bl_ BK306 0, bl_ BK306 1, bl_ BK306 2, ((qx_ HB hw309_0).trans rfl), ((qx_ HB hw309_1).trans rfl), ((qx_ HB hw309_2).trans rfl)⟩ (fun hHeld => ?_); refine with_tabW spec_l03Put.tab5 spec_l03Put.bits5 (fun HT_ HW_ => ?_)
       generalize wr.drew = w19 at HO_309000 BK305 BK306 BK307 BK308 HB hx309_0 hx309_1 hx309_2 hHeld ⊢
       refine pz_ 0 16 (bm 9 1) ?_; refine pz_ 2 18 (bm 9 5) ?_; refine pz_ 6 22 (bm 9 69) ?_; refine tz7_ 1 17 (bm 9 71) ?_; refine pz_ 3 19 (bm 9 79) ?_; refine pz_ 4 20 (bm 9 95) ?_; refine tz7_ 5 21 (bm 9 127) ?_; refine tz7_ 7 23 (bm 9 255) ?_; refine pz_ 8 24 (bm 9 511) ?_
       refine done_ (done_of HT_.out (by kernel_rfl)) ?_
       try go_wp2
       replace HO_309000 := am_ (Kd.R_drew HO_309000.out); replace BK305 := am_ (blk_drew BK305.out); replace BK306 := am_ (blk_drew BK306.out); replace BK307 := am_ (blk_drew BK307.out); replace BK308 := am_ (blk_drew BK308.out); replace HB := am_ (below_drew1 HB.out)
       have p310 : 0 ≤ (x6_1 : Int) := of_decide_eq_true qa_
       have q310 : x6_1 < (l0_0.length : Int) := of_decide_eq_true qa_
       obtain ⟨ad310, e310, hx310_0, hx310_1, hx310_2⟩ := at_T99 HR0_0.out x6_1 p310 q310
       have hw310_2 := hx310_2; have hw310_1 := hx310_1; have hw310_0 := hx310_0
       obtain rfl : ad309 = ad310 := (by injection e310)
       replace hx310_0 := qx_ HB hx310_0
       replace hx310_1 := qx_ HB hx310_1
       replace hx310_2 := qx_ HB hx310_2
       replace p310 := eq_true p310; replace q310 := eq_true q310
       refine start_ (n := 11) (S := fun w' => w'.cell? ⟨gb308, 0, none⟩ = some (u309000) ∧ w'.cell? ⟨gb305, 0, none⟩ = some (.slice (some ad309) l0_0.length c0_0) ∧ w'.cell? (ad309.add ((x6_1).toNat * 3)) = some (.string ((rd_T99 l0_0 x6_1).f0)) ∧ w'.cell? ⟨(ad309.add ((x6_1).toNat * 3)).block, (ad309.add ((x6_1).toNat * 3)).off + 1, none⟩ = some (.string ((rd_T99 l0_0 x6_1).f1)) ∧ w'.cell? ⟨(ad309.add ((x6_1).toNat * 3)).block, (ad309.add ((x6_1).toNat * 3)).off + 2, none⟩ = some (.int .i64 ((rd_T99 l0_0 x6_1).f2))) (ds := [10]) (bm 11 0) (by kernel_rfl) rfl (by kernel_rfl) ⟨bl_ BK308 0, bl_ BK305 0, ((qx_ HB hw310_0).trans rfl), ((qx_ HB hw310_1).trans rfl), ((qx_ HB hw310_2).trans rfl)⟩ (fun hHeld => ?_); refine with_tabW spec_l03Put.tab6 spec_l03Put.bits6 (fun HT_ HW_ => ?_)
       generalize w19.drew = w20 at HO_309000 BK305 BK306 BK307 BK308 HB hx310_0 hx310_1 hx310_2 hHeld ⊢
       refine pz_ 0 25 (bm 11 1) ?_; refine pz_ 2 27 (bm 11 5) ?_; refine pz_ 4 29 (bm 11 21) ?_; refine tz5_ 1 26 (bm 11 23) ?_; refine tz5_ 3 28 (bm 11 31) ?_; refine pz_ 5 30 (bm 11 63) ?_; refine tz5_ 6 31 (bm 11 127) ?_
       refine o1_ 7 (some 32) (bm 11 255) (fun K hK => ?_)
       refine value_ (w1 := ?_) (v := ?_) (by rfl) rfl ?_ ?_
       rotate_left 2
       ·go_simp
        constructor
        ·rfl
        rfl
       refine hK.out _ _ ⟨(blk_cell (blk_alloc BK308.out _) 0).trans rfl, (blk_cell (blk_alloc BK305.out _) 0).trans rfl, (World.cell?_alloc_lt _ _ _ (World.block_lt_of_cell? _ _ (((qx_ HB hw310_0).trans rfl)))).trans (((qx_ HB hw310_0).trans rfl)), (World.cell?_alloc_lt _ _ _ (World.block_lt_of_cell? _ _ (((qx_ HB hw310_1).trans rfl)))).trans (((qx_ HB hw310_1).trans rfl)), (World.cell?_alloc_lt _ _ _ (World.block_lt_of_cell? _ _ (((qx_ HB hw310_2).trans rfl)))).trans (((qx_ HB hw310_2).trans rfl))⟩ (fun hHeld => ?_)
       clear hK K
       refine nm_ 32 ?_
       refine o1_ 8 (some 33) (bm 11 511) (fun K hK => ?_)
       refine Kd.R_append_step k99 (w0 := w) w.heap.size (by rfl) (.tmp 26) (.tmp 32) 42 99 (.agg #[(.string ⟨#[]⟩), (.string ⟨#[]⟩), (.int .i64 0)]) 40 rfl Try.underlying42 info99 rfl (by decide) (by omega) u309000 x309000_1 (⟨(rd_T99 l0_0 x6_1).f0, (rd_T99 l0_0 x6_1).f1, (rd_T99 l0_0 x6_1).f2⟩ : S99) [.string ((rd_T99 l0_0 x6_1).f0), .string ((rd_T99 l0_0 x6_1).f1), .int .i64 ((rd_T99 l0_0 x6_1).f2)] (fun k_ => k_ ≠ gb306) (fun _ => False) rfl rfl ?aP (fun _ hk => hk.elim) ?aF ?aO ?aB ?aS ?aL ?_
       (case aP => exact k99_mkM _ _ _ (⟨(rd_T99 l0_0 x6_1).f0, (rd_T99 l0_0 x6_1).f1, (rd_T99 l0_0 x6_1).f2⟩ : S99))
       (case aB => exact qB_)
       (case aF => exact (fun k_ hk => Kd.freshB (qk_ BK306) k_ hk))
       (case aO => exact (qR_ HO_309000))
       (case aS => exact (below_size qB_))
       (case aL => have := LMc14.out; omega)
       intro v312 w21 ho hb hg hat
       rw [← Ny311.out] at ho
       have HO313 := am_ (ho); replace BK305 := am_ (blk_grown (qk_ BK305) hg (Kd.R_ne HO_309000.out BK305.out (by decide))); replace BK306 := am_ (blk_grown (qk_ BK306) hg (Kd.R_away HO_309000.out (fun _ hk => hk))); replace BK307 := am_ (blk_grown (qk_ BK307) hg (Kd.R_ne HO_309000.out BK307.out (by decide))); replace BK308 := am_ (blk_grown (qk_ BK308) hg (Kd.R_ne HO_309000.out BK308.out (by decide))); replace HB := am_ (hb); clear HO_309000; clear ho hb hg hat
       obtain ⟨Ao22, co22, eo22⟩ := Kd.R_slice HO313.out
       (first | subst eo22 | (injection eo22 with f1_ f2_ f3_; have f4_ := f1_.symm; have f5_ := f3_.symm; clear f1_ f2_ f3_; subst f4_; subst f5_))
       refine hK.out _ _ ⟨bl_ BK308 0, bl_ BK305 0, ((qx_ HB hw310_0).trans rfl), ((qx_ HB hw310_1).trans rfl), ((qx_ HB hw310_2).trans rfl)⟩ (fun hHeld => ?_)
       clear hK K
       refine nm_ 33 ?_
       refine pz_ 9 34 (bm 11 1023) ?_
       refine last_ (i := 10) (N := none) (bm 11 2047) rfl rfl (one_of HT_.out (by kernel_rfl)) (by decide) (fun K hK => ?_)
       have hs23 : w21.cell? ⟨gb308, 0, none⟩ = some (u309000) := bl_ BK308 0
       have hfs23 := blk_frozen BK308.out 0
       have hns23_0 := NB305_308.out; have hns23_1 := NB306_308.out; have hns23_2 := NB307_308.out; have hms23_0 := NB308_305.out; have hms23_1 := NB308_306.out; have hms23_2 := NB308_307.out
       refine skip_ (w1 := ?_) (by rfl) rfl ?_ ?_
       rotate_left
       ·go_simp
        rfl
       refine hK.out _ _ ?_
       clear hK K
       refine done_ (done_of HT_.out (by kernel_rfl)) ?_
       try go_wp2
       go_roundg k1
       case measure => have := HK1.out; omega
       case rel => exact ⟨(wrap64 (x6_1 + 1)), (y311), (.slice Ao22 y311.length co22), qe_, H', ⟨by have := HK1.out; omega⟩, ⟨by (with_reducible repeat (first | apply Kd.R_alloc | apply Kd.R_drewN | apply Kd.R_drew)); exact Kd.R_mono (Kd.R_far (p := ⟨gb308, 0, none⟩) (Kd.R_types HO313.out BK308.out (by decide)) (fun _ hk => hk.2) (.slice Ao22 y311.length co22)) (fun _ hk => hk.1)⟩, ⟨qf_ BK305⟩, ⟨qf_ BK306⟩, ⟨qf_ BK307⟩, ⟨by (with_reducible repeat (first | refine blk_drewN ?_ _ | refine blk_drew ?_ | refine blk_alloc ?_ _)); refine blk_put (cs := #[u309000]) ?_ 0 _ rfl; exact qf_ BK308⟩, ⟨qB_⟩⟩
      rw [if_neg c14] at H
      exact absurd H (by simp)
     rw [if_neg c13] at H
     have c13b0 : (Op.bytesLess (((rd_T99 l0_0 x6_1).f0).toList) a1_0.toList) = false := by simpa using c13
     clear c13; have H' := am_ H; clear H; obtain ⟨hnb24, hnc24⟩ := nn_ NB305_306; obtain ⟨hnb25, hnc25⟩ := nn_ NB305_307; obtain ⟨hnb26, hnc26⟩ := nn_ NB305_308
     obtain ⟨hcz27_0, hfz27_0⟩ := bc1_ BK305
     try go_wp2
     replace HO_309000 := am_ (Kd.R_drew HO_309000.out); replace BK305 := am_ (blk_drew BK305.out); replace BK306 := am_ (blk_drew BK306.out); replace BK307 := am_ (blk_drew BK307.out); replace BK308 := am_ (blk_drew BK308.out); replace HB := am_ (below_drew1 HB.out)
     have p309 : 0 ≤ (x6_1 : Int) := of_decide_eq_true qa_
     have q309 : x6_1 < (l0_0.length : Int) := of_decide_eq_true qa_
     obtain ⟨ad309, e309, hx309_0, hx309_1, hx309_2⟩ := at_T99 HR0_0.out x6_1 p309 q309
     have hw309_2 := hx309_2; have hw309_1 := hx309_1; have hw309_0 := hx309_0; cases e309
     replace hx309_0 := qx_ HB hx309_0
     replace hx309_1 := qx_ HB hx309_1
     replace hx309_2 := qx_ HB hx309_2
     replace p309 := eq_true p309; replace q309 := eq_true q309
     refine start_ (n := 9) (S := fun w' => w'.cell? ⟨gb305, 0, none⟩ = some (.slice (some ad309) l0_0.length c0_0) ∧ w'.cell? ⟨gb306, 0, none⟩ = some (.string a1_0) ∧ w'.cell? ⟨gb306, 1, none⟩ = some (.string a1_1) ∧ w'.cell? ⟨gb306, 2, none⟩ = some (.int .i64 a1_2) ∧ w'.cell? (ad309.add ((x6_1).toNat * 3)) = some (.string ((rd_T99 l0_0 x6_1).f0)) ∧ w'.cell? ⟨(ad309.add ((x6_1).toNat * 3)).block, (ad309.add ((x6_1).toNat * 3)).off + 1, none⟩ = some (.string ((rd_T99 l0_0 x6_1).f1)) ∧ w'.cell? ⟨(ad309.add ((x6_1).toNat * 3)).block, (ad309.add ((x6_1).toNat * 3)).off + 2, none⟩ = some (.int .i64 ((rd_T99 l0_0 x6_1).f2))) (ds := []) (bm 9 0) (by kernel_rfl) rfl (by kernel_rfl) ⟨bl_ BK305 0, bl_ BK306 0, bl_ BK306 1, bl_ BK306 2, ((qx_ HB hw309_0).trans rfl), ((qx_ HB hw309_1).trans rfl), ((qx_ HB hw309_2).trans rfl)⟩ (fun hHeld => ?_); refine with_tabW spec_l03Put.tab5 spec_l03Put.bits5 (fun HT_ HW_ => ?_)
     generalize wr.drew = w28 at HO_309000 BK305 BK306 BK307 BK308 HB hx309_0 hx309_1 hx309_2 hHeld ⊢
     refine pz_ 0 16 (bm 9 1) ?_; refine pz_ 2 18 (bm 9 5) ?_; refine pz_ 6 22 (bm 9 69) ?_; refine tz7_ 1 17 (bm 9 71) ?_; refine pz_ 3 19 (bm 9 79) ?_; refine pz_ 4 20 (bm 9 95) ?_; refine tz7_ 5 21 (bm 9 127) ?_; refine tz7_ 7 23 (bm 9 255) ?_; refine pz_ 8 24 (bm 9 511) ?_
     refine done_ (done_of HT_.out (by kernel_rfl)) ?_
     try go_wp2
     go_roundg k1
     case measure => have := HK1.out; omega
     case rel => exact ⟨(wrap64 (x6_1 + 1)), (x309000_1), (u309000), qe_, H', ⟨by have := HK1.out; omega⟩, ⟨by (with_reducible repeat (first | apply Kd.R_alloc | apply Kd.R_drewN | apply Kd.R_drew)); first | exact HO_309000.out | (have h_ := HO_309000.out; simp only [own_slice] at h_ ⊢; exact h_)⟩, ⟨qk_ BK305⟩, ⟨qk_ BK306⟩, ⟨qk_ BK307⟩, ⟨qk_ BK308⟩, ⟨qB_⟩⟩
    rw [if_neg c12] at H
    exact absurd H (by simp)
   rw [if_neg c11] at H
   have c11b0 : decide (x6_1 < (l0_0.length : Int)) = false := decide_eq_false c11
   clear c11
   by_cases c29 : x309000_1.length < 3518437208883
   ·rw [if_pos c29] at H
    have LMc29 := am_ c29
    clear c29
    obtain ⟨y314, hy314⟩ : ∃ y_ : List (S99), y_ = (x309000_1 ++ [(⟨a1_0, a1_1, a1_2⟩ : S99)]) := ⟨_, rfl⟩
    replace H : (spec_l03Put.l1 k1 0 l0_0 a1_0 a1_1 a1_2 y314) = some r := by first | (rw [hy314]; with_reducible exact H) | (have H2_ := (Option.bind_some _ _).symm.trans H; rw [hy314]; with_reducible exact H2_) | (have H2_ := (Option.bind_some _ _).symm.trans H; with_reducible exact H2_) | with_reducible exact H | (rw [hy314]; exact H) | exact H
    have Ny314 := am_ hy314
    clear hy314; have H' := am_ H; clear H; obtain ⟨hnb30, hnc30⟩ := nn_ NB305_306; obtain ⟨hnb31, hnc31⟩ := nn_ NB305_307; obtain ⟨hnb32, hnc32⟩ := nn_ NB305_308
    obtain ⟨hcz33_0, hfz33_0⟩ := bc1_ BK305
    obtain ⟨hnb34, hnc34⟩ := nn_ NB308_306; obtain ⟨hnb35, hnc35⟩ := nn_ NB308_307
    obtain ⟨hcz36_0, hfz36_0⟩ := bc1_ BK308
    obtain ⟨hnb37, hnc37⟩ := nn_ NB306_307
    obtain ⟨hcz38_0, hcz38_1, hcz38_2, hfz38_0, hfz38_1, hfz38_2⟩ := bc3_ BK306
    go_wp2_with (first | ((with_reducible refine gate_builtin (b := .append) (xs := #[.tmp 36, .tmp 38]) rfl ?_); at_builtin; refine Kd.R_append k99 (w0 := w) w.heap.size rfl (.tmp 36) (.tmp 38) 42 99 (.agg #[(.string ⟨#[]⟩), (.string ⟨#[]⟩), (.int .i64 0)]) 40 rfl Try.underlying42 info99 rfl (by decide) (by omega) u309000 x309000_1 (⟨a1_0, a1_1, a1_2⟩ : S99) [.string a1_0, .string a1_1, .int .i64 a1_2] (fun k_ => k_ ≠ gb306) (fun _ => False) rfl rfl ?aP (fun _ hk => hk.elim) ?aF ?aO ?aB ?aS ?aL ?_; (case aP => exact k99_mkM _ _ _ (⟨a1_0, a1_1, a1_2⟩ : S99)); (case aB => exact qB_); (case aF => exact (fun k_ hk => Kd.freshB (qk_ BK306) k_ hk)); (case aO => exact (qR_ HO_309000)); (case aS => exact (below_size qB_)); (case aL => have := LMc29.out; omega); intro v315 w39 ho hb hg hat; rw [← Ny314.out] at ho; have HO316 := am_ (ho); replace BK305 := am_ (blk_grown (qk_ BK305) hg (Kd.R_ne HO_309000.out BK305.out (by decide))); replace BK306 := am_ (blk_grown (qk_ BK306) hg (Kd.R_away HO_309000.out (fun _ hk => hk))); replace BK307 := am_ (blk_grown (qk_ BK307) hg (Kd.R_ne HO_309000.out BK307.out (by decide))); replace BK308 := am_ (blk_grown (qk_ BK308) hg (Kd.R_ne HO_309000.out BK308.out (by decide))); replace HB := am_ (hb); clear HO_309000; clear ho hb hg hat; obtain ⟨Ao40, co40, eo40⟩ := Kd.R_slice HO316.out; subst eo40; obtain ⟨hcz41_0, hfz41_0⟩ := bc1_ BK308))
    go_loopg [7] k1 (fun kq v7 w' => ∃ (x7_2 : Int) (x309000_2 : List (S99)) (u309000 : Value), v7 = .int .i64 x7_2 ∧ Aside0 (spec_l03Put.l1 kq x7_2 l0_0 a1_0 a1_1 a1_2 x309000_2 = some r) ∧ Aside0 (kq ≤ k1) ∧ Aside0 (Kd.R k99 99 w' w.heap.size (fun k_ => k_ ≠ gb306) u309000 x309000_2) ∧ Aside0 (w'.heap[gb305]? = some (.cells #[(.slice A0_0 l0_0.length c0_0)] 44 (0, 0))) ∧ Aside0 (w'.heap[gb306]? = some (.cells #[.string a1_0, .string a1_1, .int .i64 a1_2] 99 (0, 0))) ∧ Aside0 (w'.heap[gb307]? = some (.cells #[(.slice none 0 0)] 44 (0, 0))) ∧ Aside0 (w'.heap[gb308]? = some (.cells #[u309000] 44 (0, 0))) ∧ Aside0 (Below w.heap.size w w'))
    case atStart => exact ⟨(0), (y314), (.slice Ao40 y314.length co40), qe_, H', ⟨Nat.le_refl _⟩, ⟨by (with_reducible repeat (first | apply Kd.R_alloc | apply Kd.R_drewN | apply Kd.R_drew)); exact Kd.R_mono (Kd.R_far (p := ⟨gb308, 0, none⟩) (Kd.R_types HO316.out BK308.out (by decide)) (fun _ hk => hk.2) (.slice Ao40 y314.length co40)) (fun _ hk => hk.1)⟩, ⟨qf_ BK305⟩, ⟨qf_ BK306⟩, ⟨qf_ BK307⟩, ⟨by (with_reducible repeat (first | refine blk_drewN ?_ _ | refine blk_drew ?_ | refine blk_alloc ?_ _)); refine blk_put (cs := #[u309000]) ?_ 0 _ rfl; exact qf_ BK308⟩, ⟨qB_⟩⟩
    case round =>
     clear H'
     (try clear c1); (try clear c2); (try clear p2); (try clear c3); (try clear p3); (try clear q3); (try clear hx3); (try clear p6); (try clear c7); (try clear c8); (try clear c9); (try clear c11); (try clear c11b0); (try clear c12); (try clear c12b0); (try clear c13); (try clear c13b0); (try clear c14); (try clear c15); (try clear c16); (try clear c17); (try clear c24); (try clear c25); (try clear c26); (try clear c29); (try clear c30); (try clear p30); (try clear q30); (try clear hx30); (try clear c31); (try clear p31); (try clear q31); (try clear hx31); (try clear c32); (try clear c34); (try clear c35); (try clear c37); (try clear hcz10_0); (try clear hcz18_0); (try clear hcz27_0); (try clear hcz33_0); (try clear hcz36_0); (try clear hcz38_0 hcz38_1 hcz38_2); (try clear hcz41_0); (try clear hfz10_0); (try clear hfz18_0); (try clear hfz27_0); (try clear hfz33_0); (try clear hfz36_0); (try clear hfz38_0 hfz38_1 hfz38_2); (try clear hfz41_0); (try clear hx309_0); (try clear hx309_1); (try clear hx309_2); (try clear hx310_0); (try clear hx310_1); (try clear hx310_2); (try clear p2); (try clear p309); (try clear p310); (try clear q309); (try clear q310)
     obtain ⟨x7_2, x309000_2, u309000, rfl, HA, HK2, HO_309000, BK305, BK306, BK307, BK308, HB⟩ := hrel
     cases gk with
     | zero => exact absurd HA.out (by simp [spec_l03Put.l1])
     | succ k2 =>
      have H := HA.out; clear HA
      simp only [spec_l03Put.l1] at H
      by_cases c42 : x7_2 < (l0_0.length : Int)
      ·rw [if_pos c42] at H
       have c42b0 : decide (x7_2 < (l0_0.length : Int)) = true := decide_eq_true c42
       clear c42
       by_cases c43 : 0 ≤ x7_2
       ·rw [if_pos c43] at H
        have c43b0 : decide (0 ≤ x7_2) = true := decide_eq_true c43
        clear c43
        by_cases c44 : ((Op.bytesLess (((rd_T99 l0_0 x7_2).f0).toList) a1_0.toList || ((((rd_T99 l0_0 x7_2).f0).toList) == a1_0.toList)) = true)
        ·rw [if_pos c44] at H
         have c44b0 : (Op.bytesLess (((rd_T99 l0_0 x7_2).f0).toList) a1_0.toList || ((((rd_T99 l0_0 x7_2).f0).toList) == a1_0.toList)) = true := c44
         clear c44; have H' := am_ H; clear H; obtain ⟨hnb45, hnc45⟩ := nn_ NB305_306; obtain ⟨hnb46, hnc46⟩ := nn_ NB305_307; obtain ⟨hnb47, hnc47⟩ := nn_ NB305_308
         obtain ⟨hcz48_0, hfz48_0⟩ := bc1_ BK305
         try go_wp2
         replace HO_309000 := am_ (Kd.R_drew HO_309000.out); replace BK305 := am_ (blk_drew BK305.out); replace BK306 := am_ (blk_drew BK306.out); replace BK307 := am_ (blk_drew BK307.out); replace BK308 := am_ (blk_drew BK308.out); replace HB := am_ (below_drew1 HB.out)
         have p317 : 0 ≤ (x7_2 : Int) := of_decide_eq_true qa_
         have q317 : x7_2 < (l0_0.length : Int) := of_decide_eq_true qa_
         obtain ⟨ad317, e317, hx317_0, hx317_1, hx317_2⟩ := at_T99 HR0_0.out x7_2 p317 q317
         have hw317_2 := hx317_2; have hw317_1 := hx317_1; have hw317_0 := hx317_0; cases e317
         replace hx317_0 := qx_ HB hx317_0
         replace hx317_1 := qx_ HB hx317_1
         replace hx317_2 := qx_ HB hx317_2
         replace p317 := eq_true p317; replace q317 := eq_true q317
         refine start_ (n := 9) (S := fun w' => w'.cell? ⟨gb305, 0, none⟩ = some (.slice (some ad317) l0_0.length c0_0) ∧ w'.cell? ⟨gb306, 0, none⟩ = some (.string a1_0) ∧ w'.cell? ⟨gb306, 1, none⟩ = some (.string a1_1) ∧ w'.cell? ⟨gb306, 2, none⟩ = some (.int .i64 a1_2) ∧ w'.cell? (ad317.add ((x7_2).toNat * 3)) = some (.string ((rd_T99 l0_0 x7_2).f0)) ∧ w'.cell? ⟨(ad317.add ((x7_2).toNat * 3)).block, (ad317.add ((x7_2).toNat * 3)).off + 1, none⟩ = some (.string ((rd_T99 l0_0 x7_2).f1)) ∧ w'.cell? ⟨(ad317.add ((x7_2).toNat * 3)).block, (ad317.add ((x7_2).toNat * 3)).off + 2, none⟩ = some (.int .i64 ((rd_T99 l0_0 x7_2).f2))) (ds := []) (bm 9 0) (by kernel_rfl) rfl (by kernel_rfl) ⟨bl_ BK305 0, bl_ BK306 0, bl_ BK306 1, bl_ BK306 2, ((qx_ HB hw317_0).trans rfl), ((qx_ HB hw317_1).trans rfl), ((qx_ HB hw317_2).trans rfl)⟩ (fun hHeld => ?_); refine with_tabW spec_l03Put.tab11 spec_l03Put.bits11 (fun HT_ HW_ => ?_)
         generalize wr.drew = w49 at HO_309000 BK305 BK306 BK307 BK308 HB hx317_0 hx317_1 hx317_2 hHeld ⊢
         refine pz_ 0 48 (bm 9 1) ?_; refine pz_ 2 50 (bm 9 5) ?_; refine pz_ 6 54 (bm 9 69) ?_; refine tz7_ 1 49 (bm 9 71) ?_; refine pz_ 3 51 (bm 9 79) ?_; refine pz_ 4 52 (bm 9 95) ?_; refine tz7_ 5 53 (bm 9 127) ?_; refine tz7_ 7 55 (bm 9 255) ?_; refine pz_ 8 56 (bm 9 511) ?_
         refine done_ (done_of HT_.out (by kernel_rfl)) ?_
         try go_wp2
         go_roundg k2
         case measure => have := HK1.out; have := HK2.out; omega
         case rel => exact ⟨(wrap64 (x7_2 + 1)), (x309000_2), (u309000), qe_, H', ⟨by have := HK1.out; have := HK2.out; omega⟩, ⟨by (with_reducible repeat (first | apply Kd.R_alloc | apply Kd.R_drewN | apply Kd.R_drew)); first | exact HO_309000.out | (have h_ := HO_309000.out; simp only [own_slice] at h_ ⊢; exact h_)⟩, ⟨qk_ BK305⟩, ⟨qk_ BK306⟩, ⟨qk_ BK307⟩, ⟨qk_ BK308⟩, ⟨qB_⟩⟩
        rw [if_neg c44] at H
        have c44b0 : (Op.bytesLess (((rd_T99 l0_0 x7_2).f0).toList) a1_0.toList || ((((rd_T99 l0_0 x7_2).f0).toList) == a1_0.toList)) = false := by simpa using c44
        clear c44
        by_cases c50 : x309000_2.length < 3518437208883
        ·rw [if_pos c50] at H
         have LMc50 := am_ c50
         clear c50
         obtain ⟨y319, hy319⟩ : ∃ y_ : List (S99), y_ = (x309000_2 ++ [(⟨(rd_T99 l0_0 x7_2).f0, (rd_T99 l0_0 x7_2).f1, (rd_T99 l0_0 x7_2).f2⟩ : S99)]) := ⟨_, rfl⟩
         replace H : (spec_l03Put.l1 k2 (wrap64 (x7_2 + 1)) l0_0 a1_0 a1_1 a1_2 y319) = some r := by first | (rw [hy319]; with_reducible exact H) | (have H2_ := (Option.bind_some _ _).symm.trans H; rw [hy319]; with_reducible exact H2_) | (have H2_ := (Option.bind_some _ _).symm.trans H; with_reducible exact H2_) | with_reducible exact H | (rw [hy319]; exact H) | exact H
         have Ny319 := am_ hy319
         clear hy319; have H' := am_ H; clear H; obtain ⟨hnb51, hnc51⟩ := nn_ NB305_306; obtain ⟨hnb52, hnc52⟩ := nn_ NB305_307; obtain ⟨hnb53, hnc53⟩ := nn_ NB305_308
         obtain ⟨hcz54_0, hfz54_0⟩ := bc1_ BK305
         try go_wp2
         replace HO_309000 := am_ (Kd.R_drew HO_309000.out); replace BK305 := am_ (blk_drew BK305.out); replace BK306 := am_ (blk_drew BK306.out); replace BK307 := am_ (blk_drew BK307.out); replace BK308 := am_ (blk_drew BK308.out); replace HB := am_ (below_drew1 HB.out)
         have p317 : 0 ≤ (x7_2 : Int) := of_decide_eq_true qa_
         have q317 : x7_2 < (l0_0.length : Int) := of_decide_eq_true qa_
         obtain ⟨ad317, e317, hx317_0, hx317_1, hx317_2⟩ := at_T99 HR0_0.out x7_2 p317 q317
         have hw317_2 := hx317_2; have hw317_1 := hx317_1; have hw317_0 := hx317_0; cases e317
         replace hx317_0 := qx_ HB hx317_0
         replace hx317_1 := qx_ HB hx317_1
         replace hx317_2 := qx_ HB hx317_2
         replace p317 := eq_true p317; replace q317 := eq_true q317
         refine start_ (n := 9) (S := fun w' => w'.cell? ⟨gb305, 0, none⟩ = some (.slice (some ad317) l0_0.length c0_0) ∧ w'.cell? ⟨gb306, 0, none⟩ = some (.string a1_0) ∧ w'.cell? ⟨gb306, 1, none⟩ = some (.string a1_1) ∧ w'.cell? ⟨gb306, 2, none⟩ = some (.int .i64 a1_2) ∧ w'.cell? (ad317.add ((x7_2).toNat * 3)) = some (.string ((rd_T99 l0_0 x7_2).f0)) ∧ w'.cell? ⟨(ad317.add ((x7_2).toNat * 3)).block, (ad317.add ((x7_2).toNat * 3)).off + 1, none⟩ = some (.string ((rd_T99 l0_0 x7_2).f1)) ∧ w'.cell? ⟨(ad317.add ((x7_2).toNat * 3)).block, (ad317.add ((x7_2).toNat * 3)).off + 2, none⟩ = some (.int .i64 ((rd_T99 l0_0 x7_2).f2))) (ds := []) (bm 9 0) (by kernel_rfl) rfl (by kernel_rfl) ⟨bl_ BK305 0, bl_ BK306 0, bl_ BK306 1, bl_ BK306 2, ((qx_ HB hw317_0).trans rfl), ((qx_ HB hw317_1).trans rfl), ((qx_ HB hw317_2).trans rfl)⟩ (fun hHeld => ?_); refine with_tabW spec_l03Put.tab11 spec_l03Put.bits11 (fun HT_ HW_ => ?_)
         generalize wr.drew = w55 at HO_309000 BK305 BK306 BK307 BK308 HB hx317_0 hx317_1 hx317_2 hHeld ⊢
         refine pz_ 0 48 (bm 9 1) ?_; refine pz_ 2 50 (bm 9 5) ?_; refine pz_ 6 54 (bm 9 69) ?_; refine tz7_ 1 49 (bm 9 71) ?_; refine pz_ 3 51 (bm 9 79) ?_; refine pz_ 4 52 (bm 9 95) ?_; refine tz7_ 5 53 (bm 9 127) ?_; refine tz7_ 7 55 (bm 9 255) ?_; refine pz_ 8 56 (bm 9 511) ?_
         refine done_ (done_of HT_.out (by kernel_rfl)) ?_
         try go_wp2
         replace HO_309000 := am_ (Kd.R_drew HO_309000.out); replace BK305 := am_ (blk_drew BK305.out); replace BK306 := am_ (blk_drew BK306.out); replace BK307 := am_ (blk_drew BK307.out); replace BK308 := am_ (blk_drew BK308.out); replace HB := am_ (below_drew1 HB.out)
         have p318 : 0 ≤ (x7_2 : Int) := of_decide_eq_true qa_
         have q318 : x7_2 < (l0_0.length : Int) := of_decide_eq_true qa_
         obtain ⟨ad318, e318, hx318_0, hx318_1, hx318_2⟩ := at_T99 HR0_0.out x7_2 p318 q318
         have hw318_2 := hx318_2; have hw318_1 := hx318_1; have hw318_0 := hx318_0
         obtain rfl : ad317 = ad318 := (by injection e318)
         replace hx318_0 := qx_ HB hx318_0
         replace hx318_1 := qx_ HB hx318_1
         replace hx318_2 := qx_ HB hx318_2
         replace p318 := eq_true p318; replace q318 := eq_true q318
         refine start_ (n := 11) (S := fun w' => w'.cell? ⟨gb308, 0, none⟩ = some (u309000) ∧ w'.cell? ⟨gb305, 0, none⟩ = some (.slice (some ad317) l0_0.length c0_0) ∧ w'.cell? (ad317.add ((x7_2).toNat * 3)) = some (.string ((rd_T99 l0_0 x7_2).f0)) ∧ w'.cell? ⟨(ad317.add ((x7_2).toNat * 3)).block, (ad317.add ((x7_2).toNat * 3)).off + 1, none⟩ = some (.string ((rd_T99 l0_0 x7_2).f1)) ∧ w'.cell? ⟨(ad317.add ((x7_2).toNat * 3)).block, (ad317.add ((x7_2).toNat * 3)).off + 2, none⟩ = some (.int .i64 ((rd_T99 l0_0 x7_2).f2))) (ds := [10]) (bm 11 0) (by kernel_rfl) rfl (by kernel_rfl) ⟨bl_ BK308 0, bl_ BK305 0, ((qx_ HB hw318_0).trans rfl), ((qx_ HB hw318_1).trans rfl), ((qx_ HB hw318_2).trans rfl)⟩ (fun hHeld => ?_); refine with_tabW spec_l03Put.tab12 spec_l03Put.bits12 (fun HT_ HW_ => ?_)
         generalize w55.drew = w56 at HO_309000 BK305 BK306 BK307 BK308 HB hx318_0 hx318_1 hx318_2 hHeld ⊢
         refine pz_ 0 57 (bm 11 1) ?_; refine pz_ 2 59 (bm 11 5) ?_; refine pz_ 4 61 (bm 11 21) ?_; refine tz5_ 1 58 (bm 11 23) ?_; refine tz5_ 3 60 (bm 11 31) ?_; refine pz_ 5 62 (bm 11 63) ?_; refine tz5_ 6 63 (bm 11 127) ?_
         refine o1_ 7 (some 64) (bm 11 255) (fun K hK => ?_)
         refine value_ (w1 := ?_) (v := ?_) (by rfl) rfl ?_ ?_
         rotate_left 2
         ·go_simp
          constructor
          ·rfl
          rfl
         refine hK.out _ _ ⟨(blk_cell (blk_alloc BK308.out _) 0).trans rfl, (blk_cell (blk_alloc BK305.out _) 0).trans rfl, (World.cell?_alloc_lt _ _ _ (World.block_lt_of_cell? _ _ (((qx_ HB hw318_0).trans rfl)))).trans (((qx_ HB hw318_0).trans rfl)), (World.cell?_alloc_lt _ _ _ (World.block_lt_of_cell? _ _ (((qx_ HB hw318_1).trans rfl)))).trans (((qx_ HB hw318_1).trans rfl)), (World.cell?_alloc_lt _ _ _ (World.block_lt_of_cell? _ _ (((qx_ HB hw318_2).trans rfl)))).trans (((qx_ HB hw318_2).trans rfl))⟩ (fun hHeld => ?_)
         clear hK K
         refine nm_ 64 ?_
         refine o1_ 8 (some 65) (bm 11 511) (fun K hK => ?_)
         refine Kd.R_append_step k99 (w0 := w) w.heap.size (by rfl) (.tmp 58) (.tmp 64) 42 99 (.agg #[(.string ⟨#[]⟩), (.string ⟨#[]⟩), (.int .i64 0)]) 40 rfl Try.underlying42 info99 rfl (by decide) (by omega) u309000 x309000_2 (⟨(rd_T99 l0_0 x7_2).f0, (rd_T99 l0_0 x7_2).f1, (rd_T99 l0_0 x7_2).f2⟩ : S99) [.string ((rd_T99 l0_0 x7_2).f0), .string ((rd_T99 l0_0 x7_2).f1), .int .i64 ((rd_T99 l0_0 x7_2).f2)] (fun k_ => k_ ≠ gb306) (fun _ => False) rfl rfl ?aP (fun _ hk => hk.elim) ?aF ?aO ?aB ?aS ?aL ?_
         (case aP => exact k99_mkM _ _ _ (⟨(rd_T99 l0_0 x7_2).f0, (rd_T99 l0_0 x7_2).f1, (rd_T99 l0_0 x7_2).f2⟩ : S99))
         (case aB => exact qB_)
         (case aF => exact (fun k_ hk => Kd.freshB (qk_ BK306) k_ hk))
         (case aO => exact (qR_ HO_309000))
         (case aS => exact (below_size qB_))
         (case aL => have := LMc50.out; omega)
         intro v320 w57 ho hb hg hat
         rw [← Ny319.out] at ho
         have HO321 := am_ (ho); replace BK305 := am_ (blk_grown (qk_ BK305) hg (Kd.R_ne HO_309000.out BK305.out (by decide))); replace BK306 := am_ (blk_grown (qk_ BK306) hg (Kd.R_away HO_309000.out (fun _ hk => hk))); replace BK307 := am_ (blk_grown (qk_ BK307) hg (Kd.R_ne HO_309000.out BK307.out (by decide))); replace BK308 := am_ (blk_grown (qk_ BK308) hg (Kd.R_ne HO_309000.out BK308.out (by decide))); replace HB := am_ (hb); clear HO_309000; clear ho hb hg hat
         obtain ⟨Ao58, co58, eo58⟩ := Kd.R_slice HO321.out
         (first | subst eo58 | (injection eo58 with f1_ f2_ f3_; have f4_ := f1_.symm; have f5_ := f3_.symm; clear f1_ f2_ f3_; subst f4_; subst f5_))
         refine hK.out _ _ ⟨bl_ BK308 0, bl_ BK305 0, ((qx_ HB hw318_0).trans rfl), ((qx_ HB hw318_1).trans rfl), ((qx_ HB hw318_2).trans rfl)⟩ (fun hHeld => ?_)
         clear hK K
         refine nm_ 65 ?_
         refine pz_ 9 66 (bm 11 1023) ?_
         refine last_ (i := 10) (N := none) (bm 11 2047) rfl rfl (one_of HT_.out (by kernel_rfl)) (by decide) (fun K hK => ?_)
         have hs59 : w57.cell? ⟨gb308, 0, none⟩ = some (u309000) := bl_ BK308 0
         have hfs59 := blk_frozen BK308.out 0
         have hns59_0 := NB305_308.out; have hns59_1 := NB306_308.out; have hns59_2 := NB307_308.out; have hms59_0 := NB308_305.out; have hms59_1 := NB308_306.out; have hms59_2 := NB308_307.out
         refine skip_ (w1 := ?_) (by rfl) rfl ?_ ?_
         rotate_left
         ·go_simp
          rfl
         refine hK.out _ _ ?_
         clear hK K
         refine done_ (done_of HT_.out (by kernel_rfl)) ?_
         try go_wp2
         go_roundg k2
         case measure => have := HK1.out; have := HK2.out; omega
         case rel => exact ⟨(wrap64 (x7_2 + 1)), (y319), (.slice Ao58 y319.length co58), qe_, H', ⟨by have := HK1.out; have := HK2.out; omega⟩, ⟨by (with_reducible repeat (first | apply Kd.R_alloc | apply Kd.R_drewN | apply Kd.R_drew)); exact Kd.R_mono (Kd.R_far (p := ⟨gb308, 0, none⟩) (Kd.R_types HO321.out BK308.out (by decide)) (fun _ hk => hk.2) (.slice Ao58 y319.length co58)) (fun _ hk => hk.1)⟩, ⟨qf_ BK305⟩, ⟨qf_ BK306⟩, ⟨qf_ BK307⟩, ⟨by (with_reducible repeat (first | refine blk_drewN ?_ _ | refine blk_drew ?_ | refine blk_alloc ?_ _)); refine blk_put (cs := #[u309000]) ?_ 0 _ rfl; exact qf_ BK308⟩, ⟨qB_⟩⟩
        rw [if_neg c50] at H
        exact absurd H (by simp)
       rw [if_neg c43] at H
       exact absurd H (by simp)
      rw [if_neg c42] at H
      have c42b0 : decide (x7_2 < (l0_0.length : Int)) = false := decide_eq_false c42
      clear c42
      obtain rfl := Option.some.inj H
      obtain ⟨hnb60, hnc60⟩ := nn_ NB305_306; obtain ⟨hnb61, hnc61⟩ := nn_ NB305_307; obtain ⟨hnb62, hnc62⟩ := nn_ NB305_308
      obtain ⟨hcz63_0, hfz63_0⟩ := bc1_ BK305
      obtain ⟨hnb64, hnc64⟩ := nn_ NB308_306; obtain ⟨hnb65, hnc65⟩ := nn_ NB308_307
      obtain ⟨hcz66_0, hfz66_0⟩ := bc1_ BK308
      obtain ⟨Ao67, co67, eo67⟩ := Kd.R_slice HO_309000.out
      subst eo67; obtain ⟨hnb68, hnc68⟩ := nn_ NB307_306
      obtain ⟨hcz69_0, hfz69_0⟩ := bc1_ BK307
      go_wp2
      refine bodyPost_ret (results_cell_row rfl _ _ gb307 44 #[.slice Ao67 x309000_2.length co67] (0, 0) _ rfl (by (with_reducible repeat (first | refine blk_drewN ?_ _ | refine blk_drew ?_ | refine blk_alloc ?_ _)); refine blk_put (cs := #[.slice none 0 0]) ?_ 0 _ rfl; exact qf_ BK307) Try.underlying44 rfl (by kernel_rfl)) rfl ?_
      exact ⟨_, qr_, by (with_reducible repeat (first | apply Kd.R_alloc | apply Kd.R_drewN | apply Kd.R_drew)); exact Kd.R_mono (Kd.R_far (p := ⟨gb307, 0, none⟩) (Kd.R_types HO_309000.out BK307.out (by decide)) (fun _ hk => hk.2) (.slice Ao67 x309000_2.length co67)) (fun _ hk => trivial), qB_⟩
   rw [if_neg c29] at H
   exact absurd H (by simp)

end Go.Proofs.Ytacnlodcbbhahaa.QFnExactCutActs
