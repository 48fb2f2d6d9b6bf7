-- printed for this claim by a program of the session's own (no text of the kit's print)
import Derived.Test.YtacnlodcbbhahaaQFnExactCutActsx0
import Derived.Test.YtacnlodcbbhahaaQFnExactCutActsx7
namespace Go.Proofs.Ytacnlodcbbhahaa.QFnExactCutActs
open Go.RowKit Go.Proofs.YtacnlodcbbhahaaW.PrintWords Go.Proofs.YtacnlodcbbhahaaW.PrintLast Go.Proofs.YtacnlodcbbhahaaW.PrintMore
attribute [local go_sem] max2_int min2_int max_two min_two max_three min_three max_four min_four   -- for this text's walks alone
set_option linter.unusedVariables false
set_option linter.unusedSimpArgs false

/-! ### impl_copyDisk: function 78 -/
def impl_copyDisk.f (l0_0 : List (S99)) : Option ((List (S99))) := if ([] : List (S99)).length + l0_0.length < 3518437208883 then (some (([] : List (S99)) ++ l0_0)) else (none)
set_option maxHeartbeats 8000000 in
set_option maxRecDepth 100000 in
theorem impl_copyDisk.calls (A0_0 : Option Addr) (c0_0 : Nat) (l0_0 : List (S99)) (r : List (S99)) (w : World) (hr0_0 : Kd.C k99 w A0_0 l0_0.length l0_0) (hc0_0 : l0_0.length ≤ c0_0) (h : impl_copyDisk.f l0_0 = some r) :
  Calls Try.prog 78 #[.agg #[.slice A0_0 l0_0.length c0_0]] w fun e w' => ∃ v0_ : Value, e = .returned (.agg #[v0_]) ∧ Kd.R k99 99 w' w.heap.size (fun _ => True) v0_ r ∧ Below w.heap.size w w' := by
 have hu44 := Try.underlying44
 have HR0_0 := am_ hr0_0
 have HC0_0 := am_ hc0_0
 clear hr0_0 hc0_0
 have HB := am_ (Below.refl w.heap.size w)
 have H : (if ([] : List (S99)).length + l0_0.length < 3518437208883 then (some (([] : List (S99)) ++ l0_0)) else (none)) = some r := h
 clear h
 by_cases c2 : ([] : List (S99)).length + l0_0.length < 3518437208883
 ·rw [if_pos c2] at H
  have LMc2 := am_ c2
  clear c2
  obtain ⟨y192, hy192⟩ : ∃ y_ : List (S99), y_ = (([] : List (S99)) ++ l0_0) := ⟨_, rfl⟩
  replace H : (some y192) = some r := by first | (rw [hy192]; with_reducible exact H) | (have H2_ := (Option.bind_some _ _).symm.trans H; rw [hy192]; with_reducible exact H2_) | (have H2_ := (Option.bind_some _ _).symm.trans H; with_reducible exact H2_) | with_reducible exact H | (rw [hy192]; exact H) | exact H
  have Ny192 := am_ hy192
  clear hy192
  obtain rfl := Option.some.inj H
  go_enter Try.func78, Try.ntmps78
  go_wp2_with (first | ((with_reducible refine gate_dst (N := 1) rfl ?_); refine bx_ 1 (cs := #[.slice A0_0 l0_0.length c0_0]) (t := 44) ?_; intro gb190 hg w3 hbox hb; have BK190 := am_ (hbox); have GW190 := am_ ((qs_ : w.heap.size ≤ gb190)); have GE190 := GW190; replace HB := hs_ hb; clear hb hbox hg) | ((with_reducible refine gate_dst (N := 2) rfl ?_); refine bx_ 2 (cs := #[.slice none 0 0]) (t := 44) ?_; intro gb191 hg w4 hbox hb; have BK191 := am_ (hbox); have GW191 := am_ ((qs_ : w.heap.size ≤ gb191)); have GE191 := GW191; obtain ⟨NB190_191, NB191_190⟩ := qn_ BK190 hg; replace BK190 := qbl_ BK190 hb; replace HB := hs_ hb; clear hb hbox hg; obtain ⟨hnb5, hnc5⟩ := nn_ NB190_191; obtain ⟨hcz6_0, hfz6_0⟩ := bc1_ BK190) | ((with_reducible refine gate_builtin (b := .append) (xs := #[.const (.slice none 0 0), .tmp 4]) rfl ?_); at_builtin; refine Kd.R_append_rows k99 (w0 := w) w.heap.size rfl (.const (.slice none 0 0)) (.tmp 4) 42 99 (.agg #[(.string ⟨#[]⟩), (.string ⟨#[]⟩), (.int .i64 0)]) 40 rfl Try.underlying42 info99 rfl (by decide) (by omega) (.slice none 0 0) ([] : List (S99)) l0_0 _ _ _ (fun _ => True) (fun _ => False) rfl rfl ?aO ?aR (fun _ _ h => h) (fun _ h => h.elim) ?aF ?aB ?aS ?aL ?_; (case aR => repeat (first | exact (Kd.C_below HR0_0.out HB.out) | (with_reducible refine Kd.C_alloc ?_ _) | (with_reducible refine Kd.C_drewN ?_ _) | (with_reducible refine Kd.C_drew ?_))); (case aB => exact qB_); (case aF => exact (fun _ _ => trivial)); (case aO => exact ((Kd.R_nil _ _ _ _ (fun _ => True)))); (case aS => exact (below_size qB_)); (case aL => have := LMc2.out; omega); intro v193 w7 ho hb hg hat; rw [← Ny192.out] at ho; have HO194 := am_ (ho); replace BK190 := am_ (blk_grown (qk_ BK190) hg (by simp [Value.ownBlock])); replace BK191 := am_ (blk_grown (qk_ BK191) hg (by simp [Value.ownBlock])); replace HB := am_ (hb); clear ho hb hg hat; obtain ⟨Ao8, co8, eo8⟩ := Kd.R_slice HO194.out; subst eo8; obtain ⟨hcz9_0, hfz9_0⟩ := bc1_ BK191))
  refine bodyPost_ret (results_cell_row rfl _ _ gb191 44 #[.slice Ao8 y192.length co8] (0, 0) _ rfl (by (with_reducible repeat (first | refine blk_drewN ?_ _ | refine blk_drew ?_ | refine blk_alloc ?_ _)); refine blk_put (cs := #[.slice none 0 0]) ?_ 0 _ rfl; exact qf_ BK191) Try.underlying44 rfl (by kernel_rfl)) rfl ?_
  exact ⟨_, qr_, by (with_reducible repeat (first | apply Kd.R_alloc | apply Kd.R_drewN | apply Kd.R_drew)); exact Kd.R_mono (Kd.R_far (p := ⟨gb191, 0, none⟩) (Kd.R_types HO194.out BK191.out (by decide)) (fun _ hk => hk.2) (.slice Ao8 y192.length co8)) (fun _ hk => trivial), qB_⟩
 rw [if_neg c2] at H
 exact absurd H (by simp)

/-! ### impl_LoseDisk: function 27 -/
def impl_LoseDisk.l0 : Nat → List Int → Int → Int → List (S99) → Option ((List (S99)) × Bool)
  | 0, _, _, _, _ => none
  | k + 1, x1, x18, x19, x202000 => if x19 < x18 then (if 0 ≤ x19 then (if x19 < (x202000.length : Int) then (if x19 < (x1.length : Int) then (if 0 ≤ (mx (mn (mx (rd x1 x19) 0) (((rd_T99 x202000 x19).f1).size : Int)) ((rd_T99 x202000 x19).f2)) then (if (mx (mn (mx (rd x1 x19) 0) (((rd_T99 x202000 x19).f1).size : Int)) ((rd_T99 x202000 x19).f2)) ≤ (((rd_T99 x202000 x19).f1).size : Int) then ((some (x202000.set (x19 : Int).toNat (⟨(rd_T99 x202000 x19).f0, ((rd_T99 x202000 x19).f1).extract 0 ((mx (mn (mx (rd x1 x19) 0) (((rd_T99 x202000 x19).f1).size : Int)) ((rd_T99 x202000 x19).f2)) : Int).toNat, (rd_T99 x202000 x19).f2⟩ : S99) : List (S99))).bind fun y206 => (impl_LoseDisk.l0 k x1 x18 (wrap64 (x19 + 1)) (y206.set (x19 : Int).toNat (⟨(rd_T99 y206 x19).f0, (rd_T99 y206 x19).f1, (((rd_T99 y206 x19).f1).size : Int)⟩ : S99)))) else (none)) else (none)) else (if 0 ≤ (mx 0 ((rd_T99 x202000 x19).f2)) then (if (mx 0 ((rd_T99 x202000 x19).f2)) ≤ (((rd_T99 x202000 x19).f1).size : Int) then ((some (x202000.set (x19 : Int).toNat (⟨(rd_T99 x202000 x19).f0, ((rd_T99 x202000 x19).f1).extract 0 ((mx 0 ((rd_T99 x202000 x19).f2)) : Int).toNat, (rd_T99 x202000 x19).f2⟩ : S99) : List (S99))).bind fun y211 => (impl_LoseDisk.l0 k x1 x18 (wrap64 (x19 + 1)) (y211.set (x19 : Int).toNat (⟨(rd_T99 y211 x19).f0, (rd_T99 y211 x19).f1, (((rd_T99 y211 x19).f1).size : Int)⟩ : S99)))) else (none)) else (none))) else (none)) else (none)) else (some (x202000, true))
def impl_LoseDisk.f (k : Nat) (l0_0 : List (S99)) (l1 : List Int) : Option ((List (S99)) × Bool) := (impl_DiskOk.f k l0_0).bind fun t197 => (if t197 = true then ((impl_copyDisk.f l0_0).bind fun t198 => (impl_LoseDisk.l0 k l1 (t198.length : Int) 0 t198)) else (some (([] : List (S99)), false)))
theorem impl_LoseDisk.mono_l : ∀ k, (∀ y0 y1 y2 y3, LeO (impl_LoseDisk.l0 k y0 y1 y2 y3) (impl_LoseDisk.l0 (k + 1) y0 y1 y2 y3))
  | 0 => fun _ _ _ _ r h => by simp [impl_LoseDisk.l0] at h
  | k + 1 => by
    have ih0 := impl_LoseDisk.mono_l k
    · intro y0 y1 y2 y3
      unfold impl_LoseDisk.l0
      repeat' first | (with_reducible first | exact ih0 _ _ _ _ | exact impl_DiskOk.mono _ _ | exact LeO.refl _ | exact LeO.none _ | refine LeO.ite ?_ ?_ | refine LeO.bind ?_ (fun _ => ?_)) | exact LeO.none _ | refine LeO.ite ?_ ?_ | refine LeO.bind ?_ (fun _ => ?_)
theorem impl_LoseDisk.mono : ∀ a0 a1 k, LeO (impl_LoseDisk.f k a0 a1) (impl_LoseDisk.f (k + 1) a0 a1) := by
  intro a0 a1 k
  have ih0 := impl_LoseDisk.mono_l k
  unfold impl_LoseDisk.f
  repeat' first | (with_reducible first | exact ih0 _ _ _ _ | exact impl_DiskOk.mono _ _ | exact LeO.refl _ | exact LeO.none _ | refine LeO.ite ?_ ?_ | refine LeO.bind ?_ (fun _ => ?_)) | exact LeO.none _ | refine LeO.ite ?_ ?_ | refine LeO.bind ?_ (fun _ => ?_)
def impl_LoseDisk.T10 : Bool × List (List Nat × List Nat) := (true, [([], []), ([], []), ([0, 1], [0, 1]), ([2], [2]), ([3], [3]), ([], []), ([5], [5]), ([6], [6]), ([7], [7]), ([8], [8]), ([4, 9], [4, 9]), ([10, 0, 1, 2, 3, 4, 5, 6, 7, 8, 9, 10], [10])])
def impl_LoseDisk.B10 : List Nat := [0, 0, 3, 7, 15, 0, 32, 96, 224, 480, 1023, 2047]
theorem impl_LoseDisk.tab10 : rtab .any (opsOf Try.f27 10) = impl_LoseDisk.T10 := by kernel_rfl
theorem impl_LoseDisk.bits10 : waitsOk impl_LoseDisk.T10.2 impl_LoseDisk.B10 = true := by kernel_rfl
def impl_LoseDisk.T11 : Bool × List (List Nat × List Nat) := (true, [([], []), ([], []), ([1], [1]), ([2], [2]), ([3], [3]), ([], []), ([], []), ([6], [6]), ([7], [7]), ([8], [8]), ([5, 9], [5, 9]), ([4, 10], [4, 10]), ([0, 0, 1, 2, 3, 4, 5, 6, 7, 8, 9, 10, 11], [0]), ([12, 0, 1, 2, 3, 4, 5, 6, 7, 8, 9, 10, 11], [12]), ([13, 11, 0, 1, 2, 3, 4, 5, 6, 7, 8, 9, 10, 11], [11, 13])])
def impl_LoseDisk.B11 : List Nat := [0, 0, 2, 6, 14, 0, 0, 64, 192, 448, 992, 2046, 4095, 8191, 16383]
theorem impl_LoseDisk.tab11 : rtab .any (opsOf Try.f27 11) = impl_LoseDisk.T11 := by kernel_rfl
theorem impl_LoseDisk.bits11 : waitsOk impl_LoseDisk.T11.2 impl_LoseDisk.B11 = true := by kernel_rfl
set_option maxHeartbeats 8000000 in
set_option maxRecDepth 100000 in
theorem impl_LoseDisk.calls (k : Nat) (A0_0 : Option Addr) (c0_0 : Nat) (l0_0 : List (S99)) (A1 : Option Addr) (c1 : Nat) (l1 : List Int) (r1 : List (S99)) (r2 : Bool) (w : World) (hr0_0 : Kd.C k99 w A0_0 l0_0.length l0_0) (hc0_0 : l0_0.length ≤ c0_0) (hr1 : Kd.C (Kd.int .i64) w A1 l1.length l1) (hc1 : l1.length ≤ c1) (h : impl_LoseDisk.f k l0_0 l1 = some (r1, r2)) :
  Calls Try.prog 27 #[.agg #[.slice A0_0 l0_0.length c0_0], .slice A1 l1.length c1] w fun e w' => ∃ v0_ : Value, e = .returned (.tuple #[.agg #[v0_], .bool r2]) ∧ Kd.R k99 99 w' w.heap.size (fun _ => True) v0_ r1 ∧ Below w.heap.size w w' := by
 have hu44 := Try.underlying44
 have HR0_0 := am_ hr0_0
 have HC0_0 := am_ hc0_0
 clear hr0_0 hc0_0
 have HR1 := am_ hr1
 have HC1 := am_ hc1
 clear hr1 hc1
 have HB := am_ (Below.refl w.heap.size w)
 have H : ((impl_DiskOk.f k l0_0).bind fun t197 => (if t197 = true then ((impl_copyDisk.f l0_0).bind fun t198 => (impl_LoseDisk.l0 k l1 (t198.length : Int) 0 t198)) else (some (([] : List (S99)), false)))) = some (r1, r2) := h
 clear h
 obtain ⟨t197, A30, H⟩ := Option.bind_eq_some_iff.mp H; have A3 := am_ A30; clear A30
 by_cases c4 : t197 = true
 ·subst c4
  rw [if_pos rfl] at H
  obtain ⟨t198, A50, H⟩ := Option.bind_eq_some_iff.mp H; have A5 := am_ A50; clear A50
  have H' := am_ H; clear H
  go_enter Try.func27, Try.ntmps27
  go_wp2_with (first | ((with_reducible refine gate_dst (N := 2) rfl ?_); refine bx_ 2 (cs := #[.slice A0_0 l0_0.length c0_0]) (t := 44) ?_; intro gb195 hg w6 hbox hb; have BK195 := am_ (hbox); have GW195 := am_ ((qs_ : w.heap.size ≤ gb195)); have GE195 := GW195; replace HB := hs_ hb; clear hb hbox hg) | ((with_reducible refine gate_dst (N := 4) rfl ?_); refine bx_ 4 (cs := #[.slice none 0 0]) (t := 44) ?_; intro gb196 hg w7 hbox hb; have BK196 := am_ (hbox); have GW196 := am_ ((qs_ : w.heap.size ≤ gb196)); have GE196 := GW196; obtain ⟨NB195_196, NB196_195⟩ := qn_ BK195 hg; replace BK195 := qbl_ BK195 hb; replace HB := hs_ hb; clear hb hbox hg; obtain ⟨hnb8, hnc8⟩ := nn_ NB195_196; obtain ⟨hcz9_0, hfz9_0⟩ := bc1_ BK195) | ((with_reducible refine gate_callee (f := 77) rfl ?_); refine gl_ (some 11) Try.func77 #[.agg #[.slice A0_0 l0_0.length c0_0]] ?_; (with_reducible refine (impl_DiskOk.calls k _ _ l0_0 true _ ?side1 ?side2 A3.out).mono ?_); (case side1 => exact qC_ HR0_0 HB); (case side2 => exact HC0_0.out); rintro e w10 ⟨rfl, hb⟩; refine ⟨_, rfl, ?_⟩; replace BK195 := qbl_ BK195 hb; replace BK196 := qbl_ BK196 hb; replace HB := hs_ hb; (try clear hb); (try clear hb2); (try clear hk); (try clear hi); obtain ⟨hcz11_0, hfz11_0⟩ := bc1_ BK195) | ((with_reducible refine gate_callee (f := 78) rfl ?_); refine gl_ (some 15) Try.func78 #[.agg #[.slice A0_0 l0_0.length c0_0]] ?_; (with_reducible refine (impl_copyDisk.calls _ _ l0_0 t198 _ ?side1 ?side2 A5.out).mono ?_); (case side1 => exact qC_ HR0_0 HB); (case side2 => exact HC0_0.out); rintro e w12 ⟨v199, rfl, ho0, hb⟩; refine ⟨_, rfl, ?_⟩; have HO200 := am_ (Kd.R_lower ho0 (below_size qB_)); replace BK195 := qbl_ BK195 hb; replace BK196 := qbl_ BK196 hb; replace HB := hs_ hb; (try clear hb); (try clear hb2); (try clear hk); (try clear hi); (try clear ho0)) | ((with_reducible refine gate_dst (N := 6) rfl ?_); refine bx_ 6 (cs := #[.slice none 0 0]) (t := 44) ?_; intro gb201 hg w13 hbox hb; have BK201 := am_ (hbox); have GW201 := am_ ((qs_ : w.heap.size ≤ gb201)); have GE201 := GW201; obtain ⟨NB195_201, NB201_195⟩ := qn_ BK195 hg; obtain ⟨NB196_201, NB201_196⟩ := qn_ BK196 hg; replace HO200 := am_ (Kd.R_below (qR_ HO200) hb); replace BK195 := qbl_ BK195 hb; replace BK196 := qbl_ BK196 hb; replace HB := hs_ hb; clear hb hbox hg; obtain ⟨Ao14, co14, eo14⟩ := Kd.R_slice HO200.out; subst eo14; obtain ⟨hnb15, hnc15⟩ := nn_ NB201_195; obtain ⟨hnb16, hnc16⟩ := nn_ NB201_196; obtain ⟨hcz17_0, hfz17_0⟩ := bc1_ BK201))
  go_loopg [19] k (fun kq v19 w' => ∃ (x19_1 : Int) (x202000_1 : List (S99)) (u202000 : Value), v19 = .int .i64 x19_1 ∧ Aside0 (impl_LoseDisk.l0 kq l1 (t198.length : Int) x19_1 x202000_1 = some (r1, r2)) ∧ Aside0 (kq ≤ k) ∧ Aside0 (Kd.R k99 99 w' w.heap.size (fun _ => True) u202000 x202000_1) ∧ Aside0 (w'.heap[gb195]? = some (.cells #[(.slice A0_0 l0_0.length c0_0)] 44 (0, 0))) ∧ Aside0 (w'.heap[gb196]? = some (.cells #[(.slice none 0 0)] 44 (0, 0))) ∧ Aside0 (w'.heap[gb201]? = some (.cells #[u202000] 44 (0, 0))) ∧ Aside0 (Below w.heap.size w w'))
  case atStart => exact ⟨(0), (t198), (.slice Ao14 t198.length co14), qe_, H', ⟨Nat.le_refl _⟩, ⟨by (with_reducible repeat (first | apply Kd.R_alloc | apply Kd.R_drewN | apply Kd.R_drew)); exact Kd.R_mono (Kd.R_far (p := ⟨gb201, 0, none⟩) (Kd.R_types HO200.out BK201.out (by decide)) (fun _ hk => hk.2) (.slice Ao14 t198.length co14)) (fun _ hk => trivial)⟩, ⟨qf_ BK195⟩, ⟨qf_ BK196⟩, ⟨by (with_reducible repeat (first | refine blk_drewN ?_ _ | refine blk_drew ?_ | refine blk_alloc ?_ _)); refine blk_put (cs := #[.slice none 0 0]) ?_ 0 _ rfl; exact qf_ BK201⟩, ⟨qB_⟩⟩
  case round =>
   clear H'
   (try clear c1); (try clear c2); (try clear p2); (try clear c4); (try clear c7); (try clear c8); (try clear c15); (try clear c16); (try clear hcz11_0); (try clear hcz17_0); (try clear hcz9_0); (try clear hfz11_0); (try clear hfz17_0); (try clear hfz9_0)
   obtain ⟨x19_1, x202000_1, u202000, rfl, HA, HK1, HO_202000, BK195, BK196, BK201, HB⟩ := hrel
   cases gk with
   | zero => exact absurd HA.out (by simp [impl_LoseDisk.l0])
   | succ k1 =>
    have H := HA.out; clear HA
    simp only [impl_LoseDisk.l0] at H
    by_cases c18 : x19_1 < (t198.length : Int)
    ·rw [if_pos c18] at H
     have c18b0 : decide (x19_1 < (t198.length : Int)) = true := decide_eq_true c18
     clear c18
     by_cases c19 : 0 ≤ x19_1
     ·rw [if_pos c19] at H
      have c19b0 : decide (0 ≤ x19_1) = true := decide_eq_true c19
      clear c19
      by_cases c20 : x19_1 < (x202000_1.length : Int)
      ·rw [if_pos c20] at H
       have c20b0 : decide (x19_1 < (x202000_1.length : Int)) = true := decide_eq_true c20
       clear c20
       by_cases c22 : x19_1 < (l1.length : Int)
       ·rw [if_pos c22] at H
        have c22b0 : decide (x19_1 < (l1.length : Int)) = true := decide_eq_true c22
        clear c22
        obtain ⟨ji23, hji23⟩ : ∃ j_ : Int, (mx (rd l1 x19_1) 0) = j_ := ⟨_, rfl⟩
        first | rw [hji23] at H | simp only [hji23] at H
        have hji23_ : (if (rd l1 x19_1) < 0 then 0 else (rd l1 x19_1)) = ji23 := hji23
        obtain ⟨ji24, hji24⟩ : ∃ j_ : Int, (mn (ji23) (((rd_T99 x202000_1 x19_1).f1).size : Int)) = j_ := ⟨_, rfl⟩
        first | rw [hji24] at H | simp only [hji24] at H
        have hji24_ : (if (((rd_T99 x202000_1 x19_1).f1).size : Int) < (ji23) then (((rd_T99 x202000_1 x19_1).f1).size : Int) else (ji23)) = ji24 := hji24
        obtain ⟨ji25, hji25⟩ : ∃ j_ : Int, (mx (ji24) ((rd_T99 x202000_1 x19_1).f2)) = j_ := ⟨_, rfl⟩
        first | rw [hji25] at H | simp only [hji25] at H
        have hji25_ : (if (ji24) < ((rd_T99 x202000_1 x19_1).f2) then ((rd_T99 x202000_1 x19_1).f2) else (ji24)) = ji25 := hji25
        by_cases c26 : 0 ≤ (ji25)
        ·rw [if_pos c26] at H
         have c26b0 := eq_true c26
         have c26b1 : decide (0 ≤ (ji25)) = true := decide_eq_true c26
         clear c26
         by_cases c27 : (ji25) ≤ (((rd_T99 x202000_1 x19_1).f1).size : Int)
         ·rw [if_pos c27] at H
          have c27b0 := eq_true c27
          have c27b1 : decide ((ji25) ≤ (((rd_T99 x202000_1 x19_1).f1).size : Int)) = true := decide_eq_true c27
          clear c27
          obtain ⟨y206, hy206⟩ : ∃ y_ : List (S99), y_ = (x202000_1.set (x19_1 : Int).toNat (⟨(rd_T99 x202000_1 x19_1).f0, ((rd_T99 x202000_1 x19_1).f1).extract 0 ((ji25) : Int).toNat, (rd_T99 x202000_1 x19_1).f2⟩ : S99)) := ⟨_, rfl⟩
          replace H : (impl_LoseDisk.l0 k1 l1 (t198.length : Int) (wrap64 (x19_1 + 1)) (y206.set (x19_1 : Int).toNat (⟨(rd_T99 y206 x19_1).f0, (rd_T99 y206 x19_1).f1, (((rd_T99 y206 x19_1).f1).size : Int)⟩ : S99))) = some (r1, r2) := by first | (rw [hy206]; with_reducible exact H) | (have H2_ := (Option.bind_some _ _).symm.trans H; rw [hy206]; with_reducible exact H2_) | (have H2_ := (Option.bind_some _ _).symm.trans H; with_reducible exact H2_) | with_reducible exact H | (rw [hy206]; exact H) | exact H
          have Ny206 := am_ hy206
          clear hy206
          obtain ⟨y208, hy208⟩ : ∃ y_ : List (S99), y_ = (y206.set (x19_1 : Int).toNat (⟨(rd_T99 y206 x19_1).f0, (rd_T99 y206 x19_1).f1, (((rd_T99 y206 x19_1).f1).size : Int)⟩ : S99)) := ⟨_, rfl⟩
          replace H : (impl_LoseDisk.l0 k1 l1 (t198.length : Int) (wrap64 (x19_1 + 1)) y208) = some (r1, r2) := by first | (rw [hy208]; with_reducible exact H) | (have H2_ := (Option.bind_some _ _).symm.trans H; rw [hy208]; with_reducible exact H2_) | (have H2_ := (Option.bind_some _ _).symm.trans H; with_reducible exact H2_) | with_reducible exact H | (rw [hy208]; exact H) | exact H
          have Ny208 := am_ hy208
          clear hy208; have H' := am_ H; clear H; obtain ⟨hnb30, hnc30⟩ := nn_ NB201_195; obtain ⟨hnb31, hnc31⟩ := nn_ NB201_196
          obtain ⟨hcz32_0, hfz32_0⟩ := bc1_ BK201
          have p21 : 0 ≤ (x19_1 : Int) := of_decide_eq_true qa_
          have q21 : (x19_1 : Int) < ((x202000_1.length : Int) : Int) := of_decide_eq_true qa_
          obtain ⟨go21, co21, eo21, gb21, gl21, cl21, HG21⟩ := Kd.R_form HO_202000.out (by omega)
          (first | cases eo21 | (injection eo21 with ea_ en_ ec_; (first | subst ea_ | (injection ea_ with ea_; subst ea_)); subst ec_; clear en_))
          have GB21 := am_ gb21
          have GG21 := am_ HG21
          clear gb21 gl21 HG21
          obtain ⟨ce21, hcl21, hM21, hcc21, hfr21⟩ := Kd.R_elem HO_202000.out z99 (x19_1 : Int) p21 q21
          obtain rfl := k99_openM hM21
          have hx21_0 : wr.cell? ⟨go21, (x19_1 : Int).toNat * 3, none⟩ = some (.string ((rd_T99 x202000_1 x19_1).f0)) := hcc21 0 _ rfl
          have hx21_1 : wr.cell? ⟨go21, (x19_1 : Int).toNat * 3 + 1, none⟩ = some (.string ((rd_T99 x202000_1 x19_1).f1)) := hcc21 1 _ rfl
          have hx21_2 : wr.cell? ⟨go21, (x19_1 : Int).toNat * 3 + 2, none⟩ = some (.int .i64 ((rd_T99 x202000_1 x19_1).f2)) := hcc21 2 _ rfl
          have hf21_0 : wr.frozen? ⟨go21, (x19_1 : Int).toNat * 3, none⟩ = false := hfr21 0
          have hf21_1 : wr.frozen? ⟨go21, (x19_1 : Int).toNat * 3 + 1, none⟩ = false := hfr21 1
          have hf21_2 : wr.frozen? ⟨go21, (x19_1 : Int).toNat * 3 + 2, none⟩ = false := hfr21 2
          (try clear hcl21); (try clear hcc21); (try clear hfr21); (try clear hM21); replace p21 := eq_true p21; replace q21 := eq_true q21
          try go_wp2
          replace HO_202000 := am_ (Kd.R_drew HO_202000.out); replace BK195 := am_ (blk_drew BK195.out); replace BK196 := am_ (blk_drew BK196.out); replace BK201 := am_ (blk_drew BK201.out); replace HB := am_ (below_drew1 HB.out)
          have p202 : 0 ≤ (x19_1 : Int) := of_decide_eq_true qa_
          have q202 : x19_1 < (l1.length : Int) := of_decide_eq_true qa_
          obtain ⟨ad202, e202, hx202_0⟩ := Kd.at_int HR1.out x19_1 p202 q202
          have hw202_0 := hx202_0; cases e202
          replace hx202_0 := qx_ HB hx202_0
          replace p202 := eq_true p202; replace q202 := eq_true q202
          have p203 : 0 ≤ (x19_1 : Int) := of_decide_eq_true qa_
          have q203 : x19_1 < (x202000_1.length : Int) := of_decide_eq_true qa_
          obtain ⟨ad203, e203, hx203_0, hx203_1, hx203_2⟩ := at_T99 (Kd.R_reads' HO_202000.out).2.2 x19_1 p203 q203
          obtain rfl : (⟨go21, 0, none⟩ : Addr) = ad203 := (by injection e203)
          (first | simp only [add_plain] at hx203_0 | simp only [add_at] at hx203_0 | simp only [Addr.add, Nat.zero_add] at hx203_0 | skip)
          (first | simp only [add_plain] at hx203_1 | simp only [add_at] at hx203_1 | simp only [Addr.add, Nat.zero_add] at hx203_1 | skip)
          (first | simp only [add_plain] at hx203_2 | simp only [add_at] at hx203_2 | simp only [Addr.add, Nat.zero_add] at hx203_2 | skip)
          (try simp only [add_plain] at *)
          replace p203 := eq_true p203; replace q203 := eq_true q203
          refine start_ (n := 12) (S := fun w' => w'.cell? (ad202.add (x19_1).toNat) = some (.int .i64 (rd l1 x19_1)) ∧ w'.cell? ⟨go21, (x19_1).toNat * 3, none⟩ = some (.string ((rd_T99 x202000_1 x19_1).f0)) ∧ w'.cell? ⟨go21, (x19_1).toNat * 3 + 1, none⟩ = some (.string ((rd_T99 x202000_1 x19_1).f1)) ∧ w'.cell? ⟨go21, (x19_1).toNat * 3 + 2, none⟩ = some (.int .i64 ((rd_T99 x202000_1 x19_1).f2))) (ds := []) (bm 12 0) (by kernel_rfl) rfl (by kernel_rfl) ⟨((qx_ HB hw202_0).trans rfl), hx203_0, hx203_1, hx203_2⟩ (fun hHeld => ?_); refine with_tabW impl_LoseDisk.tab10 impl_LoseDisk.bits10 (fun HT_ HW_ => ?_)
          generalize wr.drew = w33 at HO_202000 BK195 BK196 BK201 HB hx202_0 hx203_0 hx203_1 hx203_2 hHeld ⊢
          refine pz_ 0 30 (bm 12 1) ?_; refine pz_ 1 31 (bm 12 3) ?_; refine pz_ 2 32 (bm 12 7) ?_; refine pz_ 5 35 (bm 12 39) ?_; refine pz_ 6 36 (bm 12 103) ?_; refine pz_ 7 37 (bm 12 231) ?_; refine tz4_ 3 33 (bm 12 239) ?_; refine pz_ 4 34 (bm 12 255) ?_; refine tz4_ 8 38 (bm 12 511) ?_; refine pz_ 9 39 (bm 12 1023) ?_; refine pz_ 10 40 (bm 12 2047) ?_; refine pz_ 11 9 (bm 12 4095) ?_
          refine done_ (done_of HT_.out (by kernel_rfl)) ?_
          try go_wp2
          replace HO_202000 := am_ (Kd.R_drew HO_202000.out); replace BK195 := am_ (blk_drew BK195.out); replace BK196 := am_ (blk_drew BK196.out); replace BK201 := am_ (blk_drew BK201.out); replace HB := am_ (below_drew1 HB.out)
          have p204 : 0 ≤ (x19_1 : Int) := of_decide_eq_true qa_
          have q204 : x19_1 < (x202000_1.length : Int) := of_decide_eq_true qa_
          obtain ⟨ad204, e204, hx204_0, hx204_1, hx204_2⟩ := at_T99 (Kd.R_reads' HO_202000.out).2.2 x19_1 p204 q204
          obtain rfl : (⟨go21, 0, none⟩ : Addr) = ad204 := (by injection e204)
          (first | simp only [add_plain] at hx204_0 | simp only [add_at] at hx204_0 | simp only [Addr.add, Nat.zero_add] at hx204_0 | skip)
          (first | simp only [add_plain] at hx204_1 | simp only [add_at] at hx204_1 | simp only [Addr.add, Nat.zero_add] at hx204_1 | skip)
          (first | simp only [add_plain] at hx204_2 | simp only [add_at] at hx204_2 | simp only [Addr.add, Nat.zero_add] at hx204_2 | skip)
          (try simp only [add_plain] at *)
          replace p204 := eq_true p204; replace q204 := eq_true q204
          have p205 : 0 ≤ (x19_1 : Int) := of_decide_eq_true qa_
          have q205 : x19_1 < (x202000_1.length : Int) := of_decide_eq_true qa_
          obtain ⟨ad205, e205, hx205_0, hx205_1, hx205_2⟩ := at_T99 (Kd.R_reads' HO_202000.out).2.2 x19_1 p205 q205
          obtain rfl : (⟨go21, 0, none⟩ : Addr) = ad205 := (by injection e205)
          (first | simp only [add_plain] at hx205_0 | simp only [add_at] at hx205_0 | simp only [Addr.add, Nat.zero_add] at hx205_0 | skip)
          (first | simp only [add_plain] at hx205_1 | simp only [add_at] at hx205_1 | simp only [Addr.add, Nat.zero_add] at hx205_1 | skip)
          (first | simp only [add_plain] at hx205_2 | simp only [add_at] at hx205_2 | simp only [Addr.add, Nat.zero_add] at hx205_2 | skip)
          (try simp only [add_plain] at *)
          replace p205 := eq_true p205; replace q205 := eq_true q205
          have p28 : 0 ≤ (x19_1 : Int) := of_decide_eq_true qa_
          have q28 : (x19_1 : Int) < ((x202000_1.length : Int) : Int) := of_decide_eq_true qa_
          obtain ⟨ce28, hcl28, hM28, hcc28, hfr28⟩ := Kd.R_elem HO_202000.out z99 (x19_1 : Int) p28 q28
          obtain rfl := k99_openM hM28
          have hx28_0 : World.cell? _ ⟨go21, (x19_1 : Int).toNat * 3, none⟩ = some (.string ((rd_T99 x202000_1 x19_1).f0)) := hcc28 0 _ rfl
          have hx28_1 : World.cell? _ ⟨go21, (x19_1 : Int).toNat * 3 + 1, none⟩ = some (.string ((rd_T99 x202000_1 x19_1).f1)) := hcc28 1 _ rfl
          have hx28_2 : World.cell? _ ⟨go21, (x19_1 : Int).toNat * 3 + 2, none⟩ = some (.int .i64 ((rd_T99 x202000_1 x19_1).f2)) := hcc28 2 _ rfl
          have hf28_0 : World.frozen? _ ⟨go21, (x19_1 : Int).toNat * 3, none⟩ = false := hfr28 0
          have hf28_1 : World.frozen? _ ⟨go21, (x19_1 : Int).toNat * 3 + 1, none⟩ = false := hfr28 1
          have hf28_2 : World.frozen? _ ⟨go21, (x19_1 : Int).toNat * 3 + 2, none⟩ = false := hfr28 2
          (try clear hcl28); (try clear hcc28); (try clear hfr28); (try clear hM28); replace p28 := eq_true p28; replace q28 := eq_true q28
          obtain ⟨ce35, hcl35, hM35, hcc35, hfr35⟩ := Kd.R_elem HO_202000.out z99 (x19_1 : Int) (of_decide_eq_true qa_) (by have h_ : (x19_1 : Int) < ((x202000_1.length : Int) : Int) := of_decide_eq_true qa_; first | exact h_ | (have e_ := (Kd.R_reads' HO_202000.out).1; omega) | simpa using h_)
          obtain rfl := k99_openM hM35
          have HP35 := (Kd.R_seg HO_202000.out (x19_1 : Int) (of_decide_eq_true qa_) (by have h_ : (x19_1 : Int) < ((x202000_1.length : Int) : Int) := of_decide_eq_true qa_; first | exact h_ | (have e_ := (Kd.R_reads' HO_202000.out).1; omega) | simpa using h_) (seg := [.string (((rd_T99 x202000_1 x19_1).f1).extract 0 ((ji25) : Int).toNat)]) (j := 1) hcl35 hcc35 (show 2 ≤ 3 from by decide) (x' := (⟨(rd_T99 x202000_1 x19_1).f0, ((rd_T99 x202000_1 x19_1).f1).extract 0 ((ji25) : Int).toNat, (rd_T99 x202000_1 x19_1).f2⟩ : S99)) (k99_mkM _ _ _ (⟨(rd_T99 x202000_1 x19_1).f0, ((rd_T99 x202000_1 x19_1).f1).extract 0 ((ji25) : Int).toNat, (rd_T99 x202000_1 x19_1).f2⟩ : S99) ) (fun _ hk => hk)).1
          rw [← Ny206.out] at HP35
          have HQ35 := am_ HP35
          (try clear hcl35); (try clear hcc35); (try clear hfr35); (try clear hM35); (try clear HP35)
          refine start_ (n := 15) (S := fun w' => w'.cell? ⟨go21, (x19_1).toNat * 3, none⟩ = some (.string ((rd_T99 x202000_1 x19_1).f0)) ∧ w'.cell? ⟨go21, (x19_1).toNat * 3 + 1, none⟩ = some (.string ((rd_T99 x202000_1 x19_1).f1)) ∧ w'.cell? ⟨go21, (x19_1).toNat * 3 + 2, none⟩ = some (.int .i64 ((rd_T99 x202000_1 x19_1).f2)) ∧ w'.cell? ⟨go21, (x19_1).toNat * 3, none⟩ = some (.string ((rd_T99 x202000_1 x19_1).f0)) ∧ w'.cell? ⟨go21, (x19_1).toNat * 3 + 1, none⟩ = some (.string ((rd_T99 x202000_1 x19_1).f1)) ∧ w'.cell? ⟨go21, (x19_1).toNat * 3 + 2, none⟩ = some (.int .i64 ((rd_T99 x202000_1 x19_1).f2))) (ds := [14]) (bm 15 0) (by kernel_rfl) rfl (by kernel_rfl) ⟨hx204_0, hx204_1, hx204_2, hx205_0, hx205_1, hx205_2⟩ (fun hHeld => ?_); refine with_tabW impl_LoseDisk.tab11 impl_LoseDisk.bits11 (fun HT_ HW_ => ?_)
          generalize w33.drew = w34 at HO_202000 BK195 BK196 BK201 HB HQ35 hf28_0 hf28_1 hf28_2 hx204_0 hx204_1 hx204_2 hx205_0 hx205_1 hx205_2 hx28_0 hx28_1 hx28_2 hHeld ⊢
          refine pz_ 0 41 (bm 15 1) ?_; refine pz_ 1 42 (bm 15 3) ?_; refine pz_ 2 43 (bm 15 7) ?_; refine pz_ 3 44 (bm 15 15) ?_; refine pz_ 5 46 (bm 15 47) ?_; refine pz_ 6 47 (bm 15 111) ?_; refine pz_ 7 48 (bm 15 239) ?_; refine pz_ 8 49 (bm 15 495) ?_; refine tz6_ 4 45 (bm 15 511) ?_; refine tz6_ 9 50 (bm 15 1023) ?_; refine pz_ 10 51 (bm 15 2047) ?_; refine pz_ 11 52 (bm 15 4095) ?_; refine pz_ 12 53 (bm 15 8191) ?_; refine pz_ 13 54 (bm 15 16383) ?_
          refine last_ (i := 14) (N := none) (bm 15 32767) rfl rfl (one_of HT_.out (by kernel_rfl)) (by decide) (fun K hK => ?_)
          refine skip_ (w1 := ?_) (by rfl) rfl ?_ ?_
          rotate_left
          ·go_simp
           rfl
          refine hK.out _ _ ?_
          clear hK K
          refine done_ (done_of HT_.out (by kernel_rfl)) ?_
          have n0_ : Aside0 (Kd.R k99 99 (w34.setCell ⟨go21, (x19_1 : Int).toNat * 3 + 1, none⟩ (.string (((rd_T99 x202000_1 x19_1).f1).extract 0 ((ji25) : Int).toNat))) w.heap.size (fun _ => True) (.slice (some ⟨go21, 0, none⟩) x202000_1.length co21) y206) := ⟨qR_ HQ35⟩
          have n1_ : Aside0 ((w34.setCell ⟨go21, (x19_1 : Int).toNat * 3 + 1, none⟩ (.string (((rd_T99 x202000_1 x19_1).f1).extract 0 ((ji25) : Int).toNat))).heap[gb195]? = some (.cells #[.slice A0_0 l0_0.length c0_0] 44 (0, 0))) := ⟨by (with_reducible repeat (first | refine blk_drewN ?_ _ | refine blk_drew ?_ | refine blk_alloc ?_ _)); refine blk_far ?_ (by have h_ := Kd.R_ne HO_202000.out BK195.out (by decide); intro e_; exact h_ (by rw [e_]; rfl)) _; exact qf_ BK195⟩
          have n2_ : Aside0 ((w34.setCell ⟨go21, (x19_1 : Int).toNat * 3 + 1, none⟩ (.string (((rd_T99 x202000_1 x19_1).f1).extract 0 ((ji25) : Int).toNat))).heap[gb196]? = some (.cells #[.slice none 0 0] 44 (0, 0))) := ⟨by (with_reducible repeat (first | refine blk_drewN ?_ _ | refine blk_drew ?_ | refine blk_alloc ?_ _)); refine blk_far ?_ (by have h_ := Kd.R_ne HO_202000.out BK196.out (by decide); intro e_; exact h_ (by rw [e_]; rfl)) _; exact qf_ BK196⟩
          have n3_ : Aside0 ((w34.setCell ⟨go21, (x19_1 : Int).toNat * 3 + 1, none⟩ (.string (((rd_T99 x202000_1 x19_1).f1).extract 0 ((ji25) : Int).toNat))).heap[gb201]? = some (.cells #[.slice (some ⟨go21, 0, none⟩) x202000_1.length co21] 44 (0, 0))) := ⟨by (with_reducible repeat (first | refine blk_drewN ?_ _ | refine blk_drew ?_ | refine blk_alloc ?_ _)); refine blk_far ?_ (by have h_ := Kd.R_ne HO_202000.out BK201.out (by decide); intro e_; exact h_ (by rw [e_]; rfl)) _; exact qf_ BK201⟩
          have n4_ : Aside0 (Below w.heap.size w (w34.setCell ⟨go21, (x19_1 : Int).toNat * 3 + 1, none⟩ (.string (((rd_T99 x202000_1 x19_1).f1).extract 0 ((ji25) : Int).toNat)))) := ⟨qB_⟩
          (try clear HO_202000); (try clear BK195); (try clear BK196); (try clear BK201); (try clear HB)
          generalize (w34.setCell ⟨go21, (x19_1 : Int).toNat * 3 + 1, none⟩ (.string (((rd_T99 x202000_1 x19_1).f1).extract 0 ((ji25) : Int).toNat))) = w36 at n0_ n1_ n2_ n3_ n4_ ⊢
          have HO_202000 := n0_; have BK195 := n1_; have BK196 := n2_; have BK201 := n3_; have HB := n4_; clear n0_ n1_ n2_ n3_ n4_
          have p207 : 0 ≤ (x19_1 : Int) := of_decide_eq_true qa_
          have q207 : x19_1 < (y206.length : Int) := (by have h_ : (x19_1 : Int) < ((x202000_1.length : Int) : Int) := of_decide_eq_true qa_; first | (have e_ := (Kd.R_reads' HO_202000.out).1; omega) | simpa only [Ny206.out, List.length_set] using h_)
          have ql207 : ((x19_1 : Int) < ((x202000_1.length : Int) : Int)) = True := eq_true (of_decide_eq_true qa_)
          obtain ⟨ad207, e207, hx207_0, hx207_1, hx207_2⟩ := at_T99 (Kd.R_reads' HO_202000.out).2.2 x19_1 p207 q207
          obtain rfl : (⟨go21, 0, none⟩ : Addr) = ad207 := (by injection e207)
          (first | simp only [add_plain] at hx207_0 | simp only [add_at] at hx207_0 | simp only [Addr.add, Nat.zero_add] at hx207_0 | skip)
          (first | simp only [add_plain] at hx207_1 | simp only [add_at] at hx207_1 | simp only [Addr.add, Nat.zero_add] at hx207_1 | skip)
          (first | simp only [add_plain] at hx207_2 | simp only [add_at] at hx207_2 | simp only [Addr.add, Nat.zero_add] at hx207_2 | skip)
          (try simp only [add_plain] at *)
          replace p207 := eq_true p207; replace q207 := eq_true q207
          have p29 : 0 ≤ (x19_1 : Int) := of_decide_eq_true qa_
          have q29 : (x19_1 : Int) < ((x202000_1.length : Int) : Int) := of_decide_eq_true qa_
          obtain ⟨ce29, hcl29, hM29, hcc29, hfr29⟩ := Kd.R_elem HO_202000.out z99 (x19_1 : Int) p29 q29
          obtain rfl := k99_openM hM29
          have hx29_0 : w36.cell? ⟨go21, (x19_1 : Int).toNat * 3, none⟩ = some (.string ((rd_T99 y206 x19_1).f0)) := hcc29 0 _ rfl
          have hx29_1 : w36.cell? ⟨go21, (x19_1 : Int).toNat * 3 + 1, none⟩ = some (.string ((rd_T99 y206 x19_1).f1)) := hcc29 1 _ rfl
          have hx29_2 : w36.cell? ⟨go21, (x19_1 : Int).toNat * 3 + 2, none⟩ = some (.int .i64 ((rd_T99 y206 x19_1).f2)) := hcc29 2 _ rfl
          have hf29_0 : w36.frozen? ⟨go21, (x19_1 : Int).toNat * 3, none⟩ = false := hfr29 0
          have hf29_1 : w36.frozen? ⟨go21, (x19_1 : Int).toNat * 3 + 1, none⟩ = false := hfr29 1
          have hf29_2 : w36.frozen? ⟨go21, (x19_1 : Int).toNat * 3 + 2, none⟩ = false := hfr29 2
          (try clear hcl29); (try clear hcc29); (try clear hfr29); (try clear hM29); replace p29 := eq_true p29; replace q29 := eq_true q29
          have HX37 := am_ (show Kd.R k99 99 w36 w.heap.size (fun _ => True) (.slice (some ⟨go21, 0, none⟩) x202000_1.length co21) y206 from (qR_ HO_202000))
          obtain ⟨ce37, hcl37, hM37, hcc37, hfr37⟩ := Kd.R_elem HX37.out z99 (x19_1 : Int) (of_decide_eq_true qa_) (by have h_ : (x19_1 : Int) < ((x202000_1.length : Int) : Int) := of_decide_eq_true qa_; first | exact h_ | (have e_ := (Kd.R_reads' HO_202000.out).1; omega) | simpa using h_)
          obtain rfl := k99_openM hM37
          have HP37 := Kd.R_seg HX37.out (x19_1 : Int) (of_decide_eq_true qa_) (by have h_ : (x19_1 : Int) < ((x202000_1.length : Int) : Int) := of_decide_eq_true qa_; first | exact h_ | (have e_ := (Kd.R_reads' HO_202000.out).1; omega) | simpa using h_) (seg := [.int .i64 (((rd_T99 y206 x19_1).f1).size : Int)]) (j := 2) hcl37 hcc37 (show 3 ≤ 3 from by decide) (x' := (⟨(rd_T99 y206 x19_1).f0, (rd_T99 y206 x19_1).f1, (((rd_T99 y206 x19_1).f1).size : Int)⟩ : S99)) (k99_mkM _ _ _ (⟨(rd_T99 y206 x19_1).f0, (rd_T99 y206 x19_1).f1, (((rd_T99 y206 x19_1).f1).size : Int)⟩ : S99) ) (fun _ hk => hk)
          have hx37_2 := hcc37 2 _ rfl
          (try simp only [show (k99).sz = 3 from rfl, Nat.mul_one, Nat.add_zero] at hx37_2)
          have hf37_2 := hfr37 2
          (try simp only [show (k99).sz = 3 from rfl, Nat.mul_one, Nat.add_zero] at hf37_2)
          (try clear hcl37); (try clear hcc37); (try clear hfr37); (try clear hM37)
          try go_wp2_with (first | ((with_reducible refine gate_store (t := 3) (p := 62) rfl ?_); refine store_event (t := 3) (p := 62) (v := ?vo_w38) (w1 := (w36.setCell ⟨go21, (x19_1 : Int).toNat * 3 + 2, none⟩ (.int .i64 (((rd_T99 y206 x19_1).f1).size : Int)))) ?hg ?ho ?hn ?hr ?_; (case ho => rfl); (case hg => rfl); (case hn => rfl); (case hr => first | (go_simp; done) | (go_simp; rfl)); intro w38 hw; have hg : w36.grownBy w38 (some go21) := (by rw [hw]; exact HP37.2); have hp_ : Kd.R k99 99 w38 w.heap.size (fun _ => True) (.slice (some ⟨go21, 0, none⟩) x202000_1.length co21) y208 := (by rw [hw, Ny208.out]; exact HP37.1); clear HP37; have n0_ := am_ (hp_); have n1_ := am_ (blk_grown (qk_ BK195) hg (Kd.R_ne HO_202000.out BK195.out (by decide))); have n2_ := am_ (blk_grown (qk_ BK196) hg (Kd.R_ne HO_202000.out BK196.out (by decide))); have n3_ := am_ (blk_grown (qk_ BK201) hg (Kd.R_ne HO_202000.out BK201.out (by decide))); have n4_ := am_ ((by rw [hw]; exact below_set (HB.out) GB21.out : Below w.heap.size w w38)); clear HO_202000; clear BK195; clear BK196; clear BK201; clear HB; have HO_202000 := n0_; have BK195 := n1_; have BK196 := n2_; have BK201 := n3_; have HB := n4_; clear n0_ n1_ n2_ n3_ n4_; clear hg hw hp_))
          go_roundg k1
          case measure => have := HK1.out; omega
          case rel => exact ⟨(wrap64 (x19_1 + 1)), (y208), (.slice (some ⟨go21, 0, none⟩) x202000_1.length co21), qe_, H', ⟨by have := HK1.out; omega⟩, ⟨by (with_reducible repeat (first | apply Kd.R_alloc | apply Kd.R_drewN | apply Kd.R_drew)); first | exact HO_202000.out | (have h_ := HO_202000.out; simp only [own_slice] at h_ ⊢; exact h_)⟩, ⟨qk_ BK195⟩, ⟨qk_ BK196⟩, ⟨qk_ BK201⟩, ⟨qB_⟩⟩
         rw [if_neg c27] at H
         exact absurd H (by simp)
        rw [if_neg c26] at H
        exact absurd H (by simp)
       rw [if_neg c22] at H
       have c22b0 : decide (x19_1 < (l1.length : Int)) = false := decide_eq_false c22
       clear c22
       obtain ⟨ji39, hji39⟩ : ∃ j_ : Int, (mx 0 ((rd_T99 x202000_1 x19_1).f2)) = j_ := ⟨_, rfl⟩
       first | rw [hji39] at H | simp only [hji39] at H
       have hji39_ : (if 0 < ((rd_T99 x202000_1 x19_1).f2) then ((rd_T99 x202000_1 x19_1).f2) else 0) = ji39 := hji39
       by_cases c40 : 0 ≤ (ji39)
       ·rw [if_pos c40] at H
        have c40b0 := eq_true c40
        have c40b1 : decide (0 ≤ (ji39)) = true := decide_eq_true c40
        clear c40
        by_cases c41 : (ji39) ≤ (((rd_T99 x202000_1 x19_1).f1).size : Int)
        ·rw [if_pos c41] at H
         have c41b0 := eq_true c41
         have c41b1 : decide ((ji39) ≤ (((rd_T99 x202000_1 x19_1).f1).size : Int)) = true := decide_eq_true c41
         clear c41
         obtain ⟨y211, hy211⟩ : ∃ y_ : List (S99), y_ = (x202000_1.set (x19_1 : Int).toNat (⟨(rd_T99 x202000_1 x19_1).f0, ((rd_T99 x202000_1 x19_1).f1).extract 0 ((ji39) : Int).toNat, (rd_T99 x202000_1 x19_1).f2⟩ : S99)) := ⟨_, rfl⟩
         replace H : (impl_LoseDisk.l0 k1 l1 (t198.length : Int) (wrap64 (x19_1 + 1)) (y211.set (x19_1 : Int).toNat (⟨(rd_T99 y211 x19_1).f0, (rd_T99 y211 x19_1).f1, (((rd_T99 y211 x19_1).f1).size : Int)⟩ : S99))) = some (r1, r2) := by first | (rw [hy211]; with_reducible exact H) | (have H2_ := (Option.bind_some _ _).symm.trans H; rw [hy211]; with_reducible exact H2_) | (have H2_ := (Option.bind_some _ _).symm.trans H; with_reducible exact H2_) | with_reducible exact H | (rw [hy211]; exact H) | exact H
         have Ny211 := am_ hy211
         clear hy211
         obtain ⟨y213, hy213⟩ : ∃ y_ : List (S99), y_ = (y211.set (x19_1 : Int).toNat (⟨(rd_T99 y211 x19_1).f0, (rd_T99 y211 x19_1).f1, (((rd_T99 y211 x19_1).f1).size : Int)⟩ : S99)) := ⟨_, rfl⟩
         replace H : (impl_LoseDisk.l0 k1 l1 (t198.length : Int) (wrap64 (x19_1 + 1)) y213) = some (r1, r2) := by first | (rw [hy213]; with_reducible exact H) | (have H2_ := (Option.bind_some _ _).symm.trans H; rw [hy213]; with_reducible exact H2_) | (have H2_ := (Option.bind_some _ _).symm.trans H; with_reducible exact H2_) | with_reducible exact H | (rw [hy213]; exact H) | exact H
         have Ny213 := am_ hy213
         clear hy213; have H' := am_ H; clear H; obtain ⟨hnb44, hnc44⟩ := nn_ NB201_195; obtain ⟨hnb45, hnc45⟩ := nn_ NB201_196
         obtain ⟨hcz46_0, hfz46_0⟩ := bc1_ BK201
         have p21 : 0 ≤ (x19_1 : Int) := of_decide_eq_true qa_
         have q21 : (x19_1 : Int) < ((x202000_1.length : Int) : Int) := of_decide_eq_true qa_
         obtain ⟨go21, co21, eo21, gb21, gl21, cl21, HG21⟩ := Kd.R_form HO_202000.out (by omega)
         (first | cases eo21 | (injection eo21 with ea_ en_ ec_; (first | subst ea_ | (injection ea_ with ea_; subst ea_)); subst ec_; clear en_))
         have GB21 := am_ gb21
         have GG21 := am_ HG21
         clear gb21 gl21 HG21
         obtain ⟨ce21, hcl21, hM21, hcc21, hfr21⟩ := Kd.R_elem HO_202000.out z99 (x19_1 : Int) p21 q21
         obtain rfl := k99_openM hM21
         have hx21_0 : wr.cell? ⟨go21, (x19_1 : Int).toNat * 3, none⟩ = some (.string ((rd_T99 x202000_1 x19_1).f0)) := hcc21 0 _ rfl
         have hx21_1 : wr.cell? ⟨go21, (x19_1 : Int).toNat * 3 + 1, none⟩ = some (.string ((rd_T99 x202000_1 x19_1).f1)) := hcc21 1 _ rfl
         have hx21_2 : wr.cell? ⟨go21, (x19_1 : Int).toNat * 3 + 2, none⟩ = some (.int .i64 ((rd_T99 x202000_1 x19_1).f2)) := hcc21 2 _ rfl
         have hf21_0 : wr.frozen? ⟨go21, (x19_1 : Int).toNat * 3, none⟩ = false := hfr21 0
         have hf21_1 : wr.frozen? ⟨go21, (x19_1 : Int).toNat * 3 + 1, none⟩ = false := hfr21 1
         have hf21_2 : wr.frozen? ⟨go21, (x19_1 : Int).toNat * 3 + 2, none⟩ = false := hfr21 2
         (try clear hcl21); (try clear hcc21); (try clear hfr21); (try clear hM21); replace p21 := eq_true p21; replace q21 := eq_true q21
         try go_wp2
         replace HO_202000 := am_ (Kd.R_drew HO_202000.out); replace BK195 := am_ (blk_drew BK195.out); replace BK196 := am_ (blk_drew BK196.out); replace BK201 := am_ (blk_drew BK201.out); replace HB := am_ (below_drew1 HB.out)
         have p209 : 0 ≤ (x19_1 : Int) := of_decide_eq_true qa_
         have q209 : x19_1 < (x202000_1.length : Int) := of_decide_eq_true qa_
         obtain ⟨ad209, e209, hx209_0, hx209_1, hx209_2⟩ := at_T99 (Kd.R_reads' HO_202000.out).2.2 x19_1 p209 q209
         obtain rfl : (⟨go21, 0, none⟩ : Addr) = ad209 := (by injection e209)
         (first | simp only [add_plain] at hx209_0 | simp only [add_at] at hx209_0 | simp only [Addr.add, Nat.zero_add] at hx209_0 | skip)
         (first | simp only [add_plain] at hx209_1 | simp only [add_at] at hx209_1 | simp only [Addr.add, Nat.zero_add] at hx209_1 | skip)
         (first | simp only [add_plain] at hx209_2 | simp only [add_at] at hx209_2 | simp only [Addr.add, Nat.zero_add] at hx209_2 | skip)
         (try simp only [add_plain] at *)
         replace p209 := eq_true p209; replace q209 := eq_true q209
         have p210 : 0 ≤ (x19_1 : Int) := of_decide_eq_true qa_
         have q210 : x19_1 < (x202000_1.length : Int) := of_decide_eq_true qa_
         obtain ⟨ad210, e210, hx210_0, hx210_1, hx210_2⟩ := at_T99 (Kd.R_reads' HO_202000.out).2.2 x19_1 p210 q210
         obtain rfl : (⟨go21, 0, none⟩ : Addr) = ad210 := (by injection e210)
         (first | simp only [add_plain] at hx210_0 | simp only [add_at] at hx210_0 | simp only [Addr.add, Nat.zero_add] at hx210_0 | skip)
         (first | simp only [add_plain] at hx210_1 | simp only [add_at] at hx210_1 | simp only [Addr.add, Nat.zero_add] at hx210_1 | skip)
         (first | simp only [add_plain] at hx210_2 | simp only [add_at] at hx210_2 | simp only [Addr.add, Nat.zero_add] at hx210_2 | skip)
         (try simp only [add_plain] at *)
         replace p210 := eq_true p210; replace q210 := eq_true q210
         have p42 : 0 ≤ (x19_1 : Int) := of_decide_eq_true qa_
         have q42 : (x19_1 : Int) < ((x202000_1.length : Int) : Int) := of_decide_eq_true qa_
         obtain ⟨ce42, hcl42, hM42, hcc42, hfr42⟩ := Kd.R_elem HO_202000.out z99 (x19_1 : Int) p42 q42
         obtain rfl := k99_openM hM42
         have hx42_0 : World.cell? _ ⟨go21, (x19_1 : Int).toNat * 3, none⟩ = some (.string ((rd_T99 x202000_1 x19_1).f0)) := hcc42 0 _ rfl
         have hx42_1 : World.cell? _ ⟨go21, (x19_1 : Int).toNat * 3 + 1, none⟩ = some (.string ((rd_T99 x202000_1 x19_1).f1)) := hcc42 1 _ rfl
         have hx42_2 : World.cell? _ ⟨go21, (x19_1 : Int).toNat * 3 + 2, none⟩ = some (.int .i64 ((rd_T99 x202000_1 x19_1).f2)) := hcc42 2 _ rfl
         have hf42_0 : World.frozen? _ ⟨go21, (x19_1 : Int).toNat * 3, none⟩ = false := hfr42 0
         have hf42_1 : World.frozen? _ ⟨go21, (x19_1 : Int).toNat * 3 + 1, none⟩ = false := hfr42 1
         have hf42_2 : World.frozen? _ ⟨go21, (x19_1 : Int).toNat * 3 + 2, none⟩ = false := hfr42 2
         (try clear hcl42); (try clear hcc42); (try clear hfr42); (try clear hM42); replace p42 := eq_true p42; replace q42 := eq_true q42
         obtain ⟨ce48, hcl48, hM48, hcc48, hfr48⟩ := Kd.R_elem HO_202000.out z99 (x19_1 : Int) (of_decide_eq_true qa_) (by have h_ : (x19_1 : Int) < ((x202000_1.length : Int) : Int) := of_decide_eq_true qa_; first | exact h_ | (have e_ := (Kd.R_reads' HO_202000.out).1; omega) | simpa using h_)
         obtain rfl := k99_openM hM48
         have HP48 := (Kd.R_seg HO_202000.out (x19_1 : Int) (of_decide_eq_true qa_) (by have h_ : (x19_1 : Int) < ((x202000_1.length : Int) : Int) := of_decide_eq_true qa_; first | exact h_ | (have e_ := (Kd.R_reads' HO_202000.out).1; omega) | simpa using h_) (seg := [.string (((rd_T99 x202000_1 x19_1).f1).extract 0 ((ji39) : Int).toNat)]) (j := 1) hcl48 hcc48 (show 2 ≤ 3 from by decide) (x' := (⟨(rd_T99 x202000_1 x19_1).f0, ((rd_T99 x202000_1 x19_1).f1).extract 0 ((ji39) : Int).toNat, (rd_T99 x202000_1 x19_1).f2⟩ : S99)) (k99_mkM _ _ _ (⟨(rd_T99 x202000_1 x19_1).f0, ((rd_T99 x202000_1 x19_1).f1).extract 0 ((ji39) : Int).toNat, (rd_T99 x202000_1 x19_1).f2⟩ : S99) ) (fun _ hk => hk)).1
         rw [← Ny211.out] at HP48
         have HQ48 := am_ HP48
         (try clear hcl48); (try clear hcc48); (try clear hfr48); (try clear hM48); (try clear HP48)
         refine start_ (n := 15) (S := fun w' => w'.cell? ⟨go21, (x19_1).toNat * 3, none⟩ = some (.string ((rd_T99 x202000_1 x19_1).f0)) ∧ w'.cell? ⟨go21, (x19_1).toNat * 3 + 1, none⟩ = some (.string ((rd_T99 x202000_1 x19_1).f1)) ∧ w'.cell? ⟨go21, (x19_1).toNat * 3 + 2, none⟩ = some (.int .i64 ((rd_T99 x202000_1 x19_1).f2)) ∧ w'.cell? ⟨go21, (x19_1).toNat * 3, none⟩ = some (.string ((rd_T99 x202000_1 x19_1).f0)) ∧ w'.cell? ⟨go21, (x19_1).toNat * 3 + 1, none⟩ = some (.string ((rd_T99 x202000_1 x19_1).f1)) ∧ w'.cell? ⟨go21, (x19_1).toNat * 3 + 2, none⟩ = some (.int .i64 ((rd_T99 x202000_1 x19_1).f2))) (ds := [14]) (bm 15 0) (by kernel_rfl) rfl (by kernel_rfl) ⟨hx209_0, hx209_1, hx209_2, hx210_0, hx210_1, hx210_2⟩ (fun hHeld => ?_); refine with_tabW impl_LoseDisk.tab11 impl_LoseDisk.bits11 (fun HT_ HW_ => ?_)
         generalize wr.drew = w47 at HO_202000 BK195 BK196 BK201 HB HQ48 hf42_0 hf42_1 hf42_2 hx209_0 hx209_1 hx209_2 hx210_0 hx210_1 hx210_2 hx42_0 hx42_1 hx42_2 hHeld ⊢
         refine pz_ 0 41 (bm 15 1) ?_; refine pz_ 1 42 (bm 15 3) ?_; refine pz_ 2 43 (bm 15 7) ?_; refine pz_ 3 44 (bm 15 15) ?_; refine pz_ 5 46 (bm 15 47) ?_; refine pz_ 6 47 (bm 15 111) ?_; refine pz_ 7 48 (bm 15 239) ?_; refine pz_ 8 49 (bm 15 495) ?_; refine tz6_ 4 45 (bm 15 511) ?_; refine tz6_ 9 50 (bm 15 1023) ?_; refine pz_ 10 51 (bm 15 2047) ?_; refine pz_ 11 52 (bm 15 4095) ?_; refine pz_ 12 53 (bm 15 8191) ?_; refine pz_ 13 54 (bm 15 16383) ?_
         refine last_ (i := 14) (N := none) (bm 15 32767) rfl rfl (one_of HT_.out (by kernel_rfl)) (by decide) (fun K hK => ?_)
         refine skip_ (w1 := ?_) (by rfl) rfl ?_ ?_
         rotate_left
         ·go_simp
          rfl
         refine hK.out _ _ ?_
         clear hK K
         refine done_ (done_of HT_.out (by kernel_rfl)) ?_
         have n0_ : Aside0 (Kd.R k99 99 (w47.setCell ⟨go21, (x19_1 : Int).toNat * 3 + 1, none⟩ (.string (((rd_T99 x202000_1 x19_1).f1).extract 0 ((ji39) : Int).toNat))) w.heap.size (fun _ => True) (.slice (some ⟨go21, 0, none⟩) x202000_1.length co21) y211) := ⟨qR_ HQ48⟩
         have n1_ : Aside0 ((w47.setCell ⟨go21, (x19_1 : Int).toNat * 3 + 1, none⟩ (.string (((rd_T99 x202000_1 x19_1).f1).extract 0 ((ji39) : Int).toNat))).heap[gb195]? = some (.cells #[.slice A0_0 l0_0.length c0_0] 44 (0, 0))) := ⟨by (with_reducible repeat (first | refine blk_drewN ?_ _ | refine blk_drew ?_ | refine blk_alloc ?_ _)); refine blk_far ?_ (by have h_ := Kd.R_ne HO_202000.out BK195.out (by decide); intro e_; exact h_ (by rw [e_]; rfl)) _; exact qf_ BK195⟩
         have n2_ : Aside0 ((w47.setCell ⟨go21, (x19_1 : Int).toNat * 3 + 1, none⟩ (.string (((rd_T99 x202000_1 x19_1).f1).extract 0 ((ji39) : Int).toNat))).heap[gb196]? = some (.cells #[.slice none 0 0] 44 (0, 0))) := ⟨by (with_reducible repeat (first | refine blk_drewN ?_ _ | refine blk_drew ?_ | refine blk_alloc ?_ _)); refine blk_far ?_ (by have h_ := Kd.R_ne HO_202000.out BK196.out (by decide); intro e_; exact h_ (by rw [e_]; rfl)) _; exact qf_ BK196⟩
         have n3_ : Aside0 ((w47.setCell ⟨go21, (x19_1 : Int).toNat * 3 + 1, none⟩ (.string (((rd_T99 x202000_1 x19_1).f1).extract 0 ((ji39) : Int).toNat))).heap[gb201]? = some (.cells #[.slice (some ⟨go21, 0, none⟩) x202000_1.length co21] 44 (0, 0))) := ⟨by (with_reducible repeat (first | refine blk_drewN ?_ _ | refine blk_drew ?_ | refine blk_alloc ?_ _)); refine blk_far ?_ (by have h_ := Kd.R_ne HO_202000.out BK201.out (by decide); intro e_; exact h_ (by rw [e_]; rfl)) _; exact qf_ BK201⟩
         have n4_ : Aside0 (Below w.heap.size w (w47.setCell ⟨go21, (x19_1 : Int).toNat * 3 + 1, none⟩ (.string (((rd_T99 x202000_1 x19_1).f1).extract 0 ((ji39) : Int).toNat)))) := ⟨qB_⟩
         (try clear HO_202000); (try clear BK195); (try clear BK196); (try clear BK201); (try clear HB)
         generalize (w47.setCell ⟨go21, (x19_1 : Int).toNat * 3 + 1, none⟩ (.string (((rd_T99 x202000_1 x19_1).f1).extract 0 ((ji39) : Int).toNat))) = w49 at n0_ n1_ n2_ n3_ n4_ ⊢
         have HO_202000 := n0_; have BK195 := n1_; have BK196 := n2_; have BK201 := n3_; have HB := n4_; clear n0_ n1_ n2_ n3_ n4_
         have p212 : 0 ≤ (x19_1 : Int) := of_decide_eq_true qa_
         have q212 : x19_1 < (y211.length : Int) := (by have h_ : (x19_1 : Int) < ((x202000_1.length : Int) : Int) := of_decide_eq_true qa_; first | (have e_ := (Kd.R_reads' HO_202000.out).1; omega) | simpa only [Ny211.out, List.length_set] using h_)
         have ql212 : ((x19_1 : Int) < ((x202000_1.length : Int) : Int)) = True := eq_true (of_decide_eq_true qa_)
         obtain ⟨ad212, e212, hx212_0, hx212_1, hx212_2⟩ := at_T99 (Kd.R_reads' HO_202000.out).2.2 x19_1 p212 q212
         obtain rfl : (⟨go21, 0, none⟩ : Addr) = ad212 := (by injection e212)
         (first | simp only [add_plain] at hx212_0 | simp only [add_at] at hx212_0 | simp only [Addr.add, Nat.zero_add] at hx212_0 | skip)
         (first | simp only [add_plain] at hx212_1 | simp only [add_at] at hx212_1 | simp only [Addr.add, Nat.zero_add] at hx212_1 | skip)
         (first | simp only [add_plain] at hx212_2 | simp only [add_at] at hx212_2 | simp only [Addr.add, Nat.zero_add] at hx212_2 | skip)
         (try simp only [add_plain] at *)
         replace p212 := eq_true p212; replace q212 := eq_true q212
         have p43 : 0 ≤ (x19_1 : Int) := of_decide_eq_true qa_
         have q43 : (x19_1 : Int) < ((x202000_1.length : Int) : Int) := of_decide_eq_true qa_
         obtain ⟨ce43, hcl43, hM43, hcc43, hfr43⟩ := Kd.R_elem HO_202000.out z99 (x19_1 : Int) p43 q43
         obtain rfl := k99_openM hM43
         have hx43_0 : w49.cell? ⟨go21, (x19_1 : Int).toNat * 3, none⟩ = some (.string ((rd_T99 y211 x19_1).f0)) := hcc43 0 _ rfl
         have hx43_1 : w49.cell? ⟨go21, (x19_1 : Int).toNat * 3 + 1, none⟩ = some (.string ((rd_T99 y211 x19_1).f1)) := hcc43 1 _ rfl
         have hx43_2 : w49.cell? ⟨go21, (x19_1 : Int).toNat * 3 + 2, none⟩ = some (.int .i64 ((rd_T99 y211 x19_1).f2)) := hcc43 2 _ rfl
         have hf43_0 : w49.frozen? ⟨go21, (x19_1 : Int).toNat * 3, none⟩ = false := hfr43 0
         have hf43_1 : w49.frozen? ⟨go21, (x19_1 : Int).toNat * 3 + 1, none⟩ = false := hfr43 1
         have hf43_2 : w49.frozen? ⟨go21, (x19_1 : Int).toNat * 3 + 2, none⟩ = false := hfr43 2
         (try clear hcl43); (try clear hcc43); (try clear hfr43); (try clear hM43); replace p43 := eq_true p43; replace q43 := eq_true q43
         have HX50 := am_ (show Kd.R k99 99 w49 w.heap.size (fun _ => True) (.slice (some ⟨go21, 0, none⟩) x202000_1.length co21) y211 from (qR_ HO_202000))
         obtain ⟨ce50, hcl50, hM50, hcc50, hfr50⟩ := Kd.R_elem HX50.out z99 (x19_1 : Int) (of_decide_eq_true qa_) (by have h_ : (x19_1 : Int) < ((x202000_1.length : Int) : Int) := of_decide_eq_true qa_; first | exact h_ | (have e_ := (Kd.R_reads' HO_202000.out).1; omega) | simpa using h_)
         obtain rfl := k99_openM hM50
         have HP50 := Kd.R_seg HX50.out (x19_1 : Int) (of_decide_eq_true qa_) (by have h_ : (x19_1 : Int) < ((x202000_1.length : Int) : Int) := of_decide_eq_true qa_; first | exact h_ | (have e_ := (Kd.R_reads' HO_202000.out).1; omega) | simpa using h_) (seg := [.int .i64 (((rd_T99 y211 x19_1).f1).size : Int)]) (j := 2) hcl50 hcc50 (show 3 ≤ 3 from by decide) (x' := (⟨(rd_T99 y211 x19_1).f0, (rd_T99 y211 x19_1).f1, (((rd_T99 y211 x19_1).f1).size : Int)⟩ : S99)) (k99_mkM _ _ _ (⟨(rd_T99 y211 x19_1).f0, (rd_T99 y211 x19_1).f1, (((rd_T99 y211 x19_1).f1).size : Int)⟩ : S99) ) (fun _ hk => hk)
         have hx50_2 := hcc50 2 _ rfl
         (try simp only [show (k99).sz = 3 from rfl, Nat.mul_one, Nat.add_zero] at hx50_2)
         have hf50_2 := hfr50 2
         (try simp only [show (k99).sz = 3 from rfl, Nat.mul_one, Nat.add_zero] at hf50_2)
         (try clear hcl50); (try clear hcc50); (try clear hfr50); (try clear hM50)
         try go_wp2_with (first | ((with_reducible refine gate_store (t := 3) (p := 62) rfl ?_); refine store_event (t := 3) (p := 62) (v := ?vo_w51) (w1 := (w49.setCell ⟨go21, (x19_1 : Int).toNat * 3 + 2, none⟩ (.int .i64 (((rd_T99 y211 x19_1).f1).size : Int)))) ?hg ?ho ?hn ?hr ?_; (case ho => rfl); (case hg => rfl); (case hn => rfl); (case hr => first | (go_simp; done) | (go_simp; rfl)); intro w51 hw; have hg : w49.grownBy w51 (some go21) := (by rw [hw]; exact HP50.2); have hp_ : Kd.R k99 99 w51 w.heap.size (fun _ => True) (.slice (some ⟨go21, 0, none⟩) x202000_1.length co21) y213 := (by rw [hw, Ny213.out]; exact HP50.1); clear HP50; have n0_ := am_ (hp_); have n1_ := am_ (blk_grown (qk_ BK195) hg (Kd.R_ne HO_202000.out BK195.out (by decide))); have n2_ := am_ (blk_grown (qk_ BK196) hg (Kd.R_ne HO_202000.out BK196.out (by decide))); have n3_ := am_ (blk_grown (qk_ BK201) hg (Kd.R_ne HO_202000.out BK201.out (by decide))); have n4_ := am_ ((by rw [hw]; exact below_set (HB.out) GB21.out : Below w.heap.size w w51)); clear HO_202000; clear BK195; clear BK196; clear BK201; clear HB; have HO_202000 := n0_; have BK195 := n1_; have BK196 := n2_; have BK201 := n3_; have HB := n4_; clear n0_ n1_ n2_ n3_ n4_; clear hg hw hp_))
         go_roundg k1
         case measure => have := HK1.out; omega
         case rel => exact ⟨(wrap64 (x19_1 + 1)), (y213), (.slice (some ⟨go21, 0, none⟩) x202000_1.length co21), qe_, H', ⟨by have := HK1.out; omega⟩, ⟨by (with_reducible repeat (first | apply Kd.R_alloc | apply Kd.R_drewN | apply Kd.R_drew)); first | exact HO_202000.out | (have h_ := HO_202000.out; simp only [own_slice] at h_ ⊢; exact h_)⟩, ⟨qk_ BK195⟩, ⟨qk_ BK196⟩, ⟨qk_ BK201⟩, ⟨qB_⟩⟩
        rw [if_neg c41] at H
        exact absurd H (by simp)
       rw [if_neg c40] at H
       exact absurd H (by simp)
      rw [if_neg c20] at H
      exact absurd H (by simp)
     rw [if_neg c19] at H
     exact absurd H (by simp)
    rw [if_neg c18] at H
    have c18b0 : decide (x19_1 < (t198.length : Int)) = false := decide_eq_false c18
    clear c18
    simp only [Option.some.injEq, Prod.mk.injEq] at H
    obtain ⟨rfl, rfl⟩ := H
    obtain ⟨hnb52, hnc52⟩ := nn_ NB201_195; obtain ⟨hnb53, hnc53⟩ := nn_ NB201_196
    obtain ⟨hcz54_0, hfz54_0⟩ := bc1_ BK201
    obtain ⟨Ao55, co55, eo55⟩ := Kd.R_slice HO_202000.out
    subst eo55; obtain ⟨hnb56, hnc56⟩ := nn_ NB196_195
    obtain ⟨hcz57_0, hfz57_0⟩ := bc1_ BK196
    go_wp2
    refine bodyPost_ret (results_ct rfl _ _ gb196 44 #[.slice Ao55 x202000_1.length co55] (0, 0) _ rfl (by (with_reducible repeat (first | refine blk_drewN ?_ _ | refine blk_drew ?_ | refine blk_alloc ?_ _)); refine blk_put (cs := #[.slice none 0 0]) ?_ 0 _ rfl; exact qf_ BK196) Try.underlying44 rfl (by kernel_rfl)) rfl ?_
    exact ⟨_, qr_, by (with_reducible repeat (first | apply Kd.R_alloc | apply Kd.R_drewN | apply Kd.R_drew)); exact Kd.R_mono (Kd.R_far (p := ⟨gb196, 0, none⟩) (Kd.R_types HO_202000.out BK196.out (by decide)) (fun _ hk => hk.2) (.slice Ao55 x202000_1.length co55)) (fun _ hk => trivial), qB_⟩
 replace c4 := Bool.eq_false_iff.mpr c4
 subst c4
 rw [if_neg (show ¬ (false = true) by decide)] at H
 simp only [Option.some.injEq, Prod.mk.injEq] at H
 obtain ⟨rfl, rfl⟩ := H
 go_enter Try.func27, Try.ntmps27
 go_wp2_with (first | ((with_reducible refine gate_dst (N := 2) rfl ?_); refine bx_ 2 (cs := #[.slice A0_0 l0_0.length c0_0]) (t := 44) ?_; intro gb195 hg w58 hbox hb; have BK195 := am_ (hbox); have GW195 := am_ ((qs_ : w.heap.size ≤ gb195)); have GE195 := GW195; replace HB := hs_ hb; clear hb hbox hg) | ((with_reducible refine gate_dst (N := 4) rfl ?_); refine bx_ 4 (cs := #[.slice none 0 0]) (t := 44) ?_; intro gb196 hg w59 hbox hb; have BK196 := am_ (hbox); have GW196 := am_ ((qs_ : w.heap.size ≤ gb196)); have GE196 := GW196; obtain ⟨NB195_196, NB196_195⟩ := qn_ BK195 hg; replace BK195 := qbl_ BK195 hb; replace HB := hs_ hb; clear hb hbox hg; obtain ⟨hnb60, hnc60⟩ := nn_ NB195_196; obtain ⟨hcz61_0, hfz61_0⟩ := bc1_ BK195) | ((with_reducible refine gate_callee (f := 77) rfl ?_); refine gl_ (some 11) Try.func77 #[.agg #[.slice A0_0 l0_0.length c0_0]] ?_; (with_reducible refine (impl_DiskOk.calls k _ _ l0_0 false _ ?side1 ?side2 A3.out).mono ?_); (case side1 => exact qC_ HR0_0 HB); (case side2 => exact HC0_0.out); rintro e w62 ⟨rfl, hb⟩; refine ⟨_, rfl, ?_⟩; replace BK195 := qbl_ BK195 hb; replace BK196 := qbl_ BK196 hb; replace HB := hs_ hb; (try clear hb); (try clear hb2); (try clear hk); (try clear hi); obtain ⟨hcz63_0, hfz63_0⟩ := bc1_ BK196))
 refine bodyPost_ret (results_ct rfl _ _ gb196 44 #[.slice none 0 0] (0, 0) _ rfl (by (with_reducible repeat (first | refine blk_drewN ?_ _ | refine blk_drew ?_ | refine blk_alloc ?_ _)); refine blk_put (cs := #[.slice none 0 0]) ?_ 0 _ rfl; exact qf_ BK196) Try.underlying44 rfl (by kernel_rfl)) rfl ?_
 exact ⟨_, qr_, by first | exact Kd.R_nil _ _ _ _ _ | exact Kd.N_nil _ _ _ _ _ | exact Kd.V_nil _ _ _ _ _ | exact Kd.Q_nil _ _ _ _ _ | exact Kd.S_nil _ _ _ _ _, qB_⟩

end Go.Proofs.Ytacnlodcbbhahaa.QFnExactCutActs
