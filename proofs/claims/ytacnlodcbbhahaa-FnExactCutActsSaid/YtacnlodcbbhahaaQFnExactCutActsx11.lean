-- printed for this claim by a program of the session's own (no text of the kit's print)
import Derived.Test.YtacnlodcbbhahaaQFnExactCutActsx0
namespace Go.Proofs.Ytacnlodcbbhahaa.QFnExactCutActs
open Go.RowKit Go.Proofs.YtacnlodcbbhahaaW.PrintWords Go.Proofs.YtacnlodcbbhahaaW.PrintLast Go.Proofs.YtacnlodcbbhahaaW.PrintMore
attribute [local go_sem] max2_int min2_int max_two min_two max_three min_three max_four min_four   -- for this text's walks alone
set_option linter.unusedVariables false
set_option linter.unusedSimpArgs false

/-! ### impl_Disk_drop: function 88 -/
def impl_Disk_drop.f (l0_0 : List (S99)) (a1 : Int) : Option ((List (S99))) := if 0 ≤ a1 then (if a1 ≤ (l0_0.length : Int) then ((some (l0_0.take (a1 : Int).toNat : List (S99))).bind fun y290 => (if ([] : List (S99)).length + y290.length < 3518437208883 then ((some (([] : List (S99)) ++ y290 : List (S99))).bind fun y294 => (if 0 ≤ (wrap64 (a1 + 1)) then (if (wrap64 (a1 + 1)) ≤ (l0_0.length : Int) then ((some (l0_0.drop ((wrap64 (a1 + 1)) : Int).toNat : List (S99))).bind fun y297 => (if y294.length + y297.length < 3518437208883 then (some (y294 ++ y297)) else (none))) else (none)) else (none))) else (none))) else (none)) else (none)
def impl_Disk_drop.T0 : Bool × List (List Nat × List Nat) := (true, [([], []), ([], []), ([1], [1]), ([2], [2]), ([3], [3]), ([], []), ([4, 5], [4, 5]), ([6], [6]), ([], []), ([8], [8]), ([9], [9]), ([10], [10]), ([], []), ([12], [12]), ([11, 13], [11, 13]), ([7, 14, 7], [7, 14]), ([0, 0, 1, 2, 3, 4, 5, 6, 7, 8, 9, 10, 11, 12, 13, 14, 15], [0]), ([16, 0, 1, 2, 3, 4, 5, 6, 7, 8, 9, 10, 11, 12, 13, 14, 15], [16]), ([17, 15, 15, 0, 1, 2, 3, 4, 5, 6, 7, 8, 9, 10, 11, 12, 13, 14, 15], [15, 17])])
def impl_Disk_drop.B0 : List Nat := [0, 0, 2, 6, 14, 0, 62, 126, 0, 256, 768, 1792, 0, 4096, 16128, 32766, 65535, 131071, 262143]
theorem impl_Disk_drop.tab0 : rtab .any (opsOf Try.f88 0) = impl_Disk_drop.T0 := by kernel_rfl
theorem impl_Disk_drop.bits0 : waitsOk impl_Disk_drop.T0.2 impl_Disk_drop.B0 = true := by kernel_rfl
set_option maxHeartbeats 8000000 in
set_option maxRecDepth 100000 in
theorem impl_Disk_drop.calls (A0_0 : Option Addr) (c0_0 : Nat) (l0_0 : List (S99)) (a1 : Int) (r : List (S99)) (gb289 : Nat) (w : World) (hblk : w.heap[gb289]? = some (.cells #[.slice A0_0 l0_0.length c0_0] 44 (0, 0))) (hr0_0 : Kd.C k99 w A0_0 l0_0.length l0_0) (hc0_0 : l0_0.length ≤ c0_0) (h : impl_Disk_drop.f l0_0 a1 = some r) :
  Calls Try.prog 88 #[.pointer (some ⟨gb289, 0, none⟩), .int .i64 a1] w fun e w' => ∃ (w1_ : World) (v0_ : Value), e = .returned (.tuple #[]) ∧ Kd.R k99 99 w1_ w.heap.size (fun _ => True) v0_ r ∧ Below w.heap.size w w1_ ∧ w' = w1_.setCell ⟨gb289, 0, none⟩ v0_ := by
 have hu44 := Try.underlying44
 have HR0_0 := am_ hr0_0
 have HC0_0 := am_ hc0_0
 clear hr0_0 hc0_0
 have HB := am_ (Below.refl w.heap.size w)
 have BK289 := am_ hblk
 clear hblk
 have H : (if 0 ≤ a1 then (if a1 ≤ (l0_0.length : Int) then ((some (l0_0.take (a1 : Int).toNat : List (S99))).bind fun y290 => (if ([] : List (S99)).length + y290.length < 3518437208883 then ((some (([] : List (S99)) ++ y290 : List (S99))).bind fun y294 => (if 0 ≤ (wrap64 (a1 + 1)) then (if (wrap64 (a1 + 1)) ≤ (l0_0.length : Int) then ((some (l0_0.drop ((wrap64 (a1 + 1)) : Int).toNat : List (S99))).bind fun y297 => (if y294.length + y297.length < 3518437208883 then (some (y294 ++ y297)) else (none))) else (none)) else (none))) else (none))) else (none)) else (none)) = some r := h
 clear h
 by_cases c3 : 0 ≤ a1
 ·rw [if_pos c3] at H
  have c3b0 := eq_true c3
  have c3b1 : decide (0 ≤ a1) = true := decide_eq_true c3
  clear c3
  by_cases c4 : a1 ≤ (l0_0.length : Int)
  ·rw [if_pos c4] at H
   have c4b0 := eq_true c4
   have c4b1 : decide (a1 ≤ (l0_0.length : Int)) = true := decide_eq_true c4
   clear c4
   obtain ⟨y290, hy290⟩ : ∃ y_ : List (S99), y_ = (l0_0.take (a1 : Int).toNat) := ⟨_, rfl⟩
   replace H : (if ([] : List (S99)).length + y290.length < 3518437208883 then ((some (([] : List (S99)) ++ y290 : List (S99))).bind fun y294 => (if 0 ≤ (wrap64 (a1 + 1)) then (if (wrap64 (a1 + 1)) ≤ (l0_0.length : Int) then ((some (l0_0.drop ((wrap64 (a1 + 1)) : Int).toNat : List (S99))).bind fun y297 => (if y294.length + y297.length < 3518437208883 then (some (y294 ++ y297)) else (none))) else (none)) else (none))) else (none)) = some r := by first | (rw [hy290]; with_reducible exact H) | (have H2_ := (Option.bind_some _ _).symm.trans H; rw [hy290]; with_reducible exact H2_) | (have H2_ := (Option.bind_some _ _).symm.trans H; with_reducible exact H2_) | with_reducible exact H | (rw [hy290]; exact H) | exact H
   have Ny290 := am_ hy290
   clear hy290
   by_cases c5 : ([] : List (S99)).length + y290.length < 3518437208883
   ·rw [if_pos c5] at H
    have LMc5 := am_ c5
    clear c5
    obtain ⟨y294, hy294⟩ : ∃ y_ : List (S99), y_ = (([] : List (S99)) ++ y290) := ⟨_, rfl⟩
    replace H : (if 0 ≤ (wrap64 (a1 + 1)) then (if (wrap64 (a1 + 1)) ≤ (l0_0.length : Int) then ((some (l0_0.drop ((wrap64 (a1 + 1)) : Int).toNat : List (S99))).bind fun y297 => (if y294.length + y297.length < 3518437208883 then (some (y294 ++ y297)) else (none))) else (none)) else (none)) = some r := by first | (rw [hy294]; with_reducible exact H) | (have H2_ := (Option.bind_some _ _).symm.trans H; rw [hy294]; with_reducible exact H2_) | (have H2_ := (Option.bind_some _ _).symm.trans H; with_reducible exact H2_) | with_reducible exact H | (rw [hy294]; exact H) | exact H
    have Ny294 := am_ hy294
    clear hy294
    obtain ⟨ji6, hji6⟩ : ∃ j_ : Int, (wrap64 (a1 + 1)) = j_ := ⟨_, rfl⟩
    first | rw [hji6] at H | simp only [hji6] at H
    have hji6w : (IntKind.i64.wrap (a1 + 1)) = ji6 := (i64_w _).trans hji6
    by_cases c7 : 0 ≤ (ji6)
    ·rw [if_pos c7] at H
     have c7b0 := eq_true c7
     have c7b1 : decide (0 ≤ (ji6)) = true := decide_eq_true c7
     clear c7
     by_cases c8 : (ji6) ≤ (l0_0.length : Int)
     ·rw [if_pos c8] at H
      have c8b0 := eq_true c8
      have c8b1 : decide ((ji6) ≤ (l0_0.length : Int)) = true := decide_eq_true c8
      clear c8
      obtain ⟨y297, hy297⟩ : ∃ y_ : List (S99), y_ = (l0_0.drop ((ji6) : Int).toNat) := ⟨_, rfl⟩
      replace H : (if y294.length + y297.length < 3518437208883 then (some (y294 ++ y297)) else (none)) = some r := by first | (rw [hy297]; with_reducible exact H) | (have H2_ := (Option.bind_some _ _).symm.trans H; rw [hy297]; with_reducible exact H2_) | (have H2_ := (Option.bind_some _ _).symm.trans H; with_reducible exact H2_) | with_reducible exact H | (rw [hy297]; exact H) | exact H
      have Ny297 := am_ hy297
      clear hy297
      by_cases c9 : y294.length + y297.length < 3518437208883
      ·rw [if_pos c9] at H
       have LMc9 := am_ c9
       clear c9
       obtain ⟨y301, hy301⟩ : ∃ y_ : List (S99), y_ = (y294 ++ y297) := ⟨_, rfl⟩
       replace H : (some y301) = some r := by first | (rw [hy301]; with_reducible exact H) | (have H2_ := (Option.bind_some _ _).symm.trans H; rw [hy301]; with_reducible exact H2_) | (have H2_ := (Option.bind_some _ _).symm.trans H; with_reducible exact H2_) | with_reducible exact H | (rw [hy301]; exact H) | exact H
       have Ny301 := am_ hy301
       clear hy301
       obtain rfl := Option.some.inj H
       go_enter Try.func88, Try.ntmps88
       replace BK289 := am_ (blk_drew BK289.out); replace HB := am_ (below_drew1 HB.out)
       have q12 : (a1 : Int) ≤ ((l0_0.length : Int) : Int) := of_decide_eq_true qa_
       obtain ⟨i012, hi012, _, hsz12, _⟩ := info_parts info99
       have hroom12 : l0_0.length ≤ c0_0 := HC0_0.out
       have hC12 : Kd.C k99 _ A0_0 l0_0.length l0_0 := HR0_0.out
       have hcut12 := cut_to (P := Try.prog) 42 99 .i64 Try.underlying42 hi012 A0_0 l0_0.length c0_0 a1 (of_decide_eq_true qa_) q12 hroom12
       have hr12 := Kd.C_take (m := (a1 : Int).toNat) hC12 (by omega)
       have hy12 : y290.length = (a1 : Int).toNat := (by rw [Ny290.out, List.length_take]; omega)
       rw [← Ny290.out] at hr12
       rw [← hy12] at hcut12
       have HR293 := am_ hr12
       have HC293 := am_ (show y290.length ≤ c0_0 from by omega)
       clear hr12 hC12 hroom12 hi012 hsz12
       have KY12 := am_ hy12
       clear hy12; replace q12 := eq_true q12
       have q13 : ((ji6) : Int) ≤ ((l0_0.length : Int) : Int) := of_decide_eq_true qa_
       obtain ⟨i013, hi013, _, hsz13, _⟩ := info_parts info99
       have hroom13 : l0_0.length ≤ c0_0 := HC0_0.out
       have hC13 : Kd.C k99 _ A0_0 l0_0.length l0_0 := HR0_0.out
       have q013 : (0 : Int) ≤ ((ji6) : Int) := of_decide_eq_true qa_
       have hcut13 := cut_from (P := Try.prog) 42 99 .i64 Try.underlying42 hi013 3 hsz13 A0_0 l0_0.length c0_0 (ji6) q013 q13
       have hr13 := Kd.C_drop (m := ((ji6) : Int).toNat) (c := c0_0) hC13 (by omega) hroom13
       obtain ⟨A13, hA13⟩ : ∃ A1, A1 = (if c0_0 = ((ji6) : Int).toNat then A0_0 else (A0_0 : Option Addr).map (·.add (((ji6) : Int).toNat * 3))) := ⟨_, rfl⟩
       obtain ⟨c13, hc13⟩ : ∃ c1, c1 = c0_0 - ((ji6) : Int).toNat := ⟨_, rfl⟩
       have hy13 : y297.length = l0_0.length - ((ji6) : Int).toNat := (by rw [Ny297.out, List.length_drop] <;> omega)
       rw [show (l0_0).drop ((ji6) : Int).toNat = y297 from Ny297.out.symm] at hr13
       replace hr13 : Kd.C k99 _ A13 y297.length y297 := (by rw [hA13]; exact hr13)
       rw [← hy13, ← hA13, ← hc13] at hcut13
       have HR300 := am_ hr13
       have HC300 := am_ (show y297.length ≤ c13 from by rw [hy13, hc13]; exact Nat.sub_le_sub_right hroom13 _)
       clear hr13 hC13 hroom13 hi013 hsz13 hc13
       have KY13 := am_ hy13
       have KA13 := am_ hA13
       clear hy13 hA13; replace q13 := eq_true q13
       refine start_ (n := 19) (S := fun w' => w'.cell? ⟨gb289, 0, none⟩ = some (.slice A0_0 l0_0.length c0_0)) (ds := [18]) (bm 19 0) (by kernel_rfl) rfl (by kernel_rfl) (bl_ BK289 0) (fun hHeld => ?_); refine with_tabW impl_Disk_drop.tab0 impl_Disk_drop.bits0 (fun HT_ HW_ => ?_)
       generalize w.drew = w11 at BK289 HB HR293 HR300 hHeld ⊢
       refine pz_ 0 4 (bm 19 1) ?_; refine pz_ 1 5 (bm 19 3) ?_; refine pz_ 2 6 (bm 19 7) ?_; refine pz_ 3 7 (bm 19 15) ?_; refine pz_ 5 9 (bm 19 47) ?_; refine pz_ 8 12 (bm 19 303) ?_; refine pz_ 9 13 (bm 19 815) ?_; refine pz_ 10 14 (bm 19 1839) ?_; refine pz_ 12 16 (bm 19 5935) ?_; refine pz_ 13 17 (bm 19 14127) ?_
       refine take_ (i := 4) (N := some 8) (v := ?_) (a' := ?_) (bm 19 14143) rfl rfl (take_ofW HT_.out HW_.out (by kernel_rfl)) (fun _ _ _ h => h) (Or.inl ⟨by rfl, ?_⟩) hHeld ?_ ?_
       rotate_left
       ·intro w' s0
        go_simp
        with_reducible rfl
       rotate_left
       ·simp only [Act.put, sA_, sB_, sC_, i64_w, i32_w]
        rfl
       refine pz_ 6 10 (bm 19 14207) ?_
       refine take_ (i := 11) (N := some 15) (v := ?_) (a' := ?_) (bm 19 16255) rfl rfl (take_ofW HT_.out HW_.out (by kernel_rfl)) (fun _ _ _ h => h) (Or.inl ⟨by rfl, ?_⟩) hHeld ?_ ?_
       rotate_left
       ·intro w' s0
        go_simp
        with_reducible rfl
       rotate_left
       ·simp only [Act.put, sA_, sB_, sC_, i64_w, i32_w]
        rfl
       refine pz_ 14 18 (bm 19 32639) ?_
       refine o1_ 7 (some 11) (bm 19 32767) (fun K hK => ?_)
       refine Kd.R_append_rows_step k99 (w0 := w) w.heap.size rfl (.const (.slice none 0 0)) (.tmp 10) 42 99 (.agg #[(.string ⟨#[]⟩), (.string ⟨#[]⟩), (.int .i64 0)]) 40 rfl Try.underlying42 info99 rfl (by decide) (by omega) (.slice none 0 0) ([] : List (S99)) y290 _ _ _ (fun _ => True) (fun _ => False) rfl rfl ?aO ?aR (fun _ _ h => h) (fun _ h => h.elim) ?aF ?aB ?aS ?aL ?_
       (case aR => repeat (first | exact (Kd.C_below HR293.out HB.out) | (with_reducible refine Kd.C_alloc ?_ _) | (with_reducible refine Kd.C_drewN ?_ _) | (with_reducible refine Kd.C_drew ?_)))
       (case aB => exact qB_)
       (case aF => exact (fun _ _ => trivial))
       (case aO => exact ((Kd.R_nil _ _ _ _ (fun _ => True))))
       (case aS => exact (below_size qB_))
       (case aL => have := LMc5.out; omega)
       intro v295 w14 ho hb hg hat
       rw [← Ny294.out] at ho
       have HO296 := am_ (ho); replace BK289 := am_ (blk_grown (qk_ BK289) hg (by simp [Value.ownBlock])); replace HB := am_ (hb); clear ho hb hg hat
       refine hK.out _ _ (bl_ BK289 0) (fun hHeld => ?_)
       clear hK K
       refine nm_ 11 ?_
       refine o1_ 15 (some 19) (bm 19 65535) (fun K hK => ?_)
       refine Kd.R_append_rows_step k99 (w0 := w) w.heap.size (by rfl) (.tmp 11) (.tmp 18) 42 99 (.agg #[(.string ⟨#[]⟩), (.string ⟨#[]⟩), (.int .i64 0)]) 40 rfl Try.underlying42 info99 rfl (by decide) (by omega) v295 y294 y297 _ _ _ (fun _ => True) (fun _ => False) rfl rfl ?aO ?aR (fun _ _ h => h) (fun _ h => h.elim) ?aF ?aB ?aS ?aL ?_
       (case aR => repeat (first | exact (Kd.C_below HR300.out HB.out) | (with_reducible refine Kd.C_alloc ?_ _) | (with_reducible refine Kd.C_drewN ?_ _) | (with_reducible refine Kd.C_drew ?_)))
       (case aB => exact qB_)
       (case aF => exact (fun _ _ => trivial))
       (case aO => exact (qR_ HO296))
       (case aS => exact (below_size qB_))
       (case aL => have := LMc9.out; omega)
       intro v302 w15 ho hb hg hat
       rw [← Ny301.out] at ho
       have HO303 := am_ (ho); replace BK289 := am_ (blk_grown (qk_ BK289) hg (Kd.R_ne HO296.out BK289.out (by decide))); replace HB := am_ (hb); clear HO296; clear ho hb hg hat
       obtain ⟨Ao16, co16, eo16⟩ := Kd.R_slice HO303.out
       (first | subst eo16 | (injection eo16 with f1_ f2_ f3_; have f4_ := f1_.symm; have f5_ := f3_.symm; clear f1_ f2_ f3_; subst f4_; subst f5_))
       refine hK.out _ _ (bl_ BK289 0) (fun hHeld => ?_)
       clear hK K
       refine nm_ 19 ?_
       refine pz_ 16 20 (bm 19 131071) ?_; refine pz_ 17 21 (bm 19 262143) ?_
       refine last_ (i := 18) (N := none) (bm 19 524287) rfl rfl (one_of HT_.out (by kernel_rfl)) (by decide) (fun K hK => ?_)
       have hs17 : w15.cell? ⟨gb289, 0, none⟩ = some (.slice A0_0 l0_0.length c0_0) := bl_ BK289 0
       have hfs17 := blk_frozen BK289.out 0
       refine skip_ (w1 := ?_) (by rfl) rfl ?_ ?_
       rotate_left
       ·go_simp
        rfl
       refine hK.out _ _ ?_
       clear hK K
       refine done_ (done_of HT_.out (by kernel_rfl)) ?_
       try go_wp2
       (try simp only [Exit.inBlock, Exit.then])
       first | refine bodyPost_end (results_none rfl _ _ _) rfl ?_ | refine bodyPost_ret (results_none rfl _ _ _) rfl ?_
       first | exact ⟨_, _, rfl, Kd.R_mono HO303.out (fun _ _ => trivial), HB.out, rfl⟩ | exact ⟨rfl, _, _, Kd.R_mono HO303.out (fun _ _ => trivial), HB.out, rfl⟩
      rw [if_neg c9] at H
      exact absurd H (by simp)
     rw [if_neg c8] at H
     exact absurd H (by simp)
    rw [if_neg c7] at H
    exact absurd H (by simp)
   rw [if_neg c5] at H
   exact absurd H (by simp)
  rw [if_neg c4] at H
  exact absurd H (by simp)
 rw [if_neg c3] at H
 exact absurd H (by simp)



end Go.Proofs.Ytacnlodcbbhahaa.QFnExactCutActs
