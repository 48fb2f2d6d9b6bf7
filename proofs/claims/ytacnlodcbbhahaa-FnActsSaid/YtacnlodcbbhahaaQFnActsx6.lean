import Derived.Test.YtacnlodcbbhahaaQFnActsx0
namespace Go.Proofs.Ytacnlodcbbhahaa.QFnActs
open Go.RowKit Go.Proofs.YtacnlodcbbhahaaW.PrintWords Go.Proofs.YtacnlodcbbhahaaW.PrintLast Go.Proofs.YtacnlodcbbhahaaW.PrintMore
set_option maxHeartbeats 8000000
set_option maxRecDepth 100000
set_option linter.unusedVariables false
set_option linter.unusedSimpArgs false
def impl_Disk_drop.f (l0_0 : List (S99)) (a1 : Int) : Option ((List (S99))) := if 0 ≤ a1 then (if a1 ≤ (l0_0.length : Int) then ((some (l0_0.take (a1 : Int).toNat : List (S99))).bind fun y290 => (if ([] : List (S99)).length + y290.length < 3518437208883 then ((some (([] : List (S99)) ++ y290 : List (S99))).bind fun y294 => (if 0 ≤ (wrap64 (a1 + 1)) then (if (wrap64 (a1 + 1)) ≤ (l0_0.length : Int) then ((some (l0_0.drop ((wrap64 (a1 + 1)) : Int).toNat : List (S99))).bind fun y297 => (if y294.length + y297.length < 3518437208883 then (some (y294 ++ y297)) else (none))) else (none)) else (none))) else (none))) else (none)) else (none)
def impl_Disk_drop.T0 : Bool × List (List Nat × List Nat) := (true, [([], []), ([], []), ([1], [1]), ([2], [2]), ([3], [3]), ([], []), ([4, 5], [4, 5]), ([6], [6]), ([], []), ([8], [8]), ([9], [9]), ([10], [10]), ([], []), ([12], [12]), ([11, 13], [11, 13]), ([7, 14, 7], [7, 14]), ([0, 0, 1, 2, 3, 4, 5, 6, 7, 8, 9, 10, 11, 12, 13, 14, 15], [0]), ([16, 0, 1, 2, 3, 4, 5, 6, 7, 8, 9, 10, 11, 12, 13, 14, 15], [16]), ([17, 15, 15, 0, 1, 2, 3, 4, 5, 6, 7, 8, 9, 10, 11, 12, 13, 14, 15], [15, 17])])
def impl_Disk_drop.B0 : List Nat := [0, 0, 2, 6, 14, 0, 62, 126, 0, 256, 768, 1792, 0, 4096, 16128, 32766, 65535, 131071, 262143]
theorem impl_Disk_drop.tab0 : rtab .any (opsOf Try.f88 0) = impl_Disk_drop.T0 := by kernel_rfl
theorem impl_Disk_drop.bits0 : waitsOk impl_Disk_drop.T0.2 impl_Disk_drop.B0 = true := by kernel_rfl
theorem impl_Disk_drop.calls (g : Option Addr) (d : Nat) (a : List (S99)) (D : Int) (r : List (S99)) (M : Nat) (w : World) (hblk : w.heap[M]? = some (.cells #[.slice g a.length d] 44 (0, 0))) (hr0_0 : Kd.C k99 w g a.length a) (hc0_0 : a.length ≤ d) (h : impl_Disk_drop.f a D = some r) :
  Calls Try.prog 88 #[.pointer (some ⟨M, 0, none⟩), .int .i64 D] w fun e w' => ∃ (E : World) (O : Value), e = .returned (.tuple #[]) ∧ Kd.R k99 99 E w.heap.size (fun _ => True) O r ∧ Below w.heap.size w E ∧ w' = E.setCell ⟨M, 0, none⟩ O := by
 have hu44 := Try.underlying44
 have p := am_ hr0_0
 have q := am_ hc0_0
 clear hr0_0 hc0_0
 have HB := am_ (Below.refl w.heap.size w)
 have o := am_ hblk
 clear hblk
 rw [impl_Disk_drop.f] at h; have H := h; clear h
 refine jg_ H ?_; clear H; intro a0 H
 have b3 := eq_true a0
 have b4 := decide_eq_true a0
 clear a0
 refine jg_ H ?_; clear H; intro a1 H
 have b5 := eq_true a1
 have b6 := decide_eq_true a1
 clear a1
 generalize s : (a.take (D : Int).toNat) = Z at H; replace H := bh_ H; have t := am_ s.symm; clear s
 refine jg_ H ?_; clear H; intro b7 H
 have T := am_ b7
 clear b7
 generalize u : (([] : List (S99)) ++ Z) = b8 at H; replace H := bh_ H; have F := am_ u.symm; clear u
 obtain ⟨j, x⟩ : ∃ j_ : Int, (wrap64 (D + 1)) = j_ := ⟨_, rfl⟩
 first | rw [x] at H | simp only [x] at H
 have hji6w : (IntKind.i64.wrap (D + 1)) = j := (i64_w _).trans x
 refine jg_ H ?_; clear H; intro a2 H
 have b9 := eq_true a2
 have c0 := decide_eq_true a2
 clear a2
 refine jg_ H ?_; clear H; intro a3 H
 have c1 := eq_true a3
 have c2 := decide_eq_true a3
 clear a3
 generalize y : (a.drop ((j) : Int).toNat) = G at H; replace H := bh_ H; have z := am_ y.symm; clear y
 refine jg_ H ?_; clear H; intro c3 H
 have U := am_ c3
 clear c3
 generalize A : (b8 ++ G) = d4 at H; replace H := bh_ H; have I := am_ A.symm; clear A
 obtain rfl := oi_ H
 go_enter Try.func88, Try.ntmps88
 replace o := bd_ o; replace HB := hd_ HB
 have J : (D : Int) ≤ ((a.length : Int) : Int) := of_decide_eq_true qa_
 obtain ⟨i012, hi012, _, hsz12, _⟩ := info_parts info99
 have hroom12 : a.length ≤ d := q.out
 have hC12 : Kd.C k99 _ g a.length a := p.out
 have hcut12 := cut_to (P := Try.prog) 42 99 .i64 Try.underlying42 hi012 g a.length d D (of_decide_eq_true qa_) J hroom12
 have hr12 := Kd.C_take (m := (D : Int).toNat) hC12 (by omega)
 have B : Z.length = (D : Int).toNat := (by rw [t.out, List.length_take]; omega)
 rw [← t.out] at hr12
 rw [← B] at hcut12
 have c4 := am_ hr12
 have d5 := am_ (show Z.length ≤ d from by omega)
 clear hr12 hC12 hroom12 hi012 hsz12
 have KY12 := am_ B
 clear B; replace J := eq_true J
 have L : ((j) : Int) ≤ ((a.length : Int) : Int) := of_decide_eq_true qa_
 obtain ⟨i013, hi013, _, hsz13, _⟩ := info_parts info99
 have hroom13 : a.length ≤ d := q.out
 have hC13 : Kd.C k99 _ g a.length a := p.out
 have V : (0 : Int) ≤ ((j) : Int) := of_decide_eq_true qa_
 have hcut13 := cut_from (P := Try.prog) 42 99 .i64 Try.underlying42 hi013 3 hsz13 g a.length d (j) V L
 have hr13 := Kd.C_drop (m := ((j) : Int).toNat) (c := d) hC13 (by omega) hroom13
 obtain ⟨a4, hA13⟩ : ∃ c8, c8 = (if d = ((j) : Int).toNat then g else (g : Option Addr).map (·.add (((j) : Int).toNat * 3))) := ⟨_, rfl⟩
 obtain ⟨a5, hc13⟩ : ∃ c9, c9 = d - ((j) : Int).toNat := ⟨_, rfl⟩
 have l : G.length = a.length - ((j) : Int).toNat := (by rw [z.out, List.length_drop] <;> omega)
 rw [show (a).drop ((j) : Int).toNat = G from z.out.symm] at hr13
 replace hr13 : Kd.C k99 _ a4 G.length G := (by rw [hA13]; exact hr13)
 rw [← l, ← hA13, ← hc13] at hcut13
 have c5 := am_ hr13
 have d6 := am_ (show G.length ≤ a5 from by rw [l, hc13]; exact Nat.sub_le_sub_right hroom13 _)
 clear hr13 hC13 hroom13 hi013 hsz13 hc13
 have KY13 := am_ l
 have KA13 := am_ hA13
 clear l hA13; replace L := eq_true L
 refine start_ (n := 19) (S := fun w' => w'.cell? ⟨M, 0, none⟩ = some (.slice g a.length d)) (ds := [18]) (bm 19 0) (by kernel_rfl) rfl (by kernel_rfl) (bl_ o 0) (fun hHeld => ?_); refine with_tabW impl_Disk_drop.tab0 impl_Disk_drop.bits0 (fun HT_ HW_ => ?_)
 generalize w.drew = d0 at o HB c4 c5 hHeld ⊢
 refine pz_ 0 4 19 1 ?_; refine pz_ 1 5 19 3 ?_; refine pz_ 2 6 19 7 ?_; refine pz_ 3 7 19 15 ?_; refine pz_ 5 9 19 47 ?_; refine pz_ 8 12 19 303 ?_; refine pz_ 9 13 19 815 ?_; refine pz_ 10 14 19 1839 ?_; refine pz_ 12 16 19 5935 ?_; refine pz_ 13 17 19 14127 ?_
 refine take_ (i := 4) (N := some 8) (v := ?_) (a' := ?_) (bm 19 14143) rfl rfl (take_ofW HT_.out HW_.out (by kernel_rfl)) (fun _ _ _ h => h) (Or.inl ⟨by rfl, ?_⟩) hHeld ?_ ?_
 rotate_left
 ·intro w' d1
  go_simp
  with_reducible rfl
 rotate_left
 ·simp only [Act.put, sA_, sB_, sC_, i64_w, i32_w]
  rfl
 refine pz_ 6 10 19 14207 ?_
 refine take_ (i := 11) (N := some 15) (v := ?_) (a' := ?_) (bm 19 16255) rfl rfl (take_ofW HT_.out HW_.out (by kernel_rfl)) (fun _ _ _ h => h) (Or.inl ⟨by rfl, ?_⟩) hHeld ?_ ?_
 rotate_left
 ·intro w' d1
  go_simp
  with_reducible rfl
 rotate_left
 ·simp only [Act.put, sA_, sB_, sC_, i64_w, i32_w]
  rfl
 refine pz_ 14 18 19 32639 ?_
 refine o1_ 7 (some 11) 19 32767 (fun K hK => ?_)
 refine Kd.R_append_rows_step k99 (w0 := w) w.heap.size rfl (.const (.slice none 0 0)) (.tmp 10) 42 99 (.agg #[(.string ⟨#[]⟩), (.string ⟨#[]⟩), (.int .i64 0)]) 40 rfl Try.underlying42 info99 rfl (by decide) (by omega) (.slice none 0 0) ([] : List (S99)) Z _ _ _ (fun _ => True) (fun _ => False) rfl rfl ?aO ?aR (fun _ _ h => h) (fun _ h => h.elim) ?aF ?aB ?aS ?aL ?_
 (case aR => repeat (first | exact (Kd.C_below c4.out HB.out) | (with_reducible refine Kd.C_alloc ?_ _) | (with_reducible refine Kd.C_drewN ?_ _) | (with_reducible refine Kd.C_drew ?_)))
 (case aB => exact qB_)
 (case aF => exact (fun _ _ => trivial))
 (case aO => exact ((Kd.R_nil _ _ _ _ (fun _ => True))))
 (case aS => exact (below_size qB_))
 (case aL => have := T.out; omega)
 intro d2 d3 ho hb hg hat
 rw [← F.out] at ho
 have a6 := am_ (ho); replace o := am_ (blk_grown (qk_ o) hg (by simp [Value.ownBlock])); replace HB := am_ (hb); clear ho hb hg hat
 refine hK.out _ _ (bl_ o 0) (fun hHeld => ?_)
 clear hK K
 refine nm_ 11 ?_
 refine o1_ 15 (some 19) 19 65535 (fun K hK => ?_)
 refine Kd.R_append_rows_step k99 (w0 := w) w.heap.size (by rfl) (.tmp 11) (.tmp 18) 42 99 (.agg #[(.string ⟨#[]⟩), (.string ⟨#[]⟩), (.int .i64 0)]) 40 rfl Try.underlying42 info99 rfl (by decide) (by omega) d2 b8 G _ _ _ (fun _ => True) (fun _ => False) rfl rfl ?aO ?aR (fun _ _ h => h) (fun _ h => h.elim) ?aF ?aB ?aS ?aL ?_
 (case aR => repeat (first | exact (Kd.C_below c5.out HB.out) | (with_reducible refine Kd.C_alloc ?_ _) | (with_reducible refine Kd.C_drewN ?_ _) | (with_reducible refine Kd.C_drew ?_)))
 (case aB => exact qB_)
 (case aF => exact (fun _ _ => trivial))
 (case aO => exact (qR_ a6))
 (case aS => exact (below_size qB_))
 (case aL => have := U.out; omega)
 intro d7 a7 ho hb hg hat
 rw [← I.out] at ho
 have a8 := am_ (ho); replace o := am_ (blk_grown (qk_ o) hg (Kd.R_ne a6.out o.out (by decide))); replace HB := am_ (hb); clear a6 ho hb hg hat
 obtain ⟨d8, d9, c6⟩ := Kd.R_slice a8.out
 (first | subst c6 | (injection c6 with X a9 Y; have b0 := X.symm; have b1 := Y.symm; clear X a9 Y; subst b0; subst b1))
 refine hK.out _ _ (bl_ o 0) (fun hHeld => ?_)
 clear hK K
 refine nm_ 19 ?_
 refine pz_ 16 20 19 131071 ?_; refine pz_ 17 21 19 262143 ?_
 refine last_ (i := 18) (N := none) (bm 19 524287) rfl rfl (one_of HT_.out (by kernel_rfl)) (by decide) (fun K hK => ?_)
 have c7 : a7.cell? ⟨M, 0, none⟩ = some (.slice g a.length d) := bl_ o 0
 have b2 := blk_frozen o.out 0
 refine skip_ (w1 := ?_) (by rfl) rfl ?_ ?_
 rotate_left
 ·go_simp
  rfl
 refine hK.out _ _ ?_
 clear hK K
 refine done_ (done_of HT_.out (by kernel_rfl)) ?_
 try go_wp2
 first | refine bodyPost_end (results_none rfl _ _ _) rfl ?_ | refine bodyPost_ret (results_none rfl _ _ _) rfl ?_
 first | exact ⟨_, _, rfl, Kd.R_mono a8.out (fun _ _ => trivial), HB.out, rfl⟩ | exact ⟨rfl, _, _, Kd.R_mono a8.out (fun _ _ => trivial), HB.out, rfl⟩
end Go.Proofs.Ytacnlodcbbhahaa.QFnActs
