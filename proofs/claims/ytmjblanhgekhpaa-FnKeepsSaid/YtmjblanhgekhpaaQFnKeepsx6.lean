-- printed for this claim by a program of the session's own (no text of the kit's print)
import Derived.Test.YtmjblanhgekhpaaQFnKeepsx0
import Derived.Test.YtmjblanhgekhpaaQFnKeepsx2
import Derived.Test.YtmjblanhgekhpaaQFnKeepsx4
import Derived.Test.YtmjblanhgekhpaaQFnKeepsx5
namespace Go.Proofs.Ytmjblanhgekhpaa.QFnKeeps
open Go.RowKit Go.Proofs.YtmjblanhgekhpaaW.PrintWords Go.Proofs.YtmjblanhgekhpaaW.PrintLast Go.Proofs.YtmjblanhgekhpaaW.PrintMore
attribute [local go_sem] max2_int min2_int max_two min_two max_three min_three max_four min_four   -- for this text's walks alone
set_option linter.unusedVariables false
set_option linter.unusedSimpArgs false

/-! ### spec_l01Pick: function 112 -/
def spec_l01Pick.f (s0_0 : List Int) (s0_1 : Int) (s0_2 : Int) (l1 : List ByteArray) : Option (ByteArray × Int × Int) := (spec_l01Below.f s0_0 s0_1 s0_2 (l1.length : Int)).bind fun bt172 => (if 0 ≤ bt172.1 then (if bt172.1 < (l1.length : Int) then (some (rdOf ByteArray.empty l1 bt172.1, bt172.2.1, bt172.2.2)) else (none)) else (none))
set_option maxHeartbeats 8000000 in
set_option maxRecDepth 100000 in
theorem spec_l01Pick.calls (g : Nat) (s0_0 : List Int) (s0_1 : Int) (s0_2 : Int) (A1 : Option Addr) (c1 : Nat) (l1 : List ByteArray) (r1 : ByteArray) (r2 : Int) (r3 : Int) (w0 w : World) (hI : IsS126 w0 w g s0_0 s0_1 s0_2) (hB : Below w0.heap.size w0 w) (hr1 : Kd.C Kd.string w A1 l1.length l1) (hc1 : l1.length ≤ c1) (hf1 : ∀ ad, A1 = some ad → 0 < l1.length → ad.block ≠ g) (h : spec_l01Pick.f s0_0 s0_1 s0_2 l1 = some (r1, r2, r3)) :
  Calls Try.prog 112 #[.pointer (some ⟨g, 0, none⟩), .slice A1 l1.length c1] w fun e w' => e = .returned (.string r1) ∧ IsS126 w0 w' g s0_0 r2 r3 ∧ Below w0.heap.size w0 w' ∧ KeepBut w w' g none := by
 have HR1 := Aside0.mk hr1
 have HC1 := Aside0.mk hc1
 clear hr1 hc1
 have HI0 := Aside0.mk hI
 have HK := Aside0.mk (KeepBut.refl w g none)
 have HL := Aside0.mk hB.size
 clear hI
 have HW0 := Aside0.mk hB.size
 have HB := Aside0.mk hB
 clear hB
 have H : ((spec_l01Below.f s0_0 s0_1 s0_2 (l1.length : Int)).bind fun bt172 => (if 0 ≤ bt172.1 then (if bt172.1 < (l1.length : Int) then (some (rdOf ByteArray.empty l1 bt172.1, bt172.2.1, bt172.2.2)) else (none)) else (none))) = some (r1, r2, r3) := h
 clear h
 replace H := Option.bind_eq_some_iff.mp H
 obtain ⟨⟨t172, t173, t174⟩, A30, H⟩ := H
 replace H : (if 0 ≤ t172 then (if t172 < (l1.length : Int) then (some (rdOf ByteArray.empty l1 t172, t173, t174)) else (none)) else (none)) = some (r1, r2, r3) := H
 have A3 := Aside0.mk A30
 clear A30
 by_cases c4 : 0 ≤ t172
 ·rw [if_pos c4] at H
  have c4b0 : decide (0 ≤ t172) = true := decide_eq_true c4
  clear c4
  by_cases c5 : t172 < (l1.length : Int)
  ·rw [if_pos c5] at H
   have c5b0 : decide (t172 < (l1.length : Int)) = true := decide_eq_true c5
   clear c5
   simp only [Option.some.injEq, Prod.mk.injEq] at H
   obtain ⟨rfl, rfl, rfl⟩ := H
   go_enter Try.func112, Try.ntmps112
   go_wp2_with (first | ((with_reducible refine gate_callee (f := 80) rfl ?_); refine gl_ (some 9) Try.func80 #[.pointer (some ⟨g, 0, none⟩), .int .i64 (l1.length : Int)] ?_; (with_reducible refine (spec_l01Below.calls g s0_0 s0_1 s0_2 (l1.length : Int) t172 t173 t174 w0 _ ?side1 ?side2 A3.out).mono ?_); (case side1 => repeat (first | (with_reducible first | exact HI0.out | apply IsS126.alloc | apply IsS126.drewN | apply IsS126.drew | apply IsS126.set_1 | apply IsS126.set_2) | exact HI0.out)); (case side2 => repeat (first | (with_reducible first | exact HB.out | apply below_alloc | apply pw_below_drewN | apply below_drew1 | refine below_set ?_ (IsS126.ge HI0.out)) | exact HB.out)); rintro e w6 ⟨rfl, hi, hb, hk⟩; refine ⟨_, rfl, ?_⟩; replace HI0 := Aside0.mk (hi); replace HK := Aside0.mk (KeepBut.trans (by repeat (first | (with_reducible first | exact HK.out | apply KeepBut.set_ | apply keep_drewN | apply keep_drew | apply keep_alloc) | exact HK.out)) hk (.inl rfl)); replace HB := Aside0.mk (hb); (try clear hb); (try clear hb2); (try clear hk); (try clear hi); have p175 : 0 ≤ (t172 : Int) := of_decide_eq_true qa_; have q175 : t172 < (l1.length : Int) := of_decide_eq_true qa_; obtain ⟨ad175, e175, hx175_0⟩ := Kd.at_string HR1.out t172 p175 q175; cases e175; replace hx175_0 := keep_cell HK.out hx175_0 (by first | (rw [add_block]; exact hf1 _ rfl (by omega)) | exact hf1 _ rfl (by omega) | exact hf1 ad175 rfl (by omega)); replace p175 := eq_true p175; replace q175 := eq_true q175))
   go_ret
   exact ⟨qr_, by repeat (first | (with_reducible first | exact HI0.out | apply IsS126.alloc | apply IsS126.drewN | apply IsS126.drew | apply IsS126.set_1 | apply IsS126.set_2) | exact HI0.out), by repeat (first | (with_reducible first | exact HB.out | apply below_alloc | apply pw_below_drewN | apply below_drew1 | refine below_set ?_ (IsS126.ge HI0.out)) | exact HB.out), by repeat (first | (with_reducible first | exact HK.out | apply KeepBut.set_ | apply keep_drewN | apply keep_drew | apply keep_alloc) | exact HK.out)⟩
  ·rw [if_neg c5] at H
   exact absurd H (by simp)
 ·rw [if_neg c4] at H
  exact absurd H (by simp)

/-! ### spec_l03Named: function 97 -/
def spec_l03Named.f (s0_0 : List Int) (s0_1 : Int) (s0_2 : Int) : Option (ByteArray × Int × Int) := (spec_l01Pick.f s0_0 s0_1 s0_2 (([(⟨#[97]⟩ : ByteArray), (⟨#[98]⟩ : ByteArray), (⟨#[99]⟩ : ByteArray), (⟨#[108, 111, 103]⟩ : ByteArray), (⟨#[108, 111, 103, 43]⟩ : ByteArray), (⟨#[120]⟩ : ByteArray), (⟨#[121]⟩ : ByteArray), (⟨#[122]⟩ : ByteArray)] : List ByteArray))).bind fun bt179 => (some (bt179.1, bt179.2.1, bt179.2.2))
set_option maxHeartbeats 8000000 in
set_option maxRecDepth 100000 in
theorem spec_l03Named.calls (g : Nat) (s0_0 : List Int) (s0_1 : Int) (s0_2 : Int) (r1 : ByteArray) (r2 : Int) (r3 : Int) (w0 w : World) (hI : IsS126 w0 w g s0_0 s0_1 s0_2) (hB : Below w0.heap.size w0 w) (h : spec_l03Named.f s0_0 s0_1 s0_2 = some (r1, r2, r3)) :
  Calls Try.prog 97 #[.pointer (some ⟨g, 0, none⟩)] w fun e w' => e = .returned (.string r1) ∧ IsS126 w0 w' g s0_0 r2 r3 ∧ Below w0.heap.size w0 w' ∧ KeepBut w w' g none := by
 have HI0 := Aside0.mk hI
 have HK := Aside0.mk (KeepBut.refl w g none)
 have HL := Aside0.mk hB.size
 clear hI
 have HW0 := Aside0.mk hB.size
 have HB := Aside0.mk hB
 clear hB
 have H : ((spec_l01Pick.f s0_0 s0_1 s0_2 (([(⟨#[97]⟩ : ByteArray), (⟨#[98]⟩ : ByteArray), (⟨#[99]⟩ : ByteArray), (⟨#[108, 111, 103]⟩ : ByteArray), (⟨#[108, 111, 103, 43]⟩ : ByteArray), (⟨#[120]⟩ : ByteArray), (⟨#[121]⟩ : ByteArray), (⟨#[122]⟩ : ByteArray)] : List ByteArray))).bind fun bt179 => (some (bt179.1, bt179.2.1, bt179.2.2))) = some (r1, r2, r3) := h
 clear h
 obtain ⟨y176, hy176⟩ : ∃ y_ : List ByteArray, y_ = (([(⟨#[97]⟩ : ByteArray), (⟨#[98]⟩ : ByteArray), (⟨#[99]⟩ : ByteArray), (⟨#[108, 111, 103]⟩ : ByteArray), (⟨#[108, 111, 103, 43]⟩ : ByteArray), (⟨#[120]⟩ : ByteArray), (⟨#[121]⟩ : ByteArray), (⟨#[122]⟩ : ByteArray)] : List ByteArray)) := ⟨_, rfl⟩
 replace H : ((spec_l01Pick.f s0_0 s0_1 s0_2 y176).bind fun bt179 => (some (bt179.1, bt179.2.1, bt179.2.2))) = some (r1, r2, r3) := by first | (rw [hy176]; with_reducible exact H) | (have H2_ := (Option.bind_some _ _).symm.trans H; rw [hy176]; with_reducible exact H2_) | (have H2_ := (Option.bind_some _ _).symm.trans H; with_reducible exact H2_) | with_reducible exact H | (rw [hy176]; exact H) | exact H
 have Ny176 := Aside0.mk hy176
 clear hy176
 replace H := Option.bind_eq_some_iff.mp H
 obtain ⟨⟨t179, t180, t181⟩, A20, H⟩ := H
 replace H : (some (t179, t180, t181)) = some (r1, r2, r3) := H
 have A2 := Aside0.mk A20
 clear A20
 simp only [Option.some.injEq, Prod.mk.injEq] at H
 obtain ⟨rfl, rfl, rfl⟩ := H
 go_enter Try.func97, Try.ntmps97
 go_wp2_with (first | ((with_reducible refine gate_dst (N := 4) rfl ?_); refine Kd.R_lit Kd.string _ 9 ?hg (N := 4) ?hd (xs := ([(⟨#[97]⟩ : ByteArray), (⟨#[98]⟩ : ByteArray), (⟨#[99]⟩ : ByteArray), (⟨#[108, 111, 103]⟩ : ByteArray), (⟨#[108, 111, 103, 43]⟩ : ByteArray), (⟨#[120]⟩ : ByteArray), (⟨#[121]⟩ : ByteArray), (⟨#[122]⟩ : ByteArray)] : List ByteArray)) (inner := [.string (⟨#[97]⟩ : ByteArray), .string (⟨#[98]⟩ : ByteArray), .string (⟨#[99]⟩ : ByteArray), .string (⟨#[108, 111, 103]⟩ : ByteArray), .string (⟨#[108, 111, 103, 43]⟩ : ByteArray), .string (⟨#[120]⟩ : ByteArray), .string (⟨#[121]⟩ : ByteArray), .string (⟨#[122]⟩ : ByteArray)]) (ok := fun _ => True) (okp := fun _ => True) ?hr ?hp (fun _ hk => hk) trivial (Below.refl _ _) (Nat.le_refl _) (by simp) ?_; (case hd => rfl); (case hg => rfl); (case hr => first | (go_simp; done) | (go_simp; rfl)); (case hp => exact (Reps.one (show Kd.M Kd.string _ _ _ (⟨#[97]⟩ : ByteArray) [.string (⟨#[97]⟩ : ByteArray)] from rfl) (Reps.one (show Kd.M Kd.string _ _ _ (⟨#[98]⟩ : ByteArray) [.string (⟨#[98]⟩ : ByteArray)] from rfl) (Reps.one (show Kd.M Kd.string _ _ _ (⟨#[99]⟩ : ByteArray) [.string (⟨#[99]⟩ : ByteArray)] from rfl) (Reps.one (show Kd.M Kd.string _ _ _ (⟨#[108, 111, 103]⟩ : ByteArray) [.string (⟨#[108, 111, 103]⟩ : ByteArray)] from rfl) (Reps.one (show Kd.M Kd.string _ _ _ (⟨#[108, 111, 103, 43]⟩ : ByteArray) [.string (⟨#[108, 111, 103, 43]⟩ : ByteArray)] from rfl) (Reps.one (show Kd.M Kd.string _ _ _ (⟨#[120]⟩ : ByteArray) [.string (⟨#[120]⟩ : ByteArray)] from rfl) (Reps.one (show Kd.M Kd.string _ _ _ (⟨#[121]⟩ : ByteArray) [.string (⟨#[121]⟩ : ByteArray)] from rfl) (Reps.one (show Kd.M Kd.string _ _ _ (⟨#[122]⟩ : ByteArray) [.string (⟨#[122]⟩ : ByteArray)] from rfl) (Reps.none _ _)))))))))); intro v177 w3 ho4 hb hg_ hnew_; clear hg_ hnew_; (first | rw [← Ny176.out] at ho4 | (simp only [Int.reduceToNat] at ho4; rw [← Ny176.out] at ho4)); have n0_ := Aside0.mk (Kd.R_lower ho4 (keep_size (w := w) (g := g) (row := none) (by repeat (first | (with_reducible first | exact HK.out | apply KeepBut.set_ | apply keep_drewN | apply keep_drew | apply keep_alloc) | exact HK.out)))); have n1_ := Aside0.mk (IsS126.below (by repeat (first | (with_reducible first | exact HI0.out | apply IsS126.alloc | apply IsS126.drewN | apply IsS126.drew | apply IsS126.set_1 | apply IsS126.set_2) | exact HI0.out)) hb); have n2_ := Aside0.mk (KeepBut.trans (by repeat (first | (with_reducible first | exact HK.out | apply KeepBut.set_ | apply keep_drewN | apply keep_drew | apply keep_alloc) | exact HK.out)) (KeepBut.of_below hb g none) (.inl rfl)); have n3_ := Aside0.mk (below_step (by repeat (first | (with_reducible first | exact HB.out | apply below_alloc | apply pw_below_drewN | apply below_drew1 | refine below_set ?_ (IsS126.ge HI0.out)) | exact HB.out)) hb); clear HI0; clear HK; clear HB; have HO178 := n0_; have HI0 := n1_; have HK := n2_; have HB := n3_; clear n0_ n1_ n2_ n3_; clear hb ho4; obtain ⟨Ao5, co5, eo5⟩ := Kd.R_slice HO178.out; subst eo5) | ((with_reducible refine gate_callee (f := 112) rfl ?_); refine gl_ (some 5) Try.func112 #[.pointer (some ⟨g, 0, none⟩), .slice Ao5 y176.length co5] ?_; (with_reducible refine (spec_l01Pick.calls g s0_0 s0_1 s0_2 _ _ y176 t179 t180 t181 w0 _ ?side1 ?side2 ?side3 ?side4 ?side5 A2.out).mono ?_); (case side1 => repeat (first | (with_reducible first | exact HI0.out | apply IsS126.alloc | apply IsS126.drewN | apply IsS126.drew | apply IsS126.set_1 | apply IsS126.set_2) | exact HI0.out)); (case side2 => repeat (first | (with_reducible first | exact HB.out | apply below_alloc | apply pw_below_drewN | apply below_drew1 | refine below_set ?_ (IsS126.ge HI0.out)) | exact HB.out)); (case side3 => exact qD_ (Kd.R_reads' HO178.out).2.2); (case side4 => exact (Kd.R_reads' HO178.out).2.1); (case side5 => exact far_slice (IsS126.own_ne HI0.out HO178.out (by decide))); rintro e w6 ⟨rfl, hi, hb, hk⟩; refine ⟨_, rfl, ?_⟩; replace HO178 := Aside0.mk (Kd.R_mono (Kd.R_keep (IsS126.apart (show IsS126 w0 _ g s0_0 s0_1 s0_2 from by repeat (first | (with_reducible first | exact HI0.out | apply IsS126.alloc | apply IsS126.drewN | apply IsS126.drew | apply IsS126.set_1 | apply IsS126.set_2) | exact HI0.out)) (qR_ HO178) (by decide)) hk (fun _ h => h.2)) (fun _ h => h.1)); replace HI0 := Aside0.mk (hi); replace HK := Aside0.mk (KeepBut.trans (by repeat (first | (with_reducible first | exact HK.out | apply KeepBut.set_ | apply keep_drewN | apply keep_drew | apply keep_alloc) | exact HK.out)) hk (.inl rfl)); replace HB := Aside0.mk (hb); (try clear hb); (try clear hb2); (try clear hk); (try clear hi)))
 go_ret
 exact ⟨qr_, by repeat (first | (with_reducible first | exact HI0.out | apply IsS126.alloc | apply IsS126.drewN | apply IsS126.drew | apply IsS126.set_1 | apply IsS126.set_2) | exact HI0.out), by repeat (first | (with_reducible first | exact HB.out | apply below_alloc | apply pw_below_drewN | apply below_drew1 | refine below_set ?_ (IsS126.ge HI0.out)) | exact HB.out), by repeat (first | (with_reducible first | exact HK.out | apply KeepBut.set_ | apply keep_drewN | apply keep_drew | apply keep_alloc) | exact HK.out)⟩

/-! ### spec_DrawRightDisk: function 60 -/
def spec_DrawRightDisk.l0 : Nat → Int → List Int → Int → Int → List (S94) → Option ((List (S94)))
  | 0, _, _, _, _, _ => none
  | k + 1, x5, x187000, x187001, x187002, x188000 => (spec_l01Below.f x187000 x187001 x187002 6).bind fun bt188 => (if x5 < bt188.1 then ((spec_l01Below.f x187000 bt188.2.1 bt188.2.2 30).bind fun bt191 => ((spec_l01Text.f k x187000 bt191.2.1 bt191.2.2 bt191.1).bind fun bt194 => ((spec_l03Named.f x187000 bt194.2.1 bt194.2.2).bind fun bt197 => ((spec_l01Below.f x187000 bt197.2.1 bt197.2.2 (wrap64 ((bt194.1.size : Int) + 1))).bind fun bt200 => ((spec_l03Put.f k x188000 bt197.1 bt194.1 bt200.1).bind fun t203 => (spec_DrawRightDisk.l0 k (wrap64 (x5 + 1)) x187000 bt200.2.1 bt200.2.2 t203)))))) else (some x188000))
def spec_DrawRightDisk.f (k : Nat) (l0 : List Int) : Option ((List (S94))) := (spec_l01New.f k l0).bind fun bt183 => (spec_DrawRightDisk.l0 k 0 bt183.1 bt183.2.1 bt183.2.2 ([] : List (S94)))
theorem spec_DrawRightDisk.mono_l : ∀ k, (∀ y0 y1 y2 y3 y4, LeO (spec_DrawRightDisk.l0 k y0 y1 y2 y3 y4) (spec_DrawRightDisk.l0 (k + 1) y0 y1 y2 y3 y4))
  | 0 => fun _ _ _ _ _ r h => by simp [spec_DrawRightDisk.l0] at h
  | k + 1 => by
    have ih0 := spec_DrawRightDisk.mono_l k
    · intro y0 y1 y2 y3 y4
      unfold spec_DrawRightDisk.l0
      repeat' first
      | (with_reducible exact ih0 _ _ _ _ _)
      | (with_reducible exact spec_l01New.mono _ _)
      | (with_reducible exact spec_l01Text.mono _ _ _ _ _)
      | (with_reducible exact spec_l03Put.mono _ _ _ _ _)
      | (with_reducible exact LeO.refl _)
      | (with_reducible exact LeO.none _)
      | (with_reducible refine LeO.ite ?_ ?_)
      | (with_reducible refine LeO.bind ?_ (fun _ => ?_))
      | exact ih0 _ _ _ _ _
      | exact spec_l01New.mono _ _
      | exact spec_l01Text.mono _ _ _ _ _
      | exact spec_l03Put.mono _ _ _ _ _
      | exact LeO.none _
      | refine LeO.ite ?_ ?_
      | refine LeO.bind ?_ (fun _ => ?_)
theorem spec_DrawRightDisk.mono : ∀ a0 k, LeO (spec_DrawRightDisk.f k a0) (spec_DrawRightDisk.f (k + 1) a0) := by
  intro a0 k
  have ih0 := spec_DrawRightDisk.mono_l k
  unfold spec_DrawRightDisk.f
  repeat' first
      | (with_reducible exact ih0 _ _ _ _ _)
      | (with_reducible exact spec_l01New.mono _ _)
      | (with_reducible exact spec_l01Text.mono _ _ _ _ _)
      | (with_reducible exact spec_l03Put.mono _ _ _ _ _)
      | (with_reducible exact LeO.refl _)
      | (with_reducible exact LeO.none _)
      | (with_reducible refine LeO.ite ?_ ?_)
      | (with_reducible refine LeO.bind ?_ (fun _ => ?_))
      | exact ih0 _ _ _ _ _
      | exact spec_l01New.mono _ _
      | exact spec_l01Text.mono _ _ _ _ _
      | exact spec_l03Put.mono _ _ _ _ _
      | exact LeO.none _
      | refine LeO.ite ?_ ?_
      | refine LeO.bind ?_ (fun _ => ?_)
def spec_DrawRightDisk.T7 : Bool × List (List Nat × List Nat) := (true, [([], []), ([], []), ([1], [1]), ([], []), ([], []), ([], []), ([5], [5]), ([6], [6]), ([4, 7, 2], [4, 7]), ([2, 3, 8], [2, 3, 8]), ([0, 9, 8], [0, 9]), ([10, 10, 0, 1, 2, 3, 4, 5, 6, 7, 8, 9, 10], [10])])
def spec_DrawRightDisk.B7 : List Nat := [0, 0, 2, 0, 0, 0, 32, 96, 246, 510, 1023, 2047]
theorem spec_DrawRightDisk.tab7 : rtab .any (opsOf Try.f60 7) = spec_DrawRightDisk.T7 := by kernel_rfl
theorem spec_DrawRightDisk.bits7 : waitsOk spec_DrawRightDisk.T7.2 spec_DrawRightDisk.B7 = true := by kernel_rfl
set_option maxHeartbeats 8000000 in
set_option maxRecDepth 100000 in
theorem spec_DrawRightDisk.calls (k : Nat) (A0 : Option Addr) (c0 : Nat) (l0 : List Int) (r : List (S94)) (w : World) (hr0 : Kd.C (Kd.int .u8) w A0 l0.length l0) (hc0 : l0.length ≤ c0) (h : spec_DrawRightDisk.f k l0 = some r) :
  Calls Try.prog 60 #[.slice A0 l0.length c0] w fun e w' => ∃ v0_ : Value, e = .returned (.agg #[v0_]) ∧ Kd.R k94 94 w' w.heap.size (fun _ => True) v0_ r ∧ Below w.heap.size w w' := by
 have hu75 := Try.underlying75; have hu94 := Try.underlying94
 have HR0 := Aside0.mk hr0
 have HC0 := Aside0.mk hc0
 clear hr0 hc0
 have HB := Aside0.mk (Below.refl w.heap.size w)
 have H : ((spec_l01New.f k l0).bind fun bt183 => (spec_DrawRightDisk.l0 k 0 bt183.1 bt183.2.1 bt183.2.2 ([] : List (S94)))) = some r := h
 clear h
 replace H := Option.bind_eq_some_iff.mp H
 obtain ⟨⟨t183, t184, t185⟩, A20, H⟩ := H
 replace H : (spec_DrawRightDisk.l0 k 0 t183 t184 t185 ([] : List (S94))) = some r := H
 have A2 := Aside0.mk A20
 clear A20; have H' := Aside0.mk H; clear H
 go_enter Try.func60, Try.ntmps60
 go_wp2_with (first | ((with_reducible refine gate_dst (N := 2) rfl ?_); refine bx_ 2 (cs := #[.slice none 0 0]) (t := 75) ?_; intro gb182 hg w3 hbox hb; have BK182 := Aside0.mk (hbox); have GW182 := Aside0.mk ((qs_ : w.heap.size ≤ gb182)); have GE182 := Aside0.mk ((qs_ : w.heap.size ≤ gb182)); replace HB := Aside0.mk (below_step qB_ hb); clear hb hbox hg) | ((with_reducible refine gate_callee (f := 78) rfl ?_); refine gl_ (some 8) Try.func78 #[.slice A0 l0.length c0] ?_; (with_reducible refine (spec_l01New.calls k _ _ l0 t183 t184 t185 w _ ?side1 ?side2 ?side3 A2.out).mono ?_); (case side1 => repeat (first | (with_reducible first | exact HB.out | apply below_alloc | apply pw_below_drewN | apply below_drew1 | refine below_set ?_ GE182.out) | exact HB.out)); (case side2 => exact HR0.out); (case side3 => exact HC0.out); rintro e w4 ⟨g186, rfl, hi, hb, hb2⟩; refine ⟨_, rfl, ?_⟩; have HI186 := Aside0.mk (hi); have NB186_182 := Aside0.mk (IsS126.ne_blk hi (blk_below (qk_ BK182) hb2) (by decide)); have NB182_186 := Aside0.mk (Ne.symm (IsS126.ne_blk hi (blk_below (qk_ BK182) hb2) (by decide))); replace BK182 := Aside0.mk (blk_below (qk_ BK182) hb2); replace HB := Aside0.mk (hb); (try clear hb); (try clear hb2); (try clear hk); (try clear hi)) | ((with_reducible refine gate_dst (N := 4) rfl ?_); refine bx_ 4 (cs := #[.slice none 0 0]) (t := 75) ?_; intro gb187 hg w5 hbox hb; have n0_ := Aside0.mk (blk_below (qk_ BK182) hb); have n1_ := Aside0.mk (IsS126.below (by repeat (first | (with_reducible first | exact HI186.out | apply IsS126.alloc | apply IsS126.drewN | apply IsS126.drew | apply IsS126.set_1 | apply IsS126.set_2 | refine IsS126.far ?_ NB186_182.out _) | exact HI186.out)) hb); have n2_ := Aside0.mk (below_step (by repeat (first | (with_reducible first | exact HB.out | apply below_alloc | apply pw_below_drewN | apply below_drew1 | refine below_set ?_ (IsS126.ge HI186.out) | refine below_set ?_ GE182.out) | exact HB.out)) hb); have n3_ := Aside0.mk (hbox); have n4_ := Aside0.mk ((by rw [hg]; exact (below_size (by repeat (first | (with_reducible first | exact HB.out | apply below_alloc | apply pw_below_drewN | apply below_drew1 | refine below_set ?_ (IsS126.ge HI186.out) | refine below_set ?_ GE182.out) | exact HB.out))) : w.heap.size ≤ gb187)); have n5_ := Aside0.mk ((by rw [hg]; exact (below_size (by repeat (first | (with_reducible first | exact HB.out | apply below_alloc | apply pw_below_drewN | apply below_drew1 | refine below_set ?_ (IsS126.ge HI186.out) | refine below_set ?_ GE182.out) | exact HB.out))) : w.heap.size ≤ gb187)); have n6_ := Aside0.mk ((by rw [hg]; exact Nat.ne_of_lt (blk_lt (qk_ BK182)) : gb182 ≠ gb187)); have n7_ := Aside0.mk ((by rw [hg]; exact Nat.ne_of_gt (blk_lt (qk_ BK182)) : gb187 ≠ gb182)); have n8_ := Aside0.mk ((by rw [hg]; exact Nat.ne_of_lt (IsS126.lt (show IsS126 w _ g186 t183 t184 t185 from by repeat (first | (with_reducible first | exact HI186.out | apply IsS126.alloc | apply IsS126.drewN | apply IsS126.drew | apply IsS126.set_1 | apply IsS126.set_2 | refine IsS126.far ?_ NB186_182.out _) | exact HI186.out))) : g186 ≠ gb187)); have n9_ := Aside0.mk ((by rw [hg]; exact Nat.ne_of_gt (IsS126.lt (show IsS126 w _ g186 t183 t184 t185 from by repeat (first | (with_reducible first | exact HI186.out | apply IsS126.alloc | apply IsS126.drewN | apply IsS126.drew | apply IsS126.set_1 | apply IsS126.set_2 | refine IsS126.far ?_ NB186_182.out _) | exact HI186.out))) : gb187 ≠ g186)); clear BK182; clear HI186; clear HB; have BK182 := n0_; have HI186 := n1_; have HB := n2_; have BK187 := n3_; have GW187 := n4_; have GE187 := n5_; have NB182_187 := n6_; have NB187_182 := n7_; have NB186_187 := n8_; have NB187_186 := n9_; clear n0_ n1_ n2_ n3_ n4_ n5_ n6_ n7_ n8_ n9_; clear hb hbox hg; have hnb6 := NB187_182.out; have hnc6 := NB182_187.out; have hnb7 := NB187_186.out; have hnc7 := NB186_187.out; obtain ⟨hcz8_0, hfz8_0⟩ := bc1_ BK187))
 go_loopg [5] k (fun kq v5 w' => ∃ (x5_1 : Int) (x187001_1 : Int) (x187002_1 : Int) (x188000_1 : List (S94)) (u188000 : Value), v5 = .int .i64 x5_1 ∧ Aside0 (spec_DrawRightDisk.l0 kq x5_1 t183 x187001_1 x187002_1 x188000_1 = some r) ∧ Aside0 (kq ≤ k) ∧ Aside0 (Kd.R k94 94 w' w.heap.size (fun _ => True) u188000 x188000_1) ∧ Aside0 (w'.heap[gb182]? = some (.cells #[(.slice none 0 0)] 75 (0, 0))) ∧ Aside0 (w'.heap[gb187]? = some (.cells #[u188000] 75 (0, 0))) ∧ Aside0 (IsS126 w w' g186 t183 x187001_1 x187002_1) ∧ Aside0 (Below w.heap.size w w'))
 case atStart => exact ⟨(0), (t184), (t185), (([] : List (S94))), (.slice none 0 0), qe_, H', ⟨Nat.le_refl _⟩, ⟨by first | exact Kd.R_nil _ _ _ _ _ | exact Kd.N_nil _ _ _ _ _ | exact Kd.V_nil _ _ _ _ _ | exact Kd.Q_nil _ _ _ _ _ | exact Kd.S_nil _ _ _ _ _⟩, ⟨by (with_reducible repeat (first | refine blk_drewN ?_ _ | refine blk_drew ?_ | refine blk_alloc ?_ _)); refine blk_far ?_ NB182_187.out _; (with_reducible repeat (first | refine blk_drewN ?_ _ | refine blk_drew ?_ | refine blk_alloc ?_ _)); exact BK182.out⟩, ⟨by (with_reducible repeat (first | refine blk_drewN ?_ _ | refine blk_drew ?_ | refine blk_alloc ?_ _)); refine blk_put (cs := #[.slice none 0 0]) ?_ 0 _ rfl; (with_reducible repeat (first | refine blk_drewN ?_ _ | refine blk_drew ?_ | refine blk_alloc ?_ _)); exact BK187.out⟩, ⟨by repeat (first | (with_reducible first | exact HI186.out | apply IsS126.alloc | apply IsS126.drewN | apply IsS126.drew | apply IsS126.set_1 | apply IsS126.set_2 | refine IsS126.far ?_ NB186_182.out _ | refine IsS126.far ?_ NB186_187.out _) | exact HI186.out)⟩, ⟨by repeat (first | (with_reducible first | exact HB.out | apply below_alloc | apply pw_below_drewN | apply below_drew1 | refine below_set ?_ (IsS126.ge HI186.out) | refine below_set ?_ GE182.out | refine below_set ?_ GE187.out) | exact HB.out)⟩⟩
 case round =>
  clear H'
  (try clear p2); (try clear c6); (try clear c7); (try clear hcz8_0); (try clear hfz8_0)
  obtain ⟨x5_1, x187001_1, x187002_1, x188000_1, u188000, rfl, HA, HK1, HO_188000, BK182, BK187, HI186, HB⟩ := hrel
  cases gk with
  | zero => exact absurd HA.out (by simp [spec_DrawRightDisk.l0])
  | succ k1 =>
   have H := HA.out; clear HA
   simp only [spec_DrawRightDisk.l0] at H
   replace H := Option.bind_eq_some_iff.mp H
   obtain ⟨⟨t188, t189, t190⟩, A90, H⟩ := H
   replace H : (if x5_1 < t188 then ((spec_l01Below.f t183 t189 t190 30).bind fun bt191 => ((spec_l01Text.f k1 t183 bt191.2.1 bt191.2.2 bt191.1).bind fun bt194 => ((spec_l03Named.f t183 bt194.2.1 bt194.2.2).bind fun bt197 => ((spec_l01Below.f t183 bt197.2.1 bt197.2.2 (wrap64 ((bt194.1.size : Int) + 1))).bind fun bt200 => ((spec_l03Put.f k1 x188000_1 bt197.1 bt194.1 bt200.1).bind fun t203 => (spec_DrawRightDisk.l0 k1 (wrap64 (x5_1 + 1)) t183 bt200.2.1 bt200.2.2 t203)))))) else (some x188000_1)) = some r := H
   have A9 := Aside0.mk A90
   clear A90
   by_cases c10 : x5_1 < t188
   ·rw [if_pos c10] at H
    have c10b0 : decide (x5_1 < t188) = true := decide_eq_true c10
    clear c10
    replace H := Option.bind_eq_some_iff.mp H
    obtain ⟨⟨t191, t192, t193⟩, A110, H⟩ := H
    replace H : ((spec_l01Text.f k1 t183 t192 t193 t191).bind fun bt194 => ((spec_l03Named.f t183 bt194.2.1 bt194.2.2).bind fun bt197 => ((spec_l01Below.f t183 bt197.2.1 bt197.2.2 (wrap64 ((bt194.1.size : Int) + 1))).bind fun bt200 => ((spec_l03Put.f k1 x188000_1 bt197.1 bt194.1 bt200.1).bind fun t203 => (spec_DrawRightDisk.l0 k1 (wrap64 (x5_1 + 1)) t183 bt200.2.1 bt200.2.2 t203))))) = some r := H
    have A11 := Aside0.mk A110
    clear A110
    replace H := Option.bind_eq_some_iff.mp H
    obtain ⟨⟨t194, t195, t196⟩, A120, H⟩ := H
    replace H : ((spec_l03Named.f t183 t195 t196).bind fun bt197 => ((spec_l01Below.f t183 bt197.2.1 bt197.2.2 (wrap64 ((t194.size : Int) + 1))).bind fun bt200 => ((spec_l03Put.f k1 x188000_1 bt197.1 t194 bt200.1).bind fun t203 => (spec_DrawRightDisk.l0 k1 (wrap64 (x5_1 + 1)) t183 bt200.2.1 bt200.2.2 t203)))) = some r := H
    have A12 := Aside0.mk A120
    clear A120
    replace H := Option.bind_eq_some_iff.mp H
    obtain ⟨⟨t197, t198, t199⟩, A130, H⟩ := H
    replace H : ((spec_l01Below.f t183 t198 t199 (wrap64 ((t194.size : Int) + 1))).bind fun bt200 => ((spec_l03Put.f k1 x188000_1 t197 t194 bt200.1).bind fun t203 => (spec_DrawRightDisk.l0 k1 (wrap64 (x5_1 + 1)) t183 bt200.2.1 bt200.2.2 t203))) = some r := H
    have A13 := Aside0.mk A130
    clear A130
    replace H := Option.bind_eq_some_iff.mp H
    obtain ⟨⟨t200, t201, t202⟩, A140, H⟩ := H
    replace H : ((spec_l03Put.f k1 x188000_1 t197 t194 t200).bind fun t203 => (spec_DrawRightDisk.l0 k1 (wrap64 (x5_1 + 1)) t183 t201 t202 t203)) = some r := H
    have A14 := Aside0.mk A140
    clear A140
    obtain ⟨t203, A150, H⟩ := Option.bind_eq_some_iff.mp H; have A15 := Aside0.mk A150; clear A150
    have H' := Aside0.mk H; clear H
    try go_wp2_with (first | ((with_reducible refine gate_callee (f := 80) rfl ?_); refine gl_ (some 12) Try.func80 #[.pointer (some ⟨g186, 0, none⟩), .int .i64 6] ?_; (with_reducible refine (spec_l01Below.calls g186 t183 x187001_1 x187002_1 6 t188 t189 t190 w _ ?side1 ?side2 A9.out).mono ?_); (case side1 => repeat (first | (with_reducible first | exact HI186.out | apply IsS126.alloc | apply IsS126.drewN | apply IsS126.drew | apply IsS126.set_1 | apply IsS126.set_2 | refine IsS126.far ?_ NB186_182.out _ | refine IsS126.far ?_ NB186_187.out _) | exact HI186.out)); (case side2 => repeat (first | (with_reducible first | exact HB.out | apply below_alloc | apply pw_below_drewN | apply below_drew1 | refine below_set ?_ (IsS126.ge HI186.out) | refine below_set ?_ GE182.out | refine below_set ?_ GE187.out) | exact HB.out)); rintro e w16 ⟨rfl, hi, hb, hk⟩; refine ⟨_, rfl, ?_⟩; replace HO_188000 := Aside0.mk (Kd.R_mono (Kd.R_keep (IsS126.apart (show IsS126 w _ g186 t183 x187001_1 x187002_1 from by repeat (first | (with_reducible first | exact HI186.out | apply IsS126.alloc | apply IsS126.drewN | apply IsS126.drew | apply IsS126.set_1 | apply IsS126.set_2 | refine IsS126.far ?_ NB186_182.out _ | refine IsS126.far ?_ NB186_187.out _) | exact HI186.out)) (qR_ HO_188000) (by decide)) hk (fun _ h => h.2)) (fun _ h => h.1)); replace BK182 := Aside0.mk (KeepBut.blk hk (g' := gb182) (o := .cells #[.slice none 0 0] 75 (0, 0)) (qk_ BK182) NB182_186.out (by simp)); replace BK187 := Aside0.mk (KeepBut.blk hk (g' := gb187) (o := .cells #[u188000] 75 (0, 0)) (qk_ BK187) NB187_186.out (by simp)); replace HI186 := Aside0.mk (hi); replace HB := Aside0.mk (hb); (try clear hb); (try clear hb2); (try clear hk); (try clear hi)) | ((with_reducible refine gate_callee (f := 80) rfl ?_); refine gl_ (some 18) Try.func80 #[.pointer (some ⟨g186, 0, none⟩), .int .i64 30] ?_; (with_reducible refine (spec_l01Below.calls g186 t183 t189 t190 30 t191 t192 t193 w _ ?side1 ?side2 A11.out).mono ?_); (case side1 => repeat (first | (with_reducible first | exact HI186.out | apply IsS126.alloc | apply IsS126.drewN | apply IsS126.drew | apply IsS126.set_1 | apply IsS126.set_2 | refine IsS126.far ?_ NB186_182.out _ | refine IsS126.far ?_ NB186_187.out _) | exact HI186.out)); (case side2 => repeat (first | (with_reducible first | exact HB.out | apply below_alloc | apply pw_below_drewN | apply below_drew1 | refine below_set ?_ (IsS126.ge HI186.out) | refine below_set ?_ GE182.out | refine below_set ?_ GE187.out) | exact HB.out)); rintro e w17 ⟨rfl, hi, hb, hk⟩; refine ⟨_, rfl, ?_⟩; replace HO_188000 := Aside0.mk (Kd.R_mono (Kd.R_keep (IsS126.apart (show IsS126 w _ g186 t183 t189 t190 from by repeat (first | (with_reducible first | exact HI186.out | apply IsS126.alloc | apply IsS126.drewN | apply IsS126.drew | apply IsS126.set_1 | apply IsS126.set_2 | refine IsS126.far ?_ NB186_182.out _ | refine IsS126.far ?_ NB186_187.out _) | exact HI186.out)) (qR_ HO_188000) (by decide)) hk (fun _ h => h.2)) (fun _ h => h.1)); replace BK182 := Aside0.mk (KeepBut.blk hk (g' := gb182) (o := .cells #[.slice none 0 0] 75 (0, 0)) (qk_ BK182) NB182_186.out (by simp)); replace BK187 := Aside0.mk (KeepBut.blk hk (g' := gb187) (o := .cells #[u188000] 75 (0, 0)) (qk_ BK187) NB187_186.out (by simp)); replace HI186 := Aside0.mk (hi); replace HB := Aside0.mk (hb); (try clear hb); (try clear hb2); (try clear hk); (try clear hi)) | ((with_reducible refine gate_callee (f := 79) rfl ?_); refine gl_ (some 19) Try.func79 #[.pointer (some ⟨g186, 0, none⟩), .int .i64 t191] ?_; (with_reducible refine (spec_l01Text.calls k1 g186 t183 t192 t193 t191 t194 t195 t196 w _ ?side1 ?side2 A12.out).mono ?_); (case side1 => repeat (first | (with_reducible first | exact HI186.out | apply IsS126.alloc | apply IsS126.drewN | apply IsS126.drew | apply IsS126.set_1 | apply IsS126.set_2 | refine IsS126.far ?_ NB186_182.out _ | refine IsS126.far ?_ NB186_187.out _) | exact HI186.out)); (case side2 => repeat (first | (with_reducible first | exact HB.out | apply below_alloc | apply pw_below_drewN | apply below_drew1 | refine below_set ?_ (IsS126.ge HI186.out) | refine below_set ?_ GE182.out | refine below_set ?_ GE187.out) | exact HB.out)); rintro e w18 ⟨rfl, hi, hb, hk⟩; refine ⟨_, rfl, ?_⟩; replace HO_188000 := Aside0.mk (Kd.R_mono (Kd.R_keep (IsS126.apart (show IsS126 w _ g186 t183 t192 t193 from by repeat (first | (with_reducible first | exact HI186.out | apply IsS126.alloc | apply IsS126.drewN | apply IsS126.drew | apply IsS126.set_1 | apply IsS126.set_2 | refine IsS126.far ?_ NB186_182.out _ | refine IsS126.far ?_ NB186_187.out _) | exact HI186.out)) (qR_ HO_188000) (by decide)) hk (fun _ h => h.2)) (fun _ h => h.1)); replace BK182 := Aside0.mk (KeepBut.blk hk (g' := gb182) (o := .cells #[.slice none 0 0] 75 (0, 0)) (qk_ BK182) NB182_186.out (by simp)); replace BK187 := Aside0.mk (KeepBut.blk hk (g' := gb187) (o := .cells #[u188000] 75 (0, 0)) (qk_ BK187) NB187_186.out (by simp)); replace HI186 := Aside0.mk (hi); replace HB := Aside0.mk (hb); (try clear hb); (try clear hb2); (try clear hk); (try clear hi)))
    have n0_ := Aside0.mk (Kd.R_drew HO_188000.out)
    have n1_ := Aside0.mk (blk_drew BK182.out)
    have n2_ := Aside0.mk (blk_drew BK187.out)
    have n3_ := Aside0.mk (IsS126.drew HI186.out)
    have n4_ := Aside0.mk (below_drew1 HB.out)
    clear HO_188000; clear BK182; clear BK187; clear HI186; clear HB; have HO_188000 := n0_; have BK182 := n1_; have BK187 := n2_; have HI186 := n3_; have HB := n4_; clear n0_ n1_ n2_ n3_ n4_
    refine start_ (n := 12) (S := fun w' => w'.cell? ⟨gb187, 0, none⟩ = some (u188000)) (ds := [11]) (bm 12 0) (by kernel_rfl) rfl (by kernel_rfl) ((blk_cell BK187.out 0).trans rfl) (fun hHeld => ?_); refine with_tabW spec_DrawRightDisk.tab7 spec_DrawRightDisk.bits7 (fun HT_ HW_ => ?_)
    generalize w18.drew = w19 at HO_188000 BK182 BK187 HI186 HB hHeld ⊢
    refine pz_ 1 21 (bm 12 2) ?_; refine pz_ 3 23 (bm 12 10) ?_; refine pz_ 4 24 (bm 12 26) ?_; refine pz_ 5 25 (bm 12 58) ?_; refine pz_ 6 26 (bm 12 122) ?_; refine pz_ 7 27 (bm 12 250) ?_
    refine take_ (i := 0) (N := some 20) (v := ?_) (a' := ?_) (bm 12 251) rfl rfl (take_ofW HT_.out HW_.out (by kernel_rfl)) (fun _ _ _ h => h) (Or.inl ⟨by rfl, ?_⟩) hHeld ?_ ?_
    rotate_left
    ·intro w' s0
     go_simp
     with_reducible rfl
    rotate_left
    ·simp only [Act.put, List.setIfInBounds_toArray, List.set_cons_zero, List.set_cons_succ, i64_w, i32_w]
     rfl
    refine one_ (i := 2) (N := some 22) (bm 12 255) rfl rfl (one_of HT_.out (by kernel_rfl)) (by decide) (fun K hK => ?_)
    refine goes_ Try.func97 (by kernel_rfl) rfl #[.pointer (some ⟨g186, 0, none⟩)] (by rfl) rfl rfl (by (try simp only [List.map_toArray, List.map_cons, List.map_nil]); first | done | rfl | (simp only [List.length_drop, List.length_take]; rfl)) ?_
    with_reducible refine (spec_l03Named.calls g186 t183 t195 t196 t197 t198 t199 w _ ?side1 ?side2 A13.out).mono ?_
    (case side1 => repeat (first | (with_reducible first | exact HI186.out | apply IsS126.alloc | apply IsS126.drewN | apply IsS126.drew | apply IsS126.set_1 | apply IsS126.set_2 | refine IsS126.far ?_ NB186_182.out _ | refine IsS126.far ?_ NB186_187.out _) | exact HI186.out))
    (case side2 => repeat (first | (with_reducible first | exact HB.out | apply below_alloc | apply pw_below_drewN | apply below_drew1 | refine below_set ?_ (IsS126.ge HI186.out) | refine below_set ?_ GE182.out | refine below_set ?_ GE187.out) | exact HB.out))
    rintro e w20 ⟨rfl, hi, hb, hk⟩
    refine ⟨_, rfl, ?_⟩
    have n0_ := Aside0.mk (Kd.R_mono (Kd.R_keep (IsS126.apart (show IsS126 w _ g186 t183 t195 t196 from by repeat (first | (with_reducible first | exact HI186.out | apply IsS126.alloc | apply IsS126.drewN | apply IsS126.drew | apply IsS126.set_1 | apply IsS126.set_2 | refine IsS126.far ?_ NB186_182.out _ | refine IsS126.far ?_ NB186_187.out _) | exact HI186.out)) (qR_ HO_188000) (by decide)) hk (fun _ h => h.2)) (fun _ h => h.1))
    have n1_ := Aside0.mk (KeepBut.blk hk (g' := gb182) (o := .cells #[.slice none 0 0] 75 (0, 0)) (qk_ BK182) NB182_186.out (by simp))
    have n2_ := Aside0.mk (KeepBut.blk hk (g' := gb187) (o := .cells #[u188000] 75 (0, 0)) (qk_ BK187) NB187_186.out (by simp))
    have n3_ := Aside0.mk (hb)
    have n4_ := Aside0.mk (hi)
    clear HO_188000; clear BK182; clear BK187; clear HB; clear HI186; have HO_188000 := n0_; have BK182 := n1_; have BK187 := n2_; have HB := n3_; have HI186 := n4_; clear n0_ n1_ n2_ n3_ n4_; (try clear hb); (try clear hb2); (try clear hk); (try clear hi)
    refine hK.out _ _ ((blk_cell BK187.out 0).trans rfl) (fun hHeld => ?_)
    clear hK K
    refine norm_ (a' := ?_) ?_ ?_
    rotate_left
    ·show Act.put _ (some 22) _ = _
     simp only [Act.put, List.setIfInBounds_toArray, List.set_cons_zero, List.set_cons_succ, i64_w, i32_w]
     rfl
    refine one_ (i := 8) (N := some 28) (bm 12 511) rfl rfl (one_of HT_.out (by kernel_rfl)) (by decide) (fun K hK => ?_)
    refine goes_ Try.func80 (by kernel_rfl) rfl #[.pointer (some ⟨g186, 0, none⟩), .int .i64 (wrap64 ((t194.size : Int) + 1))] (by rfl) rfl rfl (by (try simp only [List.map_toArray, List.map_cons, List.map_nil]); first | done | rfl | (simp only [List.length_drop, List.length_take]; rfl)) ?_
    with_reducible refine (spec_l01Below.calls g186 t183 t198 t199 (wrap64 ((t194.size : Int) + 1)) t200 t201 t202 w _ ?side1 ?side2 A14.out).mono ?_
    (case side1 => repeat (first | (with_reducible first | exact HI186.out | apply IsS126.alloc | apply IsS126.drewN | apply IsS126.drew | apply IsS126.set_1 | apply IsS126.set_2 | refine IsS126.far ?_ NB186_182.out _ | refine IsS126.far ?_ NB186_187.out _) | exact HI186.out))
    (case side2 => repeat (first | (with_reducible first | exact HB.out | apply below_alloc | apply pw_below_drewN | apply below_drew1 | refine below_set ?_ (IsS126.ge HI186.out) | refine below_set ?_ GE182.out | refine below_set ?_ GE187.out) | exact HB.out))
    rintro e w21 ⟨rfl, hi, hb, hk⟩
    refine ⟨_, rfl, ?_⟩
    have n0_ := Aside0.mk (Kd.R_mono (Kd.R_keep (IsS126.apart (show IsS126 w _ g186 t183 t198 t199 from by repeat (first | (with_reducible first | exact HI186.out | apply IsS126.alloc | apply IsS126.drewN | apply IsS126.drew | apply IsS126.set_1 | apply IsS126.set_2 | refine IsS126.far ?_ NB186_182.out _ | refine IsS126.far ?_ NB186_187.out _) | exact HI186.out)) (qR_ HO_188000) (by decide)) hk (fun _ h => h.2)) (fun _ h => h.1))
    have n1_ := Aside0.mk (KeepBut.blk hk (g' := gb182) (o := .cells #[.slice none 0 0] 75 (0, 0)) (qk_ BK182) NB182_186.out (by simp))
    have n2_ := Aside0.mk (KeepBut.blk hk (g' := gb187) (o := .cells #[u188000] 75 (0, 0)) (qk_ BK187) NB187_186.out (by simp))
    have n3_ := Aside0.mk (hb)
    have n4_ := Aside0.mk (hi)
    clear HO_188000; clear BK182; clear BK187; clear HB; clear HI186; have HO_188000 := n0_; have BK182 := n1_; have BK187 := n2_; have HB := n3_; have HI186 := n4_; clear n0_ n1_ n2_ n3_ n4_; (try clear hb); (try clear hb2); (try clear hk); (try clear hi)
    obtain ⟨Ao22, co22, eo22⟩ := Kd.R_slice HO_188000.out
    (first | subst eo22 | (injection eo22 with f1_ f2_ f3_; have f4_ := f1_.symm; have f5_ := f3_.symm; clear f1_ f2_ f3_; subst f4_; subst f5_))
    refine hK.out _ _ ((blk_cell BK187.out 0).trans rfl) (fun hHeld => ?_)
    clear hK K
    refine norm_ (a' := ?_) ?_ ?_
    rotate_left
    ·show Act.put _ (some 28) _ = _
     simp only [Act.put, List.setIfInBounds_toArray, List.set_cons_zero, List.set_cons_succ, i64_w, i32_w]
     rfl
    refine pz_ 9 29 (bm 12 1023) ?_
    refine one_ (i := 10) (N := some 30) (bm 12 2047) rfl rfl (one_of HT_.out (by kernel_rfl)) (by decide) (fun K hK => ?_)
    refine goes_ Try.func96 (by kernel_rfl) rfl #[.agg #[.slice Ao22 x188000_1.length co22], .agg #[.string t197, .string t194, .int .i64 t200]] (by rfl) rfl rfl (by (try simp only [List.map_toArray, List.map_cons, List.map_nil]); first | done | rfl | (simp only [List.length_drop, List.length_take]; rfl)) ?_
    with_reducible refine (spec_l03Put.calls k1 _ _ x188000_1 t197 t194 t200 t203 _ ?side1 ?side2 A15.out).mono ?_
    (case side1 => exact qD_ (Kd.R_reads' HO_188000.out).2.2)
    (case side2 => exact (Kd.R_reads' HO_188000.out).2.1)
    rintro e w23 ⟨v204, rfl, ho0, hb⟩
    refine ⟨_, rfl, ?_⟩
    have n0_ := Aside0.mk (Kd.R_elder' (qR_ HO_188000) (Kd.R_base ho0) hb)
    have n1_ := Aside0.mk (Kd.R_lower (Kd.R_new' ho0 (Kd.R_lt (qR_ HO_188000))) (below_size (by repeat (first | (with_reducible first | exact HB.out | apply below_alloc | apply pw_below_drewN | apply below_drew1 | refine below_set ?_ (IsS126.ge HI186.out) | refine below_set ?_ GE182.out | refine below_set ?_ GE187.out) | exact HB.out))))
    have n2_ := Aside0.mk (blk_below (qk_ BK182) hb)
    have n3_ := Aside0.mk (blk_below (qk_ BK187) hb)
    have n4_ := Aside0.mk (IsS126.below (by repeat (first | (with_reducible first | exact HI186.out | apply IsS126.alloc | apply IsS126.drewN | apply IsS126.drew | apply IsS126.set_1 | apply IsS126.set_2 | refine IsS126.far ?_ NB186_182.out _ | refine IsS126.far ?_ NB186_187.out _) | exact HI186.out)) hb)
    have n5_ := Aside0.mk (below_step (by repeat (first | (with_reducible first | exact HB.out | apply below_alloc | apply pw_below_drewN | apply below_drew1 | refine below_set ?_ (IsS126.ge HI186.out) | refine below_set ?_ GE182.out | refine below_set ?_ GE187.out) | exact HB.out)) hb)
    clear HO_188000; clear BK182; clear BK187; clear HI186; clear HB; have HO_188000 := n0_; have HO205 := n1_; have BK182 := n2_; have BK187 := n3_; have HI186 := n4_; have HB := n5_; clear n0_ n1_ n2_ n3_ n4_ n5_; (try clear hb); (try clear hb2); (try clear hk); (try clear hi); (try clear ho0)
    obtain ⟨Ao24, co24, eo24⟩ := Kd.R_slice HO205.out
    (first | subst eo24 | (injection eo24 with f1_ f2_ f3_; have f4_ := f1_.symm; have f5_ := f3_.symm; clear f1_ f2_ f3_; subst f4_; subst f5_))
    refine hK.out _ _ ((blk_cell BK187.out 0).trans rfl) (fun hHeld => ?_)
    clear hK K
    refine norm_ (a' := ?_) ?_ ?_
    rotate_left
    ·show Act.put _ (some 30) _ = _
     simp only [Act.put, List.setIfInBounds_toArray, List.set_cons_zero, List.set_cons_succ, i64_w, i32_w]
     rfl
    refine last_ (i := 11) (N := none) (bm 12 4095) rfl rfl (one_of HT_.out (by kernel_rfl)) (by decide) (fun K hK => ?_)
    have hs25 : w23.cell? ⟨gb187, 0, none⟩ = some (.slice Ao22 x188000_1.length co22) := (blk_cell BK187.out 0).trans rfl
    have hfs25 := blk_frozen BK187.out 0
    have hns25_0 := NB182_187.out; have hms25_0 := NB187_182.out
    refine skip_ (w1 := ?_) (by rfl) rfl ?_ ?_
    rotate_left
    ·go_simp
     rfl
    refine hK.out _ _ ?_
    clear hK K
    refine done_ (done_of HT_.out (by kernel_rfl)) ?_
    try go_wp2
    go_roundg k1
    case measure => have := HK1.out; omega
    case rel => exact ⟨(wrap64 (x5_1 + 1)), (t201), (t202), (t203), (.slice Ao24 t203.length co24), qe_, H', ⟨by have := HK1.out; omega⟩, ⟨by (with_reducible repeat (first | apply Kd.R_alloc | apply Kd.R_drewN | apply Kd.R_drew)); exact Kd.R_mono (Kd.R_far (p := ⟨gb187, 0, none⟩) (Kd.R_types HO205.out BK187.out (by decide)) (fun _ hk => hk.2) (.slice Ao24 t203.length co24)) (fun _ hk => trivial)⟩, ⟨by (with_reducible repeat (first | refine blk_drewN ?_ _ | refine blk_drew ?_ | refine blk_alloc ?_ _)); refine blk_far ?_ NB182_187.out _; (with_reducible repeat (first | refine blk_drewN ?_ _ | refine blk_drew ?_ | refine blk_alloc ?_ _)); exact BK182.out⟩, ⟨by (with_reducible repeat (first | refine blk_drewN ?_ _ | refine blk_drew ?_ | refine blk_alloc ?_ _)); refine blk_put (cs := #[.slice Ao22 x188000_1.length co22]) ?_ 0 _ rfl; (with_reducible repeat (first | refine blk_drewN ?_ _ | refine blk_drew ?_ | refine blk_alloc ?_ _)); exact BK187.out⟩, ⟨by repeat (first | (with_reducible first | exact HI186.out | apply IsS126.alloc | apply IsS126.drewN | apply IsS126.drew | apply IsS126.set_1 | apply IsS126.set_2 | refine IsS126.far ?_ NB186_182.out _ | refine IsS126.far ?_ NB186_187.out _) | exact HI186.out)⟩, ⟨by repeat (first | (with_reducible first | exact HB.out | apply below_alloc | apply pw_below_drewN | apply below_drew1 | refine below_set ?_ (IsS126.ge HI186.out) | refine below_set ?_ GE182.out | refine below_set ?_ GE187.out) | exact HB.out)⟩⟩
   ·rw [if_neg c10] at H
    have c10b0 : decide (x5_1 < t188) = false := decide_eq_false c10
    clear c10
    obtain rfl := Option.some.inj H
    go_wp2_with (first | ((with_reducible refine gate_callee (f := 80) rfl ?_); refine gl_ (some 12) Try.func80 #[.pointer (some ⟨g186, 0, none⟩), .int .i64 6] ?_; (with_reducible refine (spec_l01Below.calls g186 t183 x187001_1 x187002_1 6 t188 t189 t190 w _ ?side1 ?side2 A9.out).mono ?_); (case side1 => repeat (first | (with_reducible first | exact HI186.out | apply IsS126.alloc | apply IsS126.drewN | apply IsS126.drew | apply IsS126.set_1 | apply IsS126.set_2 | refine IsS126.far ?_ NB186_182.out _ | refine IsS126.far ?_ NB186_187.out _) | exact HI186.out)); (case side2 => repeat (first | (with_reducible first | exact HB.out | apply below_alloc | apply pw_below_drewN | apply below_drew1 | refine below_set ?_ (IsS126.ge HI186.out) | refine below_set ?_ GE182.out | refine below_set ?_ GE187.out) | exact HB.out)); rintro e w26 ⟨rfl, hi, hb, hk⟩; refine ⟨_, rfl, ?_⟩; replace HO_188000 := Aside0.mk (Kd.R_mono (Kd.R_keep (IsS126.apart (show IsS126 w _ g186 t183 x187001_1 x187002_1 from by repeat (first | (with_reducible first | exact HI186.out | apply IsS126.alloc | apply IsS126.drewN | apply IsS126.drew | apply IsS126.set_1 | apply IsS126.set_2 | refine IsS126.far ?_ NB186_182.out _ | refine IsS126.far ?_ NB186_187.out _) | exact HI186.out)) (qR_ HO_188000) (by decide)) hk (fun _ h => h.2)) (fun _ h => h.1)); replace BK182 := Aside0.mk (KeepBut.blk hk (g' := gb182) (o := .cells #[.slice none 0 0] 75 (0, 0)) (qk_ BK182) NB182_186.out (by simp)); replace BK187 := Aside0.mk (KeepBut.blk hk (g' := gb187) (o := .cells #[u188000] 75 (0, 0)) (qk_ BK187) NB187_186.out (by simp)); replace HI186 := Aside0.mk (hi); replace HB := Aside0.mk (hb); (try clear hb); (try clear hb2); (try clear hk); (try clear hi); have hnb27 := NB187_182.out; have hnc27 := NB182_187.out; have hnb28 := NB187_186.out; have hnc28 := NB186_187.out; obtain ⟨hcz29_0, hfz29_0⟩ := bc1_ BK187; obtain ⟨Ao30, co30, eo30⟩ := Kd.R_slice HO_188000.out; subst eo30; have hnb31 := NB182_186.out; have hnc31 := NB186_182.out; obtain ⟨hcz32_0, hfz32_0⟩ := bc1_ BK182))
    refine bodyPost_ret (results_cell_row rfl _ _ gb182 75 #[.slice Ao30 x188000_1.length co30] (0, 0) _ rfl (by (with_reducible repeat (first | refine blk_drewN ?_ _ | refine blk_drew ?_ | refine blk_alloc ?_ _)); refine blk_put (cs := #[.slice none 0 0]) ?_ 0 _ rfl; (with_reducible repeat (first | refine blk_drewN ?_ _ | refine blk_drew ?_ | refine blk_alloc ?_ _)); exact BK182.out) Try.underlying75 rfl (by kernel_rfl)) rfl ?_
    exact ⟨_, qr_, by (with_reducible repeat (first | apply Kd.R_alloc | apply Kd.R_drewN | apply Kd.R_drew)); exact Kd.R_mono (Kd.R_far (p := ⟨gb182, 0, none⟩) (Kd.R_types HO_188000.out BK182.out (by decide)) (fun _ hk => hk.2) (.slice Ao30 x188000_1.length co30)) (fun _ hk => trivial), by repeat (first | (with_reducible first | exact HB.out | apply below_alloc | apply pw_below_drewN | apply below_drew1 | refine below_set ?_ (IsS126.ge HI186.out) | refine below_set ?_ GE182.out | refine below_set ?_ GE187.out) | exact HB.out)⟩

/-! ### laws_lefts: function 61 -/
def laws_lefts.l0 : Nat → List Int → List Int → Int → Option (List Int)
  | 0, _, _, _ => none
  | k + 1, x0, x3, x4 => if x4 < 6 then (if 0 ≤ x4 then (if x4 < (x0.length : Int) then (if x3.length < 17592186044416 then (laws_lefts.l0 k x0 (x3 ++ [Int.tmod (rd x0 x4) 300]) (wrap64 (x4 + 1))) else (none)) else (none)) else (none)) else (some x3)
def laws_lefts.f (k : Nat) (l0 : List Int) : Option (List Int) := laws_lefts.l0 k l0 (([] : List Int)) 0
theorem laws_lefts.mono_l : ∀ k, (∀ y0 y1 y2, LeO (laws_lefts.l0 k y0 y1 y2) (laws_lefts.l0 (k + 1) y0 y1 y2))
  | 0 => fun _ _ _ r h => by simp [laws_lefts.l0] at h
  | k + 1 => by
    have ih0 := laws_lefts.mono_l k
    · intro y0 y1 y2
      unfold laws_lefts.l0
      repeat' first
      | (with_reducible exact ih0 _ _ _)
      | (with_reducible exact LeO.refl _)
      | (with_reducible exact LeO.none _)
      | (with_reducible refine LeO.ite ?_ ?_)
      | (with_reducible refine LeO.bind ?_ (fun _ => ?_))
      | exact ih0 _ _ _
      | exact LeO.none _
      | refine LeO.ite ?_ ?_
      | refine LeO.bind ?_ (fun _ => ?_)
theorem laws_lefts.mono : ∀ a0 k, LeO (laws_lefts.f k a0) (laws_lefts.f (k + 1) a0) := by
  intro a0 k
  have ih0 := laws_lefts.mono_l k
  unfold laws_lefts.f
  repeat' first
      | (with_reducible exact ih0 _ _ _)
      | (with_reducible exact LeO.refl _)
      | (with_reducible exact LeO.none _)
      | (with_reducible refine LeO.ite ?_ ?_)
      | (with_reducible refine LeO.bind ?_ (fun _ => ?_))
      | exact ih0 _ _ _
      | exact LeO.none _
      | refine LeO.ite ?_ ?_
      | refine LeO.bind ?_ (fun _ => ?_)
set_option maxHeartbeats 8000000 in
set_option maxRecDepth 100000 in
theorem laws_lefts.calls (k : Nat) (A0 : Option Addr) (c0 : Nat) (l0 : List Int) (r : List Int) (w : World) (hr0 : Kd.C (Kd.int .i64) w A0 l0.length l0) (hc0 : l0.length ≤ c0) (h : laws_lefts.f k l0 = some r) :
  Calls Try.prog 61 #[.slice A0 l0.length c0] w fun e w' => ∃ v0_ : Value, e = .returned (v0_) ∧ Kd.R (Kd.int .i64) 3 w' w.heap.size (fun _ => True) v0_ r ∧ Below w.heap.size w w' := by
 have HR0 := Aside0.mk hr0
 have HC0 := Aside0.mk hc0
 clear hr0 hc0
 have HB := Aside0.mk (Below.refl w.heap.size w)
 have H : (laws_lefts.l0 k l0 (([] : List Int)) 0) = some r := h
 clear h
 obtain ⟨y206, hy206⟩ : ∃ y_ : List Int, y_ = (([] : List Int)) := ⟨_, rfl⟩
 replace H : (laws_lefts.l0 k l0 y206 0) = some r := by first | (rw [hy206]; with_reducible exact H) | (have H2_ := (Option.bind_some _ _).symm.trans H; rw [hy206]; with_reducible exact H2_) | (have H2_ := (Option.bind_some _ _).symm.trans H; with_reducible exact H2_) | with_reducible exact H | (rw [hy206]; exact H) | exact H
 have Ny206 := Aside0.mk hy206
 clear hy206; have H' := Aside0.mk H; clear H
 go_enter Try.func61, Try.ntmps61
 go_wp2_with (first | ((with_reducible refine gate_dst (N := 5) rfl ?_); refine Kd.R_lit (Kd.int .i64) _ 3 ?hg (N := 5) ?hd (xs := ([] : List Int)) (inner := []) (ok := fun _ => True) (okp := fun _ => True) ?hr ?hp (fun _ hk => hk) trivial (Below.refl _ _) (Nat.le_refl _) (by simp) ?_; (case hd => rfl); (case hg => rfl); (case hr => first | (go_simp; done) | (go_simp; rfl)); (case hp => exact (Reps.none _ _)); intro v207 w2 ho3 hb hg_ hnew_; clear hg_ hnew_; (first | rw [← Ny206.out] at ho3 | (simp only [Int.reduceToNat] at ho3; rw [← Ny206.out] at ho3)); have HO208 := Aside0.mk (Kd.R_lower ho3 (below_size qB_)); replace HB := Aside0.mk (below_step qB_ hb); clear hb ho3))
 go_loopg [3, 4] k (fun kq v3 v4 w' => ∃ (x3_1 : List Int) (x4_1 : Int), v4 = .int .i64 x4_1 ∧ Aside0 (laws_lefts.l0 kq l0 x3_1 x4_1 = some r) ∧ Aside0 (kq ≤ k) ∧ Aside0 (Kd.R (Kd.int .i64) 3 w' w.heap.size (fun _ => True) v3 x3_1) ∧ Aside0 (Below w.heap.size w w'))
 case atStart => exact ⟨(y206), (0), qe_, H', ⟨Nat.le_refl _⟩, ⟨by (with_reducible repeat (first | apply Kd.R_alloc | apply Kd.R_drewN | apply Kd.R_drew)); first | exact HO208.out | (have h_ := HO208.out; simp only [own_slice] at h_ ⊢; exact h_)⟩, ⟨qB_⟩⟩
 case round =>
  clear H'
  (try clear p2)
  obtain ⟨x3_1, x4_1, rfl, HA, HK1, HO_3, HB⟩ := hrel
  cases gk with
  | zero => exact absurd HA.out (by simp [laws_lefts.l0])
  | succ k1 =>
   have H := HA.out; clear HA
   simp only [laws_lefts.l0] at H
   by_cases c4 : x4_1 < 6
   ·rw [if_pos c4] at H
    have c4b0 : decide (x4_1 < 6) = true := decide_eq_true c4
    clear c4
    by_cases c5 : 0 ≤ x4_1
    ·rw [if_pos c5] at H
     have c5b0 : decide (0 ≤ x4_1) = true := decide_eq_true c5
     clear c5
     by_cases c6 : x4_1 < (l0.length : Int)
     ·rw [if_pos c6] at H
      have c6b0 : decide (x4_1 < (l0.length : Int)) = true := decide_eq_true c6
      clear c6
      by_cases c7 : x3_1.length < 17592186044416
      ·rw [if_pos c7] at H
       have LMc7 := Aside0.mk c7
       clear c7
       obtain ⟨y210, hy210⟩ : ∃ y_ : List Int, y_ = (x3_1 ++ [Int.tmod (rd l0 x4_1) 300]) := ⟨_, rfl⟩
       replace H : (laws_lefts.l0 k1 l0 y210 (wrap64 (x4_1 + 1))) = some r := by first | (rw [hy210]; with_reducible exact H) | (have H2_ := (Option.bind_some _ _).symm.trans H; rw [hy210]; with_reducible exact H2_) | (have H2_ := (Option.bind_some _ _).symm.trans H; with_reducible exact H2_) | with_reducible exact H | (rw [hy210]; exact H) | exact H
       have Ny210 := Aside0.mk hy210
       clear hy210; have H' := Aside0.mk H; clear H
       have p209 : 0 ≤ (x4_1 : Int) := of_decide_eq_true qa_
       have q209 : x4_1 < (l0.length : Int) := of_decide_eq_true qa_
       obtain ⟨ad209, e209, hx209_0⟩ := Kd.at_int HR0.out x4_1 p209 q209
       cases e209
       replace hx209_0 := (HB.out.cell (World.block_lt_of_cell? w _ hx209_0)).trans hx209_0
       replace p209 := eq_true p209; replace q209 := eq_true q209
       go_wp2_with (first | ((with_reducible refine gate_builtin (b := .append) (xs := #[.tmp 10, .tmp 16]) rfl ?_); at_builtin; refine Kd.R_append (Kd.int .i64) (w0 := w) w.heap.size rfl (.tmp 10) (.tmp 16) 40 3 (.int .i64 0) 8 rfl Try.underlying40 info3 rfl (by decide) (by omega) u3 x3_1 (Int.tmod (rd l0 x4_1) 300) [.int .i64 (Int.tmod (rd l0 x4_1) 300)] (fun _ => True) (fun _ => False) rfl rfl ?aP (fun _ hk => hk.elim) ?aF ?aO ?aB ?aS ?aL ?_; (case aP => exact rfl); (case aB => exact qB_); (case aF => exact (fun _ _ => trivial)); (case aO => exact (qR_ HO_3)); (case aS => exact (below_size qB_)); (case aL => have := LMc7.out; omega); intro v211 w8 ho hb hg hat; rw [← Ny210.out] at ho; have HO212 := Aside0.mk (ho); replace HB := Aside0.mk (hb); clear HO_3; clear ho hb hg hat))
       go_roundg k1
       case measure => have := HK1.out; omega
       case rel => exact ⟨(y210), (wrap64 (x4_1 + 1)), qe_, H', ⟨by have := HK1.out; omega⟩, ⟨by (with_reducible repeat (first | apply Kd.R_alloc | apply Kd.R_drewN | apply Kd.R_drew)); first | exact HO212.out | (have h_ := HO212.out; simp only [own_slice] at h_ ⊢; exact h_)⟩, ⟨qB_⟩⟩
      ·rw [if_neg c7] at H
       exact absurd H (by simp)
     ·rw [if_neg c6] at H
      exact absurd H (by simp)
    ·rw [if_neg c5] at H
     exact absurd H (by simp)
   ·rw [if_neg c4] at H
    have c4b0 : decide (x4_1 < 6) = false := decide_eq_false c4
    clear c4
    obtain rfl := Option.some.inj H
    go_wp2
    go_ret
    exact ⟨_, qr_, by (with_reducible repeat (first | apply Kd.R_alloc | apply Kd.R_drewN | apply Kd.R_drew)); exact HO_3.out, qB_⟩

/-! ### impl_copyDisk: function 98 -/
def impl_copyDisk.f (l0_0 : List (S94)) : Option ((List (S94))) := if ([] : List (S94)).length + l0_0.length < 3518437208883 then (some (([] : List (S94)) ++ l0_0)) else (none)
set_option maxHeartbeats 8000000 in
set_option maxRecDepth 100000 in
theorem impl_copyDisk.calls (A0_0 : Option Addr) (c0_0 : Nat) (l0_0 : List (S94)) (r : List (S94)) (w : World) (hr0_0 : Kd.C k94 w A0_0 l0_0.length l0_0) (hc0_0 : l0_0.length ≤ c0_0) (h : impl_copyDisk.f l0_0 = some r) :
  Calls Try.prog 98 #[.agg #[.slice A0_0 l0_0.length c0_0]] w fun e w' => ∃ v0_ : Value, e = .returned (.agg #[v0_]) ∧ Kd.R k94 94 w' w.heap.size (fun _ => True) v0_ r ∧ Below w.heap.size w w' := by
 have hu75 := Try.underlying75
 have HR0_0 := Aside0.mk hr0_0
 have HC0_0 := Aside0.mk hc0_0
 clear hr0_0 hc0_0
 have HB := Aside0.mk (Below.refl w.heap.size w)
 have H : (if ([] : List (S94)).length + l0_0.length < 3518437208883 then (some (([] : List (S94)) ++ l0_0)) else (none)) = some r := h
 clear h
 by_cases c2 : ([] : List (S94)).length + l0_0.length < 3518437208883
 ·rw [if_pos c2] at H
  have LMc2 := Aside0.mk c2
  clear c2
  obtain ⟨y215, hy215⟩ : ∃ y_ : List (S94), y_ = (([] : List (S94)) ++ l0_0) := ⟨_, rfl⟩
  replace H : (some y215) = some r := by first | (rw [hy215]; with_reducible exact H) | (have H2_ := (Option.bind_some _ _).symm.trans H; rw [hy215]; with_reducible exact H2_) | (have H2_ := (Option.bind_some _ _).symm.trans H; with_reducible exact H2_) | with_reducible exact H | (rw [hy215]; exact H) | exact H
  have Ny215 := Aside0.mk hy215
  clear hy215
  obtain rfl := Option.some.inj H
  go_enter Try.func98, Try.ntmps98
  go_wp2_with (first | ((with_reducible refine gate_dst (N := 1) rfl ?_); refine bx_ 1 (cs := #[.slice A0_0 l0_0.length c0_0]) (t := 75) ?_; intro gb213 hg w3 hbox hb; have BK213 := Aside0.mk (hbox); have GW213 := Aside0.mk ((qs_ : w.heap.size ≤ gb213)); have GE213 := Aside0.mk ((qs_ : w.heap.size ≤ gb213)); replace HB := Aside0.mk (below_step qB_ hb); clear hb hbox hg) | ((with_reducible refine gate_dst (N := 2) rfl ?_); refine bx_ 2 (cs := #[.slice none 0 0]) (t := 75) ?_; intro gb214 hg w4 hbox hb; have BK214 := Aside0.mk (hbox); have GW214 := Aside0.mk ((qs_ : w.heap.size ≤ gb214)); have GE214 := Aside0.mk ((qs_ : w.heap.size ≤ gb214)); have NB213_214 := Aside0.mk ((by rw [hg]; exact Nat.ne_of_lt (blk_lt (qk_ BK213)) : gb213 ≠ gb214)); have NB214_213 := Aside0.mk ((by rw [hg]; exact Nat.ne_of_gt (blk_lt (qk_ BK213)) : gb214 ≠ gb213)); replace BK213 := Aside0.mk (blk_below (qk_ BK213) hb); replace HB := Aside0.mk (below_step qB_ hb); clear hb hbox hg; have hnb5 := NB213_214.out; have hnc5 := NB214_213.out; obtain ⟨hcz6_0, hfz6_0⟩ := bc1_ BK213) | ((with_reducible refine gate_builtin (b := .append) (xs := #[.const (.slice none 0 0), .tmp 4]) rfl ?_); at_builtin; refine Kd.R_append_rows k94 (w0 := w) w.heap.size rfl (.const (.slice none 0 0)) (.tmp 4) 73 94 (.agg #[(.string ⟨#[]⟩), (.string ⟨#[]⟩), (.int .i64 0)]) 40 rfl Try.underlying73 info94 rfl (by decide) (by omega) (.slice none 0 0) ([] : List (S94)) l0_0 _ _ _ (fun _ => True) (fun _ => False) rfl rfl ?aO ?aR (fun _ _ h => h) (fun _ h => h.elim) ?aF ?aB ?aS ?aL ?_; (case aR => repeat (first | exact (Kd.C_below HR0_0.out HB.out) | (with_reducible refine Kd.C_alloc ?_ _) | (with_reducible refine Kd.C_drewN ?_ _) | (with_reducible refine Kd.C_drew ?_))); (case aB => exact qB_); (case aF => exact (fun _ _ => trivial)); (case aO => exact ((Kd.R_nil _ _ _ _ (fun _ => True)))); (case aS => exact (below_size qB_)); (case aL => have := LMc2.out; omega); intro v216 w7 ho hb hg hat; rw [← Ny215.out] at ho; have HO217 := Aside0.mk (ho); replace BK213 := Aside0.mk (blk_grown (qk_ BK213) hg (by simp [Value.ownBlock])); replace BK214 := Aside0.mk (blk_grown (qk_ BK214) hg (by simp [Value.ownBlock])); replace HB := Aside0.mk (hb); clear ho hb hg hat; obtain ⟨Ao8, co8, eo8⟩ := Kd.R_slice HO217.out; subst eo8; obtain ⟨hcz9_0, hfz9_0⟩ := bc1_ BK214))
  refine bodyPost_ret (results_cell_row rfl _ _ gb214 75 #[.slice Ao8 y215.length co8] (0, 0) _ rfl (by (with_reducible repeat (first | refine blk_drewN ?_ _ | refine blk_drew ?_ | refine blk_alloc ?_ _)); refine blk_put (cs := #[.slice none 0 0]) ?_ 0 _ rfl; (with_reducible repeat (first | refine blk_drewN ?_ _ | refine blk_drew ?_ | refine blk_alloc ?_ _)); exact BK214.out) Try.underlying75 rfl (by kernel_rfl)) rfl ?_
  exact ⟨_, qr_, by (with_reducible repeat (first | apply Kd.R_alloc | apply Kd.R_drewN | apply Kd.R_drew)); exact Kd.R_mono (Kd.R_far (p := ⟨gb214, 0, none⟩) (Kd.R_types HO217.out BK214.out (by decide)) (fun _ hk => hk.2) (.slice Ao8 y215.length co8)) (fun _ hk => trivial), qB_⟩
 ·rw [if_neg c2] at H
  exact absurd H (by simp)

end Go.Proofs.Ytmjblanhgekhpaa.QFnKeeps
