-- a walk by hand, for this claim
import Derived.Lib.ConvBytes
import Derived.Test.YtmjblanhgekhpaaQFnTurnedx0
import Derived.Test.YtmjblanhgekhpaaQFnTurnedx1
import Derived.Test.YtmjblanhgekhpaaQFnTurnedx2
namespace Go.Proofs.Ytmjblanhgekhpaa.QFnTurned
open Go.RowKit Go.Proofs.YtmjblanhgekhpaaW.PrintWords Go.Proofs.YtmjblanhgekhpaaW.PrintLast Go.Proofs.YtmjblanhgekhpaaW.PrintMore
attribute [local go_sem] max2_int min2_int max_two min_two max_three min_three max_four min_four   -- for this text's walks alone
set_option linter.unusedVariables false
set_option linter.unusedSimpArgs false

/-! ### rows that lie apart, told by the range of their blocks -/
def Rg (b : Nat) (w : World) (lo hi : Nat) (v : Value) (xs : List (List Int)) : Prop := Kd.S (Kd.slice 3 (Kd.int .i64)) 40 w b (fun k => lo ≤ k ∧ k < hi) v xs ∧ hi ≤ w.heap.size
theorem Rg.born {b : Nat} {w w' : World} {v : Value} {xs : List (List Int)} (h : Kd.S (Kd.slice 3 (Kd.int .i64)) 40 w' w.heap.size (fun _ => True) v xs) (hb : Below w.heap.size w w') (hB : b ≤ w.heap.size) : ∃ lo hi, lo = w.heap.size ∧ lo ≤ hi ∧ hi = w'.heap.size ∧ Rg b w' lo hi v xs :=
  ⟨_, _, rfl, hb.size, rfl, Kd.S_lower (Kd.S_mono (Kd.S_bound h) (fun _ hk => ⟨hk.2.1, hk.2.2.1⟩)) hB, Nat.le_refl _⟩
theorem Rg.below {b : Nat} {w w' : World} {lo hi : Nat} {v : Value} {xs : List (List Int)} (h : Rg b w lo hi v xs) (hb : Below w.heap.size w w') : Rg b w' lo hi v xs := ⟨Kd.S_below h.1 hb, Nat.le_trans h.2 hb.size⟩
theorem Rg.kept {b : Nat} {w w' : World} {P : Nat → Prop} {lo hi : Nat} {v : Value} {xs : List (List Int)} (h : Rg b w lo hi v xs) (hk : Kept w w' P) (hd : ∀ k, lo ≤ k → k < hi → ¬ P k) : Rg b w' lo hi v xs :=
  ⟨Kd.S_step h.1 (fun k ho hl => hk.2 k hl (hd k ho.1 ho.2)), Nat.le_trans h.2 hk.1⟩
theorem Rg.S {b : Nat} {w : World} {lo hi : Nat} {v : Value} {xs : List (List Int)} (h : Rg b w lo hi v xs) : Kd.S (Kd.slice 3 (Kd.int .i64)) 40 w b (fun k => lo ≤ k ∧ k < hi) v xs := h.1
theorem Rg.le {b : Nat} {w : World} {lo hi : Nat} {v : Value} {xs : List (List Int)} (h : Rg b w lo hi v xs) : hi ≤ w.heap.size := h.2
theorem Rg.mk {b : Nat} {w : World} {lo hi : Nat} {v : Value} {xs : List (List Int)} (h : Kd.S (Kd.slice 3 (Kd.int .i64)) 40 w b (fun k => lo ≤ k ∧ k < hi) v xs) (h2 : hi ≤ w.heap.size) : Rg b w lo hi v xs := ⟨h, h2⟩
theorem Rg.slice {b : Nat} {w : World} {lo hi : Nat} {v : Value} {xs : List (List Int)} (h : Rg b w lo hi v xs) : ∃ A c, v = .slice A xs.length c := Kd.S_slice h.1
theorem Rg.C {b : Nat} {w : World} {lo hi n c : Nat} {A : Option Addr} {xs : List (List Int)} (h : Rg b w lo hi (.slice A n c) xs) : Kd.C (Kd.slice 3 (Kd.int .i64)) w A xs.length xs := (Kd.S_reads' h.1).2.2
theorem Rg.cap {b : Nat} {w : World} {lo hi n c : Nat} {A : Option Addr} {xs : List (List Int)} (h : Rg b w lo hi (.slice A n c) xs) : n ≤ c := (Kd.S_reads' h.1).2.1
theorem Rg.len {b : Nat} {w : World} {lo hi n c : Nat} {A : Option Addr} {xs : List (List Int)} (h : Rg b w lo hi (.slice A n c) xs) : n = xs.length := (Kd.S_reads' h.1).1
/-- a struct of two cells stored into a variable -/
theorem set2_kept {w w1 : World} {g : Nat} {a b : Value} (hw : w1 = (w.setCell ⟨g, 0, none⟩ a).setCell ⟨g, 1, none⟩ b) : Kept w w1 (fun k => k = g) := by
  subst hw
  refine ⟨by rw [Go.Deep.nblk_setCell, Go.Deep.nblk_setCell]; exact Nat.le_refl _, fun i _ hn => ?_⟩
  rw [Go.Deep.blk_setCell_other _ _ _ _ hn, Go.Deep.blk_setCell_other _ _ _ _ hn]
theorem set2_blk {w w1 : World} {g t : Nat} {a b x y : Value} (hw : w1 = (w.setCell ⟨g, 0, none⟩ a).setCell ⟨g, 1, none⟩ b) (h : w.heap[g]? = some (.cells #[x, y] t (0, 0))) : w1.heap[g]? = some (.cells #[a, b] t (0, 0)) := by
  subst hw
  simpa using blk_set (blk_set h 0 a) 1 b
theorem drawn_below {w w' : World} (h : Drawn0 w w') : Below w.heap.size w w' := by
  obtain ⟨n, rfl⟩ := h
  exact pw_below_drewN (Below.refl _ _) n

/-! ### bytes made of a text: cells that are stored into and read back -/
def Bs (w : World) (g : Nat) (xs : List Int) : Prop := ∃ (cells : Array Value) (t m : Nat), w.heap[g]? = some (.cells cells t (m, m + 1)) ∧ xs.length ≤ m ∧ ∀ j, j < xs.length → cells[j]? = some (.int .u8 (xs.getD j 0))
theorem Bs.cell {w : World} {g : Nat} {xs : List Int} (h : Bs w g xs) (j : Nat) (hj : j < xs.length) : w.cell? ⟨g, j, none⟩ = some (.int .u8 (xs.getD j 0)) := by
  obtain ⟨cells, t, m, hb, _, hc⟩ := h
  simp [World.cell?, hb, hc j hj]
theorem Bs.frozen {w : World} {g : Nat} {xs : List Int} (h : Bs w g xs) (j : Nat) (hj : j < xs.length) : w.frozen? ⟨g, j, none⟩ = false := by
  obtain ⟨cells, t, m, hb, hm, _⟩ := h
  simp [World.frozen?, hb]
  omega
theorem Bs.below {w w' : World} {g : Nat} {xs : List Int} (h : Bs w g xs) (hb : Below w.heap.size w w') : Bs w' g xs := by
  obtain ⟨cells, t, m, hh, h1, h2⟩ := h
  exact ⟨cells, t, m, (hb.block g (by obtain ⟨hl, _⟩ := Array.getElem?_eq_some_iff.1 hh; exact hl)).trans hh, h1, h2⟩
theorem Bs.set {w : World} {g : Nat} {xs : List Int} (h : Bs w g xs) (i : Nat) (v : Int) : Bs (w.setCell ⟨g, i, none⟩ (.int .u8 v)) g (xs.set i v) := by
  obtain ⟨cells, t, m, hh, h1, h2⟩ := h
  refine ⟨cells.setIfInBounds i (.int .u8 v), t, m, by simp [World.setCell, Array.getElem?_modify, hh], by rw [List.length_set]; exact h1, fun j hj => ?_⟩
  rw [List.length_set] at hj
  rw [Array.getElem?_setIfInBounds]
  have hl : j < cells.size := by
    have := h2 j hj
    obtain ⟨hl, _⟩ := Array.getElem?_eq_some_iff.1 this
    exact hl
  by_cases e : i = j
  · subst e
    simp [hl, List.getD_eq_getElem?_getD, hj]
  · rw [if_neg e, h2 j hj]
    simp [List.getD_eq_getElem?_getD, List.getElem?_set_ne e]
theorem Bs.reads {w : World} {g : Nat} {xs : List Int} (h : Bs w g xs) (hl : xs.length ≤ 9223372036854775807) : ReadsInt w .u8 (some ⟨g, 0, none⟩) xs.length xs :=
  ⟨rfl, hl, fun _ => ⟨_, rfl, fun j hj => by
    have := h.cell j hj
    have e : (⟨g, 0, none⟩ : Addr).add j = ⟨g, j, none⟩ := by simp [Addr.add]; omega
    rw [e]; exact this⟩⟩
theorem Bs.born (w : World) (e : TypeId) (s : ByteArray) : Bs (Lib.bytesWorld w e s) w.heap.size (bytesOf s) := by
  refine ⟨_, _, _, Lib.bytesWorld_at_new w e s, ?_, fun j hj => ?_⟩
  · rw [bytesOf_length]; simp [Lib.bytesCells]
  · have hj' : j < s.data.size := by simpa [bytesOf] using hj
    have hj2 : j < s.size := hj'
    simp [Lib.bytesCells, Array.getElem?_append, hj', hj2, bytesOf, List.getD_eq_getElem?_getD]
theorem bytesWorld_below (w : World) (e : TypeId) (s : ByteArray) : Below w.heap.size w (Lib.bytesWorld w e s) := by
  refine ⟨?_, ?_, ?_, ?_, ?_⟩ <;> first | (intro k hk; exact Lib.bytesWorld_at_old w e s k hk) | (rw [Lib.bytesWorld_size]; omega) | rfl
/-! ### whole numbers of the call's own, only read -/
def Ig (b : Nat) (w : World) (lo hi : Nat) (v : Value) (xs : List Int) : Prop := Kd.R (Kd.int .i64) 3 w b (fun k => lo ≤ k ∧ k < hi) v xs ∧ hi ≤ w.heap.size
section
variable {b lo hi n c : Nat} {A : Option Addr} {w w' : World} {v : Value} {xs : List Int} {P : Nat → Prop}
theorem Ig.born (h : Kd.R (Kd.int .i64) 3 w' w.heap.size (fun _ => True) v xs) (hb : Below w.heap.size w w') (hB : b ≤ w.heap.size) : ∃ lo hi, lo = w.heap.size ∧ lo ≤ hi ∧ hi = w'.heap.size ∧ Ig b w' lo hi v xs :=
  ⟨_, _, rfl, hb.size, rfl, Kd.R_lower (Kd.R_mono (Kd.R_bound h) (fun _ hk => ⟨hk.2.1, hk.2.2.1⟩)) hB, Nat.le_refl _⟩
theorem Ig.below (h : Ig b w lo hi v xs) (hb : Below w.heap.size w w') : Ig b w' lo hi v xs := ⟨Kd.R_below h.1 hb, Nat.le_trans h.2 hb.size⟩
theorem Ig.kept (h : Ig b w lo hi v xs) (hk : Kept w w' P) (hd : ∀ k, lo ≤ k → k < hi → ¬ P k) : Ig b w' lo hi v xs :=
  ⟨Kd.R_step h.1 (fun k ho hl => hk.2 k hl (hd k ho.1 ho.2)), Nat.le_trans h.2 hk.1⟩
theorem Ig.le (h : Ig b w lo hi v xs) : hi ≤ w.heap.size := h.2
theorem Ig.slice (h : Ig b w lo hi v xs) : ∃ A c, v = .slice A xs.length c := Kd.R_slice h.1
theorem Ig.form (h : Ig b w lo hi v xs) (hp : 0 < xs.length) : ∃ g cap, v = .slice (some ⟨g, 0, none⟩) xs.length cap := by
  obtain ⟨g, cap, e, _⟩ := Kd.R_form h.1 hp
  exact ⟨g, cap, e⟩
theorem Ig.cell {g : Nat} (h : Ig b w lo hi (.slice (some ⟨g, 0, none⟩) n c) xs) (i : Int) (h0 : 0 ≤ i) (h1 : i < n) : w.cell? ⟨g, i.toNat, none⟩ = some (.int .i64 (rd xs i)) := (Kd.R_celln 0 h.1 i h0 h1).1
end

set_option maxHeartbeats 8000000 in
set_option maxRecDepth 100000 in
theorem law_walk (k : Nat) (A0 : Option Addr) (c0 : Nat) (L : List Int) (w : World) (hr0 : Kd.C (Kd.int .u8) w A0 L.length L) (hc0 : L.length ≤ c0) (hbig : laws_big.f L = some false) (s t : ByteArray) (p : List Int) (hs : spec_DrawSumOf.f k L = some s) (hp : spec_DrawPlaces.f k L = some p) (ht : impl_Sealed.f k s = some (t, true)) (hu : impl_Unsealed.f k t = some (s, true))
    (hlen : (t.size : Int) = wrap64 ((s.size : Int) + 4)) (hpl : p.length = 12) (i : Int) (hi : Int.tmod (rd p 0) (t.size : Int) = i) (hi0 : (0 ≤ i) = True) (hi1 : (i < (t.size : Int)) = True) (htz : (t = ByteArray.empty) = False) (hil : i.toNat < (bytesOf t).length) (hbt : (bytesOf t).getD i.toNat 0 = bt t i) (x8 : Int) (hx8 : Go.bits .xor .u8 (bt t i) (IntKind.u8.wrap (wrap64 (1 + Int.tmod (rd p 1) 255))) = x8) (u : ByteArray) (hux : strOfNums ((bytesOf t).set i.toNat x8) = u) (hts : t.size ≤ 9223372036854775807) (hss : s.size ≤ 1000000) (s2 : ByteArray) (hu2 : impl_Unsealed.f k u = some (s2, false)) (q1 q2 : Int) (hq1 : impl_SumOf.f k s = some q1) (hq2 : impl_SumMore.f k q1 (⟨#[120]⟩ : ByteArray) = some q2) (hq3 : impl_SumOf.f k (s ++ (⟨#[120]⟩ : ByteArray)) = some q2) :
    Calls Try.prog 6 #[.slice A0 L.length c0] w fun e w' => e = .returned (.bool true) ∧ Below w.heap.size w w' := by
  have HB := Aside0.mk (Below.refl w.heap.size w)
  have HR0 := Aside0.mk hr0
  have HC0 := Aside0.mk hc0
  clear hr0 hc0
  have HSS := Aside0.mk hss
  clear hss
  go_enter Try.func6, Try.ntmps6
  try go_wp2_with (first
    | ((with_reducible refine gate_callee (f := 27) rfl ?_); refine goesL_ (some 14) rfl rfl Try.func27 (by kernel_rfl) rfl #[.slice A0 L.length c0] rfl (by (try simp only [List.map_toArray, List.map_cons, List.map_nil]); first | done | rfl) ?_; (with_reducible refine (laws_big.calls _ _ L false _ (Kd.C_below HR0.out HB.out) HC0.out hbig).mono ?_); rintro e y1 ⟨rfl, hd_⟩; refine ⟨_, rfl, ?_⟩; have hb := drawn_below hd_; clear hd_; have m0_ := Aside0.mk (below_step HB.out hb); clear HB; have HB := m0_; clear m0_; clear hb)
    | ((with_reducible refine gate_callee (f := 28) rfl ?_); refine goesL_ (some 16) rfl rfl Try.func28 (by kernel_rfl) rfl #[.slice A0 L.length c0] rfl (by (try simp only [List.map_toArray, List.map_cons, List.map_nil]); first | done | rfl) ?_; (with_reducible refine (spec_DrawSumOf.calls k _ _ L s _ (Kd.C_below HR0.out HB.out) HC0.out hs).mono ?_); rintro e y2 ⟨rfl, hb⟩; refine ⟨_, rfl, ?_⟩; have m0_ := Aside0.mk (below_step HB.out hb); clear HB; have HB := m0_; clear m0_; clear hb)
    | ((with_reducible refine gate_callee (f := 29) rfl ?_); refine goesL_ (some 18) rfl rfl Try.func29 (by kernel_rfl) rfl #[.slice A0 L.length c0] rfl (by (try simp only [List.map_toArray, List.map_cons, List.map_nil]); first | done | rfl) ?_; (with_reducible refine (spec_DrawPlaces.calls k _ _ L p _ (Kd.C_below HR0.out HB.out) HC0.out hp).mono ?_); rintro e y3 ⟨v_, rfl, ho, hb⟩; refine ⟨_, rfl, ?_⟩; obtain ⟨lop, hip, hlo_, hle_, hhi_, hrg_⟩ := Ig.born (b := w.heap.size) ho hb (below_size HB.out); obtain ⟨Ap, cp, rfl⟩ := hrg_.slice; have m0_ := Aside0.mk (hrg_); have m1_ := Aside0.mk (below_step HB.out hb); have m2_ := Aside0.mk ((hle_ : lop ≤ hip)); have m3_ := Aside0.mk ((by rw [hlo_]; exact below_size HB.out : w.heap.size ≤ lop)); clear HB; have Fp := m0_; have HB := m1_; have Op := m2_; have OWp := m3_; clear m0_ m1_ m2_ m3_; clear ho hb hrg_ hlo_ hle_ hhi_)
    | ((with_reducible refine gate_callee (f := 30) rfl ?_); refine goesL_ (some 21) rfl rfl Try.func30 (by kernel_rfl) rfl #[.string s] rfl (by (try simp only [List.map_toArray, List.map_cons, List.map_nil]); first | done | rfl) ?_; (with_reducible refine (impl_Sealed.calls k s t true _ ht).mono ?_); rintro e y4 ⟨rfl, hb⟩; refine ⟨_, rfl, ?_⟩; have m0_ := Aside0.mk (Ig.below Fp.out hb); have m1_ := Aside0.mk (below_step HB.out hb); clear Fp HB; have Fp := m0_; have HB := m1_; clear m0_ m1_; clear hb)
    | ((with_reducible refine gate_callee (f := 31) rfl ?_); refine goesL_ (some 26) rfl rfl Try.func31 (by kernel_rfl) rfl #[.string t] rfl (by (try simp only [List.map_toArray, List.map_cons, List.map_nil]); first | done | rfl) ?_; (with_reducible refine (impl_Unsealed.calls k t s true _ hu).mono ?_); rintro e y5 ⟨rfl, hb⟩; refine ⟨_, rfl, ?_⟩; have m0_ := Aside0.mk (Ig.below Fp.out hb); have m1_ := Aside0.mk (below_step HB.out hb); clear Fp HB; have Fp := m0_; have HB := m1_; clear m0_ m1_; clear hb))
  obtain ⟨gp, cpp, ep⟩ := Ig.form Fp.out (by omega)
  injection ep with ea_ en_ ec_
  subst ea_
  subst ec_
  clear en_ hlen
  have hcb := Lib.run_convert_string_bytes (P := Try.prog) y5 9 44 5 t Try.underlying9 Try.underlying44 Try.underlying5
  have hb := bytesWorld_below y5 5 t
  have fb := Bs.born y5 5 t
  obtain ⟨z1, hz1⟩ : ∃ z, z = Lib.bytesWorld y5 5 t := ⟨_, rfl⟩
  obtain ⟨gb, hgb⟩ : ∃ g, g = y5.heap.size := ⟨_, rfl⟩
  have hpb : hip ≤ gb := by rw [hgb]; exact Ig.le Fp.out
  have hwb : w.heap.size ≤ gb := by rw [hgb]; exact below_size HB.out
  rw [← hz1] at hcb hb fb
  rw [← hgb] at hcb fb
  have FB := Aside0.mk fb
  have n1_ := Aside0.mk (Ig.below Fp.out hb)
  have n2_ := Aside0.mk (below_step HB.out hb)
  clear Fp HB hb fb hz1 hgb
  have Fp := n1_
  have HB := n2_
  clear n1_ n2_
  have hp0 : z1.cell? ⟨gp, 0, none⟩ = some (.int .i64 (rd p 0)) := by simpa using Ig.cell Fp.out 0 (by omega) (by omega)
  rw [hcb]
  simp only [Result.andThen]
  rw [Oper.upon_value]
  try go_wp2
  have hb := below_drew1 (Below.refl z1.heap.size z1)
  have n0_ := Aside0.mk (Bs.below FB.out hb)
  have n1_ := Aside0.mk (Ig.below Fp.out hb)
  have n2_ := Aside0.mk (below_step HB.out hb)
  clear FB Fp HB hb hp0 hcb
  have FB := n0_
  have Fp := n1_
  have HB := n2_
  clear n0_ n1_ n2_
  refine start_ (n := 15) (S := fun w_ => w_.cell? ⟨gb, i.toNat, none⟩ = some (.int .u8 (bt t i)) ∧ w_.cell? ⟨gp, 1, none⟩ = some (.int .i64 (rd p 1))) (ds := [14]) #[false, false, false, false, false, false, false, false, false, false, false, false, false, false, false] (by kernel_rfl) rfl rfl ⟨by have := FB.out.cell i.toNat hil; rw [hbt] at this; exact this, by simpa using Ig.cell Fp.out 1 (by omega) (by omega)⟩ (fun hHeld => ?_)
  generalize z1.drew = z2 at FB Fp HB hHeld ⊢
  refine pure_ (i := 0) (N := some 56) (v := ?_) (a' := ?_) #[true, false, false, false, false, false, false, false, false, false, false, false, false, false, false] rfl rfl (by kernel_rfl) (fun _ _ _ h => h) (Or.inl ⟨by rfl, ?_⟩) ?_ ?_
  rotate_left
  · intro w_
    go_simp
    with_reducible rfl
  rotate_left
  · simp only [Act.put, List.setIfInBounds_toArray, List.set_cons_zero, List.set_cons_succ, i64_w, i32_w]
    rfl
  refine pure_ (i := 1) (N := some 57) (v := ?_) (a' := ?_) #[true, true, false, false, false, false, false, false, false, false, false, false, false, false, false] rfl rfl (by kernel_rfl) (fun _ _ _ h => h) (Or.inl ⟨by rfl, ?_⟩) ?_ ?_
  rotate_left
  · intro w_
    go_simp
    with_reducible rfl
  rotate_left
  · simp only [Act.put, List.setIfInBounds_toArray, List.set_cons_zero, List.set_cons_succ, i64_w, i32_w]
    rfl
  refine pure_ (i := 2) (N := some 58) (v := ?_) (a' := ?_) #[true, true, true, false, false, false, false, false, false, false, false, false, false, false, false] rfl rfl (by kernel_rfl) (fun _ _ _ h => h) (Or.inl ⟨by rfl, ?_⟩) ?_ ?_
  rotate_left
  · intro w_
    go_simp
    with_reducible rfl
  rotate_left
  · simp only [Act.put, List.setIfInBounds_toArray, List.set_cons_zero, List.set_cons_succ, i64_w, i32_w]
    rfl
  refine pure_ (i := 3) (N := some 59) (v := ?_) (a' := ?_) #[true, true, true, true, false, false, false, false, false, false, false, false, false, false, false] rfl rfl (by kernel_rfl) (fun _ _ _ h => h) (Or.inl ⟨by rfl, ?_⟩) ?_ ?_
  rotate_left
  · intro w_
    go_simp
    with_reducible rfl
  rotate_left
  · simp only [Act.put, List.setIfInBounds_toArray, List.set_cons_zero, List.set_cons_succ, i64_w, i32_w]
    rfl
  refine pure_ (i := 4) (N := some 60) (v := ?_) (a' := ?_) #[true, true, true, true, true, false, false, false, false, false, false, false, false, false, false] rfl rfl (by kernel_rfl) (fun _ _ _ h => h) (Or.inl ⟨by rfl, ?_⟩) ?_ ?_
  rotate_left
  · intro w_
    go_simp
    with_reducible rfl
  rotate_left
  · simp only [Act.put, List.setIfInBounds_toArray, List.set_cons_zero, List.set_cons_succ, i64_w, i32_w]
    rfl
  refine take_ (i := 5) (N := some 61) (v := ?_) (a' := ?_) #[true, true, true, true, true, true, false, false, false, false, false, false, false, false, false] rfl rfl (by kernel_rfl) (fun _ _ _ h => h) (Or.inl ⟨by rfl, ?_⟩) hHeld ?_ ?_
  rotate_left
  · rintro w_ ⟨s0_, s1_⟩
    go_simp
    with_reducible rfl
  rotate_left
  · simp only [Act.put, List.setIfInBounds_toArray, List.set_cons_zero, List.set_cons_succ, i64_w, i32_w]
    rfl
  refine pure_ (i := 6) (N := some 62) (v := ?_) (a' := ?_) #[true, true, true, true, true, true, true, false, false, false, false, false, false, false, false] rfl rfl (by kernel_rfl) (fun _ _ _ h => h) (Or.inl ⟨by rfl, ?_⟩) ?_ ?_
  rotate_left
  · intro w_
    go_simp
    with_reducible rfl
  rotate_left
  · simp only [Act.put, List.setIfInBounds_toArray, List.set_cons_zero, List.set_cons_succ, i64_w, i32_w]
    rfl
  refine pure_ (i := 7) (N := some 63) (v := ?_) (a' := ?_) #[true, true, true, true, true, true, true, true, false, false, false, false, false, false, false] rfl rfl (by kernel_rfl) (fun _ _ _ h => h) (Or.inl ⟨by rfl, ?_⟩) ?_ ?_
  rotate_left
  · intro w_
    go_simp
    with_reducible rfl
  rotate_left
  · simp only [Act.put, List.setIfInBounds_toArray, List.set_cons_zero, List.set_cons_succ, i64_w, i32_w]
    rfl
  refine take_ (i := 8) (N := some 64) (v := ?_) (a' := ?_) #[true, true, true, true, true, true, true, true, true, false, false, false, false, false, false] rfl rfl (by kernel_rfl) (fun _ _ _ h => h) (Or.inl ⟨by rfl, ?_⟩) hHeld ?_ ?_
  rotate_left
  · rintro w_ ⟨s0_, s1_⟩
    go_simp
    with_reducible rfl
  rotate_left
  · simp only [Act.put, List.setIfInBounds_toArray, List.set_cons_zero, List.set_cons_succ, i64_w, i32_w]
    rfl
  refine pure_ (i := 9) (N := some 65) (v := ?_) (a' := ?_) #[true, true, true, true, true, true, true, true, true, true, false, false, false, false, false] rfl rfl (by kernel_rfl) (fun _ _ _ h => h) (Or.inl ⟨by rfl, ?_⟩) ?_ ?_
  rotate_left
  · intro w_
    go_simp
    with_reducible rfl
  rotate_left
  · simp only [Act.put, List.setIfInBounds_toArray, List.set_cons_zero, List.set_cons_succ, i64_w, i32_w]
    rfl
  refine pure_ (i := 10) (N := some 66) (v := ?_) (a' := ?_) #[true, true, true, true, true, true, true, true, true, true, true, false, false, false, false] rfl rfl (by kernel_rfl) (fun _ _ _ h => h) (Or.inl ⟨by rfl, ?_⟩) ?_ ?_
  rotate_left
  · intro w_
    go_simp
    with_reducible rfl
  rotate_left
  · simp only [Act.put, List.setIfInBounds_toArray, List.set_cons_zero, List.set_cons_succ, i64_w, i32_w]
    rfl
  refine pure_ (i := 11) (N := some 67) (v := ?_) (a' := ?_) #[true, true, true, true, true, true, true, true, true, true, true, true, false, false, false] rfl rfl (by kernel_rfl) (fun _ _ _ h => h) (Or.inl ⟨by rfl, ?_⟩) ?_ ?_
  rotate_left
  · intro w_
    go_simp
    with_reducible rfl
  rotate_left
  · simp only [Act.put, List.setIfInBounds_toArray, List.set_cons_zero, List.set_cons_succ, i64_w, i32_w]
    rfl
  refine pure_ (i := 12) (N := some 68) (v := ?_) (a' := ?_) #[true, true, true, true, true, true, true, true, true, true, true, true, true, false, false] rfl rfl (by kernel_rfl) (fun _ _ _ h => h) (Or.inl ⟨by rfl, ?_⟩) ?_ ?_
  rotate_left
  · intro w_
    go_simp
    with_reducible rfl
  rotate_left
  · simp only [Act.put, List.setIfInBounds_toArray, List.set_cons_zero, List.set_cons_succ, i64_w, i32_w]
    rfl
  refine pure_ (i := 13) (N := some 69) (v := ?_) (a' := ?_) #[true, true, true, true, true, true, true, true, true, true, true, true, true, true, false] rfl rfl (by kernel_rfl) (fun _ _ _ h => h) (Or.inl ⟨by rfl, ?_⟩) ?_ ?_
  rotate_left
  · intro w_
    go_simp
    with_reducible rfl
  rotate_left
  · simp only [Act.put, List.setIfInBounds_toArray, List.set_cons_zero, List.set_cons_succ, i64_w, i32_w]
    rfl
  have hs0 : z2.cell? ⟨gb, i.toNat, none⟩ = some (.int .u8 (bt t i)) := hHeld.1
  have hf0 := FB.out.frozen i.toNat hil
  refine last_ (i := 14) (N := none) #[true, true, true, true, true, true, true, true, true, true, true, true, true, true, true] rfl rfl (by kernel_rfl) (by decide) (fun K hK => ?_)
  refine skip_ (w1 := z2.setCell ⟨gb, i.toNat, none⟩ (.int .u8 x8)) (by rfl) rfl ?_ ?_
  · rw [← hx8]
    go_simp
    first | done | rfl
  refine hK.out _ _ ?_
  clear hK K
  obtain ⟨z3, hz3⟩ : ∃ z, z = z2.setCell ⟨gb, i.toNat, none⟩ (.int .u8 x8) := ⟨_, rfl⟩
  have fb := Bs.set FB.out i.toNat x8
  have hb2 : Below w.heap.size w (z2.setCell ⟨gb, i.toNat, none⟩ (.int .u8 x8)) := HB.out.setCell hwb _
  rw [← hz3] at fb hb2 ⊢
  have n0_ := Aside0.mk fb
  have n1_ := Aside0.mk hb2
  clear FB HB Fp fb hb2 hz3 hs0 hf0 hHeld
  have FB := n0_
  have HB := n1_
  clear n0_ n1_
  refine done_ (by kernel_rfl) ?_
  have hcs : (convert 44 9 (.slice (some ⟨gb, 0, none⟩) t.size (grownCap y5 t.size 0 5))).run Try.prog z3 = .ok (.string u) z3 := by
    have h1 := Bs.reads FB.out (by rw [List.length_set, bytesOf_length]; omega)
    rw [List.length_set, bytesOf_length] at h1
    rw [string_of_reads Try.underlying44 Try.underlying5 Try.underlying9 h1, hux]
  have hcc1 : (9223372036854775807 < s.size + 1) = False := eq_false (by have := HSS.out; omega)
  have hcc2 : (9223372036854775807 < s.size + (⟨#[120]⟩ : ByteArray).size) = False := eq_false (by show ¬ (9223372036854775807 < s.size + 1); have := HSS.out; omega)
  have hcc3 : (s.size + 1 ≤ 9223372036854775807) = True := eq_true (by have := HSS.out; omega)
  have hcc4 : (9223372036854775807 ≤ s.size) = False := eq_false (by have := HSS.out; omega)
  try go_wp2_with (first
    | ((with_reducible refine gate_callee (f := 31) rfl ?_); refine goesL_ (some 73) rfl rfl Try.func31 (by kernel_rfl) rfl #[.string u] rfl (by (try simp only [List.map_toArray, List.map_cons, List.map_nil]); first | done | rfl) ?_; (with_reducible refine (impl_Unsealed.calls k u s2 false _ hu2).mono ?_); rintro e y41 ⟨rfl, hb⟩; refine ⟨_, rfl, ?_⟩; have m0_ := Aside0.mk (below_step HB.out hb); clear HB; have HB := m0_; clear m0_; clear hb)
    | (go_at_call 33; (with_reducible refine (impl_SumOf.calls k s q1 _ hq1).mono ?_); rintro e y42 ⟨rfl, hd_⟩; have hb := drawn_below hd_; clear hd_; have m0_ := Aside0.mk (below_step HB.out hb); clear HB; have HB := m0_; clear m0_; clear hb)
    | (go_at_call 32; (with_reducible refine (impl_SumMore.calls k q1 (⟨#[120]⟩ : ByteArray) q2 _ hq2).mono ?_); rintro e y43 ⟨rfl, hd_⟩; have hb := drawn_below hd_; clear hd_; have m0_ := Aside0.mk (below_step HB.out hb); clear HB; have HB := m0_; clear m0_; clear hb)
    | (go_at_call 33; (with_reducible refine (impl_SumOf.calls k (s ++ (⟨#[120]⟩ : ByteArray)) q2 _ hq3).mono ?_); rintro e y44 ⟨rfl, hd_⟩; have hb := drawn_below hd_; clear hd_; have m0_ := Aside0.mk (below_step HB.out hb); clear HB; have HB := m0_; clear m0_; clear hb))
  go_ret
  exact ⟨rfl, HB.out⟩
set_option maxHeartbeats 8000000 in
set_option maxRecDepth 100000 in
theorem law_big (k : Nat) (A0 : Option Addr) (c0 : Nat) (L : List Int) (w : World) (hr0 : Kd.C (Kd.int .u8) w A0 L.length L) (hc0 : L.length ≤ c0) (hbig : laws_big.f L = some true) :
    Calls Try.prog 6 #[.slice A0 L.length c0] w fun e w' => e = .returned (.bool true) ∧ Below w.heap.size w w' := by
  have HB := Aside0.mk (Below.refl w.heap.size w)
  have HR0 := Aside0.mk hr0
  have HC0 := Aside0.mk hc0
  clear hr0 hc0
  go_enter Try.func6, Try.ntmps6
  go_wp2_with (first
    | ((with_reducible refine gate_callee (f := 27) rfl ?_); refine goesL_ (some 14) rfl rfl Try.func27 (by kernel_rfl) rfl #[.slice A0 L.length c0] rfl (by (try simp only [List.map_toArray, List.map_cons, List.map_nil]); first | done | rfl) ?_; (with_reducible refine (laws_big.calls _ _ L true _ (Kd.C_below HR0.out HB.out) HC0.out hbig).mono ?_); rintro e y1 ⟨rfl, hd_⟩; refine ⟨_, rfl, ?_⟩; have hb := drawn_below hd_; clear hd_; have m0_ := Aside0.mk (below_step HB.out hb); clear HB; have HB := m0_; clear m0_; clear hb))
  go_ret
  exact ⟨rfl, HB.out⟩
def laws_FnTurned.Ok (k : Nat) (L : List Int) : Prop := laws_big.f L = some true ∨ (laws_big.f L = some false ∧ ∃ (s t u s2 : ByteArray) (p : List Int) (i x8 q1 q2 : Int), spec_DrawSumOf.f k L = some s ∧ spec_DrawPlaces.f k L = some p ∧ impl_Sealed.f k s = some (t, true) ∧ impl_Unsealed.f k t = some (s, true) ∧ (t.size : Int) = (s.size : Int) + 4 ∧ p.length = 12 ∧
    Int.tmod (rd p 0) (t.size : Int) = i ∧ 0 ≤ i ∧ i < (t.size : Int) ∧ Go.bits .xor .u8 (bt t i) (IntKind.u8.wrap (wrap64 (1 + Int.tmod (rd p 1) 255))) = x8 ∧ strOfNums ((bytesOf t).set i.toNat x8) = u ∧ s.size ≤ 1000000 ∧ impl_Unsealed.f k u = some (s2, false) ∧ impl_SumOf.f k s = some q1 ∧ impl_SumMore.f k q1 (⟨#[120]⟩ : ByteArray) = some q2 ∧ impl_SumOf.f k (s ++ (⟨#[120]⟩ : ByteArray)) = some q2)
theorem wrap4 {x : Nat} (h : x ≤ 1000000) : ((x : Int) + 4) = wrap64 ((x : Int) + 4) := by unfold wrap64; omega
theorem hts_ {t s : Nat} (h5 : (t : Int) = (s : Int) + 4) (h12 : s ≤ 1000000) : t ≤ 9223372036854775807 := by omega
theorem hil_ {t : Nat} {i : Int} (h8 : 0 ≤ i) (h9 : i < (t : Int)) : i.toNat < t := by omega
theorem htz_ {s : Nat} (h5 : ((0 : Nat) : Int) = (s : Int) + 4) : False := by omega
set_option maxHeartbeats 8000000 in
theorem law_ok (k : Nat) (A0 : Option Addr) (c0 : Nat) (L : List Int) (w : World) (hr0 : Kd.C (Kd.int .u8) w A0 L.length L) (hc0 : L.length ≤ c0) (h : laws_FnTurned.Ok k L) :
    Calls Try.prog 6 #[.slice A0 L.length c0] w fun e w' => e = .returned (.bool true) ∧ Below w.heap.size w w' := by
  rcases h with h | ⟨hb, s, t, u, s2, p, i, x8, q1, q2, h1, h2, h3, h4, h5, h6, h7, h8, h9, h10, h11, h12, h13, h14, h15, h16⟩
  · exact law_big k A0 c0 L w hr0 hc0 h
  · have hil : i.toNat < (bytesOf t).length := by rw [bytesOf_length]; exact hil_ h8 h9
    have hbt : (bytesOf t).getD i.toNat 0 = bt t i := rd_bytesOf t i
    have hw : (t.size : Int) = wrap64 ((s.size : Int) + 4) := h5.trans (wrap4 h12)
    have hts : t.size ≤ 9223372036854775807 := hts_ h5 h12
    have htz : (t = ByteArray.empty) = False := eq_false (fun e => htz_ (by rw [e] at h5; exact h5))
    exact law_walk k A0 c0 L w hr0 hc0 hb s t p h1 h2 h3 h4 hw h6 i h7 (eq_true h8) (eq_true h9) htz hil hbt x8 h10 u h11 hts h12 s2 h13 q1 q2 h14 h15 h16

end Go.Proofs.Ytmjblanhgekhpaa.QFnTurned
