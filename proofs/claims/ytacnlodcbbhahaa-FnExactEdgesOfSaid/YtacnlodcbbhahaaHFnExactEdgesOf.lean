-- a walk by hand, for this claim
import Derived.Test.YtacnlodcbbhahaaQFnExactEdgesOfx0
import Derived.Test.YtacnlodcbbhahaaQFnExactEdgesOfx1
import Derived.Test.YtacnlodcbbhahaaQFnExactEdgesOfx2
import Derived.Test.YtacnlodcbbhahaaQFnExactEdgesOfx3
import Derived.Test.YtacnlodcbbhahaaQFnExactEdgesOfx4
import Derived.Test.YtacnlodcbbhahaaQFnExactEdgesOfx5
import Derived.Test.YtacnlodcbbhahaaQFnExactEdgesOfx6
import Derived.Test.YtacnlodcbbhahaaQFnExactEdgesOfx7
import Derived.Test.YtacnlodcbbhahaaQFnExactEdgesOfx8
import Derived.Test.YtacnlodcbbhahaaQFnExactEdgesOfx9
import Derived.Test.YtacnlodcbbhahaaQFnExactEdgesOfx10
import Derived.Test.YtacnlodcbbhahaaQFnExactEdgesOfx11
import Derived.Test.YtacnlodcbbhahaaQFnExactEdgesOfx12
import Derived.Test.YtacnlodcbbhahaaQFnExactEdgesOfx13
import Derived.Test.YtacnlodcbbhahaaQFnExactEdgesOfx14
namespace Go.Proofs.Ytacnlodcbbhahaa.QFnExactEdgesOf
open Go.RowKit Go.Proofs.YtacnlodcbbhahaaW.PrintWords Go.Proofs.YtacnlodcbbhahaaW.PrintLast Go.Proofs.YtacnlodcbbhahaaW.PrintMore
attribute [local go_sem] max2_int min2_int max_two min_two max_three min_three max_four min_four   -- for this text's walks alone
set_option linter.unusedVariables false
set_option linter.unusedSimpArgs false

/-! ### laws.markIntSS, laws.markForest: rows that lie apart, each written -/
def laws_markIntSS.l0 : Nat → List (List Int) → Int → Int → Option (Int × (List (List Int)))
  | 0, _, _, _ => none
  | k + 1, x0, x1, x5 => if x5 < (x0.length : Int) then (if 0 ≤ x5 then ((laws_markIntS.f k (rd_L1 x0 x5) x1).bind fun p => laws_markIntSS.l0 k (x0.set x5.toNat p.2) p.1 (wrap64 (x5 + 1))) else none) else some (x1, x0)
def laws_markIntSS.f (k : Nat) (l0 : List (List Int)) (a1 : Int) : Option (Int × (List (List Int))) := laws_markIntSS.l0 k l0 a1 0
set_option maxHeartbeats 8000000 in
set_option maxRecDepth 100000 in
theorem laws_markIntSS.calls (k : Nat) (P0 : Nat → Prop) (u : Value) (l0 : List (List Int)) (a1 : Int) (r1 : Int) (r2 : List (List Int)) (w0 w : World) (hB : Below w0.heap.size w0 w) (ho0 : Kd.S (Kd.slice 3 (Kd.int .i64)) 40 w w0.heap.size P0 u l0) (h : laws_markIntSS.f k l0 a1 = some (r1, r2)) :
    Calls Try.prog 93 #[u, .int .i64 a1] w fun e w' => e = .returned (.int .i64 r1) ∧ Kd.S (Kd.slice 3 (Kd.int .i64)) 40 w' w0.heap.size P0 u r2 ∧ Below w0.heap.size w0 w' ∧ Kept w w' P0 := by
  obtain ⟨A0, c0, rfl⟩ := Kd.S_slice ho0
  have H' := Aside0.mk (show laws_markIntSS.l0 k l0 a1 0 = some (r1, r2) from h)
  have HO := Aside0.mk ho0
  have HBw := Aside0.mk hB
  have HN := Aside0.mk (show l0.length = l0.length from rfl)
  clear h ho0 hB
  go_enter Try.func93, Try.ntmps93
  go_wp2
  go_loopg [1, 5] k (fun kq v1 v5 w' => ∃ (xs : List (List Int)) (x1 : Int) (x5 : Int), v1 = .int .i64 x1 ∧ v5 = .int .i64 x5 ∧ Aside0 (laws_markIntSS.l0 kq xs x1 x5 = some (r1, r2)) ∧ Aside0 (xs.length = l0.length) ∧ Aside0 (Kd.S (Kd.slice 3 (Kd.int .i64)) 40 w' w0.heap.size P0 (.slice A0 l0.length c0) xs) ∧ Aside0 (Below w0.heap.size w0 w') ∧ Aside0 (Kept w w' P0) ∧ Aside0 (w.heap.size ≤ w'.heap.size))
  case atStart => exact ⟨l0, a1, 0, rfl, rfl, H', ⟨rfl⟩, HO, HBw, ⟨Kept.refl _ _⟩, ⟨Nat.le_refl _⟩⟩
  case round =>
    clear H' HO HBw HN
    try clear p2
    obtain ⟨xs, x1, x5, rfl, rfl, HA, HN, HO, HB, HK, HW⟩ := hrel
    cases gk with
    | zero => exact absurd HA.out (by simp [laws_markIntSS.l0])
    | succ k1 =>
      have H := HA.out
      clear HA
      simp only [laws_markIntSS.l0] at H
      by_cases c3 : x5 < (xs.length : Int)
      · rw [if_pos c3] at H
        have c3b0 : decide (x5 < (l0.length : Int)) = true := decide_eq_true (by rw [← HN.out]; exact c3)
        by_cases c4 : 0 ≤ x5
        · rw [if_pos c4] at H
          obtain ⟨⟨t1, t2⟩, A5, H⟩ := Option.bind_eq_some_iff.mp H
          have A5 := Aside0.mk A5
          have H' := Aside0.mk H
          clear H
          obtain ⟨g, cap, ev, hbase, hlt, hcells⟩ := Kd.S_form HO.out (by omega)
          injection ev with ea en ec
          subst ea
          subst ec
          obtain ⟨oki, c, hcl, ⟨v, hcv, hR⟩, hcc, hoki, hH⟩ := Kd.S_lend HO.out ([] : List Int) x5 c4 (by rw [← HN.out]; exact c3)
          subst hcv
          obtain ⟨Ar, cr, rfl⟩ := Kd.R_slice hR
          have c4b0 : decide (0 ≤ x5) = true := decide_eq_true c4
          have hx := by simpa [Kd.slice] using hcc 0 _ rfl
          have HR := Aside0.mk hR
          have HOK := Aside0.mk hoki
          have HH := Aside0.mk hH
          clear hcc hcl hR hoki hH hcells hlt hbase en
          have p4 : 0 ≤ (x5 : Int) := c4
          have q4 : x5 < (l0.length : Int) := of_decide_eq_true c3b0
          replace p4 := eq_true p4
          replace q4 := eq_true q4
          clear c3 c4
          go_wp2_with (first | ((with_reducible refine gate_callee (f := 31) rfl ?_); refine goesL_ (some 17) rfl rfl Try.func31 (by kernel_rfl) rfl #[.slice Ar (rd_L1 xs x5).length cr, .int .i64 x1] rfl (by (try simp only [List.map_toArray, List.map_cons, List.map_nil]); first | done | rfl) ?_; (with_reducible refine (laws_markIntS.calls k1 oki _ (rd_L1 xs x5) x1 t1 t2 w0 _ HB.out HR.out A5.out).mono ?_); rintro e w9 ⟨rfl, ho, hb, hk⟩; refine ⟨_, rfl, ?_⟩; have n1_ := Aside0.mk (Kd.H_back (Kd.H_step HH.out (fun k hk1 hk2 hk3 => hk.2 k hk3 hk2)) (okp := oki) ⟨_, rfl, Kd.R_reok rfl ho (fun k_ e_ => HR.out.1 k_ e_)⟩ (fun _ h_ => h_)); have n2_ := Aside0.mk hb; have n3_ := Aside0.mk (Kept.then_ HK.out hk (fun k_ h_ => .inl (HOK.out k_ h_).1)); have n4_ := Aside0.mk (Nat.le_trans HW.out hk.1); clear HO HB HK HW HH HR hx ho hb hk; have HO := n1_; have HB := n2_; have HK := n3_; have HW := n4_; clear n1_ n2_ n3_ n4_))
          go_roundg k1
          case measure => omega
          case rel => exact ⟨xs.set x5.toNat t2, t1, wrap64 (x5 + 1), rfl, rfl, H', ⟨by rw [List.length_set]; exact HN.out⟩, HO, HB, HK, HW⟩
        · rw [if_neg c4] at H
          exact absurd H (by simp)
      · rw [if_neg c3] at H
        have c3b0 : decide (x5 < (l0.length : Int)) = false := decide_eq_false (by rw [← HN.out]; exact c3)
        simp only [Option.some.injEq, Prod.mk.injEq] at H
        obtain ⟨rfl, rfl⟩ := H
        go_wp2
        go_ret
        exact ⟨rfl, HO.out, HB.out, HK.out⟩
set_option maxHeartbeats 8000000 in
set_option maxRecDepth 100000 in
theorem laws_markForest.calls (k : Nat) (P0 : Nat → Prop) (a0 : Int) (u : Value) (l0 : List (List Int)) (a1 : Int) (r1 : Int) (r2 : List (List Int)) (w0 w : World) (hB : Below w0.heap.size w0 w) (ho0 : Kd.S (Kd.slice 3 (Kd.int .i64)) 40 w w0.heap.size P0 u l0) (h : laws_markIntSS.f k l0 a1 = some (r1, r2)) :
    Calls Try.prog 44 #[.agg #[.int .i64 a0, u], .int .i64 a1] w fun e w' => e = .returned (.int .i64 r1) ∧ Kd.S (Kd.slice 3 (Kd.int .i64)) 40 w' w0.heap.size P0 u r2 ∧ Below w0.heap.size w0 w' ∧ Kept w w' P0 := by
  have hu63 := Try.underlying33
  obtain ⟨A0, c0, rfl⟩ := Kd.S_slice ho0
  have A5 := Aside0.mk h
  have HO := Aside0.mk ho0
  have HB := Aside0.mk hB
  have HK := Aside0.mk (Kept.refl w P0)
  have HW := Aside0.mk (Nat.le_refl w.heap.size)
  clear h ho0 hB
  go_enter Try.func44, Try.ntmps44
  go_wp2_with (first | ((with_reducible refine gate_dst (N := 2) rfl ?_); refine box_event ?hg (N := 2) ?hd (cs := #[.int .i64 a0, .slice A0 l0.length c0]) (t := 33) ?hr ?_; (case hd => rfl); (case hg => rfl); (case hr => first | (go_simp; done) | (go_simp; rfl)); intro gb hg w5 hbox hb; have n0_ := Aside0.mk (below_step HB.out hb); have n1_ := Aside0.mk hbox; have n2_ := Aside0.mk (Kd.S_below HO.out hb); have n3_ := Aside0.mk (Kept.then_ HK.out (Kept.of_below hb (fun _ => False)) (fun _ h_ => h_.elim)); have n4_ := Aside0.mk (Nat.le_trans HW.out hb.size); clear HB HO HK HW hb hbox hg; have HB := n0_; have BK := n1_; have HO := n2_; have HK := n3_; have HW := n4_; clear n0_ n1_ n2_ n3_ n4_; have hcz0 : w5.cell? ⟨gb, 0, none⟩ = some (.int .i64 a0) := (blk_cell BK.out 0).trans rfl; have hcz1 : w5.cell? ⟨gb, 1, none⟩ = some (.slice A0 l0.length c0) := (blk_cell BK.out 1).trans rfl; have hfz0 := blk_frozen BK.out 0; have hfz1 := blk_frozen BK.out 1) | ((with_reducible refine gate_callee (f := 93) rfl ?_); refine goesL_ (some 8) rfl rfl Try.func93 (by kernel_rfl) rfl #[.slice A0 l0.length c0, .int .i64 a1] rfl (by (try simp only [List.map_toArray, List.map_cons, List.map_nil]); first | done | rfl) ?_; (with_reducible refine (laws_markIntSS.calls k P0 _ l0 a1 r1 r2 w0 _ HB.out HO.out A5.out).mono ?_); rintro e w9 ⟨rfl, ho, hb, hk⟩; refine ⟨_, rfl, ?_⟩; have n1_ := Aside0.mk ho; have n2_ := Aside0.mk hb; have n3_ := Aside0.mk (Kept.then_ HK.out hk (fun _ h_ => .inl h_)); clear HO HB HK ho hb hk hcz0 hcz1 hfz0 hfz1; have HO := n1_; have HB := n2_; have HK := n3_; clear n1_ n2_ n3_))
  go_ret
  exact ⟨rfl, HO.out, HB.out, HK.out⟩

/-! ### rows that lie apart, told by the range of their blocks -/
def Rg (b : Nat) (w : World) (lo hi : Nat) (v : Value) (xs : List (List Int)) : Prop := Kd.S (Kd.slice 3 (Kd.int .i64)) 40 w b (fun k => lo ≤ k ∧ k < hi) v xs ∧ hi ≤ w.heap.size
theorem Rg.born {b : Nat} {w w' : World} {v : Value} {xs : List (List Int)} (h : Kd.S (Kd.slice 3 (Kd.int .i64)) 40 w' w.heap.size (fun _ => True) v xs) (hb : Below w.heap.size w w') (hB : b ≤ w.heap.size) : ∃ lo hi, lo = w.heap.size ∧ lo ≤ hi ∧ hi = w'.heap.size ∧ Rg b w' lo hi v xs :=
  ⟨_, _, rfl, hb.size, rfl, Kd.S_lower (Kd.S_mono (Kd.S_bound h) (fun _ hk => ⟨hk.2.1, hk.2.2.1⟩)) hB, Nat.le_refl _⟩
theorem Rg.below {b : Nat} {w w' : World} {lo hi : Nat} {v : Value} {xs : List (List Int)} (h : Rg b w lo hi v xs) (hb : Below w.heap.size w w') : Rg b w' lo hi v xs := ⟨Kd.S_below h.1 hb, Nat.le_trans h.2 hb.size⟩
theorem Rg.kept {b : Nat} {w w' : World} {P : Nat → Prop} {lo hi : Nat} {v : Value} {xs : List (List Int)} (h : Rg b w lo hi v xs) (hk : Kept w w' P) (hd : ∀ k, lo ≤ k → k < hi → ¬ P k) : Rg b w' lo hi v xs :=
  ⟨Kd.S_step h.1 (fun k ho hl => hk.2 k hl (hd k ho.1 ho.2)), Nat.le_trans h.2 hk.1⟩
theorem Rg.S {b : Nat} {w : World} {lo hi : Nat} {v : Value} {xs : List (List Int)} (h : Rg b w lo hi v xs) : Kd.S (Kd.slice 3 (Kd.int .i64)) 40 w b (fun k => lo ≤ k ∧ k < hi) v xs := h.1
theorem Rg.le {b : Nat} {w : World} {lo hi : Nat} {v : Value} {xs : List (List Int)} (h : Rg b w lo hi v xs) : hi ≤ w.heap.size := h.2
theorem Rg.mk {b : Nat} {w : World} {lo hi : Nat} {v : Value} {xs : List (List Int)} (h : Kd.S (Kd.slice 3 (Kd.int .i64)) 40 w b (fun k => lo ≤ k ∧ k < hi) v xs) (h2 : hi ≤ w.heap.size) : Rg b w lo hi v xs := ⟨h, h2⟩
theorem Rg.slice {b : Nat} {w : World} {lo hi : Nat} {v : Value} {xs : List (List Int)} (h : Rg b w lo hi v xs) : ∃ A c, v = .slice A xs.length c := Kd.S_slice h.1
theorem Rg.C {b : Nat} {w : World} {lo hi n c : Nat} {A : Option Addr} {xs : List (List Int)} (h : Rg b w lo hi (.slice A n c) xs) : Kd.C (Kd.slice 3 (Kd.int .i64)) w A xs.length xs := (Kd.S_reads' h.1).2.2
theorem Rg.cap {b : Nat} {w : World} {lo hi n c : Nat} {A : Option Addr} {xs : List (List Int)} (h : Rg b w lo hi (.slice A n c) xs) : n ≤ c := (Kd.S_reads' h.1).2.1
theorem Rg.len {b : Nat} {w : World} {lo hi n c : Nat} {A : Option Addr} {xs : List (List Int)} (h : Rg b w lo hi (.slice A n c) xs) : n = xs.length := (Kd.S_reads' h.1).1
/-- a struct of two cells stored into a variable -/
theorem set2_kept {w w1 : World} {g : Nat} {a b : Value} (hw : w1 = (w.setCell ⟨g, 0, none⟩ a).setCell ⟨g, 1, none⟩ b) : Kept w w1 (fun k => k = g) := by
  subst hw
  refine ⟨by rw [Go.Deep.nblk_setCell, Go.Deep.nblk_setCell]; exact Nat.le_refl _, fun i _ hn => ?_⟩
  rw [Go.Deep.blk_setCell_other _ _ _ _ hn, Go.Deep.blk_setCell_other _ _ _ _ hn]
theorem set2_blk {w w1 : World} {g t : Nat} {a b x y : Value} (hw : w1 = (w.setCell ⟨g, 0, none⟩ a).setCell ⟨g, 1, none⟩ b) (h : w.heap[g]? = some (.cells #[x, y] t (0, 0))) : w1.heap[g]? = some (.cells #[a, b] t (0, 0)) := by
  subst hw
  simpa using blk_set (blk_set h 0 a) 1 b
theorem drawn_below {w w' : World} (h : Drawn0 w w') : Below w.heap.size w w' := by
  obtain ⟨n, rfl⟩ := h
  exact pw_below_drewN (Below.refl _ _) n

/-! ### rows of edges of the call's own, told by the range of their blocks -/
def Eg (b : Nat) (w : World) (lo hi : Nat) (v : Value) (xs : List (S112)) : Prop := Kd.R k112 112 w b (fun k => lo ≤ k ∧ k < hi) v xs ∧ hi ≤ w.heap.size
section
variable {b lo hi n c : Nat} {A : Option Addr} {w w' : World} {v : Value} {xs ys : List (S112)} {P : Nat → Prop}
theorem Eg.born (h : Kd.R k112 112 w' w.heap.size (fun _ => True) v xs) (hb : Below w.heap.size w w') (hB : b ≤ w.heap.size) : ∃ lo hi, lo = w.heap.size ∧ lo ≤ hi ∧ hi = w'.heap.size ∧ Eg b w' lo hi v xs :=
  ⟨_, _, rfl, hb.size, rfl, Kd.R_lower (Kd.R_mono (Kd.R_bound h) (fun _ hk => ⟨hk.2.1, hk.2.2.1⟩)) hB, Nat.le_refl _⟩
theorem Eg.below (h : Eg b w lo hi v xs) (hb : Below w.heap.size w w') : Eg b w' lo hi v xs := ⟨Kd.R_below h.1 hb, Nat.le_trans h.2 hb.size⟩
theorem Eg.kept (h : Eg b w lo hi v xs) (hk : Kept w w' P) (hd : ∀ k, lo ≤ k → k < hi → ¬ P k) : Eg b w' lo hi v xs :=
  ⟨Kd.R_step h.1 (fun k ho hl => hk.2 k hl (hd k ho.1 ho.2)), Nat.le_trans h.2 hk.1⟩
theorem Eg.S (h : Eg b w lo hi v xs) : Kd.R k112 112 w b (fun k => lo ≤ k ∧ k < hi) v xs := h.1
theorem Eg.le (h : Eg b w lo hi v xs) : hi ≤ w.heap.size := h.2
theorem Eg.mk {w0 : World} (h : Kd.R k112 112 w b (fun k => (lo ≤ k ∧ k < hi) ∨ w0.heap.size ≤ k) v xs) (h0 : Eg b w0 lo hi v ys) (h2 : hi ≤ w.heap.size) : Eg b w lo hi v xs := ⟨Kd.R_reok rfl h (fun k e => h0.1.1 k e), h2⟩
theorem Eg.slice (h : Eg b w lo hi v xs) : ∃ A c, v = .slice A xs.length c := Kd.R_slice h.1
theorem Eg.C (h : Eg b w lo hi (.slice A n c) xs) : Kd.C k112 w A xs.length xs := (Kd.R_reads' h.1).2.2
theorem Eg.cap (h : Eg b w lo hi (.slice A n c) xs) : n ≤ c := (Kd.R_reads' h.1).2.1
end

set_option maxHeartbeats 8000000 in
set_option maxRecDepth 100000 in
theorem law_walk (k : Nat) (n : Int) (A0 : Option Addr) (c0 : Nat) (L : List (List Int)) (t : Int) (w : World) (hr0 : Kd.C (Kd.slice 3 (Kd.int .i64)) w A0 L.length L) (hc0 : L.length ≤ c0) (hz : laws_szForest.f k n L 1048576 = some t) (L' : List (List Int)) (E E' : List (S112)) (m q : Int) (ht : decide (t < 0) = false) (hto : laws_toForest.f k n L = some (n, L)) (hs : spec_EdgesOf.f k n L = some E) (hi : impl_EdgesOf.f k n L = some E)
    (he : laws_eqEdgeS.f k E E = some true) (hf : laws_eqForest.f k n L n L = some true) (hm : laws_markIntSS.f k L 1 = some (m, L')) (hmm : decide (m < 0) = false) (hme : laws_markEdgeS.f k E 1 = some (q, E')) (hl : E'.length = E.length)
    (hh : laws_heldEdgeS.f k E' 1 = some q) (hq : decide (q < 0) = false) :
    Calls Try.prog 9 #[.agg #[.int .i64 n, .slice A0 L.length c0]] w fun e w' => e = .returned (.bool true) ∧ Below w.heap.size w w' := by
  have hu1 := Try.underlying30
  have hu2 := Try.underlying33
  have HB := Aside0.mk (Below.refl w.heap.size w)
  have HR0 := Aside0.mk hr0
  have HC0 := Aside0.mk hc0
  clear hr0 hc0
  go_enter Try.func9, Try.ntmps9
  try go_wp2_with (first
    | ((with_reducible refine gate_dst (N := 1) rfl ?_); refine box_event ?hg (N := 1) ?hd (cs := #[.int .i64 n, .slice A0 L.length c0]) (t := 30) ?hr ?_; (case hd => rfl); (case hg => rfl); (case hr => first | (go_simp; done) | (go_simp; rfl)); intro ga hg y1 hbox hb; have m0_ := Aside0.mk (hbox); have m1_ := Aside0.mk (below_step HB.out hb); have m2_ := Aside0.mk ((by rw [hg]; exact below_size HB.out : w.heap.size ≤ ga)); clear HB; have Bga := m0_; have HB := m1_; have OWga := m2_; clear m0_ m1_ m2_; have czga_0 : y1.cell? ⟨ga, 0, none⟩ = some (.int .i64 n) := (blk_cell Bga.out 0).trans rfl; have fzga_0 := blk_frozen Bga.out 0; have czga_1 : y1.cell? ⟨ga, 1, none⟩ = some (.slice A0 L.length c0) := (blk_cell Bga.out 1).trans rfl; have fzga_1 := blk_frozen Bga.out 1; clear hg hbox hb)
    | ((with_reducible refine gate_callee (f := 18) rfl ?_); refine goesL_ (some 13) rfl rfl Try.func18 (by kernel_rfl) rfl #[.agg #[.int .i64 n, .slice A0 L.length c0], .int .i64 1048576] rfl (by (try simp only [List.map_toArray, List.map_cons, List.map_nil]); first | done | rfl) ?_; (with_reducible refine (laws_szForest.calls k n _ _ L 1048576 t _ (Kd.C_below HR0.out HB.out) HC0.out hz).mono ?_); rintro e y2 ⟨rfl, hb⟩; refine ⟨_, rfl, ?_⟩; have m0_ := Aside0.mk (blk_below Bga.out hb); have m1_ := Aside0.mk (below_step HB.out hb); clear Bga HB czga_0 fzga_0 czga_1 fzga_1; have Bga := m0_; have HB := m1_; clear m0_ m1_; have czga_0 : y2.cell? ⟨ga, 0, none⟩ = some (.int .i64 n) := (blk_cell Bga.out 0).trans rfl; have fzga_0 := blk_frozen Bga.out 0; have czga_1 : y2.cell? ⟨ga, 1, none⟩ = some (.slice A0 L.length c0) := (blk_cell Bga.out 1).trans rfl; have fzga_1 := blk_frozen Bga.out 1; clear hb)
    | ((with_reducible refine gate_callee (f := 20) rfl ?_); refine goesL_ (some 17) rfl rfl Try.func20 (by kernel_rfl) rfl #[.agg #[.int .i64 n, .slice A0 L.length c0]] rfl (by (try simp only [List.map_toArray, List.map_cons, List.map_nil]); first | done | rfl) ?_; (with_reducible refine (laws_toForest.calls k n _ _ L n L _ (Kd.C_below HR0.out HB.out) HC0.out hto).mono ?_); rintro e y3 ⟨v_, rfl, ho, hb⟩; refine ⟨_, rfl, ?_⟩; obtain ⟨lop, hip, hlo_, hle_, hhi_, hrg_⟩ := Rg.born (b := w.heap.size) ho hb (below_size HB.out); obtain ⟨Ap, cp, rfl⟩ := hrg_.slice; have m0_ := Aside0.mk (blk_below Bga.out hb); have m1_ := Aside0.mk (hrg_); have m2_ := Aside0.mk (below_step HB.out hb); have m3_ := Aside0.mk ((by rw [hlo_]; exact blk_lt Bga.out : ga < lop)); have m4_ := Aside0.mk ((hle_ : lop ≤ hip)); have m5_ := Aside0.mk ((by rw [hlo_]; exact below_size HB.out : w.heap.size ≤ lop)); clear Bga HB czga_0 fzga_0 czga_1 fzga_1; have Bga := m0_; have Fp := m1_; have HB := m2_; have Oga_p := m3_; have Op := m4_; have OWp := m5_; clear m0_ m1_ m2_ m3_ m4_ m5_; have czga_0 : y3.cell? ⟨ga, 0, none⟩ = some (.int .i64 n) := (blk_cell Bga.out 0).trans rfl; have fzga_0 := blk_frozen Bga.out 0; have czga_1 : y3.cell? ⟨ga, 1, none⟩ = some (.slice A0 L.length c0) := (blk_cell Bga.out 1).trans rfl; have fzga_1 := blk_frozen Bga.out 1; clear ho hb hrg_ hlo_ hle_ hhi_)
    | ((with_reducible refine gate_callee (f := 41) rfl ?_); refine goesL_ (some 18) rfl rfl Try.func41 (by kernel_rfl) rfl #[.agg #[.int .i64 n, .slice Ap L.length cp]] rfl (by (try simp only [List.map_toArray, List.map_cons, List.map_nil]); first | done | rfl) ?_; (with_reducible refine (spec_EdgesOf.calls k n _ _ L E _ Fp.out.C Fp.out.cap hs).mono ?_); rintro e y4 ⟨v_, rfl, ho, hb⟩; refine ⟨_, rfl, ?_⟩; obtain ⟨low, hiw, hlo_, hle_, hhi_, hrg_⟩ := Eg.born (b := w.heap.size) ho hb (below_size HB.out); obtain ⟨Aw, cw, rfl⟩ := hrg_.slice; have m0_ := Aside0.mk (Rg.below Fp.out hb); have m1_ := Aside0.mk (blk_below Bga.out hb); have m2_ := Aside0.mk (hrg_); have m3_ := Aside0.mk (below_step HB.out hb); have m4_ := Aside0.mk ((by rw [hlo_]; exact Rg.le Fp.out : hip ≤ low)); have m5_ := Aside0.mk ((hle_ : low ≤ hiw)); have m6_ := Aside0.mk ((by rw [hlo_]; exact below_size HB.out : w.heap.size ≤ low)); clear Fp Bga HB czga_0 fzga_0 czga_1 fzga_1; have Fp := m0_; have Bga := m1_; have Fw := m2_; have HB := m3_; have Op_w := m4_; have Ow := m5_; have OWw := m6_; clear m0_ m1_ m2_ m3_ m4_ m5_ m6_; have czga_0 : y4.cell? ⟨ga, 0, none⟩ = some (.int .i64 n) := (blk_cell Bga.out 0).trans rfl; have fzga_0 := blk_frozen Bga.out 0; have czga_1 : y4.cell? ⟨ga, 1, none⟩ = some (.slice A0 L.length c0) := (blk_cell Bga.out 1).trans rfl; have fzga_1 := blk_frozen Bga.out 1; clear ho hb hrg_ hlo_ hle_ hhi_)
    | ((with_reducible refine gate_callee (f := 20) rfl ?_); refine goesL_ (some 20) rfl rfl Try.func20 (by kernel_rfl) rfl #[.agg #[.int .i64 n, .slice A0 L.length c0]] rfl (by (try simp only [List.map_toArray, List.map_cons, List.map_nil]); first | done | rfl) ?_; (with_reducible refine (laws_toForest.calls k n _ _ L n L _ (Kd.C_below HR0.out HB.out) HC0.out hto).mono ?_); rintro e y5 ⟨v_, rfl, ho, hb⟩; refine ⟨_, rfl, ?_⟩; obtain ⟨lox, hix, hlo_, hle_, hhi_, hrg_⟩ := Rg.born (b := w.heap.size) ho hb (below_size HB.out); obtain ⟨Ax, cx, rfl⟩ := hrg_.slice; have m0_ := Aside0.mk (Rg.below Fp.out hb); have m1_ := Aside0.mk (Eg.below Fw.out hb); have m2_ := Aside0.mk (blk_below Bga.out hb); have m3_ := Aside0.mk (hrg_); have m4_ := Aside0.mk (below_step HB.out hb); have m5_ := Aside0.mk ((by rw [hlo_]; exact Eg.le Fw.out : hiw ≤ lox)); have m6_ := Aside0.mk ((hle_ : lox ≤ hix)); have m7_ := Aside0.mk ((by rw [hlo_]; exact below_size HB.out : w.heap.size ≤ lox)); clear Fp Fw Bga HB czga_0 fzga_0 czga_1 fzga_1; have Fp := m0_; have Fw := m1_; have Bga := m2_; have Fx := m3_; have HB := m4_; have Ow_x := m5_; have Ox := m6_; have OWx := m7_; clear m0_ m1_ m2_ m3_ m4_ m5_ m6_ m7_; have czga_0 : y5.cell? ⟨ga, 0, none⟩ = some (.int .i64 n) := (blk_cell Bga.out 0).trans rfl; have fzga_0 := blk_frozen Bga.out 0; have czga_1 : y5.cell? ⟨ga, 1, none⟩ = some (.slice A0 L.length c0) := (blk_cell Bga.out 1).trans rfl; have fzga_1 := blk_frozen Bga.out 1; clear ho hb hrg_ hlo_ hle_ hhi_)
    | ((with_reducible refine gate_dst (N := 5) rfl ?_); refine box_event ?hg (N := 5) ?hd (cs := #[.int .i64 0, .slice none 0 0]) (t := 33) ?hr ?_; (case hd => rfl); (case hg => rfl); (case hr => first | (go_simp; done) | (go_simp; rfl)); intro gx hg y6 hbox hb; have m0_ := Aside0.mk (Rg.below Fp.out hb); have m1_ := Aside0.mk (Eg.below Fw.out hb); have m2_ := Aside0.mk (Rg.below Fx.out hb); have m3_ := Aside0.mk (blk_below Bga.out hb); have m4_ := Aside0.mk (hbox); have m5_ := Aside0.mk (below_step HB.out hb); have m6_ := Aside0.mk ((by rw [hg]; exact Rg.le Fx.out : hix ≤ gx)); have m7_ := Aside0.mk ((by rw [hg]; exact below_size HB.out : w.heap.size ≤ gx)); clear Fp Fw Fx Bga HB czga_0 fzga_0 czga_1 fzga_1; have Fp := m0_; have Fw := m1_; have Fx := m2_; have Bga := m3_; have Bgx := m4_; have HB := m5_; have Ox_gx := m6_; have OWgx := m7_; clear m0_ m1_ m2_ m3_ m4_ m5_ m6_ m7_; have czga_0 : y6.cell? ⟨ga, 0, none⟩ = some (.int .i64 n) := (blk_cell Bga.out 0).trans rfl; have fzga_0 := blk_frozen Bga.out 0; have czga_1 : y6.cell? ⟨ga, 1, none⟩ = some (.slice A0 L.length c0) := (blk_cell Bga.out 1).trans rfl; have fzga_1 := blk_frozen Bga.out 1; have czgx_0 : y6.cell? ⟨gx, 0, none⟩ = some (.int .i64 0) := (blk_cell Bgx.out 0).trans rfl; have fzgx_0 := blk_frozen Bgx.out 0; have czgx_1 : y6.cell? ⟨gx, 1, none⟩ = some (.slice none 0 0) := (blk_cell Bgx.out 1).trans rfl; have fzgx_1 := blk_frozen Bgx.out 1; clear hg hbox hb)
    | ((with_reducible refine gate_store (t := 33) (p := 5) rfl ?_); refine store_event (t := 33) (p := 5) (v := ?vo_y7) (w1 := ((y6.setCell ⟨gx, 0, none⟩ (.int .i64 n)).setCell ⟨gx, 1, none⟩ (.slice Ax L.length cx))) ?hg ?ho ?hn ?hr ?_; (case ho => rfl); (case hg => rfl); (case hn => rfl); (case hr => first | (go_simp; done) | (go_simp; rfl)); intro y7 hw; have hk := set2_kept hw; have m0_ := Aside0.mk (Rg.kept Fp.out hk (by intro k_ h1_ h2_ h3_; have := OWga.out; have := Oga_p.out; have := Op.out; have := OWp.out; have := Op_w.out; have := Ow.out; have := OWw.out; have := Ow_x.out; have := Ox.out; have := OWx.out; have := Ox_gx.out; have := OWgx.out; omega)); have m1_ := Aside0.mk (Eg.kept Fw.out hk (by intro k_ h1_ h2_ h3_; have := OWga.out; have := Oga_p.out; have := Op.out; have := OWp.out; have := Op_w.out; have := Ow.out; have := OWw.out; have := Ow_x.out; have := Ox.out; have := OWx.out; have := Ox_gx.out; have := OWgx.out; omega)); have m2_ := Aside0.mk (Rg.kept Fx.out hk (by intro k_ h1_ h2_ h3_; have := OWga.out; have := Oga_p.out; have := Op.out; have := OWp.out; have := Op_w.out; have := Ow.out; have := OWw.out; have := Ow_x.out; have := Ox.out; have := OWx.out; have := Ox_gx.out; have := OWgx.out; omega)); have m3_ := Aside0.mk (blk_kept Bga.out hk (by intro h3_; have := OWga.out; have := Oga_p.out; have := Op.out; have := OWp.out; have := Op_w.out; have := Ow.out; have := OWw.out; have := Ow_x.out; have := Ox.out; have := OWx.out; have := Ox_gx.out; have := OWgx.out; omega)); have m4_ := Aside0.mk (set2_blk hw Bgx.out); have m5_ := Aside0.mk ((by rw [hw]; exact below_set (below_set HB.out OWgx.out) OWgx.out : Below w.heap.size w y7)); clear Fp Fw Fx Bga Bgx HB czga_0 fzga_0 czga_1 fzga_1 czgx_0 fzgx_0 czgx_1 fzgx_1; have Fp := m0_; have Fw := m1_; have Fx := m2_; have Bga := m3_; have Bgx := m4_; have HB := m5_; clear m0_ m1_ m2_ m3_ m4_ m5_; have czga_0 : y7.cell? ⟨ga, 0, none⟩ = some (.int .i64 n) := (blk_cell Bga.out 0).trans rfl; have fzga_0 := blk_frozen Bga.out 0; have czga_1 : y7.cell? ⟨ga, 1, none⟩ = some (.slice A0 L.length c0) := (blk_cell Bga.out 1).trans rfl; have fzga_1 := blk_frozen Bga.out 1; have czgx_0 : y7.cell? ⟨gx, 0, none⟩ = some (.int .i64 n) := (blk_cell Bgx.out 0).trans rfl; have fzgx_0 := blk_frozen Bgx.out 0; have czgx_1 : y7.cell? ⟨gx, 1, none⟩ = some (.slice Ax L.length cx) := (blk_cell Bgx.out 1).trans rfl; have fzgx_1 := blk_frozen Bgx.out 1; clear hw hk)
    | ((with_reducible refine gate_callee (f := 42) rfl ?_); refine goesL_ (some 22) rfl rfl Try.func42 (by kernel_rfl) rfl #[.agg #[.int .i64 n, .slice Ax L.length cx]] rfl (by (try simp only [List.map_toArray, List.map_cons, List.map_nil]); first | done | rfl) ?_; (with_reducible refine (impl_EdgesOf.calls k n _ _ L E _ Fx.out.C Fx.out.cap hi).mono ?_); rintro e y8 ⟨v_, rfl, ho, hb⟩; refine ⟨_, rfl, ?_⟩; obtain ⟨log, hig, hlo_, hle_, hhi_, hrg_⟩ := Eg.born (b := w.heap.size) ho hb (below_size HB.out); obtain ⟨Ag, cg, rfl⟩ := hrg_.slice; have m0_ := Aside0.mk (Rg.below Fp.out hb); have m1_ := Aside0.mk (Eg.below Fw.out hb); have m2_ := Aside0.mk (Rg.below Fx.out hb); have m3_ := Aside0.mk (blk_below Bga.out hb); have m4_ := Aside0.mk (blk_below Bgx.out hb); have m5_ := Aside0.mk (hrg_); have m6_ := Aside0.mk (below_step HB.out hb); have m7_ := Aside0.mk ((by rw [hlo_]; exact blk_lt Bgx.out : gx < log)); have m8_ := Aside0.mk ((hle_ : log ≤ hig)); have m9_ := Aside0.mk ((by rw [hlo_]; exact below_size HB.out : w.heap.size ≤ log)); clear Fp Fw Fx Bga Bgx HB czga_0 fzga_0 czga_1 fzga_1 czgx_0 fzgx_0 czgx_1 fzgx_1; have Fp := m0_; have Fw := m1_; have Fx := m2_; have Bga := m3_; have Bgx := m4_; have Fg := m5_; have HB := m6_; have Ogx_g := m7_; have Og := m8_; have OWg := m9_; clear m0_ m1_ m2_ m3_ m4_ m5_ m6_ m7_ m8_ m9_; have czga_0 : y8.cell? ⟨ga, 0, none⟩ = some (.int .i64 n) := (blk_cell Bga.out 0).trans rfl; have fzga_0 := blk_frozen Bga.out 0; have czga_1 : y8.cell? ⟨ga, 1, none⟩ = some (.slice A0 L.length c0) := (blk_cell Bga.out 1).trans rfl; have fzga_1 := blk_frozen Bga.out 1; have czgx_0 : y8.cell? ⟨gx, 0, none⟩ = some (.int .i64 n) := (blk_cell Bgx.out 0).trans rfl; have fzgx_0 := blk_frozen Bgx.out 0; have czgx_1 : y8.cell? ⟨gx, 1, none⟩ = some (.slice Ax L.length cx) := (blk_cell Bgx.out 1).trans rfl; have fzgx_1 := blk_frozen Bgx.out 1; clear ho hb hrg_ hlo_ hle_ hhi_)
    | ((with_reducible refine gate_callee (f := 43) rfl ?_); refine goesL_ (some 25) rfl rfl Try.func43 (by kernel_rfl) rfl #[.slice Ag E.length cg, .slice Aw E.length cw] rfl (by (try simp only [List.map_toArray, List.map_cons, List.map_nil]); first | done | rfl) ?_; (with_reducible refine (laws_eqEdgeS.calls k _ _ E _ _ E true _ Fg.out.C Fg.out.cap Fw.out.C Fw.out.cap he).mono ?_); rintro e y9 ⟨rfl, hb⟩; refine ⟨_, rfl, ?_⟩; have m0_ := Aside0.mk (Rg.below Fp.out hb); have m1_ := Aside0.mk (Eg.below Fw.out hb); have m2_ := Aside0.mk (Rg.below Fx.out hb); have m3_ := Aside0.mk (Eg.below Fg.out hb); have m4_ := Aside0.mk (blk_below Bga.out hb); have m5_ := Aside0.mk (blk_below Bgx.out hb); have m6_ := Aside0.mk (below_step HB.out hb); clear Fp Fw Fx Fg Bga Bgx HB czga_0 fzga_0 czga_1 fzga_1 czgx_0 fzgx_0 czgx_1 fzgx_1; have Fp := m0_; have Fw := m1_; have Fx := m2_; have Fg := m3_; have Bga := m4_; have Bgx := m5_; have HB := m6_; clear m0_ m1_ m2_ m3_ m4_ m5_ m6_; have czga_0 : y9.cell? ⟨ga, 0, none⟩ = some (.int .i64 n) := (blk_cell Bga.out 0).trans rfl; have fzga_0 := blk_frozen Bga.out 0; have czga_1 : y9.cell? ⟨ga, 1, none⟩ = some (.slice A0 L.length c0) := (blk_cell Bga.out 1).trans rfl; have fzga_1 := blk_frozen Bga.out 1; have czgx_0 : y9.cell? ⟨gx, 0, none⟩ = some (.int .i64 n) := (blk_cell Bgx.out 0).trans rfl; have fzgx_0 := blk_frozen Bgx.out 0; have czgx_1 : y9.cell? ⟨gx, 1, none⟩ = some (.slice Ax L.length cx) := (blk_cell Bgx.out 1).trans rfl; have fzgx_1 := blk_frozen Bgx.out 1; clear hb))
  have hb : Below y9.heap.size y9 y9.drew := below_drew1 (Below.refl _ _)
  have m0_ := Aside0.mk (Rg.below Fp.out hb)
  have m1_ := Aside0.mk (Eg.below Fw.out hb)
  have m2_ := Aside0.mk (Rg.below Fx.out hb)
  have m3_ := Aside0.mk (Eg.below Fg.out hb)
  have m4_ := Aside0.mk (blk_below Bga.out hb)
  have m5_ := Aside0.mk (blk_below Bgx.out hb)
  have m6_ := Aside0.mk (below_step HB.out hb)
  clear Fp Fw Fx Fg Bga Bgx HB czga_0 fzga_0 czga_1 fzga_1 czgx_0 fzgx_0 czgx_1 fzgx_1
  have Fp := m0_
  have Fw := m1_
  have Fx := m2_
  have Fg := m3_
  have Bga := m4_
  have Bgx := m5_
  have HB := m6_
  clear hb m0_ m1_ m2_ m3_ m4_ m5_ m6_
  refine start_ (n := 5) (S := fun w_ => w_.cell? ⟨ga, 0, none⟩ = some (.int .i64 n) ∧ w_.cell? ⟨ga, 1, none⟩ = some (.slice A0 L.length c0) ∧ w_.cell? ⟨gx, 0, none⟩ = some (.int .i64 n) ∧ w_.cell? ⟨gx, 1, none⟩ = some (.slice Ax L.length cx)) (ds := []) #[false, false, false, false, false] (by kernel_rfl) rfl rfl ⟨(blk_cell Bga.out 0).trans rfl, (blk_cell Bga.out 1).trans rfl, (blk_cell Bgx.out 0).trans rfl, (blk_cell Bgx.out 1).trans rfl⟩ (fun hHeld => ?_)
  generalize y9.drew = y10 at Fp Fw Fx Fg Bga Bgx HB hHeld ⊢
  refine take_ (i := 0) (N := some 27) (v := ?_) (a' := ?_) #[true, false, false, false, false] rfl rfl (by kernel_rfl) (fun _ _ _ h => h) (Or.inl ⟨by rfl, ?_⟩) hHeld ?_ ?_
  rotate_left
  · rintro w_ ⟨s0_, s1_, s2_, s3_⟩
    go_simp
    with_reducible rfl
  rotate_left
  · simp only [Act.put, List.setIfInBounds_toArray, List.set_cons_zero, List.set_cons_succ, i64_w, i32_w]
    rfl
  refine take_ (i := 1) (N := some 28) (v := ?_) (a' := ?_) #[true, true, false, false, false] rfl rfl (by kernel_rfl) (fun _ _ _ h => h) (Or.inl ⟨by rfl, ?_⟩) hHeld ?_ ?_
  rotate_left
  · rintro w_ ⟨s0_, s1_, s2_, s3_⟩
    go_simp
    with_reducible rfl
  rotate_left
  · simp only [Act.put, List.setIfInBounds_toArray, List.set_cons_zero, List.set_cons_succ, i64_w, i32_w]
    rfl
  refine one_ (i := 2) (N := some 29) #[true, true, true, false, false] rfl rfl (by kernel_rfl) (by decide) (fun K hK => ?_)
  refine goes_ Try.func20 (by kernel_rfl) rfl #[.agg #[.int .i64 n, .slice A0 L.length c0]] (by rfl) rfl rfl (by (try simp only [List.map_toArray, List.map_cons, List.map_nil]); first | done | rfl) ?_
  with_reducible refine (laws_toForest.calls k n _ _ L n L _ (Kd.C_below HR0.out HB.out) HC0.out hto).mono ?_
  rintro e y11 ⟨v_, rfl, ho, hb⟩
  refine ⟨_, rfl, ?_⟩
  obtain ⟨loy, hiy, hlo_, hle_, hhi_, hrg_⟩ := Rg.born (b := w.heap.size) ho hb (below_size HB.out)
  obtain ⟨Ay, cy, rfl⟩ := hrg_.slice
  have m0_ := Aside0.mk (Rg.below Fp.out hb)
  have m1_ := Aside0.mk (Eg.below Fw.out hb)
  have m2_ := Aside0.mk (Rg.below Fx.out hb)
  have m3_ := Aside0.mk (Eg.below Fg.out hb)
  have m4_ := Aside0.mk (blk_below Bga.out hb)
  have m5_ := Aside0.mk (blk_below Bgx.out hb)
  have m6_ := Aside0.mk (hrg_)
  have m7_ := Aside0.mk (below_step HB.out hb)
  have m8_ := Aside0.mk ((by rw [hlo_]; exact Eg.le Fg.out : hig ≤ loy))
  have m9_ := Aside0.mk ((hle_ : loy ≤ hiy))
  have m10_ := Aside0.mk ((by rw [hlo_]; exact below_size HB.out : w.heap.size ≤ loy))
  clear Fp Fw Fx Fg Bga Bgx HB
  have Fp := m0_
  have Fw := m1_
  have Fx := m2_
  have Fg := m3_
  have Bga := m4_
  have Bgx := m5_
  have Fy := m6_
  have HB := m7_
  have Og_y := m8_
  have Oy := m9_
  have OWy := m10_
  clear m0_ m1_ m2_ m3_ m4_ m5_ m6_ m7_ m8_ m9_ m10_
  clear ho hb hrg_ hlo_ hle_ hhi_
  refine hK.out _ _ ⟨(blk_cell Bga.out 0).trans rfl, (blk_cell Bga.out 1).trans rfl, (blk_cell Bgx.out 0).trans rfl, (blk_cell Bgx.out 1).trans rfl⟩ (fun hHeld => ?_)
  clear hK K
  refine norm_ (a' := ?_) ?_ ?_
  rotate_left
  · show Act.put _ (some 29) _ = _
    simp only [Act.put, List.setIfInBounds_toArray, List.set_cons_zero, List.set_cons_succ, i64_w, i32_w]
    rfl
  refine one_ (i := 3) (N := some 30) #[true, true, true, true, false] rfl rfl (by kernel_rfl) (by decide) (fun K hK => ?_)
  refine goes_ Try.func22 (by kernel_rfl) rfl #[.agg #[.int .i64 n, .slice Ax L.length cx], .agg #[.int .i64 n, .slice Ay L.length cy]] (by rfl) rfl rfl (by (try simp only [List.map_toArray, List.map_cons, List.map_nil]); first | done | rfl) ?_
  with_reducible refine (laws_eqForest.calls k n _ _ L n _ _ L true _ Fx.out.C Fx.out.cap Fy.out.C Fy.out.cap hf).mono ?_
  rintro e y12 ⟨rfl, hb⟩
  refine ⟨_, rfl, ?_⟩
  have m0_ := Aside0.mk (Rg.below Fp.out hb)
  have m1_ := Aside0.mk (Eg.below Fw.out hb)
  have m2_ := Aside0.mk (Rg.below Fx.out hb)
  have m3_ := Aside0.mk (Eg.below Fg.out hb)
  have m4_ := Aside0.mk (Rg.below Fy.out hb)
  have m5_ := Aside0.mk (blk_below Bga.out hb)
  have m6_ := Aside0.mk (blk_below Bgx.out hb)
  have m7_ := Aside0.mk (below_step HB.out hb)
  clear Fp Fw Fx Fg Fy Bga Bgx HB
  have Fp := m0_
  have Fw := m1_
  have Fx := m2_
  have Fg := m3_
  have Fy := m4_
  have Bga := m5_
  have Bgx := m6_
  have HB := m7_
  clear m0_ m1_ m2_ m3_ m4_ m5_ m6_ m7_
  clear hb
  refine hK.out _ _ ⟨(blk_cell Bga.out 0).trans rfl, (blk_cell Bga.out 1).trans rfl, (blk_cell Bgx.out 0).trans rfl, (blk_cell Bgx.out 1).trans rfl⟩ (fun hHeld => ?_)
  clear hK K
  refine norm_ (a' := ?_) ?_ ?_
  rotate_left
  · show Act.put _ (some 30) _ = _
    simp only [Act.put, List.setIfInBounds_toArray, List.set_cons_zero, List.set_cons_succ, i64_w, i32_w]
    rfl
  refine pure_ (i := 4) (N := some 31) (v := ?_) (a' := ?_) #[true, true, true, true, true] rfl rfl (by kernel_rfl) (fun _ _ _ h => h) (Or.inl ⟨by rfl, ?_⟩) ?_ ?_
  rotate_left
  · intro w_
    go_simp
    with_reducible rfl
  rotate_left
  · simp only [Act.put, List.setIfInBounds_toArray, List.set_cons_zero, List.set_cons_succ, i64_w, i32_w]
    rfl
  refine done_ (by kernel_rfl) ?_
  have czga_0 : y12.cell? ⟨ga, 0, none⟩ = some (.int .i64 n) := (blk_cell Bga.out 0).trans rfl
  have fzga_0 := blk_frozen Bga.out 0
  have czga_1 : y12.cell? ⟨ga, 1, none⟩ = some (.slice A0 L.length c0) := (blk_cell Bga.out 1).trans rfl
  have fzga_1 := blk_frozen Bga.out 1
  have czgx_0 : y12.cell? ⟨gx, 0, none⟩ = some (.int .i64 n) := (blk_cell Bgx.out 0).trans rfl
  have fzgx_0 := blk_frozen Bgx.out 0
  have czgx_1 : y12.cell? ⟨gx, 1, none⟩ = some (.slice Ax L.length cx) := (blk_cell Bgx.out 1).trans rfl
  have fzgx_1 := blk_frozen Bgx.out 1
  try go_wp2_with (first
    | ((with_reducible refine gate_callee (f := 44) rfl ?_); refine goesL_ (some 34) rfl rfl Try.func44 (by kernel_rfl) rfl #[.agg #[.int .i64 n, .slice Ax L.length cx], .int .i64 1] rfl (by (try simp only [List.map_toArray, List.map_cons, List.map_nil]); first | done | rfl) ?_; (with_reducible refine (laws_markForest.calls k (fun k_ => lox ≤ k_ ∧ k_ < hix) n _ L 1 m L' w _ HB.out (Rg.S Fx.out) hm).mono ?_); rintro e y13 ⟨rfl, hy, hb, hk⟩; refine ⟨_, rfl, ?_⟩; have m0_ := Aside0.mk (Rg.kept Fp.out hk (by intro k_ h1_ h2_ h3_; have := OWga.out; have := Oga_p.out; have := Op.out; have := OWp.out; have := Op_w.out; have := Ow.out; have := OWw.out; have := Ow_x.out; have := Ox.out; have := OWx.out; have := Ox_gx.out; have := OWgx.out; have := Ogx_g.out; have := Og.out; have := OWg.out; have := Og_y.out; have := Oy.out; have := OWy.out; omega)); have m1_ := Aside0.mk (Eg.kept Fw.out hk (by intro k_ h1_ h2_ h3_; have := OWga.out; have := Oga_p.out; have := Op.out; have := OWp.out; have := Op_w.out; have := Ow.out; have := OWw.out; have := Ow_x.out; have := Ox.out; have := OWx.out; have := Ox_gx.out; have := OWgx.out; have := Ogx_g.out; have := Og.out; have := OWg.out; have := Og_y.out; have := Oy.out; have := OWy.out; omega)); have m2_ := Aside0.mk (Eg.kept Fg.out hk (by intro k_ h1_ h2_ h3_; have := OWga.out; have := Oga_p.out; have := Op.out; have := OWp.out; have := Op_w.out; have := Ow.out; have := OWw.out; have := Ow_x.out; have := Ox.out; have := OWx.out; have := Ox_gx.out; have := OWgx.out; have := Ogx_g.out; have := Og.out; have := OWg.out; have := Og_y.out; have := Oy.out; have := OWy.out; omega)); have m3_ := Aside0.mk (Rg.kept Fy.out hk (by intro k_ h1_ h2_ h3_; have := OWga.out; have := Oga_p.out; have := Op.out; have := OWp.out; have := Op_w.out; have := Ow.out; have := OWw.out; have := Ow_x.out; have := Ox.out; have := OWx.out; have := Ox_gx.out; have := OWgx.out; have := Ogx_g.out; have := Og.out; have := OWg.out; have := Og_y.out; have := Oy.out; have := OWy.out; omega)); have m4_ := Aside0.mk (blk_kept Bga.out hk (by intro h3_; have := OWga.out; have := Oga_p.out; have := Op.out; have := OWp.out; have := Op_w.out; have := Ow.out; have := OWw.out; have := Ow_x.out; have := Ox.out; have := OWx.out; have := Ox_gx.out; have := OWgx.out; have := Ogx_g.out; have := Og.out; have := OWg.out; have := Og_y.out; have := Oy.out; have := OWy.out; omega)); have m5_ := Aside0.mk (blk_kept Bgx.out hk (by intro h3_; have := OWga.out; have := Oga_p.out; have := Op.out; have := OWp.out; have := Op_w.out; have := Ow.out; have := OWw.out; have := Ow_x.out; have := Ox.out; have := OWx.out; have := Ox_gx.out; have := OWgx.out; have := Ogx_g.out; have := Og.out; have := OWg.out; have := Og_y.out; have := Oy.out; have := OWy.out; omega)); have m6_ := Aside0.mk ((Rg.mk hy (Nat.le_trans (Rg.le Fx.out) hk.1) : Rg w.heap.size y13 lox hix _ L')); have m7_ := Aside0.mk (hb); clear Fp Fw Fg Fy Bga Bgx Fx HB czga_0 fzga_0 czga_1 fzga_1 czgx_0 fzgx_0 czgx_1 fzgx_1; have Fp := m0_; have Fw := m1_; have Fg := m2_; have Fy := m3_; have Bga := m4_; have Bgx := m5_; have Fx := m6_; have HB := m7_; clear m0_ m1_ m2_ m3_ m4_ m5_ m6_ m7_; have czga_0 : y13.cell? ⟨ga, 0, none⟩ = some (.int .i64 n) := (blk_cell Bga.out 0).trans rfl; have fzga_0 := blk_frozen Bga.out 0; have czga_1 : y13.cell? ⟨ga, 1, none⟩ = some (.slice A0 L.length c0) := (blk_cell Bga.out 1).trans rfl; have fzga_1 := blk_frozen Bga.out 1; have czgx_0 : y13.cell? ⟨gx, 0, none⟩ = some (.int .i64 n) := (blk_cell Bgx.out 0).trans rfl; have fzgx_0 := blk_frozen Bgx.out 0; have czgx_1 : y13.cell? ⟨gx, 1, none⟩ = some (.slice Ax L.length cx) := (blk_cell Bgx.out 1).trans rfl; have fzgx_1 := blk_frozen Bgx.out 1; clear hy hb hk)
    | (go_at_call 43; (with_reducible refine (laws_eqEdgeS.calls k _ _ E _ _ E true _ Fg.out.C Fg.out.cap Fw.out.C Fw.out.cap he).mono ?_); rintro e y14 ⟨rfl, hb⟩; have m0_ := Aside0.mk (Rg.below Fp.out hb); have m1_ := Aside0.mk (Eg.below Fw.out hb); have m2_ := Aside0.mk (Rg.below Fx.out hb); have m3_ := Aside0.mk (Eg.below Fg.out hb); have m4_ := Aside0.mk (Rg.below Fy.out hb); have m5_ := Aside0.mk (blk_below Bga.out hb); have m6_ := Aside0.mk (blk_below Bgx.out hb); have m7_ := Aside0.mk (below_step HB.out hb); clear Fp Fw Fx Fg Fy Bga Bgx HB czga_0 fzga_0 czga_1 fzga_1 czgx_0 fzgx_0 czgx_1 fzgx_1; have Fp := m0_; have Fw := m1_; have Fx := m2_; have Fg := m3_; have Fy := m4_; have Bga := m5_; have Bgx := m6_; have HB := m7_; clear m0_ m1_ m2_ m3_ m4_ m5_ m6_ m7_; have czga_0 : y14.cell? ⟨ga, 0, none⟩ = some (.int .i64 n) := (blk_cell Bga.out 0).trans rfl; have fzga_0 := blk_frozen Bga.out 0; have czga_1 : y14.cell? ⟨ga, 1, none⟩ = some (.slice A0 L.length c0) := (blk_cell Bga.out 1).trans rfl; have fzga_1 := blk_frozen Bga.out 1; have czgx_0 : y14.cell? ⟨gx, 0, none⟩ = some (.int .i64 n) := (blk_cell Bgx.out 0).trans rfl; have fzgx_0 := blk_frozen Bgx.out 0; have czgx_1 : y14.cell? ⟨gx, 1, none⟩ = some (.slice Ax L.length cx) := (blk_cell Bgx.out 1).trans rfl; have fzgx_1 := blk_frozen Bgx.out 1; clear hb)
    | ((with_reducible refine gate_callee (f := 45) rfl ?_); refine goesL_ (some 45) rfl rfl Try.func45 (by kernel_rfl) rfl #[.slice Ag E.length cg, .int .i64 1] rfl (by (try simp only [List.map_toArray, List.map_cons, List.map_nil]); first | done | rfl) ?_; (with_reducible refine (laws_markEdgeS.calls k (fun k_ => log ≤ k_ ∧ k_ < hig) _ E 1 q E' w _ HB.out (Eg.S Fg.out) hme).mono ?_); rintro e y15 ⟨rfl, hy, hb, hk⟩; refine ⟨_, rfl, ?_⟩; have m0_ := Aside0.mk (Rg.kept Fp.out hk (by intro k_ h1_ h2_ h3_; have := OWga.out; have := Oga_p.out; have := Op.out; have := OWp.out; have := Op_w.out; have := Ow.out; have := OWw.out; have := Ow_x.out; have := Ox.out; have := OWx.out; have := Ox_gx.out; have := OWgx.out; have := Ogx_g.out; have := Og.out; have := OWg.out; have := Og_y.out; have := Oy.out; have := OWy.out; omega)); have m1_ := Aside0.mk (Eg.kept Fw.out hk (by intro k_ h1_ h2_ h3_; have := OWga.out; have := Oga_p.out; have := Op.out; have := OWp.out; have := Op_w.out; have := Ow.out; have := OWw.out; have := Ow_x.out; have := Ox.out; have := OWx.out; have := Ox_gx.out; have := OWgx.out; have := Ogx_g.out; have := Og.out; have := OWg.out; have := Og_y.out; have := Oy.out; have := OWy.out; omega)); have m2_ := Aside0.mk (Rg.kept Fx.out hk (by intro k_ h1_ h2_ h3_; have := OWga.out; have := Oga_p.out; have := Op.out; have := OWp.out; have := Op_w.out; have := Ow.out; have := OWw.out; have := Ow_x.out; have := Ox.out; have := OWx.out; have := Ox_gx.out; have := OWgx.out; have := Ogx_g.out; have := Og.out; have := OWg.out; have := Og_y.out; have := Oy.out; have := OWy.out; omega)); have m3_ := Aside0.mk (Rg.kept Fy.out hk (by intro k_ h1_ h2_ h3_; have := OWga.out; have := Oga_p.out; have := Op.out; have := OWp.out; have := Op_w.out; have := Ow.out; have := OWw.out; have := Ow_x.out; have := Ox.out; have := OWx.out; have := Ox_gx.out; have := OWgx.out; have := Ogx_g.out; have := Og.out; have := OWg.out; have := Og_y.out; have := Oy.out; have := OWy.out; omega)); have m4_ := Aside0.mk (blk_kept Bga.out hk (by intro h3_; have := OWga.out; have := Oga_p.out; have := Op.out; have := OWp.out; have := Op_w.out; have := Ow.out; have := OWw.out; have := Ow_x.out; have := Ox.out; have := OWx.out; have := Ox_gx.out; have := OWgx.out; have := Ogx_g.out; have := Og.out; have := OWg.out; have := Og_y.out; have := Oy.out; have := OWy.out; omega)); have m5_ := Aside0.mk (blk_kept Bgx.out hk (by intro h3_; have := OWga.out; have := Oga_p.out; have := Op.out; have := OWp.out; have := Op_w.out; have := Ow.out; have := OWw.out; have := Ow_x.out; have := Ox.out; have := OWx.out; have := Ox_gx.out; have := OWgx.out; have := Ogx_g.out; have := Og.out; have := OWg.out; have := Og_y.out; have := Oy.out; have := OWy.out; omega)); have m6_ := Aside0.mk ((Eg.mk hy Fg.out (Nat.le_trans (Eg.le Fg.out) hk.1) : Eg w.heap.size y15 log hig _ E')); have m7_ := Aside0.mk (hb); clear Fp Fw Fx Fy Bga Bgx Fg HB czga_0 fzga_0 czga_1 fzga_1 czgx_0 fzgx_0 czgx_1 fzgx_1; have Fp := m0_; have Fw := m1_; have Fx := m2_; have Fy := m3_; have Bga := m4_; have Bgx := m5_; have Fg := m6_; have HB := m7_; clear m0_ m1_ m2_ m3_ m4_ m5_ m6_ m7_; have czga_0 : y15.cell? ⟨ga, 0, none⟩ = some (.int .i64 n) := (blk_cell Bga.out 0).trans rfl; have fzga_0 := blk_frozen Bga.out 0; have czga_1 : y15.cell? ⟨ga, 1, none⟩ = some (.slice A0 L.length c0) := (blk_cell Bga.out 1).trans rfl; have fzga_1 := blk_frozen Bga.out 1; have czgx_0 : y15.cell? ⟨gx, 0, none⟩ = some (.int .i64 n) := (blk_cell Bgx.out 0).trans rfl; have fzgx_0 := blk_frozen Bgx.out 0; have czgx_1 : y15.cell? ⟨gx, 1, none⟩ = some (.slice Ax L.length cx) := (blk_cell Bgx.out 1).trans rfl; have fzgx_1 := blk_frozen Bgx.out 1; clear hy hb hk)
    | ((with_reducible refine gate_callee (f := 46) rfl ?_); refine goesL_ (some 48) rfl rfl Try.func46 (by kernel_rfl) rfl #[.slice Ag E'.length cg, .int .i64 1] rfl (by (try simp only [List.map_toArray, List.map_cons, List.map_nil]); first | done | rfl | (rw [hl] <;> rfl)) ?_; (with_reducible refine (laws_heldEdgeS.calls k _ _ E' 1 q _ Fg.out.C ?side1 hh).mono ?_); (case side1 => rw [hl]; exact Fg.out.cap); rintro e y16 ⟨rfl, hd_⟩; refine ⟨_, rfl, ?_⟩; have hb := drawn_below hd_; clear hd_; have m0_ := Aside0.mk (Rg.below Fp.out hb); have m1_ := Aside0.mk (Eg.below Fw.out hb); have m2_ := Aside0.mk (Rg.below Fx.out hb); have m3_ := Aside0.mk (Eg.below Fg.out hb); have m4_ := Aside0.mk (Rg.below Fy.out hb); have m5_ := Aside0.mk (blk_below Bga.out hb); have m6_ := Aside0.mk (blk_below Bgx.out hb); have m7_ := Aside0.mk (below_step HB.out hb); clear Fp Fw Fx Fg Fy Bga Bgx HB czga_0 fzga_0 czga_1 fzga_1 czgx_0 fzgx_0 czgx_1 fzgx_1; have Fp := m0_; have Fw := m1_; have Fx := m2_; have Fg := m3_; have Fy := m4_; have Bga := m5_; have Bgx := m6_; have HB := m7_; clear m0_ m1_ m2_ m3_ m4_ m5_ m6_ m7_; have czga_0 : y16.cell? ⟨ga, 0, none⟩ = some (.int .i64 n) := (blk_cell Bga.out 0).trans rfl; have fzga_0 := blk_frozen Bga.out 0; have czga_1 : y16.cell? ⟨ga, 1, none⟩ = some (.slice A0 L.length c0) := (blk_cell Bga.out 1).trans rfl; have fzga_1 := blk_frozen Bga.out 1; have czgx_0 : y16.cell? ⟨gx, 0, none⟩ = some (.int .i64 n) := (blk_cell Bgx.out 0).trans rfl; have fzgx_0 := blk_frozen Bgx.out 0; have czgx_1 : y16.cell? ⟨gx, 1, none⟩ = some (.slice Ax L.length cx) := (blk_cell Bgx.out 1).trans rfl; have fzgx_1 := blk_frozen Bgx.out 1; clear hb)
    | ((with_reducible refine gate_callee (f := 20) rfl ?_); refine goesL_ (some 55) rfl rfl Try.func20 (by kernel_rfl) rfl #[.agg #[.int .i64 n, .slice A0 L.length c0]] rfl (by (try simp only [List.map_toArray, List.map_cons, List.map_nil]); first | done | rfl) ?_; (with_reducible refine (laws_toForest.calls k n _ _ L n L _ (Kd.C_below HR0.out HB.out) HC0.out hto).mono ?_); rintro e y17 ⟨v_, rfl, ho, hb⟩; refine ⟨_, rfl, ?_⟩; obtain ⟨loz, hiz, hlo_, hle_, hhi_, hrg_⟩ := Rg.born (b := w.heap.size) ho hb (below_size HB.out); obtain ⟨Az, cz, rfl⟩ := hrg_.slice; have m0_ := Aside0.mk (Rg.below Fp.out hb); have m1_ := Aside0.mk (Eg.below Fw.out hb); have m2_ := Aside0.mk (Rg.below Fx.out hb); have m3_ := Aside0.mk (Eg.below Fg.out hb); have m4_ := Aside0.mk (Rg.below Fy.out hb); have m5_ := Aside0.mk (blk_below Bga.out hb); have m6_ := Aside0.mk (blk_below Bgx.out hb); have m7_ := Aside0.mk (hrg_); have m8_ := Aside0.mk (below_step HB.out hb); have m9_ := Aside0.mk ((by rw [hlo_]; exact Rg.le Fy.out : hiy ≤ loz)); have m10_ := Aside0.mk ((hle_ : loz ≤ hiz)); have m11_ := Aside0.mk ((by rw [hlo_]; exact below_size HB.out : w.heap.size ≤ loz)); clear Fp Fw Fx Fg Fy Bga Bgx HB czga_0 fzga_0 czga_1 fzga_1 czgx_0 fzgx_0 czgx_1 fzgx_1; have Fp := m0_; have Fw := m1_; have Fx := m2_; have Fg := m3_; have Fy := m4_; have Bga := m5_; have Bgx := m6_; have Fz := m7_; have HB := m8_; have Oy_z := m9_; have Oz := m10_; have OWz := m11_; clear m0_ m1_ m2_ m3_ m4_ m5_ m6_ m7_ m8_ m9_ m10_ m11_; have czga_0 : y17.cell? ⟨ga, 0, none⟩ = some (.int .i64 n) := (blk_cell Bga.out 0).trans rfl; have fzga_0 := blk_frozen Bga.out 0; have czga_1 : y17.cell? ⟨ga, 1, none⟩ = some (.slice A0 L.length c0) := (blk_cell Bga.out 1).trans rfl; have fzga_1 := blk_frozen Bga.out 1; have czgx_0 : y17.cell? ⟨gx, 0, none⟩ = some (.int .i64 n) := (blk_cell Bgx.out 0).trans rfl; have fzgx_0 := blk_frozen Bgx.out 0; have czgx_1 : y17.cell? ⟨gx, 1, none⟩ = some (.slice Ax L.length cx) := (blk_cell Bgx.out 1).trans rfl; have fzgx_1 := blk_frozen Bgx.out 1; clear ho hb hrg_ hlo_ hle_ hhi_)
    | ((with_reducible refine gate_callee (f := 42) rfl ?_); refine goesL_ (some 56) rfl rfl Try.func42 (by kernel_rfl) rfl #[.agg #[.int .i64 n, .slice Az L.length cz]] rfl (by (try simp only [List.map_toArray, List.map_cons, List.map_nil]); first | done | rfl) ?_; (with_reducible refine (impl_EdgesOf.calls k n _ _ L E _ Fz.out.C Fz.out.cap hi).mono ?_); rintro e y18 ⟨v_, rfl, ho, hb⟩; refine ⟨_, rfl, ?_⟩; obtain ⟨loh, hih, hlo_, hle_, hhi_, hrg_⟩ := Eg.born (b := w.heap.size) ho hb (below_size HB.out); obtain ⟨Ah, ch, rfl⟩ := hrg_.slice; have m0_ := Aside0.mk (Rg.below Fp.out hb); have m1_ := Aside0.mk (Eg.below Fw.out hb); have m2_ := Aside0.mk (Rg.below Fx.out hb); have m3_ := Aside0.mk (Eg.below Fg.out hb); have m4_ := Aside0.mk (Rg.below Fy.out hb); have m5_ := Aside0.mk (Rg.below Fz.out hb); have m6_ := Aside0.mk (blk_below Bga.out hb); have m7_ := Aside0.mk (blk_below Bgx.out hb); have m8_ := Aside0.mk (hrg_); have m9_ := Aside0.mk (below_step HB.out hb); have m10_ := Aside0.mk ((by rw [hlo_]; exact Rg.le Fz.out : hiz ≤ loh)); have m11_ := Aside0.mk ((hle_ : loh ≤ hih)); have m12_ := Aside0.mk ((by rw [hlo_]; exact below_size HB.out : w.heap.size ≤ loh)); clear Fp Fw Fx Fg Fy Fz Bga Bgx HB czga_0 fzga_0 czga_1 fzga_1 czgx_0 fzgx_0 czgx_1 fzgx_1; have Fp := m0_; have Fw := m1_; have Fx := m2_; have Fg := m3_; have Fy := m4_; have Fz := m5_; have Bga := m6_; have Bgx := m7_; have Fh := m8_; have HB := m9_; have Oz_h := m10_; have Oh := m11_; have OWh := m12_; clear m0_ m1_ m2_ m3_ m4_ m5_ m6_ m7_ m8_ m9_ m10_ m11_ m12_; have czga_0 : y18.cell? ⟨ga, 0, none⟩ = some (.int .i64 n) := (blk_cell Bga.out 0).trans rfl; have fzga_0 := blk_frozen Bga.out 0; have czga_1 : y18.cell? ⟨ga, 1, none⟩ = some (.slice A0 L.length c0) := (blk_cell Bga.out 1).trans rfl; have fzga_1 := blk_frozen Bga.out 1; have czgx_0 : y18.cell? ⟨gx, 0, none⟩ = some (.int .i64 n) := (blk_cell Bgx.out 0).trans rfl; have fzgx_0 := blk_frozen Bgx.out 0; have czgx_1 : y18.cell? ⟨gx, 1, none⟩ = some (.slice Ax L.length cx) := (blk_cell Bgx.out 1).trans rfl; have fzgx_1 := blk_frozen Bgx.out 1; clear ho hb hrg_ hlo_ hle_ hhi_)
    | ((with_reducible refine gate_callee (f := 43) rfl ?_); refine goesL_ (some 59) rfl rfl Try.func43 (by kernel_rfl) rfl #[.slice Ah E.length ch, .slice Aw E.length cw] rfl (by (try simp only [List.map_toArray, List.map_cons, List.map_nil]); first | done | rfl) ?_; (with_reducible refine (laws_eqEdgeS.calls k _ _ E _ _ E true _ Fh.out.C Fh.out.cap Fw.out.C Fw.out.cap he).mono ?_); rintro e y19 ⟨rfl, hb⟩; refine ⟨_, rfl, ?_⟩; have m0_ := Aside0.mk (Rg.below Fp.out hb); have m1_ := Aside0.mk (Eg.below Fw.out hb); have m2_ := Aside0.mk (Rg.below Fx.out hb); have m3_ := Aside0.mk (Eg.below Fg.out hb); have m4_ := Aside0.mk (Rg.below Fy.out hb); have m5_ := Aside0.mk (Rg.below Fz.out hb); have m6_ := Aside0.mk (Eg.below Fh.out hb); have m7_ := Aside0.mk (blk_below Bga.out hb); have m8_ := Aside0.mk (blk_below Bgx.out hb); have m9_ := Aside0.mk (below_step HB.out hb); clear Fp Fw Fx Fg Fy Fz Fh Bga Bgx HB czga_0 fzga_0 czga_1 fzga_1 czgx_0 fzgx_0 czgx_1 fzgx_1; have Fp := m0_; have Fw := m1_; have Fx := m2_; have Fg := m3_; have Fy := m4_; have Fz := m5_; have Fh := m6_; have Bga := m7_; have Bgx := m8_; have HB := m9_; clear m0_ m1_ m2_ m3_ m4_ m5_ m6_ m7_ m8_ m9_; have czga_0 : y19.cell? ⟨ga, 0, none⟩ = some (.int .i64 n) := (blk_cell Bga.out 0).trans rfl; have fzga_0 := blk_frozen Bga.out 0; have czga_1 : y19.cell? ⟨ga, 1, none⟩ = some (.slice A0 L.length c0) := (blk_cell Bga.out 1).trans rfl; have fzga_1 := blk_frozen Bga.out 1; have czgx_0 : y19.cell? ⟨gx, 0, none⟩ = some (.int .i64 n) := (blk_cell Bgx.out 0).trans rfl; have fzgx_0 := blk_frozen Bgx.out 0; have czgx_1 : y19.cell? ⟨gx, 1, none⟩ = some (.slice Ax L.length cx) := (blk_cell Bgx.out 1).trans rfl; have fzgx_1 := blk_frozen Bgx.out 1; clear hb)
    | ((with_reducible refine gate_callee (f := 46) rfl ?_); refine goesL_ (some 63) rfl rfl Try.func46 (by kernel_rfl) rfl #[.slice Ag E'.length cg, .int .i64 1] rfl (by (try simp only [List.map_toArray, List.map_cons, List.map_nil]); first | done | rfl | (rw [hl] <;> rfl)) ?_; (with_reducible refine (laws_heldEdgeS.calls k _ _ E' 1 q _ Fg.out.C ?side1 hh).mono ?_); (case side1 => rw [hl]; exact Fg.out.cap); rintro e y20 ⟨rfl, hd_⟩; refine ⟨_, rfl, ?_⟩; have hb := drawn_below hd_; clear hd_; have m0_ := Aside0.mk (Rg.below Fp.out hb); have m1_ := Aside0.mk (Eg.below Fw.out hb); have m2_ := Aside0.mk (Rg.below Fx.out hb); have m3_ := Aside0.mk (Eg.below Fg.out hb); have m4_ := Aside0.mk (Rg.below Fy.out hb); have m5_ := Aside0.mk (Rg.below Fz.out hb); have m6_ := Aside0.mk (Eg.below Fh.out hb); have m7_ := Aside0.mk (blk_below Bga.out hb); have m8_ := Aside0.mk (blk_below Bgx.out hb); have m9_ := Aside0.mk (below_step HB.out hb); clear Fp Fw Fx Fg Fy Fz Fh Bga Bgx HB czga_0 fzga_0 czga_1 fzga_1 czgx_0 fzgx_0 czgx_1 fzgx_1; have Fp := m0_; have Fw := m1_; have Fx := m2_; have Fg := m3_; have Fy := m4_; have Fz := m5_; have Fh := m6_; have Bga := m7_; have Bgx := m8_; have HB := m9_; clear m0_ m1_ m2_ m3_ m4_ m5_ m6_ m7_ m8_ m9_; have czga_0 : y20.cell? ⟨ga, 0, none⟩ = some (.int .i64 n) := (blk_cell Bga.out 0).trans rfl; have fzga_0 := blk_frozen Bga.out 0; have czga_1 : y20.cell? ⟨ga, 1, none⟩ = some (.slice A0 L.length c0) := (blk_cell Bga.out 1).trans rfl; have fzga_1 := blk_frozen Bga.out 1; have czgx_0 : y20.cell? ⟨gx, 0, none⟩ = some (.int .i64 n) := (blk_cell Bgx.out 0).trans rfl; have fzgx_0 := blk_frozen Bgx.out 0; have czgx_1 : y20.cell? ⟨gx, 1, none⟩ = some (.slice Ax L.length cx) := (blk_cell Bgx.out 1).trans rfl; have fzgx_1 := blk_frozen Bgx.out 1; clear hb))
  go_ret
  exact ⟨rfl, HB.out⟩
set_option maxHeartbeats 8000000 in
set_option maxRecDepth 100000 in
theorem law_big (k : Nat) (n : Int) (A0 : Option Addr) (c0 : Nat) (L : List (List Int)) (t : Int) (w : World) (hr0 : Kd.C (Kd.slice 3 (Kd.int .i64)) w A0 L.length L) (hc0 : L.length ≤ c0) (hz : laws_szForest.f k n L 1048576 = some t) (ht : decide (t < 0) = true) :
    Calls Try.prog 9 #[.agg #[.int .i64 n, .slice A0 L.length c0]] w fun e w' => e = .returned (.bool true) ∧ Below w.heap.size w w' := by
  have hu1 := Try.underlying30
  have hu2 := Try.underlying33
  have HB := Aside0.mk (Below.refl w.heap.size w)
  have HR0 := Aside0.mk hr0
  have HC0 := Aside0.mk hc0
  clear hr0 hc0
  go_enter Try.func9, Try.ntmps9
  go_wp2_with (first
    | ((with_reducible refine gate_dst (N := 1) rfl ?_); refine box_event ?hg (N := 1) ?hd (cs := #[.int .i64 n, .slice A0 L.length c0]) (t := 30) ?hr ?_; (case hd => rfl); (case hg => rfl); (case hr => first | (go_simp; done) | (go_simp; rfl)); intro ga hg y1 hbox hb; have m0_ := Aside0.mk (hbox); have m1_ := Aside0.mk (below_step HB.out hb); have m2_ := Aside0.mk ((by rw [hg]; exact below_size HB.out : w.heap.size ≤ ga)); clear HB; have Bga := m0_; have HB := m1_; have OWga := m2_; clear m0_ m1_ m2_; have czga_0 : y1.cell? ⟨ga, 0, none⟩ = some (.int .i64 n) := (blk_cell Bga.out 0).trans rfl; have fzga_0 := blk_frozen Bga.out 0; have czga_1 : y1.cell? ⟨ga, 1, none⟩ = some (.slice A0 L.length c0) := (blk_cell Bga.out 1).trans rfl; have fzga_1 := blk_frozen Bga.out 1; clear hg hbox hb)
    | ((with_reducible refine gate_callee (f := 18) rfl ?_); refine goesL_ (some 13) rfl rfl Try.func18 (by kernel_rfl) rfl #[.agg #[.int .i64 n, .slice A0 L.length c0], .int .i64 1048576] rfl (by (try simp only [List.map_toArray, List.map_cons, List.map_nil]); first | done | rfl) ?_; (with_reducible refine (laws_szForest.calls k n _ _ L 1048576 t _ (Kd.C_below HR0.out HB.out) HC0.out hz).mono ?_); rintro e y2 ⟨rfl, hb⟩; refine ⟨_, rfl, ?_⟩; have m0_ := Aside0.mk (blk_below Bga.out hb); have m1_ := Aside0.mk (below_step HB.out hb); clear Bga HB czga_0 fzga_0 czga_1 fzga_1; have Bga := m0_; have HB := m1_; clear m0_ m1_; have czga_0 : y2.cell? ⟨ga, 0, none⟩ = some (.int .i64 n) := (blk_cell Bga.out 0).trans rfl; have fzga_0 := blk_frozen Bga.out 0; have czga_1 : y2.cell? ⟨ga, 1, none⟩ = some (.slice A0 L.length c0) := (blk_cell Bga.out 1).trans rfl; have fzga_1 := blk_frozen Bga.out 1; clear hb))
  go_ret
  exact ⟨rfl, HB.out⟩
def laws_FnExactEdgesOf.Ok (k : Nat) (n : Int) (L : List (List Int)) : Prop := ∃ t, laws_szForest.f k n L 1048576 = some t ∧ (decide (t < 0) = true ∨ (decide (t < 0) = false ∧ ∃ (L' : List (List Int)) (E E' : List (S112)) (m q : Int), laws_toForest.f k n L = some (n, L) ∧ spec_EdgesOf.f k n L = some E ∧ impl_EdgesOf.f k n L = some E ∧
    laws_eqEdgeS.f k E E = some true ∧ laws_eqForest.f k n L n L = some true ∧ laws_markIntSS.f k L 1 = some (m, L') ∧ decide (m < 0) = false ∧ laws_markEdgeS.f k E 1 = some (q, E') ∧ E'.length = E.length ∧ laws_heldEdgeS.f k E' 1 = some q ∧ decide (q < 0) = false))
theorem laws_FnExactEdgesOf.calls (k : Nat) (a0_0 : Int) (A0_1 : Option Addr) (c0_1 : Nat) (l0_1 : List (List Int)) (w : World) (hr0_1 : Kd.C (Kd.slice 3 (Kd.int .i64)) w A0_1 l0_1.length l0_1) (hc0_1 : l0_1.length ≤ c0_1) (h : laws_FnExactEdgesOf.Ok k a0_0 l0_1) :
    Calls Try.prog 9 #[.agg #[.int .i64 a0_0, .slice A0_1 l0_1.length c0_1]] w fun e w' => e = .returned (.bool true) ∧ Below w.heap.size w w' := by
  obtain ⟨t, hz, ht | ⟨ht, L', E, E', m, q, h1, h2, h3, h4, h5, h6, h7, h8, h9, h10, h11⟩⟩ := h
  · exact law_big k a0_0 A0_1 c0_1 l0_1 t w hr0_1 hc0_1 hz ht
  · exact law_walk k a0_0 A0_1 c0_1 l0_1 t w hr0_1 hc0_1 hz L' E E' m q ht h1 h2 h3 h4 h5 h6 h7 h8 h9 h10 h11

end Go.Proofs.Ytacnlodcbbhahaa.QFnExactEdgesOf
