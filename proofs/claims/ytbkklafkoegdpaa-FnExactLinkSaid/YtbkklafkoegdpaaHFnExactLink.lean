-- a walk by hand, for this claim
import Derived.Test.YtbkklafkoegdpaaQFnExactLinkx0
import Derived.Test.YtbkklafkoegdpaaQFnExactLinkx1
import Derived.Test.YtbkklafkoegdpaaQFnExactLinkx2
import Derived.Test.YtbkklafkoegdpaaQFnExactLinkx3
import Derived.Test.YtbkklafkoegdpaaQFnExactLinkx4
import Derived.Test.YtbkklafkoegdpaaQFnExactLinkx5
import Derived.Test.YtbkklafkoegdpaaQFnExactLinkx6
import Derived.Test.YtbkklafkoegdpaaQFnExactLinkx7
import Derived.Test.YtbkklafkoegdpaaQFnExactLinkx8
import Derived.Test.YtbkklafkoegdpaaQFnExactLinkx9
import Derived.Test.YtbkklafkoegdpaaQFnExactLinkx10
import Derived.Test.YtbkklafkoegdpaaQFnExactLinkx11
import Derived.Test.YtbkklafkoegdpaaQFnExactLinkx12
import Derived.Test.YtbkklafkoegdpaaQFnExactLinkx13
import Derived.Test.YtbkklafkoegdpaaQFnExactLinkx14
import Derived.Test.YtbkklafkoegdpaaQFnExactLinkx15
namespace Go.Proofs.Ytbkklafkoegdpaa.QFnExactLink
open Go.RowKit Go.Proofs.YtbkklafkoegdpaaW.PrintWords Go.Proofs.YtbkklafkoegdpaaW.PrintLast Go.Proofs.YtbkklafkoegdpaaW.PrintMore
set_option linter.unusedVariables false
set_option linter.unusedSimpArgs false
/-! ### rows of rows with their cells told -/
def Cells (w : World) (b : Nat) (ok : Nat → Prop) (v : Value) (L : List (List Int)) (cs : List (List Value)) : Prop :=
  cs.length = L.length ∧ Kd.R (Kd.raw 1) 51 w b ok v cs ∧ ∃ f : Nat → Nat, ∀ (i : Nat) (x : List Int) (c : List Value), L[i]? = some x → cs[i]? = some c → ∃ u, c = [u] ∧ Kd.R (Kd.int .i64) 3 w b (fun k => (ok k ∧ f k = i) ∧ some k ≠ v.ownBlock) u x
theorem S_cells {w : World} {b : Nat} {ok : Nat → Prop} {v : Value} {L : List (List Int)} (h : Kd.S (Kd.slice 3 (Kd.int .i64)) 51 w b ok v L) : ∃ cs, Cells w b ok v L cs := by
  obtain ⟨f, h0, inner, ho, hr⟩ := h
  rw [List.length_zipIdx] at ho
  refine ⟨Kd.chunks 1 L.length inner, Kd.chunks_length _ _ _, ⟨h0, inner, by rw [Kd.chunks_length]; exact ho, ?_⟩, f, fun i x c hx hc => ?_⟩
  · have := Kd.reps_raw hr (fun x c hp => ⟨(Kd.tag f (Kd.slice 3 (Kd.int .i64))).K_len (Kd.K_of_M _ hp), (Kd.tag f (Kd.slice 3 (Kd.int .i64))).K_one (Kd.K_of_M _ hp)⟩)
    rw [List.length_zipIdx] at this
    exact this
  · rw [Kd.chunks_get hc]
    obtain ⟨u, hu, hR⟩ := hr.2 i (x, i) (Kd.zip_at hx)
    exact ⟨u, hu, Kd.R_mono hR (fun k hk => ⟨⟨hk.1.1, hk.2⟩, hk.1.2⟩)⟩
theorem cells_S {w : World} {b : Nat} {ok : Nat → Prop} {v : Value} {L : List (List Int)} {cs : List (List Value)} (h : Cells w b ok v L cs) : Kd.S (Kd.slice 3 (Kd.int .i64)) 51 w b ok v L := by
  obtain ⟨hl, ⟨h0, inner, ho, hr⟩, f, hf⟩ := h
  refine ⟨f, h0, inner, by rw [List.length_zipIdx, ← hl]; exact ho, by rw [hr.1, List.length_zipIdx, hl]; rfl, fun j p hj => ?_⟩
  obtain ⟨x, i⟩ := p
  obtain ⟨hx, rfl⟩ : L[j]? = some x ∧ j = i := by
    rw [List.getElem?_zipIdx] at hj
    cases hx : L[j]? with
    | none => rw [hx] at hj; cases hj
    | some y =>
      rw [hx] at hj
      simp only [Option.map_some, Option.some.injEq, Prod.mk.injEq, Nat.zero_add] at hj
      exact ⟨by rw [hj.1], hj.2⟩
  have hjl : j < cs.length := by rw [hl]; exact (List.getElem?_eq_some_iff.1 hx).1
  have hc := List.getElem?_eq_getElem hjl
  obtain ⟨u, hu, hR⟩ := hf j x _ hx hc
  have h1 := hr.2 j _ hc
  refine ⟨u, h1.1.trans hu, Kd.R_mono hR (fun k hk => ⟨⟨hk.1.1, hk.2⟩, hk.1.2⟩)⟩
open Classical in
theorem cells_ins {w w' : World} {b j : Nat} {okA okT : Nat → Prop} {v0 t v : Value} {L : List (List Int)} {T : List Int} {cs : List (List Value)} (h : Cells w b okA v0 L cs) (ht : Kd.R (Kd.int .i64) 3 w b okT t T) (hd : ∀ k, okT k → ¬ okA k) (hb : Below w.heap.size w w') (hbs : b ≤ w.heap.size) (hj : j ≤ L.length)
    (hv : Kd.R (Kd.raw 1) 51 w' w.heap.size (fun _ => True) v (cs.take j ++ [[t]] ++ cs.drop j)) : Kd.S (Kd.slice 3 (Kd.int .i64)) 51 w' b (fun k => (okA k ∨ okT k) ∨ w.heap.size ≤ k) v (L.take j ++ [T] ++ L.drop j) := by
  obtain ⟨hl, _, f, hf⟩ := h
  have hbase := Kd.R_base hv
  have hne : ∀ k, k < w.heap.size → some k ≠ v.ownBlock := fun k hk e => by have := hbase k e.symm; omega
  refine cells_S (cs := cs.take j ++ [[t]] ++ cs.drop j) ⟨by simp only [List.length_append, List.length_take, List.length_drop, List.length_singleton, hl], Kd.R_mono (Kd.R_tight rfl (Kd.R_lower hv hbs)) (fun k e => .inr (hbase k e.symm)), fun k => if okT k then j else if f k < j then f k else f k + 1, fun i x c hx hc => ?_⟩
  have hjc : j ≤ cs.length := by omega
  have move : ∀ {i' : Nat} {u : Value} {y : List Int}, Kd.R (Kd.int .i64) 3 w b (fun k => (okA k ∧ f k = i') ∧ some k ≠ v0.ownBlock) u y → (if i' < j then i' else i' + 1) = i → Kd.R (Kd.int .i64) 3 w' b (fun k => (((okA k ∨ okT k) ∨ w.heap.size ≤ k) ∧ (if okT k then j else if f k < j then f k else f k + 1) = i) ∧ some k ≠ v.ownBlock) u y := by
    intro i' u y hR hi
    refine Kd.R_below (Kd.R_mono (Kd.R_bound hR) (fun k hk => ⟨⟨.inl (.inl hk.1.1.1), ?_⟩, hne k hk.2.2.1⟩)) hb
    rw [if_neg (fun h2 => hd k h2 hk.1.1.1), hk.1.1.2]
    exact hi
  rcases Nat.lt_trichotomy i j with hij | hij | hij
  · rw [List.append_assoc, List.getElem?_append_left (by rw [List.length_take]; omega), List.getElem?_take_of_lt hij] at hx hc
    obtain ⟨u, hu, hR⟩ := hf i x c hx hc
    exact ⟨u, hu, move hR (if_pos hij)⟩
  · subst hij
    rw [List.append_assoc, List.getElem?_append_right (by rw [List.length_take]; omega), List.length_take, Nat.min_eq_left (by omega), Nat.sub_self] at hx hc
    simp only [List.singleton_append, List.getElem?_cons_zero, Option.some.injEq] at hx hc
    subst hx
    refine ⟨t, hc.symm, Kd.R_below (Kd.R_mono (Kd.R_bound ht) (fun k hk => ⟨⟨.inl (.inr hk.1), if_pos hk.1⟩, hne k hk.2.2.1⟩)) hb⟩
  · obtain ⟨m, rfl⟩ : ∃ m, i = j + 1 + m := ⟨i - (j + 1), by omega⟩
    rw [List.getElem?_append_right (by simp only [List.length_append, List.length_take, List.length_singleton]; omega), List.length_append, List.length_take, List.length_singleton, Nat.min_eq_left (by omega), Nat.add_sub_cancel_left, List.getElem?_drop] at hx hc
    obtain ⟨u, hu, hR⟩ := hf (j + m) x c hx hc
    exact ⟨u, hu, move hR (by rw [if_neg (by omega)]; omega)⟩

theorem raw_none (w : World) (b : Nat) : Kd.R (Kd.raw 1) 51 w b (fun _ => True) (.slice none 0 0) [] := Kd.R_nil _ _ _ _ _
set_option maxHeartbeats 8000000 in
set_option maxRecDepth 100000 in
theorem impl_putTour.callsC (k : Nat) (A0 : Option Addr) (c0 : Nat) (l0 : List (List Int)) (cs0 : List (List Value)) (A1 : Option Addr) (c1 : Nat) (l1 : List Int) (r : List (List Int)) (w : World) (hr0 : Kd.C (Kd.slice 3 (Kd.int .i64)) w A0 l0.length l0) (hcl : cs0.length = l0.length) (hq0 : Kd.C (Kd.raw 1) w A0 cs0.length cs0) (hc0 : l0.length ≤ c0) (hr1 : Kd.C (Kd.int .i64) w A1 l1.length l1) (hc1 : l1.length ≤ c1) (h : impl_putTour.f k l0 l1 = some r) :
  Calls Try.prog 80 #[.slice A0 l0.length c0, .slice A1 l1.length c1] w fun e w' => ∃ (v0_ : Value) (j : Nat), e = .returned v0_ ∧ j ≤ l0.length ∧ r = l0.take j ++ [l1] ++ l0.drop j ∧ Kd.R (Kd.raw 1) 51 w' w.heap.size (fun _ => True) v0_ (cs0.take j ++ [[.slice A1 l1.length c1]] ++ cs0.drop j) ∧ Below w.heap.size w w' := by
 have f0 := am_ hr0; have fq := am_ hq0; have e5 := am_ hr1; have fl := am_ hcl; have g0_ := am_ hc0; have g1_ := am_ hc1; clear hr0 hq0 hr1 hcl hc0 hc1
 have HB := am_ (Below.refl w.heap.size w)
 have H : ((impl_VertsOf.f k l1).bind fun d3 => (if 0 < (d3.length : Int) then (impl_putTour.l0 k l0 l1 (rd d3 0) 0) else (none))) = some r := h
 clear h
 obtain ⟨d3, A30, H⟩ := Option.bind_eq_some_iff.mp H; have A3 := am_ A30; clear A30
 by_cases c4 : 0 < (d3.length : Int)
 rotate_left
 · rw [if_neg c4] at H
   exact absurd H (by simp)
 rw [if_pos c4] at H
 have c4b0 := decide_eq_true c4
 have c4b1 : decide (0 < d3.length) = true := decide_eq_true (by omega)
 clear c4; have H' := am_ H; clear H
 go_enter Try.func80, Try.ntmps80
 go_wp2_with (first | ((with_reducible refine gate_callee (f := 106) rfl ?_); refine gl_ (some 8) Try.func106 #[.slice A1 l1.length c1] ?_; (with_reducible refine (impl_VertsOf.calls k _ _ l1 d3 _ ?side1 ?side2 A3.out).mono ?_); (case side1 => exact e5.out); (case side2 => exact g1_.out); rintro e w5 ⟨g0, rfl, ho0, hb⟩; refine ⟨_, rfl, ?_⟩; replace HB := hs_ hb; clear hb; obtain ⟨g7, g8, g1⟩ := Kd.R_slice ho0; subst g1; have p417 : 0 ≤ (0 : Int) := (by omega); have q417 := dl_ 0 d3.length; obtain ⟨ad417, e417, d6⟩ := Kd.at_int (Kd.R_reads' ho0).2.2 0 p417 q417; cases e417; clear ho0; have qi417 : (0 < d3.length) = True := eq_true (by omega); (try rw [show ((0 : Int)).toNat = 0 from rfl] at d6); (try rw [Addr.add_zero'] at d6); replace p417 := eq_true p417; replace q417 := eq_true q417))
 go_loopg [6] k (fun kq v6 w' => ∃ (x6_1 : Int), v6 = .int .i64 x6_1 ∧ Aside0 (impl_putTour.l0 kq l0 l1 (rd d3 0) x6_1 = some r) ∧ Aside0 (kq ≤ k) ∧ Aside0 (Below w.heap.size w w'))
 case atStart => exact ⟨(0), qe_, H', ⟨Nat.le_refl _⟩, ⟨qB_⟩⟩
 case round =>
  clear H'
  (try clear c1); (try clear p2); (try clear c4); (try clear c4b0); (try clear c4b1); (try clear p4); (try clear q4); (try clear g9); (try clear qi4); (try clear d6); (try clear p417); (try clear q417)
  obtain ⟨x6_1, rfl, HA, HK1, HB⟩ := hrel
  cases gk with
  | zero => exact absurd HA.out (by simp [impl_putTour.l0])
  | succ k1 =>
   have H := HA.out; clear HA
   simp only [impl_putTour.l0] at H
   by_cases c7 : x6_1 < (l0.length : Int)
   rotate_left
   · rw [if_neg c7] at H
     have c7b0 := decide_eq_false c7
     clear c7
     by_cases c33 : 0 ≤ x6_1
     rotate_left
     · rw [if_neg c33] at H
       exact absurd H (by simp)
     rw [if_pos c33] at H
     have c33b0 := eq_true c33
     have c33b1 := decide_eq_true c33
     clear c33
     by_cases c34 : x6_1 ≤ (l0.length : Int)
     rotate_left
     · rw [if_neg c34] at H
       exact absurd H (by simp)
     rw [if_pos c34] at H
     have c34b0 := eq_true c34
     have c34b1 := decide_eq_true c34
     clear c34
     rw [Option.bind_some] at H
     by_cases c35 : ([] : List (List Int)).length + (l0.take (x6_1 : Int).toNat).length < 5864062014805
     rotate_left
     · rw [if_neg c35] at H
       exact absurd H (by simp)
     rw [if_pos c35, Option.bind_some, Option.bind_some] at H
     have LMc35 := am_ c35
     clear c35
     by_cases c36 : (([] : List (List Int)) ++ l0.take (x6_1 : Int).toNat).length + [l1].length < 5864062014805
     rotate_left
     · rw [if_neg c36] at H
       exact absurd H (by simp)
     rw [if_pos c36, Option.bind_some, Option.bind_some] at H
     have LMc36 := am_ c36
     clear c36
     by_cases c39 : (([] : List (List Int)) ++ l0.take (x6_1 : Int).toNat ++ [l1]).length + (l0.drop (x6_1 : Int).toNat).length < 5864062014805
     rotate_left
     · rw [if_neg c39] at H
       exact absurd H (by simp)
     rw [if_pos c39] at H
     have LMc39 := am_ c39
     clear c39
     have Hr := am_ (Option.some.inj H); clear H
     try go_wp2
     replace HB := am_ (below_drew1 HB.out)
     obtain ⟨jn, hjn⟩ : ∃ jn, jn = (x6_1 : Int).toNat := ⟨_, rfl⟩
     have q41 : (x6_1 : Int) ≤ ((l0.length : Int) : Int) := of_decide_eq_true qa_
     have q042 : (0 : Int) ≤ (x6_1 : Int) := of_decide_eq_true qa_
     have hjl : jn ≤ l0.length := by omega
     obtain ⟨i041, hi041, _, hsz41, _⟩ := info_parts info51
     have hcut41 := cut_to (P := Try.prog) 33 51 .i64 Try.underlying33 hi041 A0 l0.length c0 x6_1 q042 q41 g0_.out
     have hcut42 := cut_from (P := Try.prog) 33 51 .i64 Try.underlying33 hi041 1 hsz41 A0 l0.length c0 x6_1 q042 q41
     obtain ⟨A42, hA42⟩ : ∃ A1, A1 = (if c0 = (x6_1 : Int).toNat then A0 else (A0 : Option Addr).map (·.add ((x6_1 : Int).toNat * 1))) := ⟨_, rfl⟩
     obtain ⟨c42, hc42⟩ : ∃ c1, c1 = c0 - (x6_1 : Int).toNat := ⟨_, rfl⟩
     obtain ⟨m42, hm42⟩ : ∃ m, m = l0.length - (x6_1 : Int).toNat := ⟨_, rfl⟩
     rw [← hm42, ← hA42, ← hc42] at hcut42
     rw [← hjn] at hcut41
     have hR41 := am_ (show ReadsRow ((Kd.raw 1).K wr.drew) 1 wr.drew A0 jn (cs0.take jn) from by have := Kd.C_take (m := jn) (Kd.C_below fq.out HB.out) (by rw [fl.out]; exact hjl); rwa [show (cs0.take jn).length = jn from by rw [List.length_take, fl.out]; omega] at this)
     have hR42 := am_ (show ReadsRow ((Kd.raw 1).K w) 1 w A42 m42 (cs0.drop jn) from by have := Kd.C_drop (m := jn) (c := c0) fq.out (by rw [fl.out]; exact hjl) (by rw [fl.out]; exact g0_.out); rw [show (cs0.drop jn).length = m42 from by rw [List.length_drop, fl.out]; omega] at this; rw [hA42, ← hjn]; exact this)
     have Hjn := am_ hjn; have Hm42 := am_ hm42; clear hjn hi041 hsz41 hc42 hA42 hm42
     replace q41 := eq_true q41; replace q042 := eq_true q042
     refine start_ (n := 12) (S := fun w' => True) (ds := []) (bm 12 0) (by kernel_rfl) rfl (by kernel_rfl) trivial (fun hHeld => ?_); refine with_tabW impl_putTour.tab5 impl_putTour.bits5 (fun HT_ HW_ => ?_)
     generalize wr.drew = w40 at HB hR41 hHeld ⊢
     refine pz_ 0 28 (bm 12 1) ?_; refine pz_ 1 29 (bm 12 3) ?_; refine pz_ 2 30 (bm 12 7) ?_; refine pz_ 4 32 (bm 12 23) ?_; refine pz_ 7 35 (bm 12 151) ?_; refine pz_ 8 36 (bm 12 407) ?_; refine pz_ 9 37 (bm 12 919) ?_
     refine join_ (σ := Value × Value) 3 #[true, true, true, true, true, true, false, true, true, true, false, false] (fun s_ => [(31, s_.1), (33, s_.2)]) (fun s_ w' => (Kd.R (Kd.raw 1) 51 w' w.heap.size (fun _ => True) s_.1 (cs0.take jn)) ∧ (Kd.R (Kd.raw 1) 51 w' w.heap.size (fun _ => True) s_.2 [[.slice A1 l1.length c1]]) ∧ (Below w.heap.size w w')) ?_ ?_
     rotate_left
     · intro hCont
       refine two_ (i := 3) (j := 5) (Ni := some 31) (Nj := some 33) (bm 12 927) #[true, true, true, false, true, true, false, true, true, true, false, false] rfl rfl rfl rfl (two_of HT_.out (by kernel_rfl)) (by decide) (by decide) (fun K hK => ?_) (fun K hK => ?_)
       · skip
         refine Kd.R_append_rows_step (Kd.raw 1) (w0 := w) w.heap.size rfl (.const (.slice none 0 0)) (.tmp 30) 33 51 (.slice none 0 0) 24 rfl Try.underlying33 info51 rfl (by decide) (by omega) (.slice none 0 0) ([] : List (List Value)) (cs0.take jn) _ _ _ (fun _ => True) (fun _ => False) rfl rfl (raw_none _ _) (hR41.out) (fun _ _ hk => hk) (fun _ hk => hk.elim) (fun _ _ => trivial) qB_ (below_size qB_) (by have := LMc35.out; have := Hjn.out; rw [List.length_take] at *; simp only [List.length_nil] at *; omega) ?_
         intro b5 w26 ho hb hg hat
         rw [List.nil_append] at ho
         replace HB := am_ hb; have b7 := am_ ho; clear hb ho hg hat
         refine hK.out _ _ trivial (fun hHeld => ?_)
         clear hK K
         refine nm_ 31 ?_
         refine o1_ 5 (some 33) (bm 12 959) (fun K hK => ?_)
         refine Kd.R_lit_step (Kd.raw 1) (w0 := w) w.heap.size 51 ?hg (N := 33) ?hd (xs := [[.slice A1 l1.length c1]]) (inner := [.slice A1 l1.length c1]) (ok := fun _ => True) (okp := fun _ => False) ?hr ?hp (fun _ hk => hk.elim) trivial qB_ (below_size qB_) (by simp) ?_; (case hd => rfl); (case hg => rfl); (case hr => first | (go_simp; done) | (go_simp; rfl)); (case hp => exact Reps.one ⟨rfl, rfl, fun u hu => by rw [List.mem_singleton.1 hu]; rfl⟩ (Reps.none _ _))
         intro c3 w27 ho2 hb2 hg2 hnew2
         have n1_ := am_ (Kd.R_grown b7.out hg2 (fun _ _ => by simp))
         replace HB := am_ hb2; clear b7; have b7 := n1_; have b2 := am_ ho2; clear n1_ hb2 ho2 hg2 hnew2
         refine hK.out _ _ trivial (fun hHeld => ?_)
         clear hK K
         refine nm_ 33 ?_
         exact norm_ (by simp only [putAll, Act.put, sA_, sB_, sC_]) (hCont (b5, c3) _ ⟨b7.out, b2.out, HB.out⟩)
       · skip
         refine Kd.R_lit_step (Kd.raw 1) (w0 := w) w.heap.size 51 ?hg (N := 33) ?hd (xs := [[.slice A1 l1.length c1]]) (inner := [.slice A1 l1.length c1]) (ok := fun _ => True) (okp := fun _ => False) ?hr ?hp (fun _ hk => hk.elim) trivial qB_ (below_size qB_) (by simp) ?_; (case hd => rfl); (case hg => rfl); (case hr => first | (go_simp; done) | (go_simp; rfl)); (case hp => exact Reps.one ⟨rfl, rfl, fun u hu => by rw [List.mem_singleton.1 hu]; rfl⟩ (Reps.none _ _))
         intro c3 w26 ho2 hb2 hg2 hnew2
         replace hR41 := am_ (show ReadsRow ((Kd.raw 1).K w26) 1 w26 A0 jn (cs0.take jn) from by have := Kd.C_take (m := jn) (Kd.C_below fq.out hb2) (by rw [fl.out]; exact hjl); rwa [show (cs0.take jn).length = jn from by rw [List.length_take, fl.out]; omega] at this)
         replace HB := am_ hb2; have b2 := am_ ho2; clear hb2 ho2 hg2 hnew2
         refine hK.out _ _ trivial (fun hHeld => ?_)
         clear hK K
         refine nm_ 33 ?_
         refine o1_ 3 (some 31) (bm 12 959) (fun K hK => ?_)
         refine Kd.R_append_rows_step (Kd.raw 1) (w0 := w) w.heap.size rfl (.const (.slice none 0 0)) (.tmp 30) 33 51 (.slice none 0 0) 24 rfl Try.underlying33 info51 rfl (by decide) (by omega) (.slice none 0 0) ([] : List (List Value)) (cs0.take jn) _ _ _ (fun _ => True) (fun _ => False) rfl rfl (raw_none _ _) (hR41.out) (fun _ _ hk => hk) (fun _ hk => hk.elim) (fun _ _ => trivial) qB_ (below_size qB_) (by have := LMc35.out; have := Hjn.out; rw [List.length_take] at *; simp only [List.length_nil] at *; omega) ?_
         intro b5 w27 ho hb hg hat
         rw [List.nil_append] at ho
         have n1_ := am_ (Kd.R_grown b2.out hg (fun _ _ => by simp [Value.ownBlock]))
         replace HB := am_ hb; clear b2; have b2 := n1_; have b7 := am_ ho; clear n1_ hb ho hg hat
         refine hK.out _ _ trivial (fun hHeld => ?_)
         clear hK K
         refine nm_ 31 ?_
         exact norm_ (by simp only [putAll, Act.put, sA_, sB_, sC_]) (hCont (b5, c3) _ ⟨b7.out, b2.out, HB.out⟩)
     rintro ⟨b5, c3⟩ w29 ⟨h0_, h1_, h2_⟩
     clear HB hR41
     have b7 := am_ h0_; have b2 := am_ h1_; have HB := am_ h2_; clear h0_ h1_ h2_; have hHeld := trivial
     obtain ⟨d4, d5, e8⟩ := Kd.R_slice b2.out
     subst e8
     refine norm_ (a' := ?_) ?_ ?_
     rotate_left
     · simp only [putAll, Act.put, sA_, sB_, sC_]
       rfl
     refine o1_ 6 (some 34) (bm 12 1023) (fun K hK => ?_)
     refine Kd.R_append_rows_step (Kd.raw 1) (w0 := w) w.heap.size (by rfl) (.tmp 31) (.tmp 33) 33 51 (.slice none 0 0) 24 rfl Try.underlying33 info51 rfl (by decide) (by omega) b5 (cs0.take jn) [[.slice A1 l1.length c1]] _ _ _ (fun _ => True) (fun k_ => False) rfl rfl b7.out (Kd.R_reads' b2.out).2.2 (fun _ _ hk => hk) (fun _ hk => hk.elim) (fun _ _ => trivial) qB_ (below_size qB_) (by have := LMc36.out; have := Hjn.out; simp only [List.nil_append, List.length_take, List.length_singleton, fl.out] at *; omega) ?_
     intro e4 w30 ho hb hg hat
     replace HB := am_ hb; clear b7 b2; have b7 := am_ ho; clear ho hb hg hat
     refine hK.out _ _ trivial (fun hHeld => ?_)
     clear hK K
     refine nm_ 34 ?_
     refine o1_ 10 (some 38) (bm 12 2047) (fun K hK => ?_)
     refine Kd.R_append_rows_step (Kd.raw 1) (w0 := w) w.heap.size (by rfl) (.tmp 34) (.tmp 37) 33 51 (.slice none 0 0) 24 rfl Try.underlying33 info51 rfl (by decide) (by omega) e4 (cs0.take jn ++ [[.slice A1 l1.length c1]]) (cs0.drop jn) _ _ _ (fun _ => True) (fun k_ => False) rfl rfl b7.out (ReadsRow.imp_ hR42.out HB.out (fun _ _ hk => hk)) (fun _ _ hk => hk) (fun _ hk => hk.elim) (fun _ _ => trivial) qB_ (below_size qB_) (by have := LMc39.out; have := Hjn.out; have := Hm42.out; simp only [List.nil_append, List.length_append, List.length_take, List.length_drop, List.length_singleton, fl.out] at *; omega) ?_
     intro g6 w32 ho hb hg hat
     replace HB := am_ hb; clear b7; have b7 := am_ ho; clear ho hb hg hat
     refine hK.out _ _ trivial (fun hHeld => ?_)
     clear hK K
     refine nm_ 38 ?_
     refine pz_ 11 4 (bm 12 4095) ?_
     refine done_ (done_of HT_.out (by kernel_rfl)) ?_
     try go_wp2
     go_ret
     exact ⟨_, jn, qr_, hjl, by rw [← Hr.out, Hjn.out, List.nil_append], b7.out, HB.out⟩
   rw [if_pos c7] at H
   have c7b0 := decide_eq_true c7
   clear c7
   by_cases c8 : 0 ≤ x6_1
   rotate_left
   · rw [if_neg c8] at H
     exact absurd H (by simp)
   rw [if_pos c8] at H
   have c8b0 := decide_eq_true c8
   clear c8
   obtain ⟨t419, A90, H⟩ := Option.bind_eq_some_iff.mp H; have A9 := am_ A90; clear A90
   by_cases c10 : 0 < (t419.length : Int)
   rotate_left
   · rw [if_neg c10] at H
     exact absurd H (by simp)
   rw [if_pos c10] at H
   have c10b0 := decide_eq_true c10
   have c10b1 : decide (0 < t419.length) = true := decide_eq_true (by omega)
   clear c10
   by_cases c11 : (rd t419 0) < (rd d3 0)
   · rw [if_pos c11] at H
     have c11b0 := decide_eq_true c11
     clear c11
     have H' := am_ H; clear H
     have p418 : 0 ≤ (x6_1 : Int) := of_decide_eq_true qa_
     have q418 : x6_1 < (l0.length : Int) := of_decide_eq_true qa_
     obtain ⟨ad418, A418_0, c418_0, e418, hx418_0, hl418_0, hi418_0⟩ := at_L1 (Kd.C_below f0.out HB.out) x6_1 p418 q418
     cases e418
     have HR418_0 := am_ hi418_0
     have HC418_0 := am_ hl418_0
     clear hi418_0 hl418_0
     replace p418 := eq_true p418
     replace q418 := eq_true q418
     go_wp2_with (first | (go_at_call 106; (with_reducible refine (impl_VertsOf.calls k1 _ _ (rd_L1 l0 x6_1) t419 _ ?side1 ?side2 A9.out).mono ?_); (case side1 => exact HR418_0.out); (case side2 => exact HC418_0.out); rintro e w12 ⟨v420, rfl, ho0, hb⟩; replace HB := hs_ hb; clear hb; obtain ⟨Ao13, co13, eo13⟩ := Kd.R_slice ho0; subst eo13; have p422 : 0 ≤ (0 : Int) := (by omega); have q422 := dl_ 0 t419.length; obtain ⟨ad422, e422, hx422_0⟩ := Kd.at_int (Kd.R_reads' ho0).2.2 0 p422 q422; cases e422; clear ho0; have qi422 : (0 < t419.length) = True := eq_true (by omega); (try rw [show ((0 : Int)).toNat = 0 from rfl] at hx422_0); (try rw [Addr.add_zero'] at hx422_0); replace p422 := eq_true p422; replace q422 := eq_true q422))
     go_roundg k1
     case measure => have := HK1.out; omega
     case rel => exact ⟨(wrap64 (x6_1 + 1)), qe_, H', ⟨by have := HK1.out; omega⟩, ⟨qB_⟩⟩
   rw [if_neg c11] at H
   have c11b0 := decide_eq_false c11
   clear c11
   have c14b0 := eq_true (of_decide_eq_true qa_ : 0 ≤ x6_1)
   by_cases c34 : x6_1 ≤ (l0.length : Int)
   rotate_left
   · rw [if_neg c34] at H
     exact absurd H (by simp)
   rw [if_pos c34] at H
   have c34b0 := eq_true c34
   have c34b1 := decide_eq_true c34
   clear c34
   rw [Option.bind_some] at H
   by_cases c35 : ([] : List (List Int)).length + (l0.take (x6_1 : Int).toNat).length < 5864062014805
   rotate_left
   · rw [if_neg c35] at H
     exact absurd H (by simp)
   rw [if_pos c35, Option.bind_some, Option.bind_some] at H
   have LMc35 := am_ c35
   clear c35
   by_cases c36 : (([] : List (List Int)) ++ l0.take (x6_1 : Int).toNat).length + [l1].length < 5864062014805
   rotate_left
   · rw [if_neg c36] at H
     exact absurd H (by simp)
   rw [if_pos c36, Option.bind_some, Option.bind_some] at H
   have LMc36 := am_ c36
   clear c36
   by_cases c39 : (([] : List (List Int)) ++ l0.take (x6_1 : Int).toNat ++ [l1]).length + (l0.drop (x6_1 : Int).toNat).length < 5864062014805
   rotate_left
   · rw [if_neg c39] at H
     exact absurd H (by simp)
   rw [if_pos c39] at H
   have LMc39 := am_ c39
   clear c39
   have Hr := am_ (Option.some.inj H); clear H
   have p418 : 0 ≤ (x6_1 : Int) := of_decide_eq_true qa_
   have q418 : x6_1 < (l0.length : Int) := of_decide_eq_true qa_
   obtain ⟨ad418, A418_0, c418_0, e418, hx418_0, hl418_0, hi418_0⟩ := at_L1 (Kd.C_below f0.out HB.out) x6_1 p418 q418
   cases e418
   have HR418_0 := am_ hi418_0
   have HC418_0 := am_ hl418_0
   clear hi418_0 hl418_0
   replace p418 := eq_true p418
   replace q418 := eq_true q418
   try go_wp2_with (first | (go_at_call 106; (with_reducible refine (impl_VertsOf.calls k1 _ _ (rd_L1 l0 x6_1) t419 _ ?side1 ?side2 A9.out).mono ?_); (case side1 => exact HR418_0.out); (case side2 => exact HC418_0.out); rintro e w21 ⟨v420, rfl, ho0, hb⟩; replace HB := hs_ hb; clear hb; obtain ⟨Ao13, co13, eo13⟩ := Kd.R_slice ho0; subst eo13; have p422 : 0 ≤ (0 : Int) := (by omega); have q422 := dl_ 0 t419.length; obtain ⟨ad422, e422, hx422_0⟩ := Kd.at_int (Kd.R_reads' ho0).2.2 0 p422 q422; cases e422; clear ho0; have qi422 : (0 < t419.length) = True := eq_true (by omega); (try rw [show ((0 : Int)).toNat = 0 from rfl] at hx422_0); (try rw [Addr.add_zero'] at hx422_0); replace p422 := eq_true p422; replace q422 := eq_true q422))
   replace HB := am_ (below_drew1 HB.out)
   obtain ⟨jn, hjn⟩ : ∃ jn, jn = (x6_1 : Int).toNat := ⟨_, rfl⟩
   have q41 : (x6_1 : Int) ≤ ((l0.length : Int) : Int) := of_decide_eq_true qa_
   have q042 : (0 : Int) ≤ (x6_1 : Int) := of_decide_eq_true qa_
   have hjl : jn ≤ l0.length := by omega
   obtain ⟨i041, hi041, _, hsz41, _⟩ := info_parts info51
   have hcut41 := cut_to (P := Try.prog) 33 51 .i64 Try.underlying33 hi041 (some ad418) l0.length c0 x6_1 q042 q41 g0_.out
   have hcut42 := cut_from (P := Try.prog) 33 51 .i64 Try.underlying33 hi041 1 hsz41 (some ad418) l0.length c0 x6_1 q042 q41
   obtain ⟨A42, hA42⟩ : ∃ A1, A1 = (if c0 = (x6_1 : Int).toNat then some ad418 else (some ad418 : Option Addr).map (·.add ((x6_1 : Int).toNat * 1))) := ⟨_, rfl⟩
   obtain ⟨c42, hc42⟩ : ∃ c1, c1 = c0 - (x6_1 : Int).toNat := ⟨_, rfl⟩
   obtain ⟨m42, hm42⟩ : ∃ m, m = l0.length - (x6_1 : Int).toNat := ⟨_, rfl⟩
   rw [← hm42, ← hA42, ← hc42] at hcut42
   rw [← hjn] at hcut41
   have hR41 := am_ (show ReadsRow ((Kd.raw 1).K w21.drew) 1 w21.drew (some ad418) jn (cs0.take jn) from by have := Kd.C_take (m := jn) (Kd.C_below fq.out HB.out) (by rw [fl.out]; exact hjl); rwa [show (cs0.take jn).length = jn from by rw [List.length_take, fl.out]; omega] at this)
   have hR42 := am_ (show ReadsRow ((Kd.raw 1).K w) 1 w A42 m42 (cs0.drop jn) from by have := Kd.C_drop (m := jn) (c := c0) fq.out (by rw [fl.out]; exact hjl) (by rw [fl.out]; exact g0_.out); rw [show (cs0.drop jn).length = m42 from by rw [List.length_drop, fl.out]; omega] at this; rw [hA42, ← hjn]; exact this)
   have Hjn := am_ hjn; have Hm42 := am_ hm42; clear hjn hi041 hsz41 hc42 hA42 hm42
   replace q41 := eq_true q41; replace q042 := eq_true q042
   refine start_ (n := 12) (S := fun w' => True) (ds := []) (bm 12 0) (by kernel_rfl) rfl (by kernel_rfl) trivial (fun hHeld => ?_); refine with_tabW impl_putTour.tab5 impl_putTour.bits5 (fun HT_ HW_ => ?_)
   generalize w21.drew = w40 at HB hR41 hHeld ⊢
   refine pz_ 0 28 (bm 12 1) ?_; refine pz_ 1 29 (bm 12 3) ?_; refine pz_ 2 30 (bm 12 7) ?_; refine pz_ 4 32 (bm 12 23) ?_; refine pz_ 7 35 (bm 12 151) ?_; refine pz_ 8 36 (bm 12 407) ?_; refine pz_ 9 37 (bm 12 919) ?_
   refine join_ (σ := Value × Value) 3 #[true, true, true, true, true, true, false, true, true, true, false, false] (fun s_ => [(31, s_.1), (33, s_.2)]) (fun s_ w' => (Kd.R (Kd.raw 1) 51 w' w.heap.size (fun _ => True) s_.1 (cs0.take jn)) ∧ (Kd.R (Kd.raw 1) 51 w' w.heap.size (fun _ => True) s_.2 [[.slice A1 l1.length c1]]) ∧ (Below w.heap.size w w')) ?_ ?_
   rotate_left
   · intro hCont
     refine two_ (i := 3) (j := 5) (Ni := some 31) (Nj := some 33) (bm 12 927) #[true, true, true, false, true, true, false, true, true, true, false, false] rfl rfl rfl rfl (two_of HT_.out (by kernel_rfl)) (by decide) (by decide) (fun K hK => ?_) (fun K hK => ?_)
     · skip
       refine Kd.R_append_rows_step (Kd.raw 1) (w0 := w) w.heap.size rfl (.const (.slice none 0 0)) (.tmp 30) 33 51 (.slice none 0 0) 24 rfl Try.underlying33 info51 rfl (by decide) (by omega) (.slice none 0 0) ([] : List (List Value)) (cs0.take jn) _ _ _ (fun _ => True) (fun _ => False) rfl rfl (raw_none _ _) (hR41.out) (fun _ _ hk => hk) (fun _ hk => hk.elim) (fun _ _ => trivial) qB_ (below_size qB_) (by have := LMc35.out; have := Hjn.out; rw [List.length_take] at *; simp only [List.length_nil] at *; omega) ?_
       intro b5 w26 ho hb hg hat
       rw [List.nil_append] at ho
       replace HB := am_ hb; have b7 := am_ ho; clear hb ho hg hat
       refine hK.out _ _ trivial (fun hHeld => ?_)
       clear hK K
       refine nm_ 31 ?_
       refine o1_ 5 (some 33) (bm 12 959) (fun K hK => ?_)
       refine Kd.R_lit_step (Kd.raw 1) (w0 := w) w.heap.size 51 ?hg (N := 33) ?hd (xs := [[.slice A1 l1.length c1]]) (inner := [.slice A1 l1.length c1]) (ok := fun _ => True) (okp := fun _ => False) ?hr ?hp (fun _ hk => hk.elim) trivial qB_ (below_size qB_) (by simp) ?_; (case hd => rfl); (case hg => rfl); (case hr => first | (go_simp; done) | (go_simp; rfl)); (case hp => exact Reps.one ⟨rfl, rfl, fun u hu => by rw [List.mem_singleton.1 hu]; rfl⟩ (Reps.none _ _))
       intro c3 w27 ho2 hb2 hg2 hnew2
       have n1_ := am_ (Kd.R_grown b7.out hg2 (fun _ _ => by simp))
       replace HB := am_ hb2; clear b7; have b7 := n1_; have b2 := am_ ho2; clear n1_ hb2 ho2 hg2 hnew2
       refine hK.out _ _ trivial (fun hHeld => ?_)
       clear hK K
       refine nm_ 33 ?_
       exact norm_ (by simp only [putAll, Act.put, sA_, sB_, sC_]) (hCont (b5, c3) _ ⟨b7.out, b2.out, HB.out⟩)
     · skip
       refine Kd.R_lit_step (Kd.raw 1) (w0 := w) w.heap.size 51 ?hg (N := 33) ?hd (xs := [[.slice A1 l1.length c1]]) (inner := [.slice A1 l1.length c1]) (ok := fun _ => True) (okp := fun _ => False) ?hr ?hp (fun _ hk => hk.elim) trivial qB_ (below_size qB_) (by simp) ?_; (case hd => rfl); (case hg => rfl); (case hr => first | (go_simp; done) | (go_simp; rfl)); (case hp => exact Reps.one ⟨rfl, rfl, fun u hu => by rw [List.mem_singleton.1 hu]; rfl⟩ (Reps.none _ _))
       intro c3 w26 ho2 hb2 hg2 hnew2
       replace hR41 := am_ (show ReadsRow ((Kd.raw 1).K w26) 1 w26 (some ad418) jn (cs0.take jn) from by have := Kd.C_take (m := jn) (Kd.C_below fq.out hb2) (by rw [fl.out]; exact hjl); rwa [show (cs0.take jn).length = jn from by rw [List.length_take, fl.out]; omega] at this)
       replace HB := am_ hb2; have b2 := am_ ho2; clear hb2 ho2 hg2 hnew2
       refine hK.out _ _ trivial (fun hHeld => ?_)
       clear hK K
       refine nm_ 33 ?_
       refine o1_ 3 (some 31) (bm 12 959) (fun K hK => ?_)
       refine Kd.R_append_rows_step (Kd.raw 1) (w0 := w) w.heap.size rfl (.const (.slice none 0 0)) (.tmp 30) 33 51 (.slice none 0 0) 24 rfl Try.underlying33 info51 rfl (by decide) (by omega) (.slice none 0 0) ([] : List (List Value)) (cs0.take jn) _ _ _ (fun _ => True) (fun _ => False) rfl rfl (raw_none _ _) (hR41.out) (fun _ _ hk => hk) (fun _ hk => hk.elim) (fun _ _ => trivial) qB_ (below_size qB_) (by have := LMc35.out; have := Hjn.out; rw [List.length_take] at *; simp only [List.length_nil] at *; omega) ?_
       intro b5 w27 ho hb hg hat
       rw [List.nil_append] at ho
       have n1_ := am_ (Kd.R_grown b2.out hg (fun _ _ => by simp [Value.ownBlock]))
       replace HB := am_ hb; clear b2; have b2 := n1_; have b7 := am_ ho; clear n1_ hb ho hg hat
       refine hK.out _ _ trivial (fun hHeld => ?_)
       clear hK K
       refine nm_ 31 ?_
       exact norm_ (by simp only [putAll, Act.put, sA_, sB_, sC_]) (hCont (b5, c3) _ ⟨b7.out, b2.out, HB.out⟩)
   rintro ⟨b5, c3⟩ w29 ⟨h0_, h1_, h2_⟩
   clear HB hR41
   have b7 := am_ h0_; have b2 := am_ h1_; have HB := am_ h2_; clear h0_ h1_ h2_; have hHeld := trivial
   obtain ⟨d4, d5, e8⟩ := Kd.R_slice b2.out
   subst e8
   refine norm_ (a' := ?_) ?_ ?_
   rotate_left
   · simp only [putAll, Act.put, sA_, sB_, sC_]
     rfl
   refine o1_ 6 (some 34) (bm 12 1023) (fun K hK => ?_)
   refine Kd.R_append_rows_step (Kd.raw 1) (w0 := w) w.heap.size (by rfl) (.tmp 31) (.tmp 33) 33 51 (.slice none 0 0) 24 rfl Try.underlying33 info51 rfl (by decide) (by omega) b5 (cs0.take jn) [[.slice A1 l1.length c1]] _ _ _ (fun _ => True) (fun k_ => False) rfl rfl b7.out (Kd.R_reads' b2.out).2.2 (fun _ _ hk => hk) (fun _ hk => hk.elim) (fun _ _ => trivial) qB_ (below_size qB_) (by have := LMc36.out; have := Hjn.out; simp only [List.nil_append, List.length_take, List.length_singleton, fl.out] at *; omega) ?_
   intro e4 w30 ho hb hg hat
   replace HB := am_ hb; clear b7 b2; have b7 := am_ ho; clear ho hb hg hat
   refine hK.out _ _ trivial (fun hHeld => ?_)
   clear hK K
   refine nm_ 34 ?_
   refine o1_ 10 (some 38) (bm 12 2047) (fun K hK => ?_)
   refine Kd.R_append_rows_step (Kd.raw 1) (w0 := w) w.heap.size (by rfl) (.tmp 34) (.tmp 37) 33 51 (.slice none 0 0) 24 rfl Try.underlying33 info51 rfl (by decide) (by omega) e4 (cs0.take jn ++ [[.slice A1 l1.length c1]]) (cs0.drop jn) _ _ _ (fun _ => True) (fun k_ => False) rfl rfl b7.out (ReadsRow.imp_ hR42.out HB.out (fun _ _ hk => hk)) (fun _ _ hk => hk) (fun _ hk => hk.elim) (fun _ _ => trivial) qB_ (below_size qB_) (by have := LMc39.out; have := Hjn.out; have := Hm42.out; simp only [List.nil_append, List.length_append, List.length_take, List.length_drop, List.length_singleton, fl.out] at *; omega) ?_
   intro g6 w32 ho hb hg hat
   replace HB := am_ hb; clear b7; have b7 := am_ ho; clear ho hb hg hat
   refine hK.out _ _ trivial (fun hHeld => ?_)
   clear hK K
   refine nm_ 38 ?_
   refine pz_ 11 4 (bm 12 4095) ?_
   refine done_ (done_of HT_.out (by kernel_rfl)) ?_
   try go_wp2
   go_ret
   exact ⟨_, jn, qr_, hjl, by rw [← Hr.out, Hjn.out, List.nil_append], b7.out, HB.out⟩

/-! ### impl.putTour over rows that lie apart -/
theorem impl_putTour.callsS (k : Nat) {b : Nat} {okA okT : Nat → Prop} (A0 : Option Addr) (c0 : Nat) (l0 : List (List Int)) (A1 : Option Addr) (c1 : Nat) (l1 : List Int) (r : List (List Int)) (w : World) (hS : Kd.S (Kd.slice 3 (Kd.int .i64)) 51 w b okA (.slice A0 l0.length c0) l0) (hT : Kd.R (Kd.int .i64) 3 w b okT (.slice A1 l1.length c1) l1) (hd : ∀ k, okT k → ¬ okA k) (hbs : b ≤ w.heap.size) (h : impl_putTour.f k l0 l1 = some r) :
  Calls Try.prog 80 #[.slice A0 l0.length c0, .slice A1 l1.length c1] w fun e w' => ∃ v0_ : Value, e = .returned v0_ ∧ Kd.S (Kd.slice 3 (Kd.int .i64)) 51 w' b (fun k => (okA k ∨ okT k) ∨ w.heap.size ≤ k) v0_ r ∧ Below w.heap.size w w' := by
  obtain ⟨cs, hcs⟩ := S_cells hS
  have hr := Kd.R_reads' hcs.2.1
  refine (impl_putTour.callsC k A0 c0 l0 cs A1 c1 l1 r w (Kd.S_reads' hS).2.2 hcs.1 hr.2.2 (Kd.S_reads' hS).2.1 (Kd.R_reads' hT).2.2 (Kd.R_reads' hT).2.1 h).mono ?_
  rintro e w' ⟨v, j, rfl, hj, rfl, hv, hb⟩
  exact ⟨v, rfl, cells_ins hcs hT hd hb hbs hj hv, hb⟩
theorem cutA {W w1 : World} {b b0 : Nat} {q d c : Value} {L : List (List Int)} (h : Kd.S (Kd.slice 3 (Kd.int .i64)) 51 w1 W.heap.size (fun _ => True) q L) (h1 : ∀ k, d.ownBlock = some k → k < W.heap.size) (h2 : ∀ k, c.ownBlock = some k → k < W.heap.size) (h3 : b0 < W.heap.size) (h4 : b ≤ W.heap.size) :
    ∃ n1 : Nat, Aside0 (Kd.S (Kd.slice 3 (Kd.int .i64)) 51 w1 b (fun k => n1 ≤ k) q L) ∧ Aside0 (∀ k, d.ownBlock = some k → k < n1) ∧ Aside0 (∀ k, c.ownBlock = some k → k < n1) ∧ Aside0 (b0 < n1) :=
  ⟨_, ⟨Kd.S_lower (Kd.S_mono (Kd.S_bound h) (fun _ hk => hk.2.1)) h4⟩, ⟨h1⟩, ⟨h2⟩, ⟨h3⟩⟩

set_option maxHeartbeats 8000000 in
set_option maxRecDepth 100000 in
theorem impl_Link.callsS (k : Nat) (a0_0 : Int) (A0_1 : Option Addr) (c0_1 : Nat) (l0_1 : List (List Int)) (a1_0 : Int) (a1_1 : Int) (r1 : Int) (r2 : List (List Int)) (r3 : Bool) (w : World) (hr0_1 : Kd.C (Kd.slice 3 (Kd.int .i64)) w A0_1 l0_1.length l0_1) (hc0_1 : l0_1.length ≤ c0_1) (h : impl_Link.f k a0_0 l0_1 a1_0 a1_1 = some (r1, r2, r3)) :
  Calls Try.prog 31 #[.agg #[.int .i64 a0_0, .slice A0_1 l0_1.length c0_1], .agg #[.int .i64 a1_0, .int .i64 a1_1]] w fun e w' => ∃ v1_ : Value, e = .returned (.tuple #[.agg #[.int .i64 r1, v1_], .bool r3]) ∧ Kd.S (Kd.slice 3 (Kd.int .i64)) 51 w' w.heap.size (fun _ => True) v1_ r2 ∧ Below w.heap.size w w' := by
 have hu39 := Try.underlying39; have hu43 := Try.underlying43
 have HR0_1 := am_ hr0_1
 have HC0_1 := am_ hc0_1
 clear hr0_1 hc0_1
 have HB := am_ (Below.refl w.heap.size w)
 have H : ((impl_ForestOk.f k a0_0 l0_1).bind fun f3 => (if f3 = true then ((impl_EdgeOk.f a0_0 a1_0 a1_1).bind fun d4 => (impl_Link.j0 k (!d4) a0_0 l0_1 a1_0 a1_1)) else (impl_Link.j0 k true a0_0 l0_1 a1_0 a1_1))) = some (r1, r2, r3) := h
 clear h
 have k2 := am_ H
 clear H
 go_enter Try.func31, Try.ntmps31
 go_upto_region 1 with (first | ((with_reducible refine gate_dst (N := 2) rfl ?_); refine by_ 2 (cs := #[.int .i64 a0_0, .slice A0_1 l0_1.length c0_1]) (t := 39) ?_; intro a9 hg w4 a0 hb; have g4 := gw_ hg; have k6 := g4; replace HB := hs_ hb; clear hb hg) | ((with_reducible refine gate_dst (N := 3) rfl ?_); refine by_ 3 (cs := #[.int .i64 a1_0, .int .i64 a1_1]) (t := 43) ?_; intro b0 hg w5 a1 hb; have g5 := gw_ hg; have k7 := g5; obtain ⟨b2, g0⟩ := qn_ a0 hg; replace a0 := qbl_ a0 hb; replace HB := hs_ hb; clear hb hg) | ((with_reducible refine gate_dst (N := 4) rfl ?_); refine by_ 4 (cs := #[.int .i64 0, .slice none 0 0]) (t := 39) ?_; intro b1 hg w6 a2 hb; have g6 := gw_ hg; have k8 := g6; obtain ⟨b3, b9⟩ := qn_ a0 hg; obtain ⟨c6, b4⟩ := qn_ a1 hg; replace a0 := qbl_ a0 hb; replace a1 := qbl_ a1 hb; replace HB := hs_ hb; clear hb hg))
 (try simp only [Act.put, sA_, sB_, sC_])
 go_cut [20] (fun v20 wc => ∃ (kq : Nat) (x20_2 : Bool), v20 = .bool x20_2 ∧ Aside0 (impl_Link.j0 kq x20_2 a0_0 l0_1 a1_0 a1_1 = some (r1, r2, r3)) ∧ Aside0 (kq ≤ k) ∧ Aside0 (wc.heap[a9]? = some (.cells #[.int .i64 a0_0, (.slice A0_1 l0_1.length c0_1)] 39 (0, 0))) ∧ Aside0 (wc.heap[b0]? = some (.cells #[.int .i64 a1_0, .int .i64 a1_1] 43 (0, 0))) ∧ Aside0 (wc.heap[b1]? = some (.cells #[.int .i64 0, (.slice none 0 0)] 39 (0, 0))) ∧ Aside0 (Below w.heap.size w wc))
 case first =>
  have H := k2.out; clear k2
  obtain ⟨f3, A70, H⟩ := Option.bind_eq_some_iff.mp H; have A7 := am_ A70; clear A70
  by_cases c8 : f3 = true
  ·subst c8
   rw [if_pos rfl] at H
   obtain ⟨d4, A90, H⟩ := Option.bind_eq_some_iff.mp H; have A9 := am_ A90; clear A90
   have H' := am_ H; clear H; obtain ⟨k9, l0⟩ := nn_ b2; obtain ⟨l1, l2⟩ := nn_ b3
   obtain ⟨d5, d6, d7, d8⟩ := bc2_ a0
   go_wp2_with (first | ((with_reducible refine gate_callee (f := 75) rfl ?_); refine gl_ (some 12) Try.func75 #[.agg #[.int .i64 a0_0, .slice A0_1 l0_1.length c0_1]] ?_; (with_reducible refine (impl_ForestOk.calls k a0_0 _ _ l0_1 true _ ?side1 ?side2 A7.out).mono ?_); (case side1 => exact qC_ HR0_1 HB); (case side2 => exact HC0_1.out); rintro e w13 ⟨rfl, hb⟩; refine ⟨_, rfl, ?_⟩; replace a0 := qbl_ a0 hb; replace a1 := qbl_ a1 hb; replace a2 := qbl_ a2 hb; replace HB := hs_ hb; (try clear hb); (try clear hb2); (try clear hk); (try clear hi); obtain ⟨d9, e0, e1, e2⟩ := bc2_ a0; obtain ⟨l3, l4⟩ := nn_ c6; obtain ⟨e3, e4, e5, e6⟩ := bc2_ a1) | (go_at_call 76; (with_reducible refine (impl_EdgeOk.calls a0_0 a1_0 a1_1 d4 _ A9.out).mono ?_); rintro e w17 ⟨rfl, hb⟩; replace a0 := qbl_ a0 hb; replace a1 := qbl_ a1 hb; replace a2 := qbl_ a2 hb; replace HB := hs_ hb; (try clear hb); (try clear hb2); (try clear hk); (try clear hi)))
   go_meet
   case rel => exact ⟨_, (!d4), qe_, H', ⟨qo_⟩, ⟨qk_ a0⟩, ⟨qk_ a1⟩, ⟨qk_ a2⟩, ⟨qB_⟩⟩
  replace c8 := Bool.eq_false_iff.mpr c8
  subst c8
  rw [if_neg ff_] at H; have H' := am_ H; clear H; obtain ⟨l5, l6⟩ := nn_ b2; obtain ⟨l7, l8⟩ := nn_ b3
  obtain ⟨e7, e8, e9, f0⟩ := bc2_ a0
  go_wp2_with (first | ((with_reducible refine gate_callee (f := 75) rfl ?_); refine gl_ (some 12) Try.func75 #[.agg #[.int .i64 a0_0, .slice A0_1 l0_1.length c0_1]] ?_; (with_reducible refine (impl_ForestOk.calls k a0_0 _ _ l0_1 false _ ?side1 ?side2 A7.out).mono ?_); (case side1 => exact qC_ HR0_1 HB); (case side2 => exact HC0_1.out); rintro e w21 ⟨rfl, hb⟩; refine ⟨_, rfl, ?_⟩; replace a0 := qbl_ a0 hb; replace a1 := qbl_ a1 hb; replace a2 := qbl_ a2 hb; replace HB := hs_ hb; (try clear hb); (try clear hb2); (try clear hk); (try clear hi)))
  go_meet
  case rel => exact ⟨_, (true), qe_, H', ⟨qo_⟩, ⟨qk_ a0⟩, ⟨qk_ a1⟩, ⟨qk_ a2⟩, ⟨qB_⟩⟩
 case rest =>
  clear k2; (try clear c1); (try clear p2); (try clear c3); (try clear c7); (try clear c8); (try clear c10); (try clear c11); (try clear c15); (try clear c18); (try clear c19); (try clear d5 d6); (try clear d9 e0); (try clear e3 e4); (try clear e7 e8); (try clear d7 d8); (try clear e1 e2); (try clear e5 e6); (try clear e9 f0)
  obtain ⟨kq, x20_2, rfl, HA, o2, a0, a1, a2, HB⟩ := hcut
  cases kq with
  | zero => exact absurd HA.out (by simp [impl_Link.j0])
  | succ kj2 =>
   have H := HA.out; clear HA
   simp only [impl_Link.j0] at H
   by_cases c22 : x20_2 = true
   ·subst c22
    rw [if_pos rfl] at H
    simp only [Option.some.injEq, Prod.mk.injEq] at H
    obtain ⟨rfl, rfl, rfl⟩ := H
    obtain ⟨l9, m0⟩ := nn_ b9; obtain ⟨m1, m2⟩ := nn_ b4
    obtain ⟨h3, h4, h5, h6⟩ := bc2_ a2
    go_wp2
    refine bodyPost_ret (results_ct rfl _ _ b1 39 #[.int .i64 0, .slice none 0 0] (0, 0) _ rfl (by (with_reducible repeat (first | refine blk_drewN ?_ _ | refine blk_drew ?_ | refine blk_alloc ?_ _)); refine blk_put (cs := #[.int .i64 0, .slice none 0 0]) ?_ 1 _ rfl; (with_reducible repeat (first | refine blk_drewN ?_ _ | refine blk_drew ?_ | refine blk_alloc ?_ _)); refine blk_put (cs := #[.int .i64 0, .slice none 0 0]) ?_ 0 _ rfl; exact qf_ a2) Try.underlying39 rfl (by kernel_rfl)) rfl ?_
    exact ⟨_, qr_, by first | exact Kd.S_nil _ _ _ _ _ | exact Kd.N_nil _ _ _ _ _ | exact Kd.V_nil _ _ _ _ _ | exact Kd.Q_nil _ _ _ _ _ | exact Kd.R_nil _ _ _ _ _, qB_⟩
   replace c22 := Bool.eq_false_iff.mpr c22
   subst c22
   rw [if_neg ff_] at H
   obtain ⟨a7, g7, H⟩ := Option.bind_eq_some_iff.mp H; have A26 := am_ g7; clear g7
   obtain ⟨a8, g8, H⟩ := Option.bind_eq_some_iff.mp H; have A27 := am_ g8; clear g8
   by_cases c28 : a7 = a8
   ·rw [if_pos c28] at H
    have c28b0 : (a7 == a8) = true := beq_iff_eq.mpr c28
    have c28b1 : (a7 != a8) = false := bne_eq_false_iff_eq.mpr c28
    clear c28
    simp only [Option.some.injEq, Prod.mk.injEq] at H
    obtain ⟨rfl, rfl, rfl⟩ := H
    try go_wp2
    replace a0 := am_ (blk_drew a0.out); replace a1 := am_ (blk_drew a1.out); replace a2 := am_ (blk_drew a2.out); replace HB := am_ (below_drew1 HB.out)
    refine start_ (n := 10) (S := fun w' => w'.cell? ⟨a9, 0, none⟩ = some (.int .i64 a0_0) ∧ w'.cell? ⟨a9, 1, none⟩ = some (.slice A0_1 l0_1.length c0_1) ∧ w'.cell? ⟨b0, 0, none⟩ = some (.int .i64 a1_0) ∧ w'.cell? ⟨b0, 1, none⟩ = some (.int .i64 a1_1)) (ds := []) (bm 10 0) (by kernel_rfl) rfl (by kernel_rfl) ⟨bl_ a0 0, bl_ a0 1, bl_ a1 0, bl_ a1 1⟩ (fun hHeld => ?_); refine with_tabW impl_Link.tab3 impl_Link.bits3 (fun HT_ HW_ => ?_)
    generalize wc.drew = w29 at a0 a1 a2 HB hHeld ⊢
    refine pz_ 1 23 (bm 10 2) ?_; refine pz_ 5 27 (bm 10 34) ?_; refine tz4_ 0 22 (bm 10 35) ?_; refine tz4_ 2 24 (bm 10 39) ?_; refine tz4_ 4 26 (bm 10 55) ?_; refine tz4_ 6 28 (bm 10 119) ?_
    refine o1_ 3 (some 25) (bm 10 127) (fun K hK => ?_)
    refine gs_ Try.func77 #[.agg #[.int .i64 a0_0, .slice A0_1 l0_1.length c0_1], .int .i64 a1_0] ?_
    with_reducible refine (impl_TreeOf.calls kj2 a0_0 _ _ l0_1 a1_0 a7 _ ?side1 ?side2 A26.out).mono ?_
    (case side1 => exact qC_ HR0_1 HB)
    (case side2 => exact HC0_1.out)
    rintro e w30 ⟨rfl, hb⟩
    refine ⟨_, rfl, ?_⟩
    replace a0 := qbl_ a0 hb; replace a1 := qbl_ a1 hb; replace a2 := qbl_ a2 hb; replace HB := am_ (below_step qB_ hb); (try clear hb); (try clear hb2); (try clear hk); (try clear hi)
    refine hK.out _ _ ⟨bl_ a0 0, bl_ a0 1, bl_ a1 0, bl_ a1 1⟩ (fun hHeld => ?_)
    clear hK K
    refine nm_ 25 ?_
    refine o1_ 7 (some 29) (bm 10 255) (fun K hK => ?_)
    refine gs_ Try.func77 #[.agg #[.int .i64 a0_0, .slice A0_1 l0_1.length c0_1], .int .i64 a1_1] ?_
    with_reducible refine (impl_TreeOf.calls kj2 a0_0 _ _ l0_1 a1_1 a8 _ ?side1 ?side2 A27.out).mono ?_
    (case side1 => exact qC_ HR0_1 HB)
    (case side2 => exact HC0_1.out)
    rintro e w31 ⟨rfl, hb⟩
    refine ⟨_, rfl, ?_⟩
    replace a0 := qbl_ a0 hb; replace a1 := qbl_ a1 hb; replace a2 := qbl_ a2 hb; replace HB := am_ (below_step qB_ hb); (try clear hb); (try clear hb2); (try clear hk); (try clear hi)
    refine hK.out _ _ ⟨bl_ a0 0, bl_ a0 1, bl_ a1 0, bl_ a1 1⟩ (fun hHeld => ?_)
    clear hK K
    refine nm_ 29 ?_
    refine pz_ 8 6 (bm 10 511) ?_; refine pz_ 9 7 (bm 10 1023) ?_
    refine done_ (done_of HT_.out (by kernel_rfl)) ?_
    obtain ⟨m3, m4⟩ := nn_ b9; obtain ⟨m5, m6⟩ := nn_ b4
    obtain ⟨h7, h8, h9, i0⟩ := bc2_ a2
    try go_wp2
    refine bodyPost_ret (results_ct rfl _ _ b1 39 #[.int .i64 0, .slice none 0 0] (0, 0) _ rfl (by (with_reducible repeat (first | refine blk_drewN ?_ _ | refine blk_drew ?_ | refine blk_alloc ?_ _)); refine blk_put (cs := #[.int .i64 0, .slice none 0 0]) ?_ 1 _ rfl; (with_reducible repeat (first | refine blk_drewN ?_ _ | refine blk_drew ?_ | refine blk_alloc ?_ _)); refine blk_put (cs := #[.int .i64 0, .slice none 0 0]) ?_ 0 _ rfl; exact qf_ a2) Try.underlying39 rfl (by kernel_rfl)) rfl ?_
    exact ⟨_, qr_, by first | exact Kd.S_nil _ _ _ _ _ | exact Kd.N_nil _ _ _ _ _ | exact Kd.V_nil _ _ _ _ _ | exact Kd.Q_nil _ _ _ _ _ | exact Kd.R_nil _ _ _ _ _, qB_⟩
   rw [if_neg c28] at H
   have c28b0 : (a7 == a8) = false := beq_eq_false_iff_ne.mpr c28
   have c28b1 : (a7 != a8) = true := bne_iff_ne.mpr c28
   by_cases c35 : 0 ≤ a7
   rotate_left
   ·rw [if_neg c35] at H
    exact absurd H (by simp)
   rw [if_pos c35] at H
   have c35b0 := decide_eq_true c35
   clear c35
   by_cases c36 : a7 < (l0_1.length : Int)
   rotate_left
   ·rw [if_neg c36] at H
    exact absurd H (by simp)
   rw [if_pos c36] at H
   have c36b0 := decide_eq_true c36
   clear c36
   by_cases c37 : 0 ≤ a8
   rotate_left
   ·rw [if_neg c37] at H
    exact absurd H (by simp)
   rw [if_pos c37] at H
   have c37b0 := decide_eq_true c37
   clear c37
   by_cases c38 : a8 < (l0_1.length : Int)
   rotate_left
   ·rw [if_neg c38] at H
    exact absurd H (by simp)
   rw [if_pos c38] at H
   have c38b0 := decide_eq_true c38
   clear c38
   replace H := Option.bind_eq_some_iff.mp H
   obtain ⟨⟨c0, f4⟩, g9, H⟩ := H
   replace H : ((impl_without.f kj2 a0_0 l0_1 a7 a8).bind fun f1 => ((impl_putTour.f kj2 f1.2 c0).bind fun c2 => (some (f1.1, c2, f4)))) = some (r1, r2, r3) := H
   have A39 := am_ g9
   clear g9
   replace H := Option.bind_eq_some_iff.mp H
   obtain ⟨⟨b7, b8⟩, h0, H⟩ := H
   replace H : ((impl_putTour.f kj2 b8 c0).bind fun c2 => (some (b7, c2, f4))) = some (r1, r2, r3) := H
   have A40 := am_ h0
   clear h0
   obtain ⟨c2, h1, H⟩ := Option.bind_eq_some_iff.mp H; have A41 := am_ h1; clear h1
   simp only [Option.some.injEq, Prod.mk.injEq] at H
   obtain ⟨rfl, rfl, rfl⟩ := H
   try go_wp2
   replace a0 := am_ (blk_drew a0.out); replace a1 := am_ (blk_drew a1.out); replace a2 := am_ (blk_drew a2.out); replace HB := am_ (below_drew1 HB.out)
   refine start_ (n := 10) (S := fun w' => w'.cell? ⟨a9, 0, none⟩ = some (.int .i64 a0_0) ∧ w'.cell? ⟨a9, 1, none⟩ = some (.slice A0_1 l0_1.length c0_1) ∧ w'.cell? ⟨b0, 0, none⟩ = some (.int .i64 a1_0) ∧ w'.cell? ⟨b0, 1, none⟩ = some (.int .i64 a1_1)) (ds := []) (bm 10 0) (by kernel_rfl) rfl (by kernel_rfl) ⟨bl_ a0 0, bl_ a0 1, bl_ a1 0, bl_ a1 1⟩ (fun hHeld => ?_); refine with_tabW impl_Link.tab3 impl_Link.bits3 (fun HT_ HW_ => ?_)
   generalize wc.drew = w42 at a0 a1 a2 HB hHeld ⊢
   refine pz_ 1 23 (bm 10 2) ?_; refine pz_ 5 27 (bm 10 34) ?_; refine tz4_ 0 22 (bm 10 35) ?_; refine tz4_ 2 24 (bm 10 39) ?_; refine tz4_ 4 26 (bm 10 55) ?_; refine tz4_ 6 28 (bm 10 119) ?_
   refine o1_ 3 (some 25) (bm 10 127) (fun K hK => ?_)
   refine gs_ Try.func77 #[.agg #[.int .i64 a0_0, .slice A0_1 l0_1.length c0_1], .int .i64 a1_0] ?_
   with_reducible refine (impl_TreeOf.calls kj2 a0_0 _ _ l0_1 a1_0 a7 _ ?side1 ?side2 A26.out).mono ?_
   (case side1 => exact qC_ HR0_1 HB)
   (case side2 => exact HC0_1.out)
   rintro e w43 ⟨rfl, hb⟩
   refine ⟨_, rfl, ?_⟩
   replace a0 := qbl_ a0 hb; replace a1 := qbl_ a1 hb; replace a2 := qbl_ a2 hb; replace HB := am_ (below_step qB_ hb); (try clear hb); (try clear hb2); (try clear hk); (try clear hi)
   refine hK.out _ _ ⟨bl_ a0 0, bl_ a0 1, bl_ a1 0, bl_ a1 1⟩ (fun hHeld => ?_)
   clear hK K
   refine nm_ 25 ?_
   refine o1_ 7 (some 29) (bm 10 255) (fun K hK => ?_)
   refine gs_ Try.func77 #[.agg #[.int .i64 a0_0, .slice A0_1 l0_1.length c0_1], .int .i64 a1_1] ?_
   with_reducible refine (impl_TreeOf.calls kj2 a0_0 _ _ l0_1 a1_1 a8 _ ?side1 ?side2 A27.out).mono ?_
   (case side1 => exact qC_ HR0_1 HB)
   (case side2 => exact HC0_1.out)
   rintro e w44 ⟨rfl, hb⟩
   refine ⟨_, rfl, ?_⟩
   replace a0 := qbl_ a0 hb; replace a1 := qbl_ a1 hb; replace a2 := qbl_ a2 hb; replace HB := am_ (below_step qB_ hb); (try clear hb); (try clear hb2); (try clear hk); (try clear hi)
   refine hK.out _ _ ⟨bl_ a0 0, bl_ a0 1, bl_ a1 0, bl_ a1 1⟩ (fun hHeld => ?_)
   clear hK K
   refine nm_ 29 ?_
   refine pz_ 8 6 (bm 10 511) ?_; refine pz_ 9 7 (bm 10 1023) ?_
   refine done_ (done_of HT_.out (by kernel_rfl)) ?_
   try go_wp2
   replace a0 := am_ (blk_drew a0.out); replace a1 := am_ (blk_drew a1.out); replace a2 := am_ (blk_drew a2.out); replace HB := am_ (below_drew1 HB.out)
   have p519 := dp_ a7
   have q519 := dl_ a7 l0_1.length
   obtain ⟨ad519, A519_0, c519_0, e519, b5, hl519_0, hi519_0⟩ := at_L1 HR0_1.out a7 p519 q519
   have c4 := b5; cases e519
   replace b5 := qx_ HB b5
   have HR519_0 := am_ hi519_0
   have HC519_0 := am_ hl519_0
   clear hi519_0 hl519_0; replace p519 := eq_true p519; replace q519 := eq_true q519
   have p520 := dp_ a8
   have q520 := dl_ a8 l0_1.length
   obtain ⟨ad520, A520_0, c520_0, e520, b6, hl520_0, hi520_0⟩ := at_L1 HR0_1.out a8 p520 q520
   have c5 := b6
   obtain rfl : ad519 = ad520 := (by injection e520)
   replace b6 := qx_ HB b6
   have HR520_0 := am_ hi520_0
   have HC520_0 := am_ hl520_0
   clear hi520_0 hl520_0; replace p520 := eq_true p520; replace q520 := eq_true q520
   refine start_ (n := 20) (S := fun w' => w'.cell? ⟨a9, 0, none⟩ = some (.int .i64 a0_0) ∧ w'.cell? ⟨a9, 1, none⟩ = some (.slice (some ad519) l0_1.length c0_1) ∧ w'.cell? ⟨b0, 0, none⟩ = some (.int .i64 a1_0) ∧ w'.cell? ⟨b0, 1, none⟩ = some (.int .i64 a1_1) ∧ w'.cell? (ad519.add (a7).toNat) = some (.slice A519_0 (rd_L1 l0_1 a7).length c519_0) ∧ w'.cell? (ad519.add (a8).toNat) = some (.slice A520_0 (rd_L1 l0_1 a8).length c520_0)) (ds := []) (bm 20 0) (by kernel_rfl) rfl (by kernel_rfl) ⟨bl_ a0 0, bl_ a0 1, bl_ a1 0, bl_ a1 1, ((qx_ HB c4).trans rfl), ((qx_ HB c5).trans rfl)⟩ (fun hHeld => ?_); refine with_tabW impl_Link.tab6 impl_Link.bits6 (fun HT_ HW_ => ?_)
   generalize w44.drew = w45 at a0 a1 a2 HB HR519_0 HR520_0 b5 b6 hHeld ⊢
   refine pz_ 0 35 (bm 20 1) ?_; refine pz_ 2 37 (bm 20 5) ?_; refine pz_ 5 40 (bm 20 37) ?_; refine pz_ 7 42 (bm 20 165) ?_; refine pz_ 9 44 (bm 20 677) ?_; refine pz_ 12 47 (bm 20 4773) ?_; refine tz6_ 1 36 (bm 20 4775) ?_; refine pz_ 3 38 (bm 20 4783) ?_; refine tz6_ 4 39 (bm 20 4799) ?_; refine tz6_ 6 41 (bm 20 4863) ?_; refine tz6_ 8 43 (bm 20 5119) ?_; refine pz_ 10 45 (bm 20 6143) ?_; refine tz6_ 11 46 (bm 20 8191) ?_; refine tz6_ 13 48 (bm 20 16383) ?_
   refine o1_ 14 (some 49) (bm 20 32767) (fun K hK => ?_)
   refine gs_ Try.func85 #[.slice A519_0 (rd_L1 l0_1 a7).length c519_0, .int .i64 a1_0, .slice A520_0 (rd_L1 l0_1 a8).length c520_0, .int .i64 a1_1] ?_
   with_reducible refine (impl_JoinTours.calls kj2 _ _ (rd_L1 l0_1 a7) a1_0 _ _ (rd_L1 l0_1 a8) a1_1 c0 f4 _ ?side1 ?side2 ?side3 ?side4 A39.out).mono ?_
   (case side1 => exact qC_ HR519_0 HB)
   (case side2 => exact HC519_0.out)
   (case side3 => exact qC_ HR520_0 HB)
   (case side4 => exact HC520_0.out)
   rintro e w46 ⟨f5, rfl, ho0, hb⟩
   refine ⟨_, rfl, ?_⟩
   have a3 := am_ (Kd.R_lower (Kd.R_newM (M := fun k_ => (w.heap.size ≤ k_)) ho0 (below_size qB_) (fun k_ h_ => h_)) (below_size qB_)); replace a0 := qbl_ a0 hb; replace a1 := qbl_ a1 hb; replace a2 := qbl_ a2 hb; replace HB := am_ (below_step qB_ hb); (try clear hb); (try clear hb2); (try clear hk); (try clear hi); (try clear ho0)
   refine hK.out _ _ ⟨bl_ a0 0, bl_ a0 1, bl_ a1 0, bl_ a1 1, ((qx_ HB c4).trans rfl), ((qx_ HB c5).trans rfl)⟩ (fun hHeld => ?_)
   clear hK K
   refine nm_ 49 ?_
   refine pz_ 15 34 (bm 20 65535) ?_; refine pz_ 16 50 (bm 20 131071) ?_; refine pz_ 17 51 (bm 20 262143) ?_; refine pz_ 18 8 (bm 20 524287) ?_; refine pz_ 19 9 (bm 20 1048575) ?_
   refine done_ (done_of HT_.out (by kernel_rfl)) ?_
   obtain ⟨m7, m8⟩ := nn_ b2; obtain ⟨m9, n0⟩ := nn_ b3
   obtain ⟨i1, i2, i3, i4⟩ := bc2_ a0
   try go_wp2_with (first | ((with_reducible refine gate_callee (f := 79) rfl ?_); refine gl_ (some 55) Try.func79 #[.agg #[.int .i64 a0_0, .slice (some ad519) l0_1.length c0_1], .int .i64 a7, .int .i64 a8] ?_; (with_reducible refine (impl_without.calls kj2 a0_0 _ _ l0_1 a7 a8 b7 b8 _ ?side1 ?side2 A40.out).mono ?_); (case side1 => exact qC_ HR0_1 HB); (case side2 => exact HC0_1.out); rintro e w50 ⟨o0, rfl, ho0, hb⟩; refine ⟨_, rfl, ?_⟩; obtain ⟨lo9, a5, X1, X2, Y0⟩ := cutA ho0 (Kd.R_lt (qR_ a3)) (Kd.R_lt (qR_ a3)) (blk_lt (qk_ a2)) (below_size qB_ : w.heap.size ≤ _); clear X2; replace a3 := am_ (Kd.R_below (qR_ a3) hb); replace a0 := qbl_ a0 hb; replace a1 := qbl_ a1 hb; replace a2 := qbl_ a2 hb; replace HB := hs_ hb; (try clear hb); (try clear hb2); (try clear hk); (try clear hi); (try clear ho0)) | ((with_reducible refine gate_dst (N := 10) rfl ?_); refine by_ 10 (cs := #[.int .i64 0, .slice none 0 0]) (t := 39) ?_; intro a6 hg w51 a4 hb; have h2 := gw_ hg; have n1 := h2; obtain ⟨g1, c9⟩ := qn_ a0 hg; obtain ⟨g2, d0⟩ := qn_ a1 hg; obtain ⟨g3, d1⟩ := qn_ a2 hg; replace a3 := am_ (Kd.R_below (qR_ a3) hb); replace a5 := am_ (Kd.S_below (Kd.S_elderB (by (with_reducible repeat (first | apply Kd.S_alloc | apply Kd.S_drewN | apply Kd.S_drew)); exact a5.out) a6 (Nat.le_of_eq hg.symm)) hb); replace a0 := qbl_ a0 hb; replace a1 := qbl_ a1 hb; replace a2 := qbl_ a2 hb; replace HB := hs_ hb; clear hb hg; obtain ⟨n2, n3⟩ := nn_ c9; obtain ⟨n4, n5⟩ := nn_ d0; obtain ⟨n6, n7⟩ := nn_ d1; obtain ⟨i5, i6, i7, i8⟩ := bc2_ a4; obtain ⟨d2, d3, k3⟩ := Kd.S_slice a5.out; subst k3) | ((with_reducible refine gate_store (t := 39) (p := 10) rfl ?_); refine store_event (t := 39) (p := 10) (v := ?vo_w57) (w1 := ((w51.setCell ⟨a6, 0, none⟩ (.int .i64 b7)).setCell ⟨a6, 1, none⟩ (.slice d2 b8.length d3))) ?hg ?ho ?hn ?hr ?_; (case ho => rfl); (case hg => rfl); (case hn => rfl); (case hr => first | (go_simp; done) | (go_simp; rfl)); intro w57 hw; have n0_ : Aside0 (Kd.R (Kd.int .i64) 3 w57 w.heap.size (fun k_ => (w.heap.size ≤ k_)) f5 c0) := ⟨(by rw [hw]; exact (by (with_reducible repeat (first | apply Kd.R_alloc | apply Kd.R_drewN | apply Kd.R_drew)); exact Kd.R_mono (Kd.R_far (p := ⟨a6, 1, none⟩) (Kd.R_far (p := ⟨a6, 0, none⟩) (Kd.R_types a3.out a4.out (by decide)) (fun _ hk => hk.2) (.int .i64 b7)) (fun _ hk => hk.2) (.slice d2 b8.length d3)) (fun _ hk => hk.1.1)))⟩; have n1_ : Aside0 (Kd.S (Kd.slice 3 (Kd.int .i64)) 51 w57 w.heap.size (fun k_ => lo9 ≤ k_ ∧ k_ ≠ a6) (.slice d2 b8.length d3) b8) := ⟨(by rw [hw]; (with_reducible repeat (first | apply Kd.S_alloc | apply Kd.S_drewN | apply Kd.S_drew)); exact Kd.S_far (p := ⟨a6, 1, none⟩) (Kd.S_far (p := ⟨a6, 0, none⟩) a5.out (fun _ hk => hk.2) (.int .i64 b7)) (fun _ hk => hk.2) (.slice d2 b8.length d3))⟩; have n2_ : Aside0 (w57.heap[a9]? = some (.cells #[.int .i64 a0_0, .slice (some ad519) l0_1.length c0_1] 39 (0, 0))) := ⟨(by rw [hw]; exact (qf_ a0))⟩; have n3_ : Aside0 (w57.heap[b0]? = some (.cells #[.int .i64 a1_0, .int .i64 a1_1] 43 (0, 0))) := ⟨(by rw [hw]; exact (qf_ a1))⟩; have n4_ : Aside0 (w57.heap[b1]? = some (.cells #[.int .i64 0, .slice none 0 0] 39 (0, 0))) := ⟨(by rw [hw]; exact (qf_ a2))⟩; have n5_ : Aside0 (w57.heap[a6]? = some (.cells #[.int .i64 b7, .slice d2 b8.length d3] 39 (0, 0))) := ⟨(by rw [hw]; exact (by (with_reducible repeat (first | refine blk_drewN ?_ _ | refine blk_drew ?_ | refine blk_alloc ?_ _)); refine blk_put (cs := #[.int .i64 b7, .slice none 0 0]) ?_ 1 _ rfl; (with_reducible repeat (first | refine blk_drewN ?_ _ | refine blk_drew ?_ | refine blk_alloc ?_ _)); refine blk_put (cs := #[.int .i64 0, .slice none 0 0]) ?_ 0 _ rfl; exact qf_ a4))⟩; have n6_ : Aside0 (Below w.heap.size w w57) := ⟨(by rw [hw]; exact qB_)⟩; clear hw; clear a3; clear a5; clear a0; clear a1; clear a2; clear a4; clear HB; have a3 := n0_; have a5 := n1_; have a0 := n2_; have a1 := n3_; have a2 := n4_; have a4 := n5_; have HB := n6_; clear n0_ n1_ n2_ n3_ n4_ n5_ n6_; obtain ⟨i9, j1, j2, j3⟩ := bc2_ a4; obtain ⟨f6, f7, k4⟩ := Kd.R_slice a3.out; subst k4) | ((with_reducible refine gate_callee (f := 80) rfl ?_); refine gl_ (some 59) Try.func80 #[.slice d2 b8.length d3, .slice f6 c0.length f7] ?_; (with_reducible refine (impl_putTour.callsS kj2 (b := w.heap.size) (okA := fun k_ => lo9 ≤ k_ ∧ k_ ≠ a6) (okT := fun k_ => some k_ = (Value.slice f6 c0.length f7).ownBlock) _ _ b8 _ _ c0 c2 _ ?side1 ?side2 ?side3 ?side4 A41.out).mono ?_); (case side1 => exact (by (with_reducible repeat (first | apply Kd.S_alloc | apply Kd.S_drewN | apply Kd.S_drew)); exact a5.out)); (case side2 => exact Kd.R_tight rfl (qR_ a3)); (case side3 => exact fun k_ hk_ h_ => by have := X1.out k_ hk_.symm; have := h_.1; omega); (case side4 => exact below_size qB_); rintro e w60 ⟨o1, rfl, ho0, hb⟩; refine ⟨_, rfl, ?_⟩; have f2 := am_ (Kd.S_mono (ok' := fun k_ => k_ ≠ a6 ∧ k_ ≠ b1) ho0 (fun k_ hk_ => Or.elim hk_ (fun hs_ => Or.elim hs_ (fun h_ => ⟨h_.2, by have := Y0.out; have := h_.1; omega⟩) (fun h_ => ⟨((Kd.R_types a3.out a4.out (by decide)).1 k_ h_.symm).2, ((Kd.R_types a3.out a2.out (by decide)).1 k_ h_.symm).2⟩)) (fun hn_ => ⟨Kd.freshB (qk_ a4) k_ hn_, Kd.freshB (qk_ a2) k_ hn_⟩))); replace a3 := am_ (Kd.R_below (qR_ a3) hb); clear a5; replace a0 := qbl_ a0 hb; replace a1 := qbl_ a1 hb; replace a2 := qbl_ a2 hb; replace a4 := qbl_ a4 hb; replace HB := hs_ hb; (try clear hb); (try clear hb2); (try clear hk); (try clear hi); (try clear ho0); obtain ⟨f8, f9, k5⟩ := Kd.S_slice f2.out; subst k5; obtain ⟨j4, j5, j6, j7⟩ := bc2_ a4; obtain ⟨n8, n9⟩ := nn_ b4; obtain ⟨j8, j9, k0, k1⟩ := bc2_ a2))
   refine bodyPost_ret (results_ct rfl _ _ b1 39 #[.int .i64 b7, .slice f8 c2.length f9] (0, 0) _ rfl (by (with_reducible repeat (first | refine blk_drewN ?_ _ | refine blk_drew ?_ | refine blk_alloc ?_ _)); refine blk_put (cs := #[.int .i64 b7, .slice none 0 0]) ?_ 1 _ rfl; (with_reducible repeat (first | refine blk_drewN ?_ _ | refine blk_drew ?_ | refine blk_alloc ?_ _)); refine blk_put (cs := #[.int .i64 0, .slice none 0 0]) ?_ 0 _ rfl; exact qf_ a2) Try.underlying39 rfl (by kernel_rfl)) rfl ?_
   exact ⟨_, qr_, by (with_reducible repeat (first | apply Kd.S_alloc | apply Kd.S_drewN | apply Kd.S_drew)); exact Kd.S_mono (Kd.S_far (p := ⟨b1, 1, none⟩) (Kd.S_far (p := ⟨b1, 0, none⟩) (Kd.S_far (p := ⟨a6, 1, none⟩) f2.out (fun _ hk => hk.1) (.slice f8 c2.length f9)) (fun _ hk => hk.2) (.int .i64 b7)) (fun _ hk => hk.2) (.slice f8 c2.length f9)) (fun _ _ => trivial), qB_⟩


/-! ### laws.markIntSS, laws.markForest: rows that lie apart, each written -/
def laws_markIntSS.l0 : Nat → List (List Int) → Int → Int → Option (Int × (List (List Int)))
  | 0, _, _, _ => none
  | k + 1, x0, x1, x5 => if x5 < (x0.length : Int) then (if 0 ≤ x5 then ((laws_markIntS.f k (rd_L1 x0 x5) x1).bind fun p => laws_markIntSS.l0 k (x0.set x5.toNat p.2) p.1 (wrap64 (x5 + 1))) else none) else some (x1, x0)
def laws_markIntSS.f (k : Nat) (l0 : List (List Int)) (a1 : Int) : Option (Int × (List (List Int))) := laws_markIntSS.l0 k l0 a1 0
set_option maxHeartbeats 8000000 in
set_option maxRecDepth 100000 in
theorem laws_markIntSS.calls (k : Nat) (P0 : Nat → Prop) (u : Value) (l0 : List (List Int)) (a1 : Int) (r1 : Int) (r2 : List (List Int)) (w0 w : World) (hB : Below w0.heap.size w0 w) (ho0 : Kd.S (Kd.slice 3 (Kd.int .i64)) 51 w w0.heap.size P0 u l0) (h : laws_markIntSS.f k l0 a1 = some (r1, r2)) :
    Calls Try.prog 82 #[u, .int .i64 a1] w fun e w' => e = .returned (.int .i64 r1) ∧ Kd.S (Kd.slice 3 (Kd.int .i64)) 51 w' w0.heap.size P0 u r2 ∧ Below w0.heap.size w0 w' ∧ Kept w w' P0 := by
  obtain ⟨A0, c0, rfl⟩ := Kd.S_slice ho0
  have H' := Aside0.mk (show laws_markIntSS.l0 k l0 a1 0 = some (r1, r2) from h)
  have HO := Aside0.mk ho0
  have HBw := Aside0.mk hB
  have HN := Aside0.mk (show l0.length = l0.length from rfl)
  clear h ho0 hB
  go_enter Try.func82, Try.ntmps82
  go_wp2
  go_loopg [1, 5] k (fun kq v1 v5 w' => ∃ (xs : List (List Int)) (x1 : Int) (x5 : Int), v1 = .int .i64 x1 ∧ v5 = .int .i64 x5 ∧ Aside0 (laws_markIntSS.l0 kq xs x1 x5 = some (r1, r2)) ∧ Aside0 (xs.length = l0.length) ∧ Aside0 (Kd.S (Kd.slice 3 (Kd.int .i64)) 51 w' w0.heap.size P0 (.slice A0 l0.length c0) xs) ∧ Aside0 (Below w0.heap.size w0 w') ∧ Aside0 (Kept w w' P0) ∧ Aside0 (w.heap.size ≤ w'.heap.size))
  case atStart => exact ⟨l0, a1, 0, rfl, rfl, H', ⟨rfl⟩, HO, HBw, ⟨Kept.refl _ _⟩, ⟨Nat.le_refl _⟩⟩
  case round =>
    clear H' HO HBw HN
    try clear p2
    obtain ⟨xs, x1, x5, rfl, rfl, HA, HN, HO, HB, HK, HW⟩ := hrel
    cases gk with
    | zero => exact absurd HA.out (by simp [laws_markIntSS.l0])
    | succ k1 =>
      have H := HA.out
      clear HA
      simp only [laws_markIntSS.l0] at H
      by_cases c3 : x5 < (xs.length : Int)
      · rw [if_pos c3] at H
        have c3b0 : decide (x5 < (l0.length : Int)) = true := decide_eq_true (by rw [← HN.out]; exact c3)
        by_cases c4 : 0 ≤ x5
        · rw [if_pos c4] at H
          obtain ⟨⟨t1, t2⟩, A5, H⟩ := Option.bind_eq_some_iff.mp H
          have A5 := Aside0.mk A5
          have H' := Aside0.mk H
          clear H
          obtain ⟨g, cap, ev, hbase, hlt, hcells⟩ := Kd.S_form HO.out (by omega)
          injection ev with ea en ec
          subst ea
          subst ec
          obtain ⟨oki, c, hcl, ⟨v, hcv, hR⟩, hcc, hoki, hH⟩ := Kd.S_lend HO.out ([] : List Int) x5 c4 (by rw [← HN.out]; exact c3)
          subst hcv
          obtain ⟨Ar, cr, rfl⟩ := Kd.R_slice hR
          have c4b0 : decide (0 ≤ x5) = true := decide_eq_true c4
          have hx := by simpa [Kd.slice] using hcc 0 _ rfl
          have HR := Aside0.mk hR
          have HOK := Aside0.mk hoki
          have HH := Aside0.mk hH
          clear hcc hcl hR hoki hH hcells hlt hbase en
          have p4 : 0 ≤ (x5 : Int) := c4
          have q4 : x5 < (l0.length : Int) := of_decide_eq_true c3b0
          replace p4 := eq_true p4
          replace q4 := eq_true q4
          clear c3 c4
          go_wp2_with (first | ((with_reducible refine gate_callee (f := 36) rfl ?_); refine goesL_ (some 17) rfl rfl Try.func36 (by kernel_rfl) rfl #[.slice Ar (rd_L1 xs x5).length cr, .int .i64 x1] rfl (by (try simp only [List.map_toArray, List.map_cons, List.map_nil]); first | done | rfl) ?_; (with_reducible refine (laws_markIntS.calls k1 oki _ (rd_L1 xs x5) x1 t1 t2 w0 _ HB.out HR.out A5.out).mono ?_); rintro e w9 ⟨rfl, ho, hb, hk⟩; refine ⟨_, rfl, ?_⟩; have n1_ := Aside0.mk (Kd.H_back (Kd.H_step HH.out (fun k hk1 hk2 hk3 => hk.2 k hk3 hk2)) (okp := oki) ⟨_, rfl, Kd.R_reok rfl ho (fun k_ e_ => HR.out.1 k_ e_)⟩ (fun _ h_ => h_)); have n2_ := Aside0.mk hb; have n3_ := Aside0.mk (Kept.then_ HK.out hk (fun k_ h_ => .inl (HOK.out k_ h_).1)); have n4_ := Aside0.mk (Nat.le_trans HW.out hk.1); clear HO HB HK HW HH HR hx ho hb hk; have HO := n1_; have HB := n2_; have HK := n3_; have HW := n4_; clear n1_ n2_ n3_ n4_))
          go_roundg k1
          case measure => omega
          case rel => exact ⟨xs.set x5.toNat t2, t1, wrap64 (x5 + 1), rfl, rfl, H', ⟨by rw [List.length_set]; exact HN.out⟩, HO, HB, HK, HW⟩
        · rw [if_neg c4] at H
          exact absurd H (by simp)
      · rw [if_neg c3] at H
        have c3b0 : decide (x5 < (l0.length : Int)) = false := decide_eq_false (by rw [← HN.out]; exact c3)
        simp only [Option.some.injEq, Prod.mk.injEq] at H
        obtain ⟨rfl, rfl⟩ := H
        go_wp2
        go_ret
        exact ⟨rfl, HO.out, HB.out, HK.out⟩
set_option maxHeartbeats 8000000 in
set_option maxRecDepth 100000 in
theorem laws_markForest.calls (k : Nat) (P0 : Nat → Prop) (a0 : Int) (u : Value) (l0 : List (List Int)) (a1 : Int) (r1 : Int) (r2 : List (List Int)) (w0 w : World) (hB : Below w0.heap.size w0 w) (ho0 : Kd.S (Kd.slice 3 (Kd.int .i64)) 51 w w0.heap.size P0 u l0) (h : laws_markIntSS.f k l0 a1 = some (r1, r2)) :
    Calls Try.prog 24 #[.agg #[.int .i64 a0, u], .int .i64 a1] w fun e w' => e = .returned (.int .i64 r1) ∧ Kd.S (Kd.slice 3 (Kd.int .i64)) 51 w' w0.heap.size P0 u r2 ∧ Below w0.heap.size w0 w' ∧ Kept w w' P0 := by
  have hu63 := Try.underlying39
  obtain ⟨A0, c0, rfl⟩ := Kd.S_slice ho0
  have A5 := Aside0.mk h
  have HO := Aside0.mk ho0
  have HB := Aside0.mk hB
  have HK := Aside0.mk (Kept.refl w P0)
  have HW := Aside0.mk (Nat.le_refl w.heap.size)
  clear h ho0 hB
  go_enter Try.func24, Try.ntmps24
  go_wp2_with (first | ((with_reducible refine gate_dst (N := 2) rfl ?_); refine box_event ?hg (N := 2) ?hd (cs := #[.int .i64 a0, .slice A0 l0.length c0]) (t := 39) ?hr ?_; (case hd => rfl); (case hg => rfl); (case hr => first | (go_simp; done) | (go_simp; rfl)); intro gb hg w5 hbox hb; have n0_ := Aside0.mk (below_step HB.out hb); have n1_ := Aside0.mk hbox; have n2_ := Aside0.mk (Kd.S_below HO.out hb); have n3_ := Aside0.mk (Kept.then_ HK.out (Kept.of_below hb (fun _ => False)) (fun _ h_ => h_.elim)); have n4_ := Aside0.mk (Nat.le_trans HW.out hb.size); clear HB HO HK HW hb hbox hg; have HB := n0_; have BK := n1_; have HO := n2_; have HK := n3_; have HW := n4_; clear n0_ n1_ n2_ n3_ n4_; have hcz0 : w5.cell? ⟨gb, 0, none⟩ = some (.int .i64 a0) := (blk_cell BK.out 0).trans rfl; have hcz1 : w5.cell? ⟨gb, 1, none⟩ = some (.slice A0 l0.length c0) := (blk_cell BK.out 1).trans rfl; have hfz0 := blk_frozen BK.out 0; have hfz1 := blk_frozen BK.out 1) | ((with_reducible refine gate_callee (f := 82) rfl ?_); refine goesL_ (some 8) rfl rfl Try.func82 (by kernel_rfl) rfl #[.slice A0 l0.length c0, .int .i64 a1] rfl (by (try simp only [List.map_toArray, List.map_cons, List.map_nil]); first | done | rfl) ?_; (with_reducible refine (laws_markIntSS.calls k P0 _ l0 a1 r1 r2 w0 _ HB.out HO.out A5.out).mono ?_); rintro e w9 ⟨rfl, ho, hb, hk⟩; refine ⟨_, rfl, ?_⟩; have n1_ := Aside0.mk ho; have n2_ := Aside0.mk hb; have n3_ := Aside0.mk (Kept.then_ HK.out hk (fun _ h_ => .inl h_)); clear HO HB HK ho hb hk hcz0 hcz1 hfz0 hfz1; have HO := n1_; have HB := n2_; have HK := n3_; clear n1_ n2_ n3_))
  go_ret
  exact ⟨rfl, HO.out, HB.out, HK.out⟩

/-! ### rows that lie apart, told by the range of their blocks -/
def Rg (b : Nat) (w : World) (lo hi : Nat) (v : Value) (xs : List (List Int)) : Prop := Kd.S (Kd.slice 3 (Kd.int .i64)) 51 w b (fun k => lo ≤ k ∧ k < hi) v xs ∧ hi ≤ w.heap.size
theorem Rg.born {b : Nat} {w w' : World} {v : Value} {xs : List (List Int)} (h : Kd.S (Kd.slice 3 (Kd.int .i64)) 51 w' w.heap.size (fun _ => True) v xs) (hb : Below w.heap.size w w') (hB : b ≤ w.heap.size) : ∃ lo hi, lo = w.heap.size ∧ lo ≤ hi ∧ hi = w'.heap.size ∧ Rg b w' lo hi v xs :=
  ⟨_, _, rfl, hb.size, rfl, Kd.S_lower (Kd.S_mono (Kd.S_bound h) (fun _ hk => ⟨hk.2.1, hk.2.2.1⟩)) hB, Nat.le_refl _⟩
theorem Rg.below {b : Nat} {w w' : World} {lo hi : Nat} {v : Value} {xs : List (List Int)} (h : Rg b w lo hi v xs) (hb : Below w.heap.size w w') : Rg b w' lo hi v xs := ⟨Kd.S_below h.1 hb, Nat.le_trans h.2 hb.size⟩
theorem Rg.kept {b : Nat} {w w' : World} {P : Nat → Prop} {lo hi : Nat} {v : Value} {xs : List (List Int)} (h : Rg b w lo hi v xs) (hk : Kept w w' P) (hd : ∀ k, lo ≤ k → k < hi → ¬ P k) : Rg b w' lo hi v xs :=
  ⟨Kd.S_step h.1 (fun k ho hl => hk.2 k hl (hd k ho.1 ho.2)), Nat.le_trans h.2 hk.1⟩
theorem Rg.S {b : Nat} {w : World} {lo hi : Nat} {v : Value} {xs : List (List Int)} (h : Rg b w lo hi v xs) : Kd.S (Kd.slice 3 (Kd.int .i64)) 51 w b (fun k => lo ≤ k ∧ k < hi) v xs := h.1
theorem Rg.le {b : Nat} {w : World} {lo hi : Nat} {v : Value} {xs : List (List Int)} (h : Rg b w lo hi v xs) : hi ≤ w.heap.size := h.2
theorem Rg.mk {b : Nat} {w : World} {lo hi : Nat} {v : Value} {xs : List (List Int)} (h : Kd.S (Kd.slice 3 (Kd.int .i64)) 51 w b (fun k => lo ≤ k ∧ k < hi) v xs) (h2 : hi ≤ w.heap.size) : Rg b w lo hi v xs := ⟨h, h2⟩
theorem Rg.slice {b : Nat} {w : World} {lo hi : Nat} {v : Value} {xs : List (List Int)} (h : Rg b w lo hi v xs) : ∃ A c, v = .slice A xs.length c := Kd.S_slice h.1
theorem Rg.C {b : Nat} {w : World} {lo hi n c : Nat} {A : Option Addr} {xs : List (List Int)} (h : Rg b w lo hi (.slice A n c) xs) : Kd.C (Kd.slice 3 (Kd.int .i64)) w A xs.length xs := (Kd.S_reads' h.1).2.2
theorem Rg.cap {b : Nat} {w : World} {lo hi n c : Nat} {A : Option Addr} {xs : List (List Int)} (h : Rg b w lo hi (.slice A n c) xs) : n ≤ c := (Kd.S_reads' h.1).2.1
theorem Rg.len {b : Nat} {w : World} {lo hi n c : Nat} {A : Option Addr} {xs : List (List Int)} (h : Rg b w lo hi (.slice A n c) xs) : n = xs.length := (Kd.S_reads' h.1).1
/-- a struct of two cells stored into a variable -/
theorem set2_kept {w w1 : World} {g : Nat} {a b : Value} (hw : w1 = (w.setCell ⟨g, 0, none⟩ a).setCell ⟨g, 1, none⟩ b) : Kept w w1 (fun k => k = g) := by
  subst hw
  refine ⟨by rw [Go.Deep.nblk_setCell, Go.Deep.nblk_setCell]; exact Nat.le_refl _, fun i _ hn => ?_⟩
  rw [Go.Deep.blk_setCell_other _ _ _ _ hn, Go.Deep.blk_setCell_other _ _ _ _ hn]
theorem set2_blk {w w1 : World} {g t : Nat} {a b x y : Value} (hw : w1 = (w.setCell ⟨g, 0, none⟩ a).setCell ⟨g, 1, none⟩ b) (h : w.heap[g]? = some (.cells #[x, y] t (0, 0))) : w1.heap[g]? = some (.cells #[a, b] t (0, 0)) := by
  subst hw
  simpa using blk_set (blk_set h 0 a) 1 b
theorem drawn_below {w w' : World} (h : Drawn0 w w') : Below w.heap.size w w' := by
  obtain ⟨n, rfl⟩ := h
  exact pw_below_drewN (Below.refl _ _) n

/-! ### rows that are only read, told by the range of their blocks -/
def Ng (b : Nat) (w : World) (lo hi : Nat) (v : Value) (xs : List (List Int)) : Prop := Kd.N (Kd.slice 3 (Kd.int .i64)) 51 w b (fun k => lo ≤ k ∧ k < hi) v xs ∧ hi ≤ w.heap.size
theorem Ng.born {b : Nat} {w w' : World} {v : Value} {xs : List (List Int)} (h : Kd.N (Kd.slice 3 (Kd.int .i64)) 51 w' w.heap.size (fun k => w.heap.size ≤ k) v xs) (hb : Below w.heap.size w w') (hB : b ≤ w.heap.size) : ∃ lo hi, lo = w.heap.size ∧ lo ≤ hi ∧ hi = w'.heap.size ∧ Ng b w' lo hi v xs :=
  ⟨_, _, rfl, hb.size, rfl, Kd.N_lower (Kd.N_bound h) hB, Nat.le_refl _⟩
theorem Ng.below {b : Nat} {w w' : World} {lo hi : Nat} {v : Value} {xs : List (List Int)} (h : Ng b w lo hi v xs) (hb : Below w.heap.size w w') : Ng b w' lo hi v xs := ⟨Kd.N_below h.1 hb, Nat.le_trans h.2 hb.size⟩
theorem Ng.kept {b : Nat} {w w' : World} {P : Nat → Prop} {lo hi : Nat} {v : Value} {xs : List (List Int)} (h : Ng b w lo hi v xs) (hk : Kept w w' P) (hd : ∀ k, lo ≤ k → k < hi → ¬ P k) : Ng b w' lo hi v xs :=
  ⟨Kd.N_step h.1 (fun k ho hl => hk.2 k hl (hd k ho.1 ho.2)), Nat.le_trans h.2 hk.1⟩
theorem Ng.le {b : Nat} {w : World} {lo hi : Nat} {v : Value} {xs : List (List Int)} (h : Ng b w lo hi v xs) : hi ≤ w.heap.size := h.2
theorem Ng.slice {b : Nat} {w : World} {lo hi : Nat} {v : Value} {xs : List (List Int)} (h : Ng b w lo hi v xs) : ∃ A c, v = .slice A xs.length c := Kd.N_slice h.1
theorem Ng.C {b : Nat} {w : World} {lo hi n c : Nat} {A : Option Addr} {xs : List (List Int)} (h : Ng b w lo hi (.slice A n c) xs) : Kd.C (Kd.slice 3 (Kd.int .i64)) w A xs.length xs := (Kd.N_reads' h.1).2.2
theorem Ng.cap {b : Nat} {w : World} {lo hi n c : Nat} {A : Option Addr} {xs : List (List Int)} (h : Ng b w lo hi (.slice A n c) xs) : n ≤ c := (Kd.N_reads' h.1).2.1

def laws_FnExactLink.T5 : Bool × List (List Nat × List Nat) := (true, [([], []), ([0], [0]), ([], []), ([2, 1], [2]), ([1, 3, 3], [1, 3]), ([4], [4]), ([5], [5]), ([5], [5]), ([], []), ([8, 6, 4, 0, 1, 2, 3, 4, 5, 6, 8], [6, 8]), ([7, 9, 0, 1, 2, 3, 4, 5, 6, 7, 8, 9], [7])])
def laws_FnExactLink.B5 : List Nat := [0, 1, 0, 7, 15, 31, 63, 63, 0, 383, 1023]
theorem laws_FnExactLink.tab5 : rtab .any (opsOf Try.f7 5) = laws_FnExactLink.T5 := by kernel_rfl
theorem laws_FnExactLink.bits5 : waitsOk laws_FnExactLink.T5.2 laws_FnExactLink.B5 = true := by kernel_rfl
def laws_FnExactLink.T7 : Bool × List (List Nat × List Nat) := (true, [([], []), ([], []), ([1], [1]), ([0, 2, 2], [0, 2]), ([3], [3]), ([4], [4]), ([4], [4]), ([], []), ([7, 5, 3, 0, 1, 2, 3, 4, 5, 7], [5, 7]), ([6, 8, 0, 1, 2, 3, 4, 5, 6, 7, 8], [6])])
def laws_FnExactLink.B7 : List Nat := [0, 0, 2, 7, 15, 31, 31, 0, 191, 511]
theorem laws_FnExactLink.tab7 : rtab .any (opsOf Try.f7 7) = laws_FnExactLink.T7 := by kernel_rfl
theorem laws_FnExactLink.bits7 : waitsOk laws_FnExactLink.T7.2 laws_FnExactLink.B7 = true := by kernel_rfl
def laws_FnExactLink.T24 : Bool × List (List Nat × List Nat) := (true, [([], []), ([0], [0]), ([], []), ([2, 1], [2]), ([1, 3, 3], [1, 3]), ([4], [4]), ([5], [5]), ([5], [5]), ([], []), ([8, 6, 4, 0, 1, 2, 3, 4, 5, 6, 8], [6, 8]), ([7, 9, 0, 1, 2, 3, 4, 5, 6, 7, 8, 9], [7])])
def laws_FnExactLink.B24 : List Nat := [0, 1, 0, 7, 15, 31, 63, 63, 0, 383, 1023]
theorem laws_FnExactLink.tab24 : rtab .any (opsOf Try.f7 24) = laws_FnExactLink.T24 := by kernel_rfl
theorem laws_FnExactLink.bits24 : waitsOk laws_FnExactLink.T24.2 laws_FnExactLink.B24 = true := by kernel_rfl
set_option maxHeartbeats 8000000 in
set_option maxRecDepth 100000 in
theorem law_walk (k : Nat) (n : Int) (A0 : Option Addr) (c0 : Nat) (L : List (List Int)) (M O : Int) (t : Int) (w : World) (hr0 : Kd.C (Kd.slice 3 (Kd.int .i64)) w A0 L.length L) (hc0 : L.length ≤ c0) (hz : laws_szForest.f k n L 1048576 = some t) (L' R R' : List (List Int)) (m0 m q : Int) (b : Bool) (ht : decide (t < 0) = false) (hto : laws_toForest.f k n L = some (n, L)) (hte : laws_toEdge.f M O = some (M, O)) (hs : spec_Link.f k n L M O = some (m0, R, b)) (hi : impl_Link.f k n L M O = some (m0, R, b)) (he : laws_eqForest.f k m0 R m0 R = some true) (hf : laws_eqForest.f k n L n L = some true) (hm : laws_markIntSS.f k L 1 = some (m, L')) (hmm : decide (m < 0) = false) (hme : laws_markIntSS.f k R 1 = some (q, R')) (hl : R'.length = R.length) (hh : laws_heldForest.f k m0 R' 1 = some q) (hq : decide (q < 0) = false) :
    Calls Try.prog 7 #[.agg #[.int .i64 n, .slice A0 L.length c0], .agg #[.int .i64 M, .int .i64 O]] w fun e w' => e = .returned (.bool true) ∧ Below w.heap.size w w' := by
  have hu1 := Try.underlying35
  have hu2 := Try.underlying39
  have hu3 := Try.underlying37
  have HB := Aside0.mk (Below.refl w.heap.size w)
  have HR0 := Aside0.mk hr0
  have HC0 := Aside0.mk hc0
  clear hr0 hc0
  go_enter Try.func7, Try.ntmps7
  try go_wp2_with (first
    | ((with_reducible refine gate_dst (N := 2) rfl ?_); refine box_event ?hg (N := 2) ?hd (cs := #[.int .i64 n, .slice A0 L.length c0]) (t := 35) ?hr ?_; (case hd => rfl); (case hg => rfl); (case hr => first | (go_simp; done) | (go_simp; rfl)); intro ga hg y1 hbox hb; have m0_ := Aside0.mk (hbox); have m1_ := Aside0.mk (below_step HB.out hb); have m2_ := Aside0.mk ((by rw [hg]; exact below_size HB.out : w.heap.size ≤ ga)); clear HB; have Bga := m0_; have HB := m1_; have OWga := m2_; clear m0_ m1_ m2_; have czga_0 : y1.cell? ⟨ga, 0, none⟩ = some (.int .i64 n) := (blk_cell Bga.out 0).trans rfl; have fzga_0 := blk_frozen Bga.out 0; have czga_1 : y1.cell? ⟨ga, 1, none⟩ = some (.slice A0 L.length c0) := (blk_cell Bga.out 1).trans rfl; have fzga_1 := blk_frozen Bga.out 1; clear hg hbox hb)
    | ((with_reducible refine gate_dst (N := 3) rfl ?_); refine box_event ?hg (N := 3) ?hd (cs := #[.int .i64 M, .int .i64 O]) (t := 37) ?hr ?_; (case hd => rfl); (case hg => rfl); (case hr => first | (go_simp; done) | (go_simp; rfl)); intro ge hg y2 hbox hb; have m0_ := Aside0.mk (blk_below Bga.out hb); have m1_ := Aside0.mk (hbox); have m2_ := Aside0.mk (below_step HB.out hb); have m3_ := Aside0.mk ((by rw [hg]; exact blk_lt Bga.out : ga < ge)); have m4_ := Aside0.mk ((by rw [hg]; exact below_size HB.out : w.heap.size ≤ ge)); clear Bga HB czga_0 fzga_0 czga_1 fzga_1; have Bga := m0_; have Bge := m1_; have HB := m2_; have Oga_ge := m3_; have OWge := m4_; clear m0_ m1_ m2_ m3_ m4_; have czga_0 : y2.cell? ⟨ga, 0, none⟩ = some (.int .i64 n) := (blk_cell Bga.out 0).trans rfl; have fzga_0 := blk_frozen Bga.out 0; have czga_1 : y2.cell? ⟨ga, 1, none⟩ = some (.slice A0 L.length c0) := (blk_cell Bga.out 1).trans rfl; have fzga_1 := blk_frozen Bga.out 1; have czge_0 : y2.cell? ⟨ge, 0, none⟩ = some (.int .i64 M) := (blk_cell Bge.out 0).trans rfl; have fzge_0 := blk_frozen Bge.out 0; have czge_1 : y2.cell? ⟨ge, 1, none⟩ = some (.int .i64 O) := (blk_cell Bge.out 1).trans rfl; have fzge_1 := blk_frozen Bge.out 1; clear hg hbox hb)
    | ((with_reducible refine gate_callee (f := 18) rfl ?_); refine goesL_ (some 18) rfl rfl Try.func18 (by kernel_rfl) rfl #[.agg #[.int .i64 n, .slice A0 L.length c0], .int .i64 1048576] rfl (by (try simp only [List.map_toArray, List.map_cons, List.map_nil]); first | done | rfl) ?_; (with_reducible refine (laws_szForest.calls k n _ _ L 1048576 t _ (Kd.C_below HR0.out HB.out) HC0.out hz).mono ?_); rintro e y3 ⟨rfl, hb⟩; refine ⟨_, rfl, ?_⟩; have m0_ := Aside0.mk (blk_below Bga.out hb); have m1_ := Aside0.mk (blk_below Bge.out hb); have m2_ := Aside0.mk (below_step HB.out hb); clear Bga Bge HB czga_0 fzga_0 czga_1 fzga_1 czge_0 fzge_0 czge_1 fzge_1; have Bga := m0_; have Bge := m1_; have HB := m2_; clear m0_ m1_ m2_; have czga_0 : y3.cell? ⟨ga, 0, none⟩ = some (.int .i64 n) := (blk_cell Bga.out 0).trans rfl; have fzga_0 := blk_frozen Bga.out 0; have czga_1 : y3.cell? ⟨ga, 1, none⟩ = some (.slice A0 L.length c0) := (blk_cell Bga.out 1).trans rfl; have fzga_1 := blk_frozen Bga.out 1; have czge_0 : y3.cell? ⟨ge, 0, none⟩ = some (.int .i64 M) := (blk_cell Bge.out 0).trans rfl; have fzge_0 := blk_frozen Bge.out 0; have czge_1 : y3.cell? ⟨ge, 1, none⟩ = some (.int .i64 O) := (blk_cell Bge.out 1).trans rfl; have fzge_1 := blk_frozen Bge.out 1; clear hb))
  have hb : Below y3.heap.size y3 y3.drew := below_drew1 (Below.refl _ _)
  have m0_ := Aside0.mk (blk_below Bga.out hb)
  have m1_ := Aside0.mk (blk_below Bge.out hb)
  have m2_ := Aside0.mk (below_step HB.out hb)
  clear Bga Bge HB czga_0 fzga_0 czga_1 fzga_1 czge_0 fzge_0 czge_1 fzge_1
  have Bga := m0_
  have Bge := m1_
  have HB := m2_
  clear hb m0_ m1_ m2_
  refine start_ (n := 11) (S := fun w_ => w_.cell? ⟨ga, 0, none⟩ = some (.int .i64 n) ∧ w_.cell? ⟨ga, 1, none⟩ = some (.slice A0 L.length c0) ∧ w_.cell? ⟨ge, 0, none⟩ = some (.int .i64 M) ∧ w_.cell? ⟨ge, 1, none⟩ = some (.int .i64 O)) (ds := []) #[false, false, false, false, false, false, false, false, false, false, false] (by kernel_rfl) rfl rfl ⟨(blk_cell Bga.out 0).trans rfl, (blk_cell Bga.out 1).trans rfl, (blk_cell Bge.out 0).trans rfl, (blk_cell Bge.out 1).trans rfl⟩ (fun hHeld => ?_); refine with_tabW laws_FnExactLink.tab5 laws_FnExactLink.bits5 (fun HT_ HW_ => ?_)
  generalize y3.drew = y4 at Bga Bge HB hHeld ⊢
  refine take_ (i := 0) (N := some 22) (v := ?_) (a' := ?_) #[true, false, false, false, false, false, false, false, false, false, false] rfl rfl (take_ofW HT_.out HW_.out (by kernel_rfl)) (fun _ _ _ h => h) (Or.inl ⟨by rfl, ?_⟩) hHeld ?_ ?_
  rotate_left
  · rintro w_ ⟨s0_, s1_, s2_, s3_⟩
    go_simp
    with_reducible rfl
  rotate_left
  · simp only [Act.put, List.setIfInBounds_toArray, List.set_cons_zero, List.set_cons_succ, i64_w, i32_w]
    rfl
  refine take_ (i := 2) (N := some 24) (v := ?_) (a' := ?_) #[true, false, true, false, false, false, false, false, false, false, false] rfl rfl (take_ofW HT_.out HW_.out (by kernel_rfl)) (fun _ _ _ h => h) (Or.inl ⟨by rfl, ?_⟩) hHeld ?_ ?_
  rotate_left
  · rintro w_ ⟨s0_, s1_, s2_, s3_⟩
    go_simp
    with_reducible rfl
  rotate_left
  · simp only [Act.put, List.setIfInBounds_toArray, List.set_cons_zero, List.set_cons_succ, i64_w, i32_w]
    rfl
  refine join_ (σ := Option Addr × Nat × Nat × Nat × Nat × Option Addr × Nat) 2 #[true, true, true, true, true, true, true, true, true, false, false] (fun s_ => [(23, .agg #[.int .i64 n, .slice s_.2.2.2.2.2.1 L.length s_.2.2.2.2.2.2]), (25, .agg #[.int .i64 M, .int .i64 O]), (26, .tuple #[.agg #[.int .i64 m0, .slice s_.1 R.length s_.2.1], .bool b]), (6, .pointer (some ⟨s_.2.2.2.2.1, 0, none⟩)), (21, .tuple #[.agg #[.int .i64 m0, .slice s_.1 R.length s_.2.1], .bool b]), (27, .agg #[.int .i64 m0, .slice s_.1 R.length s_.2.1]), (28, .bool b)]) (fun s_ w_ => (w_.cell? ⟨ga, 0, none⟩ = some (.int .i64 n) ∧ w_.cell? ⟨ga, 1, none⟩ = some (.slice A0 L.length c0) ∧ w_.cell? ⟨ge, 0, none⟩ = some (.int .i64 M) ∧ w_.cell? ⟨ge, 1, none⟩ = some (.int .i64 O)) ∧ (w_.heap[ga]? = some (.cells #[.int .i64 n, .slice A0 L.length c0] 35 (0, 0))) ∧ (w_.heap[ge]? = some (.cells #[.int .i64 M, .int .i64 O] 37 (0, 0))) ∧ (Ng w.heap.size w_ s_.2.2.1 s_.2.2.2.1 (.slice s_.1 R.length s_.2.1) R) ∧ (w_.heap[s_.2.2.2.2.1]? = some (.cells #[.int .i64 0, .slice none 0 0] 39 (0, 0))) ∧ (w.heap.size ≤ s_.2.2.1) ∧ (s_.2.2.1 ≤ s_.2.2.2.1) ∧ (w.heap.size ≤ s_.2.2.2.2.1) ∧ (ge < s_.2.2.1) ∧ (ge < s_.2.2.2.2.1) ∧ (s_.2.2.2.2.1 < s_.2.2.1 ∨ s_.2.2.2.1 ≤ s_.2.2.2.2.1) ∧ (Below w.heap.size w w_)) ?_ ?_
  rotate_left
  · intro hCont
    refine two_ (i := 1) (j := 8) (Ni := some 23) (Nj := some 6) #[true, true, true, false, false, false, false, false, false, false, false] #[true, false, true, false, false, false, false, false, true, false, false] rfl rfl rfl rfl (two_of HT_.out (by kernel_rfl)) (by decide) (by decide) (fun K hK => ?_) (fun K hK => ?_)
    · skip
      refine goes_ Try.func20 (by kernel_rfl) rfl #[.agg #[.int .i64 n, .slice A0 L.length c0]] (by rfl) rfl rfl (by (try simp only [List.map_toArray, List.map_cons, List.map_nil]); first | done | rfl) ?_
      with_reducible refine (laws_toForest.calls k n _ _ L n L _ (Kd.C_below HR0.out HB.out) HC0.out hto).mono ?_
      rintro e y5 ⟨v_, rfl, ho, hb⟩
      refine ⟨_, rfl, ?_⟩
      obtain ⟨loy, hiy, hlo_, hle_, hhi_, hrg_⟩ := Rg.born (b := w.heap.size) ho hb (below_size HB.out)
      obtain ⟨Ay, cy, rfl⟩ := hrg_.slice
      have m0_ := Aside0.mk (blk_below Bga.out hb)
      have m1_ := Aside0.mk (blk_below Bge.out hb)
      have m2_ := Aside0.mk (hrg_)
      have m3_ := Aside0.mk (below_step HB.out hb)
      have m4_ := Aside0.mk ((by rw [hlo_]; exact blk_lt Bge.out : ge < loy))
      have m5_ := Aside0.mk ((hle_ : loy ≤ hiy))
      have m6_ := Aside0.mk ((by rw [hlo_]; exact below_size HB.out : w.heap.size ≤ loy))
      clear Bga Bge HB
      have Bga := m0_
      have Bge := m1_
      have Fy := m2_
      have HB := m3_
      have Oge_y := m4_
      have Oy := m5_
      have OWy := m6_
      clear m0_ m1_ m2_ m3_ m4_ m5_ m6_
      clear ho hb hrg_ hlo_ hle_ hhi_
      refine hK.out _ _ ⟨(blk_cell Bga.out 0).trans rfl, (blk_cell Bga.out 1).trans rfl, (blk_cell Bge.out 0).trans rfl, (blk_cell Bge.out 1).trans rfl⟩ (fun hHeld => ?_)
      clear hK K
      refine norm_ (a' := ?_) ?_ ?_
      rotate_left
      · show Act.put _ (some 23) _ = _
        simp only [Act.put, List.setIfInBounds_toArray, List.set_cons_zero, List.set_cons_succ, i64_w, i32_w]
        rfl
      refine two_ (i := 3) (j := 8) (Ni := some 25) (Nj := some 6) #[true, true, true, true, false, false, false, false, false, false, false] #[true, true, true, false, false, false, false, false, true, false, false] rfl rfl rfl rfl (two_of HT_.out (by kernel_rfl)) (by decide) (by decide) (fun K hK => ?_) (fun K hK => ?_)
      · skip
        refine goes_ Try.func21 (by kernel_rfl) rfl #[.agg #[.int .i64 M, .int .i64 O]] (by rfl) rfl rfl (by (try simp only [List.map_toArray, List.map_cons, List.map_nil]); first | done | rfl) ?_
        with_reducible refine (laws_toEdge.calls M O M O _ hte).mono ?_
        rintro e y6 ⟨rfl, hb⟩
        refine ⟨_, rfl, ?_⟩
        have m0_ := Aside0.mk (Rg.below Fy.out hb)
        have m1_ := Aside0.mk (blk_below Bga.out hb)
        have m2_ := Aside0.mk (blk_below Bge.out hb)
        have m3_ := Aside0.mk (below_step HB.out hb)
        clear Fy Bga Bge HB
        have Fy := m0_
        have Bga := m1_
        have Bge := m2_
        have HB := m3_
        clear m0_ m1_ m2_ m3_
        clear hb
        refine hK.out _ _ ⟨(blk_cell Bga.out 0).trans rfl, (blk_cell Bga.out 1).trans rfl, (blk_cell Bge.out 0).trans rfl, (blk_cell Bge.out 1).trans rfl⟩ (fun hHeld => ?_)
        clear hK K
        refine norm_ (a' := ?_) ?_ ?_
        rotate_left
        · show Act.put _ (some 25) _ = _
          simp only [Act.put, List.setIfInBounds_toArray, List.set_cons_zero, List.set_cons_succ, i64_w, i32_w]
          rfl
        refine two_ (i := 4) (j := 8) (Ni := some 26) (Nj := some 6) #[true, true, true, true, true, false, false, false, false, false, false] #[true, true, true, true, false, false, false, false, true, false, false] rfl rfl rfl rfl (two_of HT_.out (by kernel_rfl)) (by decide) (by decide) (fun K hK => ?_) (fun K hK => ?_)
        · skip
          refine goes_ Try.func30 (by kernel_rfl) rfl #[.agg #[.int .i64 n, .slice Ay L.length cy], .agg #[.int .i64 M, .int .i64 O]] (by rfl) rfl rfl (by (try simp only [List.map_toArray, List.map_cons, List.map_nil]); first | done | rfl) ?_
          with_reducible refine (spec_Link.calls k n _ _ L M O m0 R b _ Fy.out.C Fy.out.cap hs).mono ?_
          rintro e y7 ⟨v_, rfl, ho, hb⟩
          refine ⟨_, rfl, ?_⟩
          obtain ⟨low, hiw, hlo_, hle_, hhi_, hrg_⟩ := Ng.born (b := w.heap.size) ho hb (below_size HB.out)
          obtain ⟨Aw, cw, rfl⟩ := hrg_.slice
          have m0_ := Aside0.mk (Rg.below Fy.out hb)
          have m1_ := Aside0.mk (blk_below Bga.out hb)
          have m2_ := Aside0.mk (blk_below Bge.out hb)
          have m3_ := Aside0.mk (hrg_)
          have m4_ := Aside0.mk (below_step HB.out hb)
          have m5_ := Aside0.mk ((by rw [hlo_]; exact blk_lt Bge.out : ge < low))
          have m6_ := Aside0.mk ((by rw [hlo_]; exact Rg.le Fy.out : hiy ≤ low))
          have m7_ := Aside0.mk ((hle_ : low ≤ hiw))
          have m8_ := Aside0.mk ((by rw [hlo_]; exact below_size HB.out : w.heap.size ≤ low))
          clear Fy Bga Bge HB
          have Fy := m0_
          have Bga := m1_
          have Bge := m2_
          have Fw := m3_
          have HB := m4_
          have Oge_w := m5_
          have Oy_w := m6_
          have Ow := m7_
          have OWw := m8_
          clear m0_ m1_ m2_ m3_ m4_ m5_ m6_ m7_ m8_
          clear ho hb hrg_ hlo_ hle_ hhi_
          clear Fy
          refine hK.out _ _ ⟨(blk_cell Bga.out 0).trans rfl, (blk_cell Bga.out 1).trans rfl, (blk_cell Bge.out 0).trans rfl, (blk_cell Bge.out 1).trans rfl⟩ (fun hHeld => ?_)
          clear hK K
          refine norm_ (a' := ?_) ?_ ?_
          rotate_left
          · show Act.put _ (some 26) _ = _
            simp only [Act.put, List.setIfInBounds_toArray, List.set_cons_zero, List.set_cons_succ, i64_w, i32_w]
            rfl
          refine pure_ (i := 5) (N := some 21) (v := ?_) (a' := ?_) #[true, true, true, true, true, true, false, false, false, false, false] rfl rfl (any_of HT_.out (by kernel_rfl)) (fun _ _ _ h => h) (Or.inl ⟨by rfl, ?_⟩) ?_ ?_
          rotate_left
          · intro w_
            go_simp
            with_reducible rfl
          rotate_left
          · simp only [Act.put, List.setIfInBounds_toArray, List.set_cons_zero, List.set_cons_succ, i64_w, i32_w]
            rfl
          refine pure_ (i := 6) (N := some 27) (v := ?_) (a' := ?_) #[true, true, true, true, true, true, true, false, false, false, false] rfl rfl (any_of HT_.out (by kernel_rfl)) (fun _ _ _ h => h) (Or.inl ⟨by rfl, ?_⟩) ?_ ?_
          rotate_left
          · intro w_
            go_simp
            with_reducible rfl
          rotate_left
          · simp only [Act.put, List.setIfInBounds_toArray, List.set_cons_zero, List.set_cons_succ, i64_w, i32_w]
            rfl
          refine pure_ (i := 7) (N := some 28) (v := ?_) (a' := ?_) #[true, true, true, true, true, true, true, true, false, false, false] rfl rfl (any_of HT_.out (by kernel_rfl)) (fun _ _ _ h => h) (Or.inl ⟨by rfl, ?_⟩) ?_ ?_
          rotate_left
          · intro w_
            go_simp
            with_reducible rfl
          rotate_left
          · simp only [Act.put, List.setIfInBounds_toArray, List.set_cons_zero, List.set_cons_succ, i64_w, i32_w]
            rfl
          refine one_ (i := 8) (N := some 6) #[true, true, true, true, true, true, true, true, true, false, false] rfl rfl (one_of HT_.out (by kernel_rfl)) (by decide) (fun K hK => ?_)
          refine box_step ?hg (N := 6) ?hd (cs := #[.int .i64 0, .slice none 0 0]) (t := 39) ?hr ?_; (case hd => rfl); (case hg => rfl); (case hr => first | (go_simp; done) | (go_simp; rfl))
          intro gw hg y8 hbox hb
          have m0_ := Aside0.mk (Ng.below Fw.out hb)
          have m1_ := Aside0.mk (blk_below Bga.out hb)
          have m2_ := Aside0.mk (blk_below Bge.out hb)
          have m3_ := Aside0.mk (hbox)
          have m4_ := Aside0.mk (below_step HB.out hb)
          have m5_ := Aside0.mk ((by rw [hg]; exact blk_lt Bge.out : ge < gw))
          have m6_ := Aside0.mk ((by rw [hg]; exact Ng.le Fw.out : hiw ≤ gw))
          have m7_ := Aside0.mk ((by rw [hg]; exact below_size HB.out : w.heap.size ≤ gw))
          clear Fw Bga Bge HB
          have Fw := m0_
          have Bga := m1_
          have Bge := m2_
          have Bgw := m3_
          have HB := m4_
          have Oge_gw := m5_
          have Ow_gw := m6_
          have OWgw := m7_
          clear m0_ m1_ m2_ m3_ m4_ m5_ m6_ m7_
          clear hg hbox hb
          refine hK.out _ _ ⟨(blk_cell Bga.out 0).trans rfl, (blk_cell Bga.out 1).trans rfl, (blk_cell Bge.out 0).trans rfl, (blk_cell Bge.out 1).trans rfl⟩ (fun hHeld => ?_)
          clear hK K
          refine norm_ (a' := ?_) ?_ ?_
          rotate_left
          · show Act.put _ (some 6) _ = _
            simp only [Act.put, List.setIfInBounds_toArray, List.set_cons_zero, List.set_cons_succ, i64_w, i32_w]
            rfl
          exact norm_ (by simp only [putAll, Act.put, List.setIfInBounds_toArray, List.set_cons_zero, List.set_cons_succ]) (hCont (Aw, cw, low, hiw, gw, Ay, cy) _ ⟨⟨(blk_cell Bga.out 0).trans rfl, (blk_cell Bga.out 1).trans rfl, (blk_cell Bge.out 0).trans rfl, (blk_cell Bge.out 1).trans rfl⟩, Bga.out, Bge.out, Fw.out, Bgw.out, (by (try dsimp only); have := OWga.out; have := Oga_ge.out; have := OWge.out; have := Oge_y.out; have := Oy.out; have := OWy.out; have := Oge_w.out; have := Oy_w.out; have := Ow.out; have := OWw.out; have := Oge_gw.out; have := Ow_gw.out; have := OWgw.out; omega), (by (try dsimp only); have := OWga.out; have := Oga_ge.out; have := OWge.out; have := Oge_y.out; have := Oy.out; have := OWy.out; have := Oge_w.out; have := Oy_w.out; have := Ow.out; have := OWw.out; have := Oge_gw.out; have := Ow_gw.out; have := OWgw.out; omega), (by (try dsimp only); have := OWga.out; have := Oga_ge.out; have := OWge.out; have := Oge_y.out; have := Oy.out; have := OWy.out; have := Oge_w.out; have := Oy_w.out; have := Ow.out; have := OWw.out; have := Oge_gw.out; have := Ow_gw.out; have := OWgw.out; omega), (by (try dsimp only); have := OWga.out; have := Oga_ge.out; have := OWge.out; have := Oge_y.out; have := Oy.out; have := OWy.out; have := Oge_w.out; have := Oy_w.out; have := Ow.out; have := OWw.out; have := Oge_gw.out; have := Ow_gw.out; have := OWgw.out; omega), (by (try dsimp only); have := OWga.out; have := Oga_ge.out; have := OWge.out; have := Oge_y.out; have := Oy.out; have := OWy.out; have := Oge_w.out; have := Oy_w.out; have := Ow.out; have := OWw.out; have := Oge_gw.out; have := Ow_gw.out; have := OWgw.out; omega), (by (try dsimp only); have := OWga.out; have := Oga_ge.out; have := OWge.out; have := Oge_y.out; have := Oy.out; have := OWy.out; have := Oge_w.out; have := Oy_w.out; have := Ow.out; have := OWw.out; have := Oge_gw.out; have := Ow_gw.out; have := OWgw.out; omega), HB.out⟩)
        · skip
          refine box_step ?hg (N := 6) ?hd (cs := #[.int .i64 0, .slice none 0 0]) (t := 39) ?hr ?_; (case hd => rfl); (case hg => rfl); (case hr => first | (go_simp; done) | (go_simp; rfl))
          intro gw hg y9 hbox hb
          have m0_ := Aside0.mk (Rg.below Fy.out hb)
          have m1_ := Aside0.mk (blk_below Bga.out hb)
          have m2_ := Aside0.mk (blk_below Bge.out hb)
          have m3_ := Aside0.mk (hbox)
          have m4_ := Aside0.mk (below_step HB.out hb)
          have m5_ := Aside0.mk ((by rw [hg]; exact blk_lt Bge.out : ge < gw))
          have m6_ := Aside0.mk ((by rw [hg]; exact Rg.le Fy.out : hiy ≤ gw))
          have m7_ := Aside0.mk ((by rw [hg]; exact below_size HB.out : w.heap.size ≤ gw))
          clear Fy Bga Bge HB
          have Fy := m0_
          have Bga := m1_
          have Bge := m2_
          have Bgw := m3_
          have HB := m4_
          have Oge_gw := m5_
          have Oy_gw := m6_
          have OWgw := m7_
          clear m0_ m1_ m2_ m3_ m4_ m5_ m6_ m7_
          clear hg hbox hb
          refine hK.out _ _ ⟨(blk_cell Bga.out 0).trans rfl, (blk_cell Bga.out 1).trans rfl, (blk_cell Bge.out 0).trans rfl, (blk_cell Bge.out 1).trans rfl⟩ (fun hHeld => ?_)
          clear hK K
          refine norm_ (a' := ?_) ?_ ?_
          rotate_left
          · show Act.put _ (some 6) _ = _
            simp only [Act.put, List.setIfInBounds_toArray, List.set_cons_zero, List.set_cons_succ, i64_w, i32_w]
            rfl
          refine one_ (i := 4) (N := some 26) #[true, true, true, true, true, false, false, false, true, false, false] rfl rfl (one_of HT_.out (by kernel_rfl)) (by decide) (fun K hK => ?_)
          refine goes_ Try.func30 (by kernel_rfl) rfl #[.agg #[.int .i64 n, .slice Ay L.length cy], .agg #[.int .i64 M, .int .i64 O]] (by rfl) rfl rfl (by (try simp only [List.map_toArray, List.map_cons, List.map_nil]); first | done | rfl) ?_
          with_reducible refine (spec_Link.calls k n _ _ L M O m0 R b _ Fy.out.C Fy.out.cap hs).mono ?_
          rintro e y10 ⟨v_, rfl, ho, hb⟩
          refine ⟨_, rfl, ?_⟩
          obtain ⟨low, hiw, hlo_, hle_, hhi_, hrg_⟩ := Ng.born (b := w.heap.size) ho hb (below_size HB.out)
          obtain ⟨Aw, cw, rfl⟩ := hrg_.slice
          have m0_ := Aside0.mk (Rg.below Fy.out hb)
          have m1_ := Aside0.mk (blk_below Bga.out hb)
          have m2_ := Aside0.mk (blk_below Bge.out hb)
          have m3_ := Aside0.mk (blk_below Bgw.out hb)
          have m4_ := Aside0.mk (hrg_)
          have m5_ := Aside0.mk (below_step HB.out hb)
          have m6_ := Aside0.mk ((by rw [hlo_]; exact blk_lt Bge.out : ge < low))
          have m7_ := Aside0.mk ((by rw [hlo_]; exact Rg.le Fy.out : hiy ≤ low))
          have m8_ := Aside0.mk ((by rw [hlo_]; exact blk_lt Bgw.out : gw < low))
          have m9_ := Aside0.mk ((hle_ : low ≤ hiw))
          have m10_ := Aside0.mk ((by rw [hlo_]; exact below_size HB.out : w.heap.size ≤ low))
          clear Fy Bga Bge Bgw HB
          have Fy := m0_
          have Bga := m1_
          have Bge := m2_
          have Bgw := m3_
          have Fw := m4_
          have HB := m5_
          have Oge_w := m6_
          have Oy_w := m7_
          have Ogw_w := m8_
          have Ow := m9_
          have OWw := m10_
          clear m0_ m1_ m2_ m3_ m4_ m5_ m6_ m7_ m8_ m9_ m10_
          clear ho hb hrg_ hlo_ hle_ hhi_
          clear Fy
          refine hK.out _ _ ⟨(blk_cell Bga.out 0).trans rfl, (blk_cell Bga.out 1).trans rfl, (blk_cell Bge.out 0).trans rfl, (blk_cell Bge.out 1).trans rfl⟩ (fun hHeld => ?_)
          clear hK K
          refine norm_ (a' := ?_) ?_ ?_
          rotate_left
          · show Act.put _ (some 26) _ = _
            simp only [Act.put, List.setIfInBounds_toArray, List.set_cons_zero, List.set_cons_succ, i64_w, i32_w]
            rfl
          refine pure_ (i := 5) (N := some 21) (v := ?_) (a' := ?_) #[true, true, true, true, true, true, false, false, true, false, false] rfl rfl (any_of HT_.out (by kernel_rfl)) (fun _ _ _ h => h) (Or.inl ⟨by rfl, ?_⟩) ?_ ?_
          rotate_left
          · intro w_
            go_simp
            with_reducible rfl
          rotate_left
          · simp only [Act.put, List.setIfInBounds_toArray, List.set_cons_zero, List.set_cons_succ, i64_w, i32_w]
            rfl
          refine pure_ (i := 6) (N := some 27) (v := ?_) (a' := ?_) #[true, true, true, true, true, true, true, false, true, false, false] rfl rfl (any_of HT_.out (by kernel_rfl)) (fun _ _ _ h => h) (Or.inl ⟨by rfl, ?_⟩) ?_ ?_
          rotate_left
          · intro w_
            go_simp
            with_reducible rfl
          rotate_left
          · simp only [Act.put, List.setIfInBounds_toArray, List.set_cons_zero, List.set_cons_succ, i64_w, i32_w]
            rfl
          refine pure_ (i := 7) (N := some 28) (v := ?_) (a' := ?_) #[true, true, true, true, true, true, true, true, true, false, false] rfl rfl (any_of HT_.out (by kernel_rfl)) (fun _ _ _ h => h) (Or.inl ⟨by rfl, ?_⟩) ?_ ?_
          rotate_left
          · intro w_
            go_simp
            with_reducible rfl
          rotate_left
          · simp only [Act.put, List.setIfInBounds_toArray, List.set_cons_zero, List.set_cons_succ, i64_w, i32_w]
            rfl
          exact norm_ (by simp only [putAll, Act.put, List.setIfInBounds_toArray, List.set_cons_zero, List.set_cons_succ]) (hCont (Aw, cw, low, hiw, gw, Ay, cy) _ ⟨⟨(blk_cell Bga.out 0).trans rfl, (blk_cell Bga.out 1).trans rfl, (blk_cell Bge.out 0).trans rfl, (blk_cell Bge.out 1).trans rfl⟩, Bga.out, Bge.out, Fw.out, Bgw.out, (by (try dsimp only); have := OWga.out; have := Oga_ge.out; have := OWge.out; have := Oge_y.out; have := Oy.out; have := OWy.out; have := Oge_gw.out; have := Oy_gw.out; have := OWgw.out; have := Oge_w.out; have := Oy_w.out; have := Ogw_w.out; have := Ow.out; have := OWw.out; omega), (by (try dsimp only); have := OWga.out; have := Oga_ge.out; have := OWge.out; have := Oge_y.out; have := Oy.out; have := OWy.out; have := Oge_gw.out; have := Oy_gw.out; have := OWgw.out; have := Oge_w.out; have := Oy_w.out; have := Ogw_w.out; have := Ow.out; have := OWw.out; omega), (by (try dsimp only); have := OWga.out; have := Oga_ge.out; have := OWge.out; have := Oge_y.out; have := Oy.out; have := OWy.out; have := Oge_gw.out; have := Oy_gw.out; have := OWgw.out; have := Oge_w.out; have := Oy_w.out; have := Ogw_w.out; have := Ow.out; have := OWw.out; omega), (by (try dsimp only); have := OWga.out; have := Oga_ge.out; have := OWge.out; have := Oge_y.out; have := Oy.out; have := OWy.out; have := Oge_gw.out; have := Oy_gw.out; have := OWgw.out; have := Oge_w.out; have := Oy_w.out; have := Ogw_w.out; have := Ow.out; have := OWw.out; omega), (by (try dsimp only); have := OWga.out; have := Oga_ge.out; have := OWge.out; have := Oge_y.out; have := Oy.out; have := OWy.out; have := Oge_gw.out; have := Oy_gw.out; have := OWgw.out; have := Oge_w.out; have := Oy_w.out; have := Ogw_w.out; have := Ow.out; have := OWw.out; omega), (by (try dsimp only); have := OWga.out; have := Oga_ge.out; have := OWge.out; have := Oge_y.out; have := Oy.out; have := OWy.out; have := Oge_gw.out; have := Oy_gw.out; have := OWgw.out; have := Oge_w.out; have := Oy_w.out; have := Ogw_w.out; have := Ow.out; have := OWw.out; omega), HB.out⟩)
      · skip
        refine box_step ?hg (N := 6) ?hd (cs := #[.int .i64 0, .slice none 0 0]) (t := 39) ?hr ?_; (case hd => rfl); (case hg => rfl); (case hr => first | (go_simp; done) | (go_simp; rfl))
        intro gw hg y11 hbox hb
        have m0_ := Aside0.mk (Rg.below Fy.out hb)
        have m1_ := Aside0.mk (blk_below Bga.out hb)
        have m2_ := Aside0.mk (blk_below Bge.out hb)
        have m3_ := Aside0.mk (hbox)
        have m4_ := Aside0.mk (below_step HB.out hb)
        have m5_ := Aside0.mk ((by rw [hg]; exact blk_lt Bge.out : ge < gw))
        have m6_ := Aside0.mk ((by rw [hg]; exact Rg.le Fy.out : hiy ≤ gw))
        have m7_ := Aside0.mk ((by rw [hg]; exact below_size HB.out : w.heap.size ≤ gw))
        clear Fy Bga Bge HB
        have Fy := m0_
        have Bga := m1_
        have Bge := m2_
        have Bgw := m3_
        have HB := m4_
        have Oge_gw := m5_
        have Oy_gw := m6_
        have OWgw := m7_
        clear m0_ m1_ m2_ m3_ m4_ m5_ m6_ m7_
        clear hg hbox hb
        refine hK.out _ _ ⟨(blk_cell Bga.out 0).trans rfl, (blk_cell Bga.out 1).trans rfl, (blk_cell Bge.out 0).trans rfl, (blk_cell Bge.out 1).trans rfl⟩ (fun hHeld => ?_)
        clear hK K
        refine norm_ (a' := ?_) ?_ ?_
        rotate_left
        · show Act.put _ (some 6) _ = _
          simp only [Act.put, List.setIfInBounds_toArray, List.set_cons_zero, List.set_cons_succ, i64_w, i32_w]
          rfl
        refine one_ (i := 3) (N := some 25) #[true, true, true, true, false, false, false, false, true, false, false] rfl rfl (one_of HT_.out (by kernel_rfl)) (by decide) (fun K hK => ?_)
        refine goes_ Try.func21 (by kernel_rfl) rfl #[.agg #[.int .i64 M, .int .i64 O]] (by rfl) rfl rfl (by (try simp only [List.map_toArray, List.map_cons, List.map_nil]); first | done | rfl) ?_
        with_reducible refine (laws_toEdge.calls M O M O _ hte).mono ?_
        rintro e y12 ⟨rfl, hb⟩
        refine ⟨_, rfl, ?_⟩
        have m0_ := Aside0.mk (Rg.below Fy.out hb)
        have m1_ := Aside0.mk (blk_below Bga.out hb)
        have m2_ := Aside0.mk (blk_below Bge.out hb)
        have m3_ := Aside0.mk (blk_below Bgw.out hb)
        have m4_ := Aside0.mk (below_step HB.out hb)
        clear Fy Bga Bge Bgw HB
        have Fy := m0_
        have Bga := m1_
        have Bge := m2_
        have Bgw := m3_
        have HB := m4_
        clear m0_ m1_ m2_ m3_ m4_
        clear hb
        refine hK.out _ _ ⟨(blk_cell Bga.out 0).trans rfl, (blk_cell Bga.out 1).trans rfl, (blk_cell Bge.out 0).trans rfl, (blk_cell Bge.out 1).trans rfl⟩ (fun hHeld => ?_)
        clear hK K
        refine norm_ (a' := ?_) ?_ ?_
        rotate_left
        · show Act.put _ (some 25) _ = _
          simp only [Act.put, List.setIfInBounds_toArray, List.set_cons_zero, List.set_cons_succ, i64_w, i32_w]
          rfl
        refine one_ (i := 4) (N := some 26) #[true, true, true, true, true, false, false, false, true, false, false] rfl rfl (one_of HT_.out (by kernel_rfl)) (by decide) (fun K hK => ?_)
        refine goes_ Try.func30 (by kernel_rfl) rfl #[.agg #[.int .i64 n, .slice Ay L.length cy], .agg #[.int .i64 M, .int .i64 O]] (by rfl) rfl rfl (by (try simp only [List.map_toArray, List.map_cons, List.map_nil]); first | done | rfl) ?_
        with_reducible refine (spec_Link.calls k n _ _ L M O m0 R b _ Fy.out.C Fy.out.cap hs).mono ?_
        rintro e y13 ⟨v_, rfl, ho, hb⟩
        refine ⟨_, rfl, ?_⟩
        obtain ⟨low, hiw, hlo_, hle_, hhi_, hrg_⟩ := Ng.born (b := w.heap.size) ho hb (below_size HB.out)
        obtain ⟨Aw, cw, rfl⟩ := hrg_.slice
        have m0_ := Aside0.mk (Rg.below Fy.out hb)
        have m1_ := Aside0.mk (blk_below Bga.out hb)
        have m2_ := Aside0.mk (blk_below Bge.out hb)
        have m3_ := Aside0.mk (blk_below Bgw.out hb)
        have m4_ := Aside0.mk (hrg_)
        have m5_ := Aside0.mk (below_step HB.out hb)
        have m6_ := Aside0.mk ((by rw [hlo_]; exact blk_lt Bge.out : ge < low))
        have m7_ := Aside0.mk ((by rw [hlo_]; exact Rg.le Fy.out : hiy ≤ low))
        have m8_ := Aside0.mk ((by rw [hlo_]; exact blk_lt Bgw.out : gw < low))
        have m9_ := Aside0.mk ((hle_ : low ≤ hiw))
        have m10_ := Aside0.mk ((by rw [hlo_]; exact below_size HB.out : w.heap.size ≤ low))
        clear Fy Bga Bge Bgw HB
        have Fy := m0_
        have Bga := m1_
        have Bge := m2_
        have Bgw := m3_
        have Fw := m4_
        have HB := m5_
        have Oge_w := m6_
        have Oy_w := m7_
        have Ogw_w := m8_
        have Ow := m9_
        have OWw := m10_
        clear m0_ m1_ m2_ m3_ m4_ m5_ m6_ m7_ m8_ m9_ m10_
        clear ho hb hrg_ hlo_ hle_ hhi_
        clear Fy
        refine hK.out _ _ ⟨(blk_cell Bga.out 0).trans rfl, (blk_cell Bga.out 1).trans rfl, (blk_cell Bge.out 0).trans rfl, (blk_cell Bge.out 1).trans rfl⟩ (fun hHeld => ?_)
        clear hK K
        refine norm_ (a' := ?_) ?_ ?_
        rotate_left
        · show Act.put _ (some 26) _ = _
          simp only [Act.put, List.setIfInBounds_toArray, List.set_cons_zero, List.set_cons_succ, i64_w, i32_w]
          rfl
        refine pure_ (i := 5) (N := some 21) (v := ?_) (a' := ?_) #[true, true, true, true, true, true, false, false, true, false, false] rfl rfl (any_of HT_.out (by kernel_rfl)) (fun _ _ _ h => h) (Or.inl ⟨by rfl, ?_⟩) ?_ ?_
        rotate_left
        · intro w_
          go_simp
          with_reducible rfl
        rotate_left
        · simp only [Act.put, List.setIfInBounds_toArray, List.set_cons_zero, List.set_cons_succ, i64_w, i32_w]
          rfl
        refine pure_ (i := 6) (N := some 27) (v := ?_) (a' := ?_) #[true, true, true, true, true, true, true, false, true, false, false] rfl rfl (any_of HT_.out (by kernel_rfl)) (fun _ _ _ h => h) (Or.inl ⟨by rfl, ?_⟩) ?_ ?_
        rotate_left
        · intro w_
          go_simp
          with_reducible rfl
        rotate_left
        · simp only [Act.put, List.setIfInBounds_toArray, List.set_cons_zero, List.set_cons_succ, i64_w, i32_w]
          rfl
        refine pure_ (i := 7) (N := some 28) (v := ?_) (a' := ?_) #[true, true, true, true, true, true, true, true, true, false, false] rfl rfl (any_of HT_.out (by kernel_rfl)) (fun _ _ _ h => h) (Or.inl ⟨by rfl, ?_⟩) ?_ ?_
        rotate_left
        · intro w_
          go_simp
          with_reducible rfl
        rotate_left
        · simp only [Act.put, List.setIfInBounds_toArray, List.set_cons_zero, List.set_cons_succ, i64_w, i32_w]
          rfl
        exact norm_ (by simp only [putAll, Act.put, List.setIfInBounds_toArray, List.set_cons_zero, List.set_cons_succ]) (hCont (Aw, cw, low, hiw, gw, Ay, cy) _ ⟨⟨(blk_cell Bga.out 0).trans rfl, (blk_cell Bga.out 1).trans rfl, (blk_cell Bge.out 0).trans rfl, (blk_cell Bge.out 1).trans rfl⟩, Bga.out, Bge.out, Fw.out, Bgw.out, (by (try dsimp only); have := OWga.out; have := Oga_ge.out; have := OWge.out; have := Oge_y.out; have := Oy.out; have := OWy.out; have := Oge_gw.out; have := Oy_gw.out; have := OWgw.out; have := Oge_w.out; have := Oy_w.out; have := Ogw_w.out; have := Ow.out; have := OWw.out; omega), (by (try dsimp only); have := OWga.out; have := Oga_ge.out; have := OWge.out; have := Oge_y.out; have := Oy.out; have := OWy.out; have := Oge_gw.out; have := Oy_gw.out; have := OWgw.out; have := Oge_w.out; have := Oy_w.out; have := Ogw_w.out; have := Ow.out; have := OWw.out; omega), (by (try dsimp only); have := OWga.out; have := Oga_ge.out; have := OWge.out; have := Oge_y.out; have := Oy.out; have := OWy.out; have := Oge_gw.out; have := Oy_gw.out; have := OWgw.out; have := Oge_w.out; have := Oy_w.out; have := Ogw_w.out; have := Ow.out; have := OWw.out; omega), (by (try dsimp only); have := OWga.out; have := Oga_ge.out; have := OWge.out; have := Oge_y.out; have := Oy.out; have := OWy.out; have := Oge_gw.out; have := Oy_gw.out; have := OWgw.out; have := Oge_w.out; have := Oy_w.out; have := Ogw_w.out; have := Ow.out; have := OWw.out; omega), (by (try dsimp only); have := OWga.out; have := Oga_ge.out; have := OWge.out; have := Oge_y.out; have := Oy.out; have := OWy.out; have := Oge_gw.out; have := Oy_gw.out; have := OWgw.out; have := Oge_w.out; have := Oy_w.out; have := Ogw_w.out; have := Ow.out; have := OWw.out; omega), (by (try dsimp only); have := OWga.out; have := Oga_ge.out; have := OWge.out; have := Oge_y.out; have := Oy.out; have := OWy.out; have := Oge_gw.out; have := Oy_gw.out; have := OWgw.out; have := Oge_w.out; have := Oy_w.out; have := Ogw_w.out; have := Ow.out; have := OWw.out; omega), HB.out⟩)
    · skip
      refine box_step ?hg (N := 6) ?hd (cs := #[.int .i64 0, .slice none 0 0]) (t := 39) ?hr ?_; (case hd => rfl); (case hg => rfl); (case hr => first | (go_simp; done) | (go_simp; rfl))
      intro gw hg y14 hbox hb
      have m0_ := Aside0.mk (blk_below Bga.out hb)
      have m1_ := Aside0.mk (blk_below Bge.out hb)
      have m2_ := Aside0.mk (hbox)
      have m3_ := Aside0.mk (below_step HB.out hb)
      have m4_ := Aside0.mk ((by rw [hg]; exact blk_lt Bge.out : ge < gw))
      have m5_ := Aside0.mk ((by rw [hg]; exact below_size HB.out : w.heap.size ≤ gw))
      clear Bga Bge HB
      have Bga := m0_
      have Bge := m1_
      have Bgw := m2_
      have HB := m3_
      have Oge_gw := m4_
      have OWgw := m5_
      clear m0_ m1_ m2_ m3_ m4_ m5_
      clear hg hbox hb
      refine hK.out _ _ ⟨(blk_cell Bga.out 0).trans rfl, (blk_cell Bga.out 1).trans rfl, (blk_cell Bge.out 0).trans rfl, (blk_cell Bge.out 1).trans rfl⟩ (fun hHeld => ?_)
      clear hK K
      refine norm_ (a' := ?_) ?_ ?_
      rotate_left
      · show Act.put _ (some 6) _ = _
        simp only [Act.put, List.setIfInBounds_toArray, List.set_cons_zero, List.set_cons_succ, i64_w, i32_w]
        rfl
      refine one_ (i := 1) (N := some 23) #[true, true, true, false, false, false, false, false, true, false, false] rfl rfl (one_of HT_.out (by kernel_rfl)) (by decide) (fun K hK => ?_)
      refine goes_ Try.func20 (by kernel_rfl) rfl #[.agg #[.int .i64 n, .slice A0 L.length c0]] (by rfl) rfl rfl (by (try simp only [List.map_toArray, List.map_cons, List.map_nil]); first | done | rfl) ?_
      with_reducible refine (laws_toForest.calls k n _ _ L n L _ (Kd.C_below HR0.out HB.out) HC0.out hto).mono ?_
      rintro e y15 ⟨v_, rfl, ho, hb⟩
      refine ⟨_, rfl, ?_⟩
      obtain ⟨loy, hiy, hlo_, hle_, hhi_, hrg_⟩ := Rg.born (b := w.heap.size) ho hb (below_size HB.out)
      obtain ⟨Ay, cy, rfl⟩ := hrg_.slice
      have m0_ := Aside0.mk (blk_below Bga.out hb)
      have m1_ := Aside0.mk (blk_below Bge.out hb)
      have m2_ := Aside0.mk (blk_below Bgw.out hb)
      have m3_ := Aside0.mk (hrg_)
      have m4_ := Aside0.mk (below_step HB.out hb)
      have m5_ := Aside0.mk ((by rw [hlo_]; exact blk_lt Bge.out : ge < loy))
      have m6_ := Aside0.mk ((by rw [hlo_]; exact blk_lt Bgw.out : gw < loy))
      have m7_ := Aside0.mk ((hle_ : loy ≤ hiy))
      have m8_ := Aside0.mk ((by rw [hlo_]; exact below_size HB.out : w.heap.size ≤ loy))
      clear Bga Bge Bgw HB
      have Bga := m0_
      have Bge := m1_
      have Bgw := m2_
      have Fy := m3_
      have HB := m4_
      have Oge_y := m5_
      have Ogw_y := m6_
      have Oy := m7_
      have OWy := m8_
      clear m0_ m1_ m2_ m3_ m4_ m5_ m6_ m7_ m8_
      clear ho hb hrg_ hlo_ hle_ hhi_
      refine hK.out _ _ ⟨(blk_cell Bga.out 0).trans rfl, (blk_cell Bga.out 1).trans rfl, (blk_cell Bge.out 0).trans rfl, (blk_cell Bge.out 1).trans rfl⟩ (fun hHeld => ?_)
      clear hK K
      refine norm_ (a' := ?_) ?_ ?_
      rotate_left
      · show Act.put _ (some 23) _ = _
        simp only [Act.put, List.setIfInBounds_toArray, List.set_cons_zero, List.set_cons_succ, i64_w, i32_w]
        rfl
      refine one_ (i := 3) (N := some 25) #[true, true, true, true, false, false, false, false, true, false, false] rfl rfl (one_of HT_.out (by kernel_rfl)) (by decide) (fun K hK => ?_)
      refine goes_ Try.func21 (by kernel_rfl) rfl #[.agg #[.int .i64 M, .int .i64 O]] (by rfl) rfl rfl (by (try simp only [List.map_toArray, List.map_cons, List.map_nil]); first | done | rfl) ?_
      with_reducible refine (laws_toEdge.calls M O M O _ hte).mono ?_
      rintro e y16 ⟨rfl, hb⟩
      refine ⟨_, rfl, ?_⟩
      have m0_ := Aside0.mk (Rg.below Fy.out hb)
      have m1_ := Aside0.mk (blk_below Bga.out hb)
      have m2_ := Aside0.mk (blk_below Bge.out hb)
      have m3_ := Aside0.mk (blk_below Bgw.out hb)
      have m4_ := Aside0.mk (below_step HB.out hb)
      clear Fy Bga Bge Bgw HB
      have Fy := m0_
      have Bga := m1_
      have Bge := m2_
      have Bgw := m3_
      have HB := m4_
      clear m0_ m1_ m2_ m3_ m4_
      clear hb
      refine hK.out _ _ ⟨(blk_cell Bga.out 0).trans rfl, (blk_cell Bga.out 1).trans rfl, (blk_cell Bge.out 0).trans rfl, (blk_cell Bge.out 1).trans rfl⟩ (fun hHeld => ?_)
      clear hK K
      refine norm_ (a' := ?_) ?_ ?_
      rotate_left
      · show Act.put _ (some 25) _ = _
        simp only [Act.put, List.setIfInBounds_toArray, List.set_cons_zero, List.set_cons_succ, i64_w, i32_w]
        rfl
      refine one_ (i := 4) (N := some 26) #[true, true, true, true, true, false, false, false, true, false, false] rfl rfl (one_of HT_.out (by kernel_rfl)) (by decide) (fun K hK => ?_)
      refine goes_ Try.func30 (by kernel_rfl) rfl #[.agg #[.int .i64 n, .slice Ay L.length cy], .agg #[.int .i64 M, .int .i64 O]] (by rfl) rfl rfl (by (try simp only [List.map_toArray, List.map_cons, List.map_nil]); first | done | rfl) ?_
      with_reducible refine (spec_Link.calls k n _ _ L M O m0 R b _ Fy.out.C Fy.out.cap hs).mono ?_
      rintro e y17 ⟨v_, rfl, ho, hb⟩
      refine ⟨_, rfl, ?_⟩
      obtain ⟨low, hiw, hlo_, hle_, hhi_, hrg_⟩ := Ng.born (b := w.heap.size) ho hb (below_size HB.out)
      obtain ⟨Aw, cw, rfl⟩ := hrg_.slice
      have m0_ := Aside0.mk (Rg.below Fy.out hb)
      have m1_ := Aside0.mk (blk_below Bga.out hb)
      have m2_ := Aside0.mk (blk_below Bge.out hb)
      have m3_ := Aside0.mk (blk_below Bgw.out hb)
      have m4_ := Aside0.mk (hrg_)
      have m5_ := Aside0.mk (below_step HB.out hb)
      have m6_ := Aside0.mk ((by rw [hlo_]; exact blk_lt Bge.out : ge < low))
      have m7_ := Aside0.mk ((by rw [hlo_]; exact blk_lt Bgw.out : gw < low))
      have m8_ := Aside0.mk ((by rw [hlo_]; exact Rg.le Fy.out : hiy ≤ low))
      have m9_ := Aside0.mk ((hle_ : low ≤ hiw))
      have m10_ := Aside0.mk ((by rw [hlo_]; exact below_size HB.out : w.heap.size ≤ low))
      clear Fy Bga Bge Bgw HB
      have Fy := m0_
      have Bga := m1_
      have Bge := m2_
      have Bgw := m3_
      have Fw := m4_
      have HB := m5_
      have Oge_w := m6_
      have Ogw_w := m7_
      have Oy_w := m8_
      have Ow := m9_
      have OWw := m10_
      clear m0_ m1_ m2_ m3_ m4_ m5_ m6_ m7_ m8_ m9_ m10_
      clear ho hb hrg_ hlo_ hle_ hhi_
      clear Fy
      refine hK.out _ _ ⟨(blk_cell Bga.out 0).trans rfl, (blk_cell Bga.out 1).trans rfl, (blk_cell Bge.out 0).trans rfl, (blk_cell Bge.out 1).trans rfl⟩ (fun hHeld => ?_)
      clear hK K
      refine norm_ (a' := ?_) ?_ ?_
      rotate_left
      · show Act.put _ (some 26) _ = _
        simp only [Act.put, List.setIfInBounds_toArray, List.set_cons_zero, List.set_cons_succ, i64_w, i32_w]
        rfl
      refine pure_ (i := 5) (N := some 21) (v := ?_) (a' := ?_) #[true, true, true, true, true, true, false, false, true, false, false] rfl rfl (any_of HT_.out (by kernel_rfl)) (fun _ _ _ h => h) (Or.inl ⟨by rfl, ?_⟩) ?_ ?_
      rotate_left
      · intro w_
        go_simp
        with_reducible rfl
      rotate_left
      · simp only [Act.put, List.setIfInBounds_toArray, List.set_cons_zero, List.set_cons_succ, i64_w, i32_w]
        rfl
      refine pure_ (i := 6) (N := some 27) (v := ?_) (a' := ?_) #[true, true, true, true, true, true, true, false, true, false, false] rfl rfl (any_of HT_.out (by kernel_rfl)) (fun _ _ _ h => h) (Or.inl ⟨by rfl, ?_⟩) ?_ ?_
      rotate_left
      · intro w_
        go_simp
        with_reducible rfl
      rotate_left
      · simp only [Act.put, List.setIfInBounds_toArray, List.set_cons_zero, List.set_cons_succ, i64_w, i32_w]
        rfl
      refine pure_ (i := 7) (N := some 28) (v := ?_) (a' := ?_) #[true, true, true, true, true, true, true, true, true, false, false] rfl rfl (any_of HT_.out (by kernel_rfl)) (fun _ _ _ h => h) (Or.inl ⟨by rfl, ?_⟩) ?_ ?_
      rotate_left
      · intro w_
        go_simp
        with_reducible rfl
      rotate_left
      · simp only [Act.put, List.setIfInBounds_toArray, List.set_cons_zero, List.set_cons_succ, i64_w, i32_w]
        rfl
      exact norm_ (by simp only [putAll, Act.put, List.setIfInBounds_toArray, List.set_cons_zero, List.set_cons_succ]) (hCont (Aw, cw, low, hiw, gw, Ay, cy) _ ⟨⟨(blk_cell Bga.out 0).trans rfl, (blk_cell Bga.out 1).trans rfl, (blk_cell Bge.out 0).trans rfl, (blk_cell Bge.out 1).trans rfl⟩, Bga.out, Bge.out, Fw.out, Bgw.out, (by (try dsimp only); have := OWga.out; have := Oga_ge.out; have := OWge.out; have := Oge_gw.out; have := OWgw.out; have := Oge_y.out; have := Ogw_y.out; have := Oy.out; have := OWy.out; have := Oge_w.out; have := Ogw_w.out; have := Oy_w.out; have := Ow.out; have := OWw.out; omega), (by (try dsimp only); have := OWga.out; have := Oga_ge.out; have := OWge.out; have := Oge_gw.out; have := OWgw.out; have := Oge_y.out; have := Ogw_y.out; have := Oy.out; have := OWy.out; have := Oge_w.out; have := Ogw_w.out; have := Oy_w.out; have := Ow.out; have := OWw.out; omega), (by (try dsimp only); have := OWga.out; have := Oga_ge.out; have := OWge.out; have := Oge_gw.out; have := OWgw.out; have := Oge_y.out; have := Ogw_y.out; have := Oy.out; have := OWy.out; have := Oge_w.out; have := Ogw_w.out; have := Oy_w.out; have := Ow.out; have := OWw.out; omega), (by (try dsimp only); have := OWga.out; have := Oga_ge.out; have := OWge.out; have := Oge_gw.out; have := OWgw.out; have := Oge_y.out; have := Ogw_y.out; have := Oy.out; have := OWy.out; have := Oge_w.out; have := Ogw_w.out; have := Oy_w.out; have := Ow.out; have := OWw.out; omega), (by (try dsimp only); have := OWga.out; have := Oga_ge.out; have := OWge.out; have := Oge_gw.out; have := OWgw.out; have := Oge_y.out; have := Ogw_y.out; have := Oy.out; have := OWy.out; have := Oge_w.out; have := Ogw_w.out; have := Oy_w.out; have := Ow.out; have := OWw.out; omega), (by (try dsimp only); have := OWga.out; have := Oga_ge.out; have := OWge.out; have := Oge_gw.out; have := OWgw.out; have := Oge_y.out; have := Ogw_y.out; have := Oy.out; have := OWy.out; have := Oge_w.out; have := Ogw_w.out; have := Oy_w.out; have := Ow.out; have := OWw.out; omega), HB.out⟩)
  rintro ⟨Aw, cw, low, hiw, gw, Ay, cy⟩ y18 ⟨hHeld_, h0_, h1_, h2_, h3_, h4_, h5_, h6_, h7_, h8_, h9_, h10_⟩
  clear HB hHeld Bga Bge
  have Bga : Aside0 (y18.heap[ga]? = some (.cells #[.int .i64 n, .slice A0 L.length c0] 35 (0, 0))) := ⟨h0_⟩
  have Bge : Aside0 (y18.heap[ge]? = some (.cells #[.int .i64 M, .int .i64 O] 37 (0, 0))) := ⟨h1_⟩
  have Fw : Aside0 (Ng w.heap.size y18 low hiw (.slice Aw R.length cw) R) := ⟨h2_⟩
  have Bgw : Aside0 (y18.heap[gw]? = some (.cells #[.int .i64 0, .slice none 0 0] 39 (0, 0))) := ⟨h3_⟩
  have OWw : Aside0 (w.heap.size ≤ low) := ⟨h4_⟩
  have Ow : Aside0 (low ≤ hiw) := ⟨h5_⟩
  have OWgw : Aside0 (w.heap.size ≤ gw) := ⟨h6_⟩
  have Oge_w : Aside0 (ge < low) := ⟨h7_⟩
  have Oge_gw : Aside0 (ge < gw) := ⟨h8_⟩
  have Pw_gw : Aside0 (gw < low ∨ hiw ≤ gw) := ⟨h9_⟩
  have HB : Aside0 (Below w.heap.size w y18) := ⟨h10_⟩
  clear h0_ h1_ h2_ h3_ h4_ h5_ h6_ h7_ h8_ h9_ h10_
  have hHeld : y18.cell? ⟨ga, 0, none⟩ = some (.int .i64 n) ∧ y18.cell? ⟨ga, 1, none⟩ = some (.slice A0 L.length c0) ∧ y18.cell? ⟨ge, 0, none⟩ = some (.int .i64 M) ∧ y18.cell? ⟨ge, 1, none⟩ = some (.int .i64 O) := hHeld_
  clear hHeld_
  refine norm_ (a' := ?_) ?_ ?_
  rotate_left
  · simp only [putAll, Act.put, List.setIfInBounds_toArray, List.set_cons_zero, List.set_cons_succ]
    rfl
  refine one_ (i := 9) (N := none) #[true, true, true, true, true, true, true, true, true, true, false] rfl rfl (one_of HT_.out (by kernel_rfl)) (by decide) (fun K hK => ?_)
  have cs0_ : y18.cell? ⟨gw, 0, none⟩ = some (.int .i64 0) := (blk_cell Bgw.out 0).trans rfl
  have fs0_ := blk_frozen Bgw.out 0
  have cs1_ : y18.cell? ⟨gw, 1, none⟩ = some (.slice none 0 0) := (blk_cell Bgw.out 1).trans rfl
  have fs1_ := blk_frozen Bgw.out 1
  refine skip_ (w1 := ((y18.setCell ⟨gw, 0, none⟩ (.int .i64 m0)).setCell ⟨gw, 1, none⟩ (.slice Aw R.length cw))) (by rfl) rfl ?_ ?_
  · first | (go_simp; done) | (go_simp; rfl)
  obtain ⟨y19, hw⟩ : ∃ y19, y19 = ((y18.setCell ⟨gw, 0, none⟩ (.int .i64 m0)).setCell ⟨gw, 1, none⟩ (.slice Aw R.length cw)) := ⟨_, rfl⟩
  rw [← hw]
  have hk := set2_kept hw
  have m0_ := Aside0.mk (Ng.kept Fw.out hk (by intro k_ h1_ h2_ h3_; have := OWga.out; have := Oga_ge.out; have := OWge.out; have := OWw.out; have := Ow.out; have := OWgw.out; have := Oge_w.out; have := Oge_gw.out; have := Pw_gw.out; omega))
  have m1_ := Aside0.mk (blk_kept Bga.out hk (by intro h3_; have := OWga.out; have := Oga_ge.out; have := OWge.out; have := OWw.out; have := Ow.out; have := OWgw.out; have := Oge_w.out; have := Oge_gw.out; have := Pw_gw.out; omega))
  have m2_ := Aside0.mk (blk_kept Bge.out hk (by intro h3_; have := OWga.out; have := Oga_ge.out; have := OWge.out; have := OWw.out; have := Ow.out; have := OWgw.out; have := Oge_w.out; have := Oge_gw.out; have := Pw_gw.out; omega))
  have m3_ := Aside0.mk (set2_blk hw Bgw.out)
  have m4_ := Aside0.mk ((by rw [hw]; exact below_set (below_set HB.out OWgw.out) OWgw.out : Below w.heap.size w y19))
  clear Fw Bga Bge Bgw HB
  have Fw := m0_
  have Bga := m1_
  have Bge := m2_
  have Bgw := m3_
  have HB := m4_
  clear m0_ m1_ m2_ m3_ m4_
  clear hw hk cs0_ fs0_ cs1_ fs1_
  refine hK.out _ _ ⟨(blk_cell Bga.out 0).trans rfl, (blk_cell Bga.out 1).trans rfl, (blk_cell Bge.out 0).trans rfl, (blk_cell Bge.out 1).trans rfl⟩ (fun hHeld => ?_)
  clear hK K
  refine pure_ (i := 10) (N := some 7) (v := ?_) (a' := ?_) #[true, true, true, true, true, true, true, true, true, true, true] rfl rfl (any_of HT_.out (by kernel_rfl)) (fun _ _ _ h => h) (Or.inl ⟨by rfl, ?_⟩) ?_ ?_
  rotate_left
  · intro w_
    go_simp
    with_reducible rfl
  rotate_left
  · simp only [Act.put, List.setIfInBounds_toArray, List.set_cons_zero, List.set_cons_succ, i64_w, i32_w]
    rfl
  refine done_ (done_of HT_.out (by kernel_rfl)) ?_
  have czga_0 : y19.cell? ⟨ga, 0, none⟩ = some (.int .i64 n) := (blk_cell Bga.out 0).trans rfl
  have fzga_0 := blk_frozen Bga.out 0
  have czga_1 : y19.cell? ⟨ga, 1, none⟩ = some (.slice A0 L.length c0) := (blk_cell Bga.out 1).trans rfl
  have fzga_1 := blk_frozen Bga.out 1
  have czge_0 : y19.cell? ⟨ge, 0, none⟩ = some (.int .i64 M) := (blk_cell Bge.out 0).trans rfl
  have fzge_0 := blk_frozen Bge.out 0
  have czge_1 : y19.cell? ⟨ge, 1, none⟩ = some (.int .i64 O) := (blk_cell Bge.out 1).trans rfl
  have fzge_1 := blk_frozen Bge.out 1
  have czgw_0 : y19.cell? ⟨gw, 0, none⟩ = some (.int .i64 m0) := (blk_cell Bgw.out 0).trans rfl
  have fzgw_0 := blk_frozen Bgw.out 0
  have czgw_1 : y19.cell? ⟨gw, 1, none⟩ = some (.slice Aw R.length cw) := (blk_cell Bgw.out 1).trans rfl
  have fzgw_1 := blk_frozen Bgw.out 1
  try go_wp2_with (first
    | ((with_reducible refine gate_callee (f := 20) rfl ?_); refine goesL_ (some 30) rfl rfl Try.func20 (by kernel_rfl) rfl #[.agg #[.int .i64 n, .slice A0 L.length c0]] rfl (by (try simp only [List.map_toArray, List.map_cons, List.map_nil]); first | done | rfl) ?_; (with_reducible refine (laws_toForest.calls k n _ _ L n L _ (Kd.C_below HR0.out HB.out) HC0.out hto).mono ?_); rintro e y20 ⟨v_, rfl, ho, hb⟩; refine ⟨_, rfl, ?_⟩; obtain ⟨lox, hix, hlo_, hle_, hhi_, hrg_⟩ := Rg.born (b := w.heap.size) ho hb (below_size HB.out); obtain ⟨Ax, cx, rfl⟩ := hrg_.slice; have m0_ := Aside0.mk (Ng.below Fw.out hb); have m1_ := Aside0.mk (blk_below Bga.out hb); have m2_ := Aside0.mk (blk_below Bge.out hb); have m3_ := Aside0.mk (blk_below Bgw.out hb); have m4_ := Aside0.mk (hrg_); have m5_ := Aside0.mk (below_step HB.out hb); have m6_ := Aside0.mk ((by rw [hlo_]; exact Ng.le Fw.out : hiw ≤ lox)); have m7_ := Aside0.mk ((by rw [hlo_]; exact blk_lt Bgw.out : gw < lox)); have m8_ := Aside0.mk ((hle_ : lox ≤ hix)); have m9_ := Aside0.mk ((by rw [hlo_]; exact below_size HB.out : w.heap.size ≤ lox)); clear Fw Bga Bge Bgw HB czga_0 fzga_0 czga_1 fzga_1 czge_0 fzge_0 czge_1 fzge_1 czgw_0 fzgw_0 czgw_1 fzgw_1; have Fw := m0_; have Bga := m1_; have Bge := m2_; have Bgw := m3_; have Fx := m4_; have HB := m5_; have Ow_x := m6_; have Ogw_x := m7_; have Ox := m8_; have OWx := m9_; clear m0_ m1_ m2_ m3_ m4_ m5_ m6_ m7_ m8_ m9_; have czga_0 : y20.cell? ⟨ga, 0, none⟩ = some (.int .i64 n) := (blk_cell Bga.out 0).trans rfl; have fzga_0 := blk_frozen Bga.out 0; have czga_1 : y20.cell? ⟨ga, 1, none⟩ = some (.slice A0 L.length c0) := (blk_cell Bga.out 1).trans rfl; have fzga_1 := blk_frozen Bga.out 1; have czge_0 : y20.cell? ⟨ge, 0, none⟩ = some (.int .i64 M) := (blk_cell Bge.out 0).trans rfl; have fzge_0 := blk_frozen Bge.out 0; have czge_1 : y20.cell? ⟨ge, 1, none⟩ = some (.int .i64 O) := (blk_cell Bge.out 1).trans rfl; have fzge_1 := blk_frozen Bge.out 1; have czgw_0 : y20.cell? ⟨gw, 0, none⟩ = some (.int .i64 m0) := (blk_cell Bgw.out 0).trans rfl; have fzgw_0 := blk_frozen Bgw.out 0; have czgw_1 : y20.cell? ⟨gw, 1, none⟩ = some (.slice Aw R.length cw) := (blk_cell Bgw.out 1).trans rfl; have fzgw_1 := blk_frozen Bgw.out 1; clear ho hb hrg_ hlo_ hle_ hhi_)
    | ((with_reducible refine gate_dst (N := 8) rfl ?_); refine box_event ?hg (N := 8) ?hd (cs := #[.int .i64 0, .slice none 0 0]) (t := 39) ?hr ?_; (case hd => rfl); (case hg => rfl); (case hr => first | (go_simp; done) | (go_simp; rfl)); intro gx hg y21 hbox hb; have m0_ := Aside0.mk (Ng.below Fw.out hb); have m1_ := Aside0.mk (Rg.below Fx.out hb); have m2_ := Aside0.mk (blk_below Bga.out hb); have m3_ := Aside0.mk (blk_below Bge.out hb); have m4_ := Aside0.mk (blk_below Bgw.out hb); have m5_ := Aside0.mk (hbox); have m6_ := Aside0.mk (below_step HB.out hb); have m7_ := Aside0.mk ((by rw [hg]; exact Rg.le Fx.out : hix ≤ gx)); have m8_ := Aside0.mk ((by rw [hg]; exact below_size HB.out : w.heap.size ≤ gx)); clear Fw Fx Bga Bge Bgw HB czga_0 fzga_0 czga_1 fzga_1 czge_0 fzge_0 czge_1 fzge_1 czgw_0 fzgw_0 czgw_1 fzgw_1; have Fw := m0_; have Fx := m1_; have Bga := m2_; have Bge := m3_; have Bgw := m4_; have Bgx := m5_; have HB := m6_; have Ox_gx := m7_; have OWgx := m8_; clear m0_ m1_ m2_ m3_ m4_ m5_ m6_ m7_ m8_; have czga_0 : y21.cell? ⟨ga, 0, none⟩ = some (.int .i64 n) := (blk_cell Bga.out 0).trans rfl; have fzga_0 := blk_frozen Bga.out 0; have czga_1 : y21.cell? ⟨ga, 1, none⟩ = some (.slice A0 L.length c0) := (blk_cell Bga.out 1).trans rfl; have fzga_1 := blk_frozen Bga.out 1; have czge_0 : y21.cell? ⟨ge, 0, none⟩ = some (.int .i64 M) := (blk_cell Bge.out 0).trans rfl; have fzge_0 := blk_frozen Bge.out 0; have czge_1 : y21.cell? ⟨ge, 1, none⟩ = some (.int .i64 O) := (blk_cell Bge.out 1).trans rfl; have fzge_1 := blk_frozen Bge.out 1; have czgw_0 : y21.cell? ⟨gw, 0, none⟩ = some (.int .i64 m0) := (blk_cell Bgw.out 0).trans rfl; have fzgw_0 := blk_frozen Bgw.out 0; have czgw_1 : y21.cell? ⟨gw, 1, none⟩ = some (.slice Aw R.length cw) := (blk_cell Bgw.out 1).trans rfl; have fzgw_1 := blk_frozen Bgw.out 1; have czgx_0 : y21.cell? ⟨gx, 0, none⟩ = some (.int .i64 0) := (blk_cell Bgx.out 0).trans rfl; have fzgx_0 := blk_frozen Bgx.out 0; have czgx_1 : y21.cell? ⟨gx, 1, none⟩ = some (.slice none 0 0) := (blk_cell Bgx.out 1).trans rfl; have fzgx_1 := blk_frozen Bgx.out 1; clear hg hbox hb)
    | ((with_reducible refine gate_store (t := 39) (p := 8) rfl ?_); refine store_event (t := 39) (p := 8) (v := ?vo_y22) (w1 := ((y21.setCell ⟨gx, 0, none⟩ (.int .i64 n)).setCell ⟨gx, 1, none⟩ (.slice Ax L.length cx))) ?hg ?ho ?hn ?hr ?_; (case ho => rfl); (case hg => rfl); (case hn => rfl); (case hr => first | (go_simp; done) | (go_simp; rfl)); intro y22 hw; have hk := set2_kept hw; have m0_ := Aside0.mk (Ng.kept Fw.out hk (by intro k_ h1_ h2_ h3_; have := OWga.out; have := Oga_ge.out; have := OWge.out; have := OWw.out; have := Ow.out; have := OWgw.out; have := Oge_w.out; have := Oge_gw.out; have := Pw_gw.out; have := Ow_x.out; have := Ogw_x.out; have := Ox.out; have := OWx.out; have := Ox_gx.out; have := OWgx.out; omega)); have m1_ := Aside0.mk (Rg.kept Fx.out hk (by intro k_ h1_ h2_ h3_; have := OWga.out; have := Oga_ge.out; have := OWge.out; have := OWw.out; have := Ow.out; have := OWgw.out; have := Oge_w.out; have := Oge_gw.out; have := Pw_gw.out; have := Ow_x.out; have := Ogw_x.out; have := Ox.out; have := OWx.out; have := Ox_gx.out; have := OWgx.out; omega)); have m2_ := Aside0.mk (blk_kept Bga.out hk (by intro h3_; have := OWga.out; have := Oga_ge.out; have := OWge.out; have := OWw.out; have := Ow.out; have := OWgw.out; have := Oge_w.out; have := Oge_gw.out; have := Pw_gw.out; have := Ow_x.out; have := Ogw_x.out; have := Ox.out; have := OWx.out; have := Ox_gx.out; have := OWgx.out; omega)); have m3_ := Aside0.mk (blk_kept Bge.out hk (by intro h3_; have := OWga.out; have := Oga_ge.out; have := OWge.out; have := OWw.out; have := Ow.out; have := OWgw.out; have := Oge_w.out; have := Oge_gw.out; have := Pw_gw.out; have := Ow_x.out; have := Ogw_x.out; have := Ox.out; have := OWx.out; have := Ox_gx.out; have := OWgx.out; omega)); have m4_ := Aside0.mk (blk_kept Bgw.out hk (by intro h3_; have := OWga.out; have := Oga_ge.out; have := OWge.out; have := OWw.out; have := Ow.out; have := OWgw.out; have := Oge_w.out; have := Oge_gw.out; have := Pw_gw.out; have := Ow_x.out; have := Ogw_x.out; have := Ox.out; have := OWx.out; have := Ox_gx.out; have := OWgx.out; omega)); have m5_ := Aside0.mk (set2_blk hw Bgx.out); have m6_ := Aside0.mk ((by rw [hw]; exact below_set (below_set HB.out OWgx.out) OWgx.out : Below w.heap.size w y22)); clear Fw Fx Bga Bge Bgw Bgx HB czga_0 fzga_0 czga_1 fzga_1 czge_0 fzge_0 czge_1 fzge_1 czgw_0 fzgw_0 czgw_1 fzgw_1 czgx_0 fzgx_0 czgx_1 fzgx_1; have Fw := m0_; have Fx := m1_; have Bga := m2_; have Bge := m3_; have Bgw := m4_; have Bgx := m5_; have HB := m6_; clear m0_ m1_ m2_ m3_ m4_ m5_ m6_; have czga_0 : y22.cell? ⟨ga, 0, none⟩ = some (.int .i64 n) := (blk_cell Bga.out 0).trans rfl; have fzga_0 := blk_frozen Bga.out 0; have czga_1 : y22.cell? ⟨ga, 1, none⟩ = some (.slice A0 L.length c0) := (blk_cell Bga.out 1).trans rfl; have fzga_1 := blk_frozen Bga.out 1; have czge_0 : y22.cell? ⟨ge, 0, none⟩ = some (.int .i64 M) := (blk_cell Bge.out 0).trans rfl; have fzge_0 := blk_frozen Bge.out 0; have czge_1 : y22.cell? ⟨ge, 1, none⟩ = some (.int .i64 O) := (blk_cell Bge.out 1).trans rfl; have fzge_1 := blk_frozen Bge.out 1; have czgw_0 : y22.cell? ⟨gw, 0, none⟩ = some (.int .i64 m0) := (blk_cell Bgw.out 0).trans rfl; have fzgw_0 := blk_frozen Bgw.out 0; have czgw_1 : y22.cell? ⟨gw, 1, none⟩ = some (.slice Aw R.length cw) := (blk_cell Bgw.out 1).trans rfl; have fzgw_1 := blk_frozen Bgw.out 1; have czgx_0 : y22.cell? ⟨gx, 0, none⟩ = some (.int .i64 n) := (blk_cell Bgx.out 0).trans rfl; have fzgx_0 := blk_frozen Bgx.out 0; have czgx_1 : y22.cell? ⟨gx, 1, none⟩ = some (.slice Ax L.length cx) := (blk_cell Bgx.out 1).trans rfl; have fzgx_1 := blk_frozen Bgx.out 1; clear hw hk))
  have hb : Below y22.heap.size y22 y22.drew := below_drew1 (Below.refl _ _)
  have m0_ := Aside0.mk (Ng.below Fw.out hb)
  have m1_ := Aside0.mk (Rg.below Fx.out hb)
  have m2_ := Aside0.mk (blk_below Bga.out hb)
  have m3_ := Aside0.mk (blk_below Bge.out hb)
  have m4_ := Aside0.mk (blk_below Bgw.out hb)
  have m5_ := Aside0.mk (blk_below Bgx.out hb)
  have m6_ := Aside0.mk (below_step HB.out hb)
  clear Fw Fx Bga Bge Bgw Bgx HB czga_0 fzga_0 czga_1 fzga_1 czge_0 fzge_0 czge_1 fzge_1 czgw_0 fzgw_0 czgw_1 fzgw_1 czgx_0 fzgx_0 czgx_1 fzgx_1
  have Fw := m0_
  have Fx := m1_
  have Bga := m2_
  have Bge := m3_
  have Bgw := m4_
  have Bgx := m5_
  have HB := m6_
  clear hb m0_ m1_ m2_ m3_ m4_ m5_ m6_
  refine start_ (n := 10) (S := fun w_ => w_.cell? ⟨ga, 0, none⟩ = some (.int .i64 n) ∧ w_.cell? ⟨ga, 1, none⟩ = some (.slice A0 L.length c0) ∧ w_.cell? ⟨ge, 0, none⟩ = some (.int .i64 M) ∧ w_.cell? ⟨ge, 1, none⟩ = some (.int .i64 O) ∧ w_.cell? ⟨gw, 0, none⟩ = some (.int .i64 m0) ∧ w_.cell? ⟨gw, 1, none⟩ = some (.slice Aw R.length cw) ∧ w_.cell? ⟨gx, 0, none⟩ = some (.int .i64 n) ∧ w_.cell? ⟨gx, 1, none⟩ = some (.slice Ax L.length cx)) (ds := []) #[false, false, false, false, false, false, false, false, false, false] (by kernel_rfl) rfl rfl ⟨(blk_cell Bga.out 0).trans rfl, (blk_cell Bga.out 1).trans rfl, (blk_cell Bge.out 0).trans rfl, (blk_cell Bge.out 1).trans rfl, (blk_cell Bgw.out 0).trans rfl, (blk_cell Bgw.out 1).trans rfl, (blk_cell Bgx.out 0).trans rfl, (blk_cell Bgx.out 1).trans rfl⟩ (fun hHeld => ?_); refine with_tabW laws_FnExactLink.tab7 laws_FnExactLink.bits7 (fun HT_ HW_ => ?_)
  generalize y22.drew = y23 at Fw Fx Bga Bge Bgw Bgx HB hHeld ⊢
  refine take_ (i := 0) (N := some 32) (v := ?_) (a' := ?_) #[true, false, false, false, false, false, false, false, false, false] rfl rfl (take_ofW HT_.out HW_.out (by kernel_rfl)) (fun _ _ _ h => h) (Or.inl ⟨by rfl, ?_⟩) hHeld ?_ ?_
  rotate_left
  · rintro w_ ⟨s0_, s1_, s2_, s3_, s4_, s5_, s6_, s7_⟩
    go_simp
    with_reducible rfl
  rotate_left
  · simp only [Act.put, List.setIfInBounds_toArray, List.set_cons_zero, List.set_cons_succ, i64_w, i32_w]
    rfl
  refine take_ (i := 1) (N := some 33) (v := ?_) (a' := ?_) #[true, true, false, false, false, false, false, false, false, false] rfl rfl (take_ofW HT_.out HW_.out (by kernel_rfl)) (fun _ _ _ h => h) (Or.inl ⟨by rfl, ?_⟩) hHeld ?_ ?_
  rotate_left
  · rintro w_ ⟨s0_, s1_, s2_, s3_, s4_, s5_, s6_, s7_⟩
    go_simp
    with_reducible rfl
  rotate_left
  · simp only [Act.put, List.setIfInBounds_toArray, List.set_cons_zero, List.set_cons_succ, i64_w, i32_w]
    rfl
  refine join_ (σ := Option Addr × Nat × Nat × Nat × Nat) 2 #[true, true, true, true, true, true, true, true, false, false] (fun s_ => [(34, .agg #[.int .i64 M, .int .i64 O]), (35, .tuple #[.agg #[.int .i64 m0, .slice s_.1 R.length s_.2.1], .bool b]), (9, .pointer (some ⟨s_.2.2.2.2, 0, none⟩)), (31, .tuple #[.agg #[.int .i64 m0, .slice s_.1 R.length s_.2.1], .bool b]), (36, .agg #[.int .i64 m0, .slice s_.1 R.length s_.2.1]), (37, .bool b)]) (fun s_ w_ => (w_.cell? ⟨ga, 0, none⟩ = some (.int .i64 n) ∧ w_.cell? ⟨ga, 1, none⟩ = some (.slice A0 L.length c0) ∧ w_.cell? ⟨ge, 0, none⟩ = some (.int .i64 M) ∧ w_.cell? ⟨ge, 1, none⟩ = some (.int .i64 O) ∧ w_.cell? ⟨gw, 0, none⟩ = some (.int .i64 m0) ∧ w_.cell? ⟨gw, 1, none⟩ = some (.slice Aw R.length cw) ∧ w_.cell? ⟨gx, 0, none⟩ = some (.int .i64 n) ∧ w_.cell? ⟨gx, 1, none⟩ = some (.slice Ax L.length cx)) ∧ (Ng w.heap.size w_ low hiw (.slice Aw R.length cw) R) ∧ (Rg w.heap.size w_ lox hix (.slice Ax L.length cx) L) ∧ (w_.heap[ga]? = some (.cells #[.int .i64 n, .slice A0 L.length c0] 35 (0, 0))) ∧ (w_.heap[ge]? = some (.cells #[.int .i64 M, .int .i64 O] 37 (0, 0))) ∧ (w_.heap[gw]? = some (.cells #[.int .i64 m0, .slice Aw R.length cw] 39 (0, 0))) ∧ (w_.heap[gx]? = some (.cells #[.int .i64 n, .slice Ax L.length cx] 39 (0, 0))) ∧ (Rg w.heap.size w_ s_.2.2.1 s_.2.2.2.1 (.slice s_.1 R.length s_.2.1) R) ∧ (w_.heap[s_.2.2.2.2]? = some (.cells #[.int .i64 0, .slice none 0 0] 39 (0, 0))) ∧ (w.heap.size ≤ s_.2.2.1) ∧ (s_.2.2.1 ≤ s_.2.2.2.1) ∧ (w.heap.size ≤ s_.2.2.2.2) ∧ (gx < s_.2.2.1) ∧ (gx < s_.2.2.2.2) ∧ (s_.2.2.2.2 < s_.2.2.1 ∨ s_.2.2.2.1 ≤ s_.2.2.2.2) ∧ (Below w.heap.size w w_)) ?_ ?_
  rotate_left
  · intro hCont
    refine two_ (i := 2) (j := 7) (Ni := some 34) (Nj := some 9) #[true, true, true, false, false, false, false, false, false, false] #[true, true, false, false, false, false, false, true, false, false] rfl rfl rfl rfl (two_of HT_.out (by kernel_rfl)) (by decide) (by decide) (fun K hK => ?_) (fun K hK => ?_)
    · skip
      refine goes_ Try.func21 (by kernel_rfl) rfl #[.agg #[.int .i64 M, .int .i64 O]] (by rfl) rfl rfl (by (try simp only [List.map_toArray, List.map_cons, List.map_nil]); first | done | rfl) ?_
      with_reducible refine (laws_toEdge.calls M O M O _ hte).mono ?_
      rintro e y24 ⟨rfl, hb⟩
      refine ⟨_, rfl, ?_⟩
      have m0_ := Aside0.mk (Ng.below Fw.out hb)
      have m1_ := Aside0.mk (Rg.below Fx.out hb)
      have m2_ := Aside0.mk (blk_below Bga.out hb)
      have m3_ := Aside0.mk (blk_below Bge.out hb)
      have m4_ := Aside0.mk (blk_below Bgw.out hb)
      have m5_ := Aside0.mk (blk_below Bgx.out hb)
      have m6_ := Aside0.mk (below_step HB.out hb)
      clear Fw Fx Bga Bge Bgw Bgx HB
      have Fw := m0_
      have Fx := m1_
      have Bga := m2_
      have Bge := m3_
      have Bgw := m4_
      have Bgx := m5_
      have HB := m6_
      clear m0_ m1_ m2_ m3_ m4_ m5_ m6_
      clear hb
      refine hK.out _ _ ⟨(blk_cell Bga.out 0).trans rfl, (blk_cell Bga.out 1).trans rfl, (blk_cell Bge.out 0).trans rfl, (blk_cell Bge.out 1).trans rfl, (blk_cell Bgw.out 0).trans rfl, (blk_cell Bgw.out 1).trans rfl, (blk_cell Bgx.out 0).trans rfl, (blk_cell Bgx.out 1).trans rfl⟩ (fun hHeld => ?_)
      clear hK K
      refine norm_ (a' := ?_) ?_ ?_
      rotate_left
      · show Act.put _ (some 34) _ = _
        simp only [Act.put, List.setIfInBounds_toArray, List.set_cons_zero, List.set_cons_succ, i64_w, i32_w]
        rfl
      refine two_ (i := 3) (j := 7) (Ni := some 35) (Nj := some 9) #[true, true, true, true, false, false, false, false, false, false] #[true, true, true, false, false, false, false, true, false, false] rfl rfl rfl rfl (two_of HT_.out (by kernel_rfl)) (by decide) (by decide) (fun K hK => ?_) (fun K hK => ?_)
      · skip
        refine goes_ Try.func31 (by kernel_rfl) rfl #[.agg #[.int .i64 n, .slice Ax L.length cx], .agg #[.int .i64 M, .int .i64 O]] (by rfl) rfl rfl (by (try simp only [List.map_toArray, List.map_cons, List.map_nil]); first | done | rfl) ?_
        with_reducible refine (impl_Link.callsS k n _ _ L M O m0 R b _ Fx.out.C Fx.out.cap hi).mono ?_
        rintro e y25 ⟨v_, rfl, ho, hb⟩
        refine ⟨_, rfl, ?_⟩
        obtain ⟨log, hig, hlo_, hle_, hhi_, hrg_⟩ := Rg.born (b := w.heap.size) ho hb (below_size HB.out)
        obtain ⟨Ag, cg, rfl⟩ := hrg_.slice
        have m0_ := Aside0.mk (Ng.below Fw.out hb)
        have m1_ := Aside0.mk (Rg.below Fx.out hb)
        have m2_ := Aside0.mk (blk_below Bga.out hb)
        have m3_ := Aside0.mk (blk_below Bge.out hb)
        have m4_ := Aside0.mk (blk_below Bgw.out hb)
        have m5_ := Aside0.mk (blk_below Bgx.out hb)
        have m6_ := Aside0.mk (hrg_)
        have m7_ := Aside0.mk (below_step HB.out hb)
        have m8_ := Aside0.mk ((by rw [hlo_]; exact blk_lt Bgx.out : gx < log))
        have m9_ := Aside0.mk ((hle_ : log ≤ hig))
        have m10_ := Aside0.mk ((by rw [hlo_]; exact below_size HB.out : w.heap.size ≤ log))
        clear Fw Fx Bga Bge Bgw Bgx HB
        have Fw := m0_
        have Fx := m1_
        have Bga := m2_
        have Bge := m3_
        have Bgw := m4_
        have Bgx := m5_
        have Fg := m6_
        have HB := m7_
        have Ogx_g := m8_
        have Og := m9_
        have OWg := m10_
        clear m0_ m1_ m2_ m3_ m4_ m5_ m6_ m7_ m8_ m9_ m10_
        clear ho hb hrg_ hlo_ hle_ hhi_
        refine hK.out _ _ ⟨(blk_cell Bga.out 0).trans rfl, (blk_cell Bga.out 1).trans rfl, (blk_cell Bge.out 0).trans rfl, (blk_cell Bge.out 1).trans rfl, (blk_cell Bgw.out 0).trans rfl, (blk_cell Bgw.out 1).trans rfl, (blk_cell Bgx.out 0).trans rfl, (blk_cell Bgx.out 1).trans rfl⟩ (fun hHeld => ?_)
        clear hK K
        refine norm_ (a' := ?_) ?_ ?_
        rotate_left
        · show Act.put _ (some 35) _ = _
          simp only [Act.put, List.setIfInBounds_toArray, List.set_cons_zero, List.set_cons_succ, i64_w, i32_w]
          rfl
        refine pure_ (i := 4) (N := some 31) (v := ?_) (a' := ?_) #[true, true, true, true, true, false, false, false, false, false] rfl rfl (any_of HT_.out (by kernel_rfl)) (fun _ _ _ h => h) (Or.inl ⟨by rfl, ?_⟩) ?_ ?_
        rotate_left
        · intro w_
          go_simp
          with_reducible rfl
        rotate_left
        · simp only [Act.put, List.setIfInBounds_toArray, List.set_cons_zero, List.set_cons_succ, i64_w, i32_w]
          rfl
        refine pure_ (i := 5) (N := some 36) (v := ?_) (a' := ?_) #[true, true, true, true, true, true, false, false, false, false] rfl rfl (any_of HT_.out (by kernel_rfl)) (fun _ _ _ h => h) (Or.inl ⟨by rfl, ?_⟩) ?_ ?_
        rotate_left
        · intro w_
          go_simp
          with_reducible rfl
        rotate_left
        · simp only [Act.put, List.setIfInBounds_toArray, List.set_cons_zero, List.set_cons_succ, i64_w, i32_w]
          rfl
        refine pure_ (i := 6) (N := some 37) (v := ?_) (a' := ?_) #[true, true, true, true, true, true, true, false, false, false] rfl rfl (any_of HT_.out (by kernel_rfl)) (fun _ _ _ h => h) (Or.inl ⟨by rfl, ?_⟩) ?_ ?_
        rotate_left
        · intro w_
          go_simp
          with_reducible rfl
        rotate_left
        · simp only [Act.put, List.setIfInBounds_toArray, List.set_cons_zero, List.set_cons_succ, i64_w, i32_w]
          rfl
        refine one_ (i := 7) (N := some 9) #[true, true, true, true, true, true, true, true, false, false] rfl rfl (one_of HT_.out (by kernel_rfl)) (by decide) (fun K hK => ?_)
        refine box_step ?hg (N := 9) ?hd (cs := #[.int .i64 0, .slice none 0 0]) (t := 39) ?hr ?_; (case hd => rfl); (case hg => rfl); (case hr => first | (go_simp; done) | (go_simp; rfl))
        intro gg hg y26 hbox hb
        have m0_ := Aside0.mk (Ng.below Fw.out hb)
        have m1_ := Aside0.mk (Rg.below Fx.out hb)
        have m2_ := Aside0.mk (Rg.below Fg.out hb)
        have m3_ := Aside0.mk (blk_below Bga.out hb)
        have m4_ := Aside0.mk (blk_below Bge.out hb)
        have m5_ := Aside0.mk (blk_below Bgw.out hb)
        have m6_ := Aside0.mk (blk_below Bgx.out hb)
        have m7_ := Aside0.mk (hbox)
        have m8_ := Aside0.mk (below_step HB.out hb)
        have m9_ := Aside0.mk ((by rw [hg]; exact blk_lt Bgx.out : gx < gg))
        have m10_ := Aside0.mk ((by rw [hg]; exact Rg.le Fg.out : hig ≤ gg))
        have m11_ := Aside0.mk ((by rw [hg]; exact below_size HB.out : w.heap.size ≤ gg))
        clear Fw Fx Fg Bga Bge Bgw Bgx HB
        have Fw := m0_
        have Fx := m1_
        have Fg := m2_
        have Bga := m3_
        have Bge := m4_
        have Bgw := m5_
        have Bgx := m6_
        have Bgg := m7_
        have HB := m8_
        have Ogx_gg := m9_
        have Og_gg := m10_
        have OWgg := m11_
        clear m0_ m1_ m2_ m3_ m4_ m5_ m6_ m7_ m8_ m9_ m10_ m11_
        clear hg hbox hb
        refine hK.out _ _ ⟨(blk_cell Bga.out 0).trans rfl, (blk_cell Bga.out 1).trans rfl, (blk_cell Bge.out 0).trans rfl, (blk_cell Bge.out 1).trans rfl, (blk_cell Bgw.out 0).trans rfl, (blk_cell Bgw.out 1).trans rfl, (blk_cell Bgx.out 0).trans rfl, (blk_cell Bgx.out 1).trans rfl⟩ (fun hHeld => ?_)
        clear hK K
        refine norm_ (a' := ?_) ?_ ?_
        rotate_left
        · show Act.put _ (some 9) _ = _
          simp only [Act.put, List.setIfInBounds_toArray, List.set_cons_zero, List.set_cons_succ, i64_w, i32_w]
          rfl
        exact norm_ (by simp only [putAll, Act.put, List.setIfInBounds_toArray, List.set_cons_zero, List.set_cons_succ]) (hCont (Ag, cg, log, hig, gg) _ ⟨⟨(blk_cell Bga.out 0).trans rfl, (blk_cell Bga.out 1).trans rfl, (blk_cell Bge.out 0).trans rfl, (blk_cell Bge.out 1).trans rfl, (blk_cell Bgw.out 0).trans rfl, (blk_cell Bgw.out 1).trans rfl, (blk_cell Bgx.out 0).trans rfl, (blk_cell Bgx.out 1).trans rfl⟩, Fw.out, Fx.out, Bga.out, Bge.out, Bgw.out, Bgx.out, Fg.out, Bgg.out, (by (try dsimp only); have := OWga.out; have := Oga_ge.out; have := OWge.out; have := OWw.out; have := Ow.out; have := OWgw.out; have := Oge_w.out; have := Oge_gw.out; have := Pw_gw.out; have := Ow_x.out; have := Ogw_x.out; have := Ox.out; have := OWx.out; have := Ox_gx.out; have := OWgx.out; have := Ogx_g.out; have := Og.out; have := OWg.out; have := Ogx_gg.out; have := Og_gg.out; have := OWgg.out; omega), (by (try dsimp only); have := OWga.out; have := Oga_ge.out; have := OWge.out; have := OWw.out; have := Ow.out; have := OWgw.out; have := Oge_w.out; have := Oge_gw.out; have := Pw_gw.out; have := Ow_x.out; have := Ogw_x.out; have := Ox.out; have := OWx.out; have := Ox_gx.out; have := OWgx.out; have := Ogx_g.out; have := Og.out; have := OWg.out; have := Ogx_gg.out; have := Og_gg.out; have := OWgg.out; omega), (by (try dsimp only); have := OWga.out; have := Oga_ge.out; have := OWge.out; have := OWw.out; have := Ow.out; have := OWgw.out; have := Oge_w.out; have := Oge_gw.out; have := Pw_gw.out; have := Ow_x.out; have := Ogw_x.out; have := Ox.out; have := OWx.out; have := Ox_gx.out; have := OWgx.out; have := Ogx_g.out; have := Og.out; have := OWg.out; have := Ogx_gg.out; have := Og_gg.out; have := OWgg.out; omega), (by (try dsimp only); have := OWga.out; have := Oga_ge.out; have := OWge.out; have := OWw.out; have := Ow.out; have := OWgw.out; have := Oge_w.out; have := Oge_gw.out; have := Pw_gw.out; have := Ow_x.out; have := Ogw_x.out; have := Ox.out; have := OWx.out; have := Ox_gx.out; have := OWgx.out; have := Ogx_g.out; have := Og.out; have := OWg.out; have := Ogx_gg.out; have := Og_gg.out; have := OWgg.out; omega), (by (try dsimp only); have := OWga.out; have := Oga_ge.out; have := OWge.out; have := OWw.out; have := Ow.out; have := OWgw.out; have := Oge_w.out; have := Oge_gw.out; have := Pw_gw.out; have := Ow_x.out; have := Ogw_x.out; have := Ox.out; have := OWx.out; have := Ox_gx.out; have := OWgx.out; have := Ogx_g.out; have := Og.out; have := OWg.out; have := Ogx_gg.out; have := Og_gg.out; have := OWgg.out; omega), (by (try dsimp only); have := OWga.out; have := Oga_ge.out; have := OWge.out; have := OWw.out; have := Ow.out; have := OWgw.out; have := Oge_w.out; have := Oge_gw.out; have := Pw_gw.out; have := Ow_x.out; have := Ogw_x.out; have := Ox.out; have := OWx.out; have := Ox_gx.out; have := OWgx.out; have := Ogx_g.out; have := Og.out; have := OWg.out; have := Ogx_gg.out; have := Og_gg.out; have := OWgg.out; omega), HB.out⟩)
      · skip
        refine box_step ?hg (N := 9) ?hd (cs := #[.int .i64 0, .slice none 0 0]) (t := 39) ?hr ?_; (case hd => rfl); (case hg => rfl); (case hr => first | (go_simp; done) | (go_simp; rfl))
        intro gg hg y27 hbox hb
        have m0_ := Aside0.mk (Ng.below Fw.out hb)
        have m1_ := Aside0.mk (Rg.below Fx.out hb)
        have m2_ := Aside0.mk (blk_below Bga.out hb)
        have m3_ := Aside0.mk (blk_below Bge.out hb)
        have m4_ := Aside0.mk (blk_below Bgw.out hb)
        have m5_ := Aside0.mk (blk_below Bgx.out hb)
        have m6_ := Aside0.mk (hbox)
        have m7_ := Aside0.mk (below_step HB.out hb)
        have m8_ := Aside0.mk ((by rw [hg]; exact blk_lt Bgx.out : gx < gg))
        have m9_ := Aside0.mk ((by rw [hg]; exact below_size HB.out : w.heap.size ≤ gg))
        clear Fw Fx Bga Bge Bgw Bgx HB
        have Fw := m0_
        have Fx := m1_
        have Bga := m2_
        have Bge := m3_
        have Bgw := m4_
        have Bgx := m5_
        have Bgg := m6_
        have HB := m7_
        have Ogx_gg := m8_
        have OWgg := m9_
        clear m0_ m1_ m2_ m3_ m4_ m5_ m6_ m7_ m8_ m9_
        clear hg hbox hb
        refine hK.out _ _ ⟨(blk_cell Bga.out 0).trans rfl, (blk_cell Bga.out 1).trans rfl, (blk_cell Bge.out 0).trans rfl, (blk_cell Bge.out 1).trans rfl, (blk_cell Bgw.out 0).trans rfl, (blk_cell Bgw.out 1).trans rfl, (blk_cell Bgx.out 0).trans rfl, (blk_cell Bgx.out 1).trans rfl⟩ (fun hHeld => ?_)
        clear hK K
        refine norm_ (a' := ?_) ?_ ?_
        rotate_left
        · show Act.put _ (some 9) _ = _
          simp only [Act.put, List.setIfInBounds_toArray, List.set_cons_zero, List.set_cons_succ, i64_w, i32_w]
          rfl
        refine one_ (i := 3) (N := some 35) #[true, true, true, true, false, false, false, true, false, false] rfl rfl (one_of HT_.out (by kernel_rfl)) (by decide) (fun K hK => ?_)
        refine goes_ Try.func31 (by kernel_rfl) rfl #[.agg #[.int .i64 n, .slice Ax L.length cx], .agg #[.int .i64 M, .int .i64 O]] (by rfl) rfl rfl (by (try simp only [List.map_toArray, List.map_cons, List.map_nil]); first | done | rfl) ?_
        with_reducible refine (impl_Link.callsS k n _ _ L M O m0 R b _ Fx.out.C Fx.out.cap hi).mono ?_
        rintro e y28 ⟨v_, rfl, ho, hb⟩
        refine ⟨_, rfl, ?_⟩
        obtain ⟨log, hig, hlo_, hle_, hhi_, hrg_⟩ := Rg.born (b := w.heap.size) ho hb (below_size HB.out)
        obtain ⟨Ag, cg, rfl⟩ := hrg_.slice
        have m0_ := Aside0.mk (Ng.below Fw.out hb)
        have m1_ := Aside0.mk (Rg.below Fx.out hb)
        have m2_ := Aside0.mk (blk_below Bga.out hb)
        have m3_ := Aside0.mk (blk_below Bge.out hb)
        have m4_ := Aside0.mk (blk_below Bgw.out hb)
        have m5_ := Aside0.mk (blk_below Bgx.out hb)
        have m6_ := Aside0.mk (blk_below Bgg.out hb)
        have m7_ := Aside0.mk (hrg_)
        have m8_ := Aside0.mk (below_step HB.out hb)
        have m9_ := Aside0.mk ((by rw [hlo_]; exact blk_lt Bgx.out : gx < log))
        have m10_ := Aside0.mk ((by rw [hlo_]; exact blk_lt Bgg.out : gg < log))
        have m11_ := Aside0.mk ((hle_ : log ≤ hig))
        have m12_ := Aside0.mk ((by rw [hlo_]; exact below_size HB.out : w.heap.size ≤ log))
        clear Fw Fx Bga Bge Bgw Bgx Bgg HB
        have Fw := m0_
        have Fx := m1_
        have Bga := m2_
        have Bge := m3_
        have Bgw := m4_
        have Bgx := m5_
        have Bgg := m6_
        have Fg := m7_
        have HB := m8_
        have Ogx_g := m9_
        have Ogg_g := m10_
        have Og := m11_
        have OWg := m12_
        clear m0_ m1_ m2_ m3_ m4_ m5_ m6_ m7_ m8_ m9_ m10_ m11_ m12_
        clear ho hb hrg_ hlo_ hle_ hhi_
        refine hK.out _ _ ⟨(blk_cell Bga.out 0).trans rfl, (blk_cell Bga.out 1).trans rfl, (blk_cell Bge.out 0).trans rfl, (blk_cell Bge.out 1).trans rfl, (blk_cell Bgw.out 0).trans rfl, (blk_cell Bgw.out 1).trans rfl, (blk_cell Bgx.out 0).trans rfl, (blk_cell Bgx.out 1).trans rfl⟩ (fun hHeld => ?_)
        clear hK K
        refine norm_ (a' := ?_) ?_ ?_
        rotate_left
        · show Act.put _ (some 35) _ = _
          simp only [Act.put, List.setIfInBounds_toArray, List.set_cons_zero, List.set_cons_succ, i64_w, i32_w]
          rfl
        refine pure_ (i := 4) (N := some 31) (v := ?_) (a' := ?_) #[true, true, true, true, true, false, false, true, false, false] rfl rfl (any_of HT_.out (by kernel_rfl)) (fun _ _ _ h => h) (Or.inl ⟨by rfl, ?_⟩) ?_ ?_
        rotate_left
        · intro w_
          go_simp
          with_reducible rfl
        rotate_left
        · simp only [Act.put, List.setIfInBounds_toArray, List.set_cons_zero, List.set_cons_succ, i64_w, i32_w]
          rfl
        refine pure_ (i := 5) (N := some 36) (v := ?_) (a' := ?_) #[true, true, true, true, true, true, false, true, false, false] rfl rfl (any_of HT_.out (by kernel_rfl)) (fun _ _ _ h => h) (Or.inl ⟨by rfl, ?_⟩) ?_ ?_
        rotate_left
        · intro w_
          go_simp
          with_reducible rfl
        rotate_left
        · simp only [Act.put, List.setIfInBounds_toArray, List.set_cons_zero, List.set_cons_succ, i64_w, i32_w]
          rfl
        refine pure_ (i := 6) (N := some 37) (v := ?_) (a' := ?_) #[true, true, true, true, true, true, true, true, false, false] rfl rfl (any_of HT_.out (by kernel_rfl)) (fun _ _ _ h => h) (Or.inl ⟨by rfl, ?_⟩) ?_ ?_
        rotate_left
        · intro w_
          go_simp
          with_reducible rfl
        rotate_left
        · simp only [Act.put, List.setIfInBounds_toArray, List.set_cons_zero, List.set_cons_succ, i64_w, i32_w]
          rfl
        exact norm_ (by simp only [putAll, Act.put, List.setIfInBounds_toArray, List.set_cons_zero, List.set_cons_succ]) (hCont (Ag, cg, log, hig, gg) _ ⟨⟨(blk_cell Bga.out 0).trans rfl, (blk_cell Bga.out 1).trans rfl, (blk_cell Bge.out 0).trans rfl, (blk_cell Bge.out 1).trans rfl, (blk_cell Bgw.out 0).trans rfl, (blk_cell Bgw.out 1).trans rfl, (blk_cell Bgx.out 0).trans rfl, (blk_cell Bgx.out 1).trans rfl⟩, Fw.out, Fx.out, Bga.out, Bge.out, Bgw.out, Bgx.out, Fg.out, Bgg.out, (by (try dsimp only); have := OWga.out; have := Oga_ge.out; have := OWge.out; have := OWw.out; have := Ow.out; have := OWgw.out; have := Oge_w.out; have := Oge_gw.out; have := Pw_gw.out; have := Ow_x.out; have := Ogw_x.out; have := Ox.out; have := OWx.out; have := Ox_gx.out; have := OWgx.out; have := Ogx_gg.out; have := OWgg.out; have := Ogx_g.out; have := Ogg_g.out; have := Og.out; have := OWg.out; omega), (by (try dsimp only); have := OWga.out; have := Oga_ge.out; have := OWge.out; have := OWw.out; have := Ow.out; have := OWgw.out; have := Oge_w.out; have := Oge_gw.out; have := Pw_gw.out; have := Ow_x.out; have := Ogw_x.out; have := Ox.out; have := OWx.out; have := Ox_gx.out; have := OWgx.out; have := Ogx_gg.out; have := OWgg.out; have := Ogx_g.out; have := Ogg_g.out; have := Og.out; have := OWg.out; omega), (by (try dsimp only); have := OWga.out; have := Oga_ge.out; have := OWge.out; have := OWw.out; have := Ow.out; have := OWgw.out; have := Oge_w.out; have := Oge_gw.out; have := Pw_gw.out; have := Ow_x.out; have := Ogw_x.out; have := Ox.out; have := OWx.out; have := Ox_gx.out; have := OWgx.out; have := Ogx_gg.out; have := OWgg.out; have := Ogx_g.out; have := Ogg_g.out; have := Og.out; have := OWg.out; omega), (by (try dsimp only); have := OWga.out; have := Oga_ge.out; have := OWge.out; have := OWw.out; have := Ow.out; have := OWgw.out; have := Oge_w.out; have := Oge_gw.out; have := Pw_gw.out; have := Ow_x.out; have := Ogw_x.out; have := Ox.out; have := OWx.out; have := Ox_gx.out; have := OWgx.out; have := Ogx_gg.out; have := OWgg.out; have := Ogx_g.out; have := Ogg_g.out; have := Og.out; have := OWg.out; omega), (by (try dsimp only); have := OWga.out; have := Oga_ge.out; have := OWge.out; have := OWw.out; have := Ow.out; have := OWgw.out; have := Oge_w.out; have := Oge_gw.out; have := Pw_gw.out; have := Ow_x.out; have := Ogw_x.out; have := Ox.out; have := OWx.out; have := Ox_gx.out; have := OWgx.out; have := Ogx_gg.out; have := OWgg.out; have := Ogx_g.out; have := Ogg_g.out; have := Og.out; have := OWg.out; omega), (by (try dsimp only); have := OWga.out; have := Oga_ge.out; have := OWge.out; have := OWw.out; have := Ow.out; have := OWgw.out; have := Oge_w.out; have := Oge_gw.out; have := Pw_gw.out; have := Ow_x.out; have := Ogw_x.out; have := Ox.out; have := OWx.out; have := Ox_gx.out; have := OWgx.out; have := Ogx_gg.out; have := OWgg.out; have := Ogx_g.out; have := Ogg_g.out; have := Og.out; have := OWg.out; omega), HB.out⟩)
    · skip
      refine box_step ?hg (N := 9) ?hd (cs := #[.int .i64 0, .slice none 0 0]) (t := 39) ?hr ?_; (case hd => rfl); (case hg => rfl); (case hr => first | (go_simp; done) | (go_simp; rfl))
      intro gg hg y29 hbox hb
      have m0_ := Aside0.mk (Ng.below Fw.out hb)
      have m1_ := Aside0.mk (Rg.below Fx.out hb)
      have m2_ := Aside0.mk (blk_below Bga.out hb)
      have m3_ := Aside0.mk (blk_below Bge.out hb)
      have m4_ := Aside0.mk (blk_below Bgw.out hb)
      have m5_ := Aside0.mk (blk_below Bgx.out hb)
      have m6_ := Aside0.mk (hbox)
      have m7_ := Aside0.mk (below_step HB.out hb)
      have m8_ := Aside0.mk ((by rw [hg]; exact blk_lt Bgx.out : gx < gg))
      have m9_ := Aside0.mk ((by rw [hg]; exact below_size HB.out : w.heap.size ≤ gg))
      clear Fw Fx Bga Bge Bgw Bgx HB
      have Fw := m0_
      have Fx := m1_
      have Bga := m2_
      have Bge := m3_
      have Bgw := m4_
      have Bgx := m5_
      have Bgg := m6_
      have HB := m7_
      have Ogx_gg := m8_
      have OWgg := m9_
      clear m0_ m1_ m2_ m3_ m4_ m5_ m6_ m7_ m8_ m9_
      clear hg hbox hb
      refine hK.out _ _ ⟨(blk_cell Bga.out 0).trans rfl, (blk_cell Bga.out 1).trans rfl, (blk_cell Bge.out 0).trans rfl, (blk_cell Bge.out 1).trans rfl, (blk_cell Bgw.out 0).trans rfl, (blk_cell Bgw.out 1).trans rfl, (blk_cell Bgx.out 0).trans rfl, (blk_cell Bgx.out 1).trans rfl⟩ (fun hHeld => ?_)
      clear hK K
      refine norm_ (a' := ?_) ?_ ?_
      rotate_left
      · show Act.put _ (some 9) _ = _
        simp only [Act.put, List.setIfInBounds_toArray, List.set_cons_zero, List.set_cons_succ, i64_w, i32_w]
        rfl
      refine one_ (i := 2) (N := some 34) #[true, true, true, false, false, false, false, true, false, false] rfl rfl (one_of HT_.out (by kernel_rfl)) (by decide) (fun K hK => ?_)
      refine goes_ Try.func21 (by kernel_rfl) rfl #[.agg #[.int .i64 M, .int .i64 O]] (by rfl) rfl rfl (by (try simp only [List.map_toArray, List.map_cons, List.map_nil]); first | done | rfl) ?_
      with_reducible refine (laws_toEdge.calls M O M O _ hte).mono ?_
      rintro e y30 ⟨rfl, hb⟩
      refine ⟨_, rfl, ?_⟩
      have m0_ := Aside0.mk (Ng.below Fw.out hb)
      have m1_ := Aside0.mk (Rg.below Fx.out hb)
      have m2_ := Aside0.mk (blk_below Bga.out hb)
      have m3_ := Aside0.mk (blk_below Bge.out hb)
      have m4_ := Aside0.mk (blk_below Bgw.out hb)
      have m5_ := Aside0.mk (blk_below Bgx.out hb)
      have m6_ := Aside0.mk (blk_below Bgg.out hb)
      have m7_ := Aside0.mk (below_step HB.out hb)
      clear Fw Fx Bga Bge Bgw Bgx Bgg HB
      have Fw := m0_
      have Fx := m1_
      have Bga := m2_
      have Bge := m3_
      have Bgw := m4_
      have Bgx := m5_
      have Bgg := m6_
      have HB := m7_
      clear m0_ m1_ m2_ m3_ m4_ m5_ m6_ m7_
      clear hb
      refine hK.out _ _ ⟨(blk_cell Bga.out 0).trans rfl, (blk_cell Bga.out 1).trans rfl, (blk_cell Bge.out 0).trans rfl, (blk_cell Bge.out 1).trans rfl, (blk_cell Bgw.out 0).trans rfl, (blk_cell Bgw.out 1).trans rfl, (blk_cell Bgx.out 0).trans rfl, (blk_cell Bgx.out 1).trans rfl⟩ (fun hHeld => ?_)
      clear hK K
      refine norm_ (a' := ?_) ?_ ?_
      rotate_left
      · show Act.put _ (some 34) _ = _
        simp only [Act.put, List.setIfInBounds_toArray, List.set_cons_zero, List.set_cons_succ, i64_w, i32_w]
        rfl
      refine one_ (i := 3) (N := some 35) #[true, true, true, true, false, false, false, true, false, false] rfl rfl (one_of HT_.out (by kernel_rfl)) (by decide) (fun K hK => ?_)
      refine goes_ Try.func31 (by kernel_rfl) rfl #[.agg #[.int .i64 n, .slice Ax L.length cx], .agg #[.int .i64 M, .int .i64 O]] (by rfl) rfl rfl (by (try simp only [List.map_toArray, List.map_cons, List.map_nil]); first | done | rfl) ?_
      with_reducible refine (impl_Link.callsS k n _ _ L M O m0 R b _ Fx.out.C Fx.out.cap hi).mono ?_
      rintro e y31 ⟨v_, rfl, ho, hb⟩
      refine ⟨_, rfl, ?_⟩
      obtain ⟨log, hig, hlo_, hle_, hhi_, hrg_⟩ := Rg.born (b := w.heap.size) ho hb (below_size HB.out)
      obtain ⟨Ag, cg, rfl⟩ := hrg_.slice
      have m0_ := Aside0.mk (Ng.below Fw.out hb)
      have m1_ := Aside0.mk (Rg.below Fx.out hb)
      have m2_ := Aside0.mk (blk_below Bga.out hb)
      have m3_ := Aside0.mk (blk_below Bge.out hb)
      have m4_ := Aside0.mk (blk_below Bgw.out hb)
      have m5_ := Aside0.mk (blk_below Bgx.out hb)
      have m6_ := Aside0.mk (blk_below Bgg.out hb)
      have m7_ := Aside0.mk (hrg_)
      have m8_ := Aside0.mk (below_step HB.out hb)
      have m9_ := Aside0.mk ((by rw [hlo_]; exact blk_lt Bgx.out : gx < log))
      have m10_ := Aside0.mk ((by rw [hlo_]; exact blk_lt Bgg.out : gg < log))
      have m11_ := Aside0.mk ((hle_ : log ≤ hig))
      have m12_ := Aside0.mk ((by rw [hlo_]; exact below_size HB.out : w.heap.size ≤ log))
      clear Fw Fx Bga Bge Bgw Bgx Bgg HB
      have Fw := m0_
      have Fx := m1_
      have Bga := m2_
      have Bge := m3_
      have Bgw := m4_
      have Bgx := m5_
      have Bgg := m6_
      have Fg := m7_
      have HB := m8_
      have Ogx_g := m9_
      have Ogg_g := m10_
      have Og := m11_
      have OWg := m12_
      clear m0_ m1_ m2_ m3_ m4_ m5_ m6_ m7_ m8_ m9_ m10_ m11_ m12_
      clear ho hb hrg_ hlo_ hle_ hhi_
      refine hK.out _ _ ⟨(blk_cell Bga.out 0).trans rfl, (blk_cell Bga.out 1).trans rfl, (blk_cell Bge.out 0).trans rfl, (blk_cell Bge.out 1).trans rfl, (blk_cell Bgw.out 0).trans rfl, (blk_cell Bgw.out 1).trans rfl, (blk_cell Bgx.out 0).trans rfl, (blk_cell Bgx.out 1).trans rfl⟩ (fun hHeld => ?_)
      clear hK K
      refine norm_ (a' := ?_) ?_ ?_
      rotate_left
      · show Act.put _ (some 35) _ = _
        simp only [Act.put, List.setIfInBounds_toArray, List.set_cons_zero, List.set_cons_succ, i64_w, i32_w]
        rfl
      refine pure_ (i := 4) (N := some 31) (v := ?_) (a' := ?_) #[true, true, true, true, true, false, false, true, false, false] rfl rfl (any_of HT_.out (by kernel_rfl)) (fun _ _ _ h => h) (Or.inl ⟨by rfl, ?_⟩) ?_ ?_
      rotate_left
      · intro w_
        go_simp
        with_reducible rfl
      rotate_left
      · simp only [Act.put, List.setIfInBounds_toArray, List.set_cons_zero, List.set_cons_succ, i64_w, i32_w]
        rfl
      refine pure_ (i := 5) (N := some 36) (v := ?_) (a' := ?_) #[true, true, true, true, true, true, false, true, false, false] rfl rfl (any_of HT_.out (by kernel_rfl)) (fun _ _ _ h => h) (Or.inl ⟨by rfl, ?_⟩) ?_ ?_
      rotate_left
      · intro w_
        go_simp
        with_reducible rfl
      rotate_left
      · simp only [Act.put, List.setIfInBounds_toArray, List.set_cons_zero, List.set_cons_succ, i64_w, i32_w]
        rfl
      refine pure_ (i := 6) (N := some 37) (v := ?_) (a' := ?_) #[true, true, true, true, true, true, true, true, false, false] rfl rfl (any_of HT_.out (by kernel_rfl)) (fun _ _ _ h => h) (Or.inl ⟨by rfl, ?_⟩) ?_ ?_
      rotate_left
      · intro w_
        go_simp
        with_reducible rfl
      rotate_left
      · simp only [Act.put, List.setIfInBounds_toArray, List.set_cons_zero, List.set_cons_succ, i64_w, i32_w]
        rfl
      exact norm_ (by simp only [putAll, Act.put, List.setIfInBounds_toArray, List.set_cons_zero, List.set_cons_succ]) (hCont (Ag, cg, log, hig, gg) _ ⟨⟨(blk_cell Bga.out 0).trans rfl, (blk_cell Bga.out 1).trans rfl, (blk_cell Bge.out 0).trans rfl, (blk_cell Bge.out 1).trans rfl, (blk_cell Bgw.out 0).trans rfl, (blk_cell Bgw.out 1).trans rfl, (blk_cell Bgx.out 0).trans rfl, (blk_cell Bgx.out 1).trans rfl⟩, Fw.out, Fx.out, Bga.out, Bge.out, Bgw.out, Bgx.out, Fg.out, Bgg.out, (by (try dsimp only); have := OWga.out; have := Oga_ge.out; have := OWge.out; have := OWw.out; have := Ow.out; have := OWgw.out; have := Oge_w.out; have := Oge_gw.out; have := Pw_gw.out; have := Ow_x.out; have := Ogw_x.out; have := Ox.out; have := OWx.out; have := Ox_gx.out; have := OWgx.out; have := Ogx_gg.out; have := OWgg.out; have := Ogx_g.out; have := Ogg_g.out; have := Og.out; have := OWg.out; omega), (by (try dsimp only); have := OWga.out; have := Oga_ge.out; have := OWge.out; have := OWw.out; have := Ow.out; have := OWgw.out; have := Oge_w.out; have := Oge_gw.out; have := Pw_gw.out; have := Ow_x.out; have := Ogw_x.out; have := Ox.out; have := OWx.out; have := Ox_gx.out; have := OWgx.out; have := Ogx_gg.out; have := OWgg.out; have := Ogx_g.out; have := Ogg_g.out; have := Og.out; have := OWg.out; omega), (by (try dsimp only); have := OWga.out; have := Oga_ge.out; have := OWge.out; have := OWw.out; have := Ow.out; have := OWgw.out; have := Oge_w.out; have := Oge_gw.out; have := Pw_gw.out; have := Ow_x.out; have := Ogw_x.out; have := Ox.out; have := OWx.out; have := Ox_gx.out; have := OWgx.out; have := Ogx_gg.out; have := OWgg.out; have := Ogx_g.out; have := Ogg_g.out; have := Og.out; have := OWg.out; omega), (by (try dsimp only); have := OWga.out; have := Oga_ge.out; have := OWge.out; have := OWw.out; have := Ow.out; have := OWgw.out; have := Oge_w.out; have := Oge_gw.out; have := Pw_gw.out; have := Ow_x.out; have := Ogw_x.out; have := Ox.out; have := OWx.out; have := Ox_gx.out; have := OWgx.out; have := Ogx_gg.out; have := OWgg.out; have := Ogx_g.out; have := Ogg_g.out; have := Og.out; have := OWg.out; omega), (by (try dsimp only); have := OWga.out; have := Oga_ge.out; have := OWge.out; have := OWw.out; have := Ow.out; have := OWgw.out; have := Oge_w.out; have := Oge_gw.out; have := Pw_gw.out; have := Ow_x.out; have := Ogw_x.out; have := Ox.out; have := OWx.out; have := Ox_gx.out; have := OWgx.out; have := Ogx_gg.out; have := OWgg.out; have := Ogx_g.out; have := Ogg_g.out; have := Og.out; have := OWg.out; omega), (by (try dsimp only); have := OWga.out; have := Oga_ge.out; have := OWge.out; have := OWw.out; have := Ow.out; have := OWgw.out; have := Oge_w.out; have := Oge_gw.out; have := Pw_gw.out; have := Ow_x.out; have := Ogw_x.out; have := Ox.out; have := OWx.out; have := Ox_gx.out; have := OWgx.out; have := Ogx_gg.out; have := OWgg.out; have := Ogx_g.out; have := Ogg_g.out; have := Og.out; have := OWg.out; omega), HB.out⟩)
  rintro ⟨Ag, cg, log, hig, gg⟩ y32 ⟨hHeld_, h0_, h1_, h2_, h3_, h4_, h5_, h6_, h7_, h8_, h9_, h10_, h11_, h12_, h13_, h14_⟩
  clear HB hHeld Fw Fx Bga Bge Bgw Bgx
  have Fw : Aside0 (Ng w.heap.size y32 low hiw (.slice Aw R.length cw) R) := ⟨h0_⟩
  have Fx : Aside0 (Rg w.heap.size y32 lox hix (.slice Ax L.length cx) L) := ⟨h1_⟩
  have Bga : Aside0 (y32.heap[ga]? = some (.cells #[.int .i64 n, .slice A0 L.length c0] 35 (0, 0))) := ⟨h2_⟩
  have Bge : Aside0 (y32.heap[ge]? = some (.cells #[.int .i64 M, .int .i64 O] 37 (0, 0))) := ⟨h3_⟩
  have Bgw : Aside0 (y32.heap[gw]? = some (.cells #[.int .i64 m0, .slice Aw R.length cw] 39 (0, 0))) := ⟨h4_⟩
  have Bgx : Aside0 (y32.heap[gx]? = some (.cells #[.int .i64 n, .slice Ax L.length cx] 39 (0, 0))) := ⟨h5_⟩
  have Fg : Aside0 (Rg w.heap.size y32 log hig (.slice Ag R.length cg) R) := ⟨h6_⟩
  have Bgg : Aside0 (y32.heap[gg]? = some (.cells #[.int .i64 0, .slice none 0 0] 39 (0, 0))) := ⟨h7_⟩
  have OWg : Aside0 (w.heap.size ≤ log) := ⟨h8_⟩
  have Og : Aside0 (log ≤ hig) := ⟨h9_⟩
  have OWgg : Aside0 (w.heap.size ≤ gg) := ⟨h10_⟩
  have Ogx_g : Aside0 (gx < log) := ⟨h11_⟩
  have Ogx_gg : Aside0 (gx < gg) := ⟨h12_⟩
  have Pg_gg : Aside0 (gg < log ∨ hig ≤ gg) := ⟨h13_⟩
  have HB : Aside0 (Below w.heap.size w y32) := ⟨h14_⟩
  clear h0_ h1_ h2_ h3_ h4_ h5_ h6_ h7_ h8_ h9_ h10_ h11_ h12_ h13_ h14_
  have hHeld : y32.cell? ⟨ga, 0, none⟩ = some (.int .i64 n) ∧ y32.cell? ⟨ga, 1, none⟩ = some (.slice A0 L.length c0) ∧ y32.cell? ⟨ge, 0, none⟩ = some (.int .i64 M) ∧ y32.cell? ⟨ge, 1, none⟩ = some (.int .i64 O) ∧ y32.cell? ⟨gw, 0, none⟩ = some (.int .i64 m0) ∧ y32.cell? ⟨gw, 1, none⟩ = some (.slice Aw R.length cw) ∧ y32.cell? ⟨gx, 0, none⟩ = some (.int .i64 n) ∧ y32.cell? ⟨gx, 1, none⟩ = some (.slice Ax L.length cx) := hHeld_
  clear hHeld_
  refine norm_ (a' := ?_) ?_ ?_
  rotate_left
  · simp only [putAll, Act.put, List.setIfInBounds_toArray, List.set_cons_zero, List.set_cons_succ]
    rfl
  refine one_ (i := 8) (N := none) #[true, true, true, true, true, true, true, true, true, false] rfl rfl (one_of HT_.out (by kernel_rfl)) (by decide) (fun K hK => ?_)
  have cs0_ : y32.cell? ⟨gg, 0, none⟩ = some (.int .i64 0) := (blk_cell Bgg.out 0).trans rfl
  have fs0_ := blk_frozen Bgg.out 0
  have cs1_ : y32.cell? ⟨gg, 1, none⟩ = some (.slice none 0 0) := (blk_cell Bgg.out 1).trans rfl
  have fs1_ := blk_frozen Bgg.out 1
  refine skip_ (w1 := ((y32.setCell ⟨gg, 0, none⟩ (.int .i64 m0)).setCell ⟨gg, 1, none⟩ (.slice Ag R.length cg))) (by rfl) rfl ?_ ?_
  · first | (go_simp; done) | (go_simp; rfl)
  obtain ⟨y33, hw⟩ : ∃ y33, y33 = ((y32.setCell ⟨gg, 0, none⟩ (.int .i64 m0)).setCell ⟨gg, 1, none⟩ (.slice Ag R.length cg)) := ⟨_, rfl⟩
  rw [← hw]
  have hk := set2_kept hw
  have m0_ := Aside0.mk (Ng.kept Fw.out hk (by intro k_ h1_ h2_ h3_; have := OWga.out; have := Oga_ge.out; have := OWge.out; have := OWw.out; have := Ow.out; have := OWgw.out; have := Oge_w.out; have := Oge_gw.out; have := Pw_gw.out; have := Ow_x.out; have := Ogw_x.out; have := Ox.out; have := OWx.out; have := Ox_gx.out; have := OWgx.out; have := OWg.out; have := Og.out; have := OWgg.out; have := Ogx_g.out; have := Ogx_gg.out; have := Pg_gg.out; omega))
  have m1_ := Aside0.mk (Rg.kept Fx.out hk (by intro k_ h1_ h2_ h3_; have := OWga.out; have := Oga_ge.out; have := OWge.out; have := OWw.out; have := Ow.out; have := OWgw.out; have := Oge_w.out; have := Oge_gw.out; have := Pw_gw.out; have := Ow_x.out; have := Ogw_x.out; have := Ox.out; have := OWx.out; have := Ox_gx.out; have := OWgx.out; have := OWg.out; have := Og.out; have := OWgg.out; have := Ogx_g.out; have := Ogx_gg.out; have := Pg_gg.out; omega))
  have m2_ := Aside0.mk (Rg.kept Fg.out hk (by intro k_ h1_ h2_ h3_; have := OWga.out; have := Oga_ge.out; have := OWge.out; have := OWw.out; have := Ow.out; have := OWgw.out; have := Oge_w.out; have := Oge_gw.out; have := Pw_gw.out; have := Ow_x.out; have := Ogw_x.out; have := Ox.out; have := OWx.out; have := Ox_gx.out; have := OWgx.out; have := OWg.out; have := Og.out; have := OWgg.out; have := Ogx_g.out; have := Ogx_gg.out; have := Pg_gg.out; omega))
  have m3_ := Aside0.mk (blk_kept Bga.out hk (by intro h3_; have := OWga.out; have := Oga_ge.out; have := OWge.out; have := OWw.out; have := Ow.out; have := OWgw.out; have := Oge_w.out; have := Oge_gw.out; have := Pw_gw.out; have := Ow_x.out; have := Ogw_x.out; have := Ox.out; have := OWx.out; have := Ox_gx.out; have := OWgx.out; have := OWg.out; have := Og.out; have := OWgg.out; have := Ogx_g.out; have := Ogx_gg.out; have := Pg_gg.out; omega))
  have m4_ := Aside0.mk (blk_kept Bge.out hk (by intro h3_; have := OWga.out; have := Oga_ge.out; have := OWge.out; have := OWw.out; have := Ow.out; have := OWgw.out; have := Oge_w.out; have := Oge_gw.out; have := Pw_gw.out; have := Ow_x.out; have := Ogw_x.out; have := Ox.out; have := OWx.out; have := Ox_gx.out; have := OWgx.out; have := OWg.out; have := Og.out; have := OWgg.out; have := Ogx_g.out; have := Ogx_gg.out; have := Pg_gg.out; omega))
  have m5_ := Aside0.mk (blk_kept Bgw.out hk (by intro h3_; have := OWga.out; have := Oga_ge.out; have := OWge.out; have := OWw.out; have := Ow.out; have := OWgw.out; have := Oge_w.out; have := Oge_gw.out; have := Pw_gw.out; have := Ow_x.out; have := Ogw_x.out; have := Ox.out; have := OWx.out; have := Ox_gx.out; have := OWgx.out; have := OWg.out; have := Og.out; have := OWgg.out; have := Ogx_g.out; have := Ogx_gg.out; have := Pg_gg.out; omega))
  have m6_ := Aside0.mk (blk_kept Bgx.out hk (by intro h3_; have := OWga.out; have := Oga_ge.out; have := OWge.out; have := OWw.out; have := Ow.out; have := OWgw.out; have := Oge_w.out; have := Oge_gw.out; have := Pw_gw.out; have := Ow_x.out; have := Ogw_x.out; have := Ox.out; have := OWx.out; have := Ox_gx.out; have := OWgx.out; have := OWg.out; have := Og.out; have := OWgg.out; have := Ogx_g.out; have := Ogx_gg.out; have := Pg_gg.out; omega))
  have m7_ := Aside0.mk (set2_blk hw Bgg.out)
  have m8_ := Aside0.mk ((by rw [hw]; exact below_set (below_set HB.out OWgg.out) OWgg.out : Below w.heap.size w y33))
  clear Fw Fx Fg Bga Bge Bgw Bgx Bgg HB
  have Fw := m0_
  have Fx := m1_
  have Fg := m2_
  have Bga := m3_
  have Bge := m4_
  have Bgw := m5_
  have Bgx := m6_
  have Bgg := m7_
  have HB := m8_
  clear m0_ m1_ m2_ m3_ m4_ m5_ m6_ m7_ m8_
  clear hw hk cs0_ fs0_ cs1_ fs1_
  refine hK.out _ _ ⟨(blk_cell Bga.out 0).trans rfl, (blk_cell Bga.out 1).trans rfl, (blk_cell Bge.out 0).trans rfl, (blk_cell Bge.out 1).trans rfl, (blk_cell Bgw.out 0).trans rfl, (blk_cell Bgw.out 1).trans rfl, (blk_cell Bgx.out 0).trans rfl, (blk_cell Bgx.out 1).trans rfl⟩ (fun hHeld => ?_)
  clear hK K
  refine pure_ (i := 9) (N := some 10) (v := ?_) (a' := ?_) #[true, true, true, true, true, true, true, true, true, true] rfl rfl (any_of HT_.out (by kernel_rfl)) (fun _ _ _ h => h) (Or.inl ⟨by rfl, ?_⟩) ?_ ?_
  rotate_left
  · intro w_
    go_simp
    with_reducible rfl
  rotate_left
  · simp only [Act.put, List.setIfInBounds_toArray, List.set_cons_zero, List.set_cons_succ, i64_w, i32_w]
    rfl
  refine done_ (done_of HT_.out (by kernel_rfl)) ?_
  have czga_0 : y33.cell? ⟨ga, 0, none⟩ = some (.int .i64 n) := (blk_cell Bga.out 0).trans rfl
  have fzga_0 := blk_frozen Bga.out 0
  have czga_1 : y33.cell? ⟨ga, 1, none⟩ = some (.slice A0 L.length c0) := (blk_cell Bga.out 1).trans rfl
  have fzga_1 := blk_frozen Bga.out 1
  have czge_0 : y33.cell? ⟨ge, 0, none⟩ = some (.int .i64 M) := (blk_cell Bge.out 0).trans rfl
  have fzge_0 := blk_frozen Bge.out 0
  have czge_1 : y33.cell? ⟨ge, 1, none⟩ = some (.int .i64 O) := (blk_cell Bge.out 1).trans rfl
  have fzge_1 := blk_frozen Bge.out 1
  have czgw_0 : y33.cell? ⟨gw, 0, none⟩ = some (.int .i64 m0) := (blk_cell Bgw.out 0).trans rfl
  have fzgw_0 := blk_frozen Bgw.out 0
  have czgw_1 : y33.cell? ⟨gw, 1, none⟩ = some (.slice Aw R.length cw) := (blk_cell Bgw.out 1).trans rfl
  have fzgw_1 := blk_frozen Bgw.out 1
  have czgx_0 : y33.cell? ⟨gx, 0, none⟩ = some (.int .i64 n) := (blk_cell Bgx.out 0).trans rfl
  have fzgx_0 := blk_frozen Bgx.out 0
  have czgx_1 : y33.cell? ⟨gx, 1, none⟩ = some (.slice Ax L.length cx) := (blk_cell Bgx.out 1).trans rfl
  have fzgx_1 := blk_frozen Bgx.out 1
  have czgg_0 : y33.cell? ⟨gg, 0, none⟩ = some (.int .i64 m0) := (blk_cell Bgg.out 0).trans rfl
  have fzgg_0 := blk_frozen Bgg.out 0
  have czgg_1 : y33.cell? ⟨gg, 1, none⟩ = some (.slice Ag R.length cg) := (blk_cell Bgg.out 1).trans rfl
  have fzgg_1 := blk_frozen Bgg.out 1
  try go_wp2_with (first
    | ((with_reducible refine gate_callee (f := 23) rfl ?_); refine goesL_ (some 40) rfl rfl Try.func23 (by kernel_rfl) rfl #[.agg #[.int .i64 m0, .slice Ag R.length cg], .agg #[.int .i64 m0, .slice Aw R.length cw]] rfl (by (try simp only [List.map_toArray, List.map_cons, List.map_nil]); first | done | rfl) ?_; (with_reducible refine (laws_eqForest.calls k m0 _ _ R m0 _ _ R true _ Fg.out.C Fg.out.cap Fw.out.C Fw.out.cap he).mono ?_); rintro e y34 ⟨rfl, hb⟩; refine ⟨_, rfl, ?_⟩; have m0_ := Aside0.mk (Ng.below Fw.out hb); have m1_ := Aside0.mk (Rg.below Fx.out hb); have m2_ := Aside0.mk (Rg.below Fg.out hb); have m3_ := Aside0.mk (blk_below Bga.out hb); have m4_ := Aside0.mk (blk_below Bge.out hb); have m5_ := Aside0.mk (blk_below Bgw.out hb); have m6_ := Aside0.mk (blk_below Bgx.out hb); have m7_ := Aside0.mk (blk_below Bgg.out hb); have m8_ := Aside0.mk (below_step HB.out hb); clear Fw Fx Fg Bga Bge Bgw Bgx Bgg HB czga_0 fzga_0 czga_1 fzga_1 czge_0 fzge_0 czge_1 fzge_1 czgw_0 fzgw_0 czgw_1 fzgw_1 czgx_0 fzgx_0 czgx_1 fzgx_1 czgg_0 fzgg_0 czgg_1 fzgg_1; have Fw := m0_; have Fx := m1_; have Fg := m2_; have Bga := m3_; have Bge := m4_; have Bgw := m5_; have Bgx := m6_; have Bgg := m7_; have HB := m8_; clear m0_ m1_ m2_ m3_ m4_ m5_ m6_ m7_ m8_; have czga_0 : y34.cell? ⟨ga, 0, none⟩ = some (.int .i64 n) := (blk_cell Bga.out 0).trans rfl; have fzga_0 := blk_frozen Bga.out 0; have czga_1 : y34.cell? ⟨ga, 1, none⟩ = some (.slice A0 L.length c0) := (blk_cell Bga.out 1).trans rfl; have fzga_1 := blk_frozen Bga.out 1; have czge_0 : y34.cell? ⟨ge, 0, none⟩ = some (.int .i64 M) := (blk_cell Bge.out 0).trans rfl; have fzge_0 := blk_frozen Bge.out 0; have czge_1 : y34.cell? ⟨ge, 1, none⟩ = some (.int .i64 O) := (blk_cell Bge.out 1).trans rfl; have fzge_1 := blk_frozen Bge.out 1; have czgw_0 : y34.cell? ⟨gw, 0, none⟩ = some (.int .i64 m0) := (blk_cell Bgw.out 0).trans rfl; have fzgw_0 := blk_frozen Bgw.out 0; have czgw_1 : y34.cell? ⟨gw, 1, none⟩ = some (.slice Aw R.length cw) := (blk_cell Bgw.out 1).trans rfl; have fzgw_1 := blk_frozen Bgw.out 1; have czgx_0 : y34.cell? ⟨gx, 0, none⟩ = some (.int .i64 n) := (blk_cell Bgx.out 0).trans rfl; have fzgx_0 := blk_frozen Bgx.out 0; have czgx_1 : y34.cell? ⟨gx, 1, none⟩ = some (.slice Ax L.length cx) := (blk_cell Bgx.out 1).trans rfl; have fzgx_1 := blk_frozen Bgx.out 1; have czgg_0 : y34.cell? ⟨gg, 0, none⟩ = some (.int .i64 m0) := (blk_cell Bgg.out 0).trans rfl; have fzgg_0 := blk_frozen Bgg.out 0; have czgg_1 : y34.cell? ⟨gg, 1, none⟩ = some (.slice Ag R.length cg) := (blk_cell Bgg.out 1).trans rfl; have fzgg_1 := blk_frozen Bgg.out 1; clear hb))
  have hb : Below y34.heap.size y34 y34.drew := below_drew1 (Below.refl _ _)
  have m0_ := Aside0.mk (Ng.below Fw.out hb)
  have m1_ := Aside0.mk (Rg.below Fx.out hb)
  have m2_ := Aside0.mk (Rg.below Fg.out hb)
  have m3_ := Aside0.mk (blk_below Bga.out hb)
  have m4_ := Aside0.mk (blk_below Bge.out hb)
  have m5_ := Aside0.mk (blk_below Bgw.out hb)
  have m6_ := Aside0.mk (blk_below Bgx.out hb)
  have m7_ := Aside0.mk (blk_below Bgg.out hb)
  have m8_ := Aside0.mk (below_step HB.out hb)
  clear Fw Fx Fg Bga Bge Bgw Bgx Bgg HB czga_0 fzga_0 czga_1 fzga_1 czge_0 fzge_0 czge_1 fzge_1 czgw_0 fzgw_0 czgw_1 fzgw_1 czgx_0 fzgx_0 czgx_1 fzgx_1 czgg_0 fzgg_0 czgg_1 fzgg_1
  have Fw := m0_
  have Fx := m1_
  have Fg := m2_
  have Bga := m3_
  have Bge := m4_
  have Bgw := m5_
  have Bgx := m6_
  have Bgg := m7_
  have HB := m8_
  clear hb m0_ m1_ m2_ m3_ m4_ m5_ m6_ m7_ m8_
  refine start_ (n := 5) (S := fun w_ => w_.cell? ⟨ga, 0, none⟩ = some (.int .i64 n) ∧ w_.cell? ⟨ga, 1, none⟩ = some (.slice A0 L.length c0) ∧ w_.cell? ⟨ge, 0, none⟩ = some (.int .i64 M) ∧ w_.cell? ⟨ge, 1, none⟩ = some (.int .i64 O) ∧ w_.cell? ⟨gw, 0, none⟩ = some (.int .i64 m0) ∧ w_.cell? ⟨gw, 1, none⟩ = some (.slice Aw R.length cw) ∧ w_.cell? ⟨gx, 0, none⟩ = some (.int .i64 n) ∧ w_.cell? ⟨gx, 1, none⟩ = some (.slice Ax L.length cx) ∧ w_.cell? ⟨gg, 0, none⟩ = some (.int .i64 m0) ∧ w_.cell? ⟨gg, 1, none⟩ = some (.slice Ag R.length cg)) (ds := []) #[false, false, false, false, false] (by kernel_rfl) rfl rfl ⟨(blk_cell Bga.out 0).trans rfl, (blk_cell Bga.out 1).trans rfl, (blk_cell Bge.out 0).trans rfl, (blk_cell Bge.out 1).trans rfl, (blk_cell Bgw.out 0).trans rfl, (blk_cell Bgw.out 1).trans rfl, (blk_cell Bgx.out 0).trans rfl, (blk_cell Bgx.out 1).trans rfl, (blk_cell Bgg.out 0).trans rfl, (blk_cell Bgg.out 1).trans rfl⟩ (fun hHeld => ?_)
  generalize y34.drew = y35 at Fw Fx Fg Bga Bge Bgw Bgx Bgg HB hHeld ⊢
  refine take_ (i := 0) (N := some 47) (v := ?_) (a' := ?_) #[true, false, false, false, false] rfl rfl (by kernel_rfl) (fun _ _ _ h => h) (Or.inl ⟨by rfl, ?_⟩) hHeld ?_ ?_
  rotate_left
  · rintro w_ ⟨s0_, s1_, s2_, s3_, s4_, s5_, s6_, s7_, s8_, s9_⟩
    go_simp
    with_reducible rfl
  rotate_left
  · simp only [Act.put, List.setIfInBounds_toArray, List.set_cons_zero, List.set_cons_succ, i64_w, i32_w]
    rfl
  refine take_ (i := 1) (N := some 48) (v := ?_) (a' := ?_) #[true, true, false, false, false] rfl rfl (by kernel_rfl) (fun _ _ _ h => h) (Or.inl ⟨by rfl, ?_⟩) hHeld ?_ ?_
  rotate_left
  · rintro w_ ⟨s0_, s1_, s2_, s3_, s4_, s5_, s6_, s7_, s8_, s9_⟩
    go_simp
    with_reducible rfl
  rotate_left
  · simp only [Act.put, List.setIfInBounds_toArray, List.set_cons_zero, List.set_cons_succ, i64_w, i32_w]
    rfl
  refine one_ (i := 2) (N := some 49) #[true, true, true, false, false] rfl rfl (by kernel_rfl) (by decide) (fun K hK => ?_)
  refine goes_ Try.func20 (by kernel_rfl) rfl #[.agg #[.int .i64 n, .slice A0 L.length c0]] (by rfl) rfl rfl (by (try simp only [List.map_toArray, List.map_cons, List.map_nil]); first | done | rfl) ?_
  with_reducible refine (laws_toForest.calls k n _ _ L n L _ (Kd.C_below HR0.out HB.out) HC0.out hto).mono ?_
  rintro e y36 ⟨v_, rfl, ho, hb⟩
  refine ⟨_, rfl, ?_⟩
  obtain ⟨loz, hiz, hlo_, hle_, hhi_, hrg_⟩ := Rg.born (b := w.heap.size) ho hb (below_size HB.out)
  obtain ⟨Az, cz, rfl⟩ := hrg_.slice
  have m0_ := Aside0.mk (Ng.below Fw.out hb)
  have m1_ := Aside0.mk (Rg.below Fx.out hb)
  have m2_ := Aside0.mk (Rg.below Fg.out hb)
  have m3_ := Aside0.mk (blk_below Bga.out hb)
  have m4_ := Aside0.mk (blk_below Bge.out hb)
  have m5_ := Aside0.mk (blk_below Bgw.out hb)
  have m6_ := Aside0.mk (blk_below Bgx.out hb)
  have m7_ := Aside0.mk (blk_below Bgg.out hb)
  have m8_ := Aside0.mk (hrg_)
  have m9_ := Aside0.mk (below_step HB.out hb)
  have m10_ := Aside0.mk ((by rw [hlo_]; exact Rg.le Fg.out : hig ≤ loz))
  have m11_ := Aside0.mk ((by rw [hlo_]; exact blk_lt Bgg.out : gg < loz))
  have m12_ := Aside0.mk ((hle_ : loz ≤ hiz))
  have m13_ := Aside0.mk ((by rw [hlo_]; exact below_size HB.out : w.heap.size ≤ loz))
  clear Fw Fx Fg Bga Bge Bgw Bgx Bgg HB
  have Fw := m0_
  have Fx := m1_
  have Fg := m2_
  have Bga := m3_
  have Bge := m4_
  have Bgw := m5_
  have Bgx := m6_
  have Bgg := m7_
  have Fz := m8_
  have HB := m9_
  have Og_z := m10_
  have Ogg_z := m11_
  have Oz := m12_
  have OWz := m13_
  clear m0_ m1_ m2_ m3_ m4_ m5_ m6_ m7_ m8_ m9_ m10_ m11_ m12_ m13_
  clear ho hb hrg_ hlo_ hle_ hhi_
  refine hK.out _ _ ⟨(blk_cell Bga.out 0).trans rfl, (blk_cell Bga.out 1).trans rfl, (blk_cell Bge.out 0).trans rfl, (blk_cell Bge.out 1).trans rfl, (blk_cell Bgw.out 0).trans rfl, (blk_cell Bgw.out 1).trans rfl, (blk_cell Bgx.out 0).trans rfl, (blk_cell Bgx.out 1).trans rfl, (blk_cell Bgg.out 0).trans rfl, (blk_cell Bgg.out 1).trans rfl⟩ (fun hHeld => ?_)
  clear hK K
  refine norm_ (a' := ?_) ?_ ?_
  rotate_left
  · show Act.put _ (some 49) _ = _
    simp only [Act.put, List.setIfInBounds_toArray, List.set_cons_zero, List.set_cons_succ, i64_w, i32_w]
    rfl
  refine one_ (i := 3) (N := some 50) #[true, true, true, true, false] rfl rfl (by kernel_rfl) (by decide) (fun K hK => ?_)
  refine goes_ Try.func23 (by kernel_rfl) rfl #[.agg #[.int .i64 n, .slice Ax L.length cx], .agg #[.int .i64 n, .slice Az L.length cz]] (by rfl) rfl rfl (by (try simp only [List.map_toArray, List.map_cons, List.map_nil]); first | done | rfl) ?_
  with_reducible refine (laws_eqForest.calls k n _ _ L n _ _ L true _ Fx.out.C Fx.out.cap Fz.out.C Fz.out.cap hf).mono ?_
  rintro e y37 ⟨rfl, hb⟩
  refine ⟨_, rfl, ?_⟩
  have m0_ := Aside0.mk (Ng.below Fw.out hb)
  have m1_ := Aside0.mk (Rg.below Fx.out hb)
  have m2_ := Aside0.mk (Rg.below Fg.out hb)
  have m3_ := Aside0.mk (Rg.below Fz.out hb)
  have m4_ := Aside0.mk (blk_below Bga.out hb)
  have m5_ := Aside0.mk (blk_below Bge.out hb)
  have m6_ := Aside0.mk (blk_below Bgw.out hb)
  have m7_ := Aside0.mk (blk_below Bgx.out hb)
  have m8_ := Aside0.mk (blk_below Bgg.out hb)
  have m9_ := Aside0.mk (below_step HB.out hb)
  clear Fw Fx Fg Fz Bga Bge Bgw Bgx Bgg HB
  have Fw := m0_
  have Fx := m1_
  have Fg := m2_
  have Fz := m3_
  have Bga := m4_
  have Bge := m5_
  have Bgw := m6_
  have Bgx := m7_
  have Bgg := m8_
  have HB := m9_
  clear m0_ m1_ m2_ m3_ m4_ m5_ m6_ m7_ m8_ m9_
  clear hb
  refine hK.out _ _ ⟨(blk_cell Bga.out 0).trans rfl, (blk_cell Bga.out 1).trans rfl, (blk_cell Bge.out 0).trans rfl, (blk_cell Bge.out 1).trans rfl, (blk_cell Bgw.out 0).trans rfl, (blk_cell Bgw.out 1).trans rfl, (blk_cell Bgx.out 0).trans rfl, (blk_cell Bgx.out 1).trans rfl, (blk_cell Bgg.out 0).trans rfl, (blk_cell Bgg.out 1).trans rfl⟩ (fun hHeld => ?_)
  clear hK K
  refine norm_ (a' := ?_) ?_ ?_
  rotate_left
  · show Act.put _ (some 50) _ = _
    simp only [Act.put, List.setIfInBounds_toArray, List.set_cons_zero, List.set_cons_succ, i64_w, i32_w]
    rfl
  refine pure_ (i := 4) (N := some 51) (v := ?_) (a' := ?_) #[true, true, true, true, true] rfl rfl (by kernel_rfl) (fun _ _ _ h => h) (Or.inl ⟨by rfl, ?_⟩) ?_ ?_
  rotate_left
  · intro w_
    go_simp
    with_reducible rfl
  rotate_left
  · simp only [Act.put, List.setIfInBounds_toArray, List.set_cons_zero, List.set_cons_succ, i64_w, i32_w]
    rfl
  refine done_ (by kernel_rfl) ?_
  have czga_0 : y37.cell? ⟨ga, 0, none⟩ = some (.int .i64 n) := (blk_cell Bga.out 0).trans rfl
  have fzga_0 := blk_frozen Bga.out 0
  have czga_1 : y37.cell? ⟨ga, 1, none⟩ = some (.slice A0 L.length c0) := (blk_cell Bga.out 1).trans rfl
  have fzga_1 := blk_frozen Bga.out 1
  have czge_0 : y37.cell? ⟨ge, 0, none⟩ = some (.int .i64 M) := (blk_cell Bge.out 0).trans rfl
  have fzge_0 := blk_frozen Bge.out 0
  have czge_1 : y37.cell? ⟨ge, 1, none⟩ = some (.int .i64 O) := (blk_cell Bge.out 1).trans rfl
  have fzge_1 := blk_frozen Bge.out 1
  have czgw_0 : y37.cell? ⟨gw, 0, none⟩ = some (.int .i64 m0) := (blk_cell Bgw.out 0).trans rfl
  have fzgw_0 := blk_frozen Bgw.out 0
  have czgw_1 : y37.cell? ⟨gw, 1, none⟩ = some (.slice Aw R.length cw) := (blk_cell Bgw.out 1).trans rfl
  have fzgw_1 := blk_frozen Bgw.out 1
  have czgx_0 : y37.cell? ⟨gx, 0, none⟩ = some (.int .i64 n) := (blk_cell Bgx.out 0).trans rfl
  have fzgx_0 := blk_frozen Bgx.out 0
  have czgx_1 : y37.cell? ⟨gx, 1, none⟩ = some (.slice Ax L.length cx) := (blk_cell Bgx.out 1).trans rfl
  have fzgx_1 := blk_frozen Bgx.out 1
  have czgg_0 : y37.cell? ⟨gg, 0, none⟩ = some (.int .i64 m0) := (blk_cell Bgg.out 0).trans rfl
  have fzgg_0 := blk_frozen Bgg.out 0
  have czgg_1 : y37.cell? ⟨gg, 1, none⟩ = some (.slice Ag R.length cg) := (blk_cell Bgg.out 1).trans rfl
  have fzgg_1 := blk_frozen Bgg.out 1
  try go_wp2_with (first
    | ((with_reducible refine gate_callee (f := 24) rfl ?_); refine goesL_ (some 54) rfl rfl Try.func24 (by kernel_rfl) rfl #[.agg #[.int .i64 n, .slice Ax L.length cx], .int .i64 1] rfl (by (try simp only [List.map_toArray, List.map_cons, List.map_nil]); first | done | rfl) ?_; (with_reducible refine (laws_markForest.calls k (fun k_ => lox ≤ k_ ∧ k_ < hix) n _ L 1 m L' w _ HB.out (Rg.S Fx.out) hm).mono ?_); rintro e y38 ⟨rfl, hy, hb, hk⟩; refine ⟨_, rfl, ?_⟩; have m0_ := Aside0.mk (Ng.kept Fw.out hk (by intro k_ h1_ h2_ h3_; have := OWga.out; have := Oga_ge.out; have := OWge.out; have := OWw.out; have := Ow.out; have := OWgw.out; have := Oge_w.out; have := Oge_gw.out; have := Pw_gw.out; have := Ow_x.out; have := Ogw_x.out; have := Ox.out; have := OWx.out; have := Ox_gx.out; have := OWgx.out; have := OWg.out; have := Og.out; have := OWgg.out; have := Ogx_g.out; have := Ogx_gg.out; have := Pg_gg.out; have := Og_z.out; have := Ogg_z.out; have := Oz.out; have := OWz.out; omega)); have m1_ := Aside0.mk (Rg.kept Fg.out hk (by intro k_ h1_ h2_ h3_; have := OWga.out; have := Oga_ge.out; have := OWge.out; have := OWw.out; have := Ow.out; have := OWgw.out; have := Oge_w.out; have := Oge_gw.out; have := Pw_gw.out; have := Ow_x.out; have := Ogw_x.out; have := Ox.out; have := OWx.out; have := Ox_gx.out; have := OWgx.out; have := OWg.out; have := Og.out; have := OWgg.out; have := Ogx_g.out; have := Ogx_gg.out; have := Pg_gg.out; have := Og_z.out; have := Ogg_z.out; have := Oz.out; have := OWz.out; omega)); have m2_ := Aside0.mk (Rg.kept Fz.out hk (by intro k_ h1_ h2_ h3_; have := OWga.out; have := Oga_ge.out; have := OWge.out; have := OWw.out; have := Ow.out; have := OWgw.out; have := Oge_w.out; have := Oge_gw.out; have := Pw_gw.out; have := Ow_x.out; have := Ogw_x.out; have := Ox.out; have := OWx.out; have := Ox_gx.out; have := OWgx.out; have := OWg.out; have := Og.out; have := OWgg.out; have := Ogx_g.out; have := Ogx_gg.out; have := Pg_gg.out; have := Og_z.out; have := Ogg_z.out; have := Oz.out; have := OWz.out; omega)); have m3_ := Aside0.mk (blk_kept Bga.out hk (by intro h3_; have := OWga.out; have := Oga_ge.out; have := OWge.out; have := OWw.out; have := Ow.out; have := OWgw.out; have := Oge_w.out; have := Oge_gw.out; have := Pw_gw.out; have := Ow_x.out; have := Ogw_x.out; have := Ox.out; have := OWx.out; have := Ox_gx.out; have := OWgx.out; have := OWg.out; have := Og.out; have := OWgg.out; have := Ogx_g.out; have := Ogx_gg.out; have := Pg_gg.out; have := Og_z.out; have := Ogg_z.out; have := Oz.out; have := OWz.out; omega)); have m4_ := Aside0.mk (blk_kept Bge.out hk (by intro h3_; have := OWga.out; have := Oga_ge.out; have := OWge.out; have := OWw.out; have := Ow.out; have := OWgw.out; have := Oge_w.out; have := Oge_gw.out; have := Pw_gw.out; have := Ow_x.out; have := Ogw_x.out; have := Ox.out; have := OWx.out; have := Ox_gx.out; have := OWgx.out; have := OWg.out; have := Og.out; have := OWgg.out; have := Ogx_g.out; have := Ogx_gg.out; have := Pg_gg.out; have := Og_z.out; have := Ogg_z.out; have := Oz.out; have := OWz.out; omega)); have m5_ := Aside0.mk (blk_kept Bgw.out hk (by intro h3_; have := OWga.out; have := Oga_ge.out; have := OWge.out; have := OWw.out; have := Ow.out; have := OWgw.out; have := Oge_w.out; have := Oge_gw.out; have := Pw_gw.out; have := Ow_x.out; have := Ogw_x.out; have := Ox.out; have := OWx.out; have := Ox_gx.out; have := OWgx.out; have := OWg.out; have := Og.out; have := OWgg.out; have := Ogx_g.out; have := Ogx_gg.out; have := Pg_gg.out; have := Og_z.out; have := Ogg_z.out; have := Oz.out; have := OWz.out; omega)); have m6_ := Aside0.mk (blk_kept Bgx.out hk (by intro h3_; have := OWga.out; have := Oga_ge.out; have := OWge.out; have := OWw.out; have := Ow.out; have := OWgw.out; have := Oge_w.out; have := Oge_gw.out; have := Pw_gw.out; have := Ow_x.out; have := Ogw_x.out; have := Ox.out; have := OWx.out; have := Ox_gx.out; have := OWgx.out; have := OWg.out; have := Og.out; have := OWgg.out; have := Ogx_g.out; have := Ogx_gg.out; have := Pg_gg.out; have := Og_z.out; have := Ogg_z.out; have := Oz.out; have := OWz.out; omega)); have m7_ := Aside0.mk (blk_kept Bgg.out hk (by intro h3_; have := OWga.out; have := Oga_ge.out; have := OWge.out; have := OWw.out; have := Ow.out; have := OWgw.out; have := Oge_w.out; have := Oge_gw.out; have := Pw_gw.out; have := Ow_x.out; have := Ogw_x.out; have := Ox.out; have := OWx.out; have := Ox_gx.out; have := OWgx.out; have := OWg.out; have := Og.out; have := OWgg.out; have := Ogx_g.out; have := Ogx_gg.out; have := Pg_gg.out; have := Og_z.out; have := Ogg_z.out; have := Oz.out; have := OWz.out; omega)); have m8_ := Aside0.mk ((Rg.mk hy (Nat.le_trans (Rg.le Fx.out) hk.1) : Rg w.heap.size y38 lox hix _ L')); have m9_ := Aside0.mk (hb); clear Fw Fg Fz Bga Bge Bgw Bgx Bgg Fx HB czga_0 fzga_0 czga_1 fzga_1 czge_0 fzge_0 czge_1 fzge_1 czgw_0 fzgw_0 czgw_1 fzgw_1 czgx_0 fzgx_0 czgx_1 fzgx_1 czgg_0 fzgg_0 czgg_1 fzgg_1; have Fw := m0_; have Fg := m1_; have Fz := m2_; have Bga := m3_; have Bge := m4_; have Bgw := m5_; have Bgx := m6_; have Bgg := m7_; have Fx := m8_; have HB := m9_; clear m0_ m1_ m2_ m3_ m4_ m5_ m6_ m7_ m8_ m9_; have czga_0 : y38.cell? ⟨ga, 0, none⟩ = some (.int .i64 n) := (blk_cell Bga.out 0).trans rfl; have fzga_0 := blk_frozen Bga.out 0; have czga_1 : y38.cell? ⟨ga, 1, none⟩ = some (.slice A0 L.length c0) := (blk_cell Bga.out 1).trans rfl; have fzga_1 := blk_frozen Bga.out 1; have czge_0 : y38.cell? ⟨ge, 0, none⟩ = some (.int .i64 M) := (blk_cell Bge.out 0).trans rfl; have fzge_0 := blk_frozen Bge.out 0; have czge_1 : y38.cell? ⟨ge, 1, none⟩ = some (.int .i64 O) := (blk_cell Bge.out 1).trans rfl; have fzge_1 := blk_frozen Bge.out 1; have czgw_0 : y38.cell? ⟨gw, 0, none⟩ = some (.int .i64 m0) := (blk_cell Bgw.out 0).trans rfl; have fzgw_0 := blk_frozen Bgw.out 0; have czgw_1 : y38.cell? ⟨gw, 1, none⟩ = some (.slice Aw R.length cw) := (blk_cell Bgw.out 1).trans rfl; have fzgw_1 := blk_frozen Bgw.out 1; have czgx_0 : y38.cell? ⟨gx, 0, none⟩ = some (.int .i64 n) := (blk_cell Bgx.out 0).trans rfl; have fzgx_0 := blk_frozen Bgx.out 0; have czgx_1 : y38.cell? ⟨gx, 1, none⟩ = some (.slice Ax L.length cx) := (blk_cell Bgx.out 1).trans rfl; have fzgx_1 := blk_frozen Bgx.out 1; have czgg_0 : y38.cell? ⟨gg, 0, none⟩ = some (.int .i64 m0) := (blk_cell Bgg.out 0).trans rfl; have fzgg_0 := blk_frozen Bgg.out 0; have czgg_1 : y38.cell? ⟨gg, 1, none⟩ = some (.slice Ag R.length cg) := (blk_cell Bgg.out 1).trans rfl; have fzgg_1 := blk_frozen Bgg.out 1; clear hy hb hk)
    | (go_at_call 23; (with_reducible refine (laws_eqForest.calls k m0 _ _ R m0 _ _ R true _ Fg.out.C Fg.out.cap Fw.out.C Fw.out.cap he).mono ?_); rintro e y39 ⟨rfl, hb⟩; have m0_ := Aside0.mk (Ng.below Fw.out hb); have m1_ := Aside0.mk (Rg.below Fx.out hb); have m2_ := Aside0.mk (Rg.below Fg.out hb); have m3_ := Aside0.mk (Rg.below Fz.out hb); have m4_ := Aside0.mk (blk_below Bga.out hb); have m5_ := Aside0.mk (blk_below Bge.out hb); have m6_ := Aside0.mk (blk_below Bgw.out hb); have m7_ := Aside0.mk (blk_below Bgx.out hb); have m8_ := Aside0.mk (blk_below Bgg.out hb); have m9_ := Aside0.mk (below_step HB.out hb); clear Fw Fx Fg Fz Bga Bge Bgw Bgx Bgg HB czga_0 fzga_0 czga_1 fzga_1 czge_0 fzge_0 czge_1 fzge_1 czgw_0 fzgw_0 czgw_1 fzgw_1 czgx_0 fzgx_0 czgx_1 fzgx_1 czgg_0 fzgg_0 czgg_1 fzgg_1; have Fw := m0_; have Fx := m1_; have Fg := m2_; have Fz := m3_; have Bga := m4_; have Bge := m5_; have Bgw := m6_; have Bgx := m7_; have Bgg := m8_; have HB := m9_; clear m0_ m1_ m2_ m3_ m4_ m5_ m6_ m7_ m8_ m9_; have czga_0 : y39.cell? ⟨ga, 0, none⟩ = some (.int .i64 n) := (blk_cell Bga.out 0).trans rfl; have fzga_0 := blk_frozen Bga.out 0; have czga_1 : y39.cell? ⟨ga, 1, none⟩ = some (.slice A0 L.length c0) := (blk_cell Bga.out 1).trans rfl; have fzga_1 := blk_frozen Bga.out 1; have czge_0 : y39.cell? ⟨ge, 0, none⟩ = some (.int .i64 M) := (blk_cell Bge.out 0).trans rfl; have fzge_0 := blk_frozen Bge.out 0; have czge_1 : y39.cell? ⟨ge, 1, none⟩ = some (.int .i64 O) := (blk_cell Bge.out 1).trans rfl; have fzge_1 := blk_frozen Bge.out 1; have czgw_0 : y39.cell? ⟨gw, 0, none⟩ = some (.int .i64 m0) := (blk_cell Bgw.out 0).trans rfl; have fzgw_0 := blk_frozen Bgw.out 0; have czgw_1 : y39.cell? ⟨gw, 1, none⟩ = some (.slice Aw R.length cw) := (blk_cell Bgw.out 1).trans rfl; have fzgw_1 := blk_frozen Bgw.out 1; have czgx_0 : y39.cell? ⟨gx, 0, none⟩ = some (.int .i64 n) := (blk_cell Bgx.out 0).trans rfl; have fzgx_0 := blk_frozen Bgx.out 0; have czgx_1 : y39.cell? ⟨gx, 1, none⟩ = some (.slice Ax L.length cx) := (blk_cell Bgx.out 1).trans rfl; have fzgx_1 := blk_frozen Bgx.out 1; have czgg_0 : y39.cell? ⟨gg, 0, none⟩ = some (.int .i64 m0) := (blk_cell Bgg.out 0).trans rfl; have fzgg_0 := blk_frozen Bgg.out 0; have czgg_1 : y39.cell? ⟨gg, 1, none⟩ = some (.slice Ag R.length cg) := (blk_cell Bgg.out 1).trans rfl; have fzgg_1 := blk_frozen Bgg.out 1; clear hb)
    | ((with_reducible refine gate_callee (f := 24) rfl ?_); refine goesL_ (some 70) rfl rfl Try.func24 (by kernel_rfl) rfl #[.agg #[.int .i64 m0, .slice Ag R.length cg], .int .i64 1] rfl (by (try simp only [List.map_toArray, List.map_cons, List.map_nil]); first | done | rfl) ?_; (with_reducible refine (laws_markForest.calls k (fun k_ => log ≤ k_ ∧ k_ < hig) m0 _ R 1 q R' w _ HB.out (Rg.S Fg.out) hme).mono ?_); rintro e y40 ⟨rfl, hy, hb, hk⟩; refine ⟨_, rfl, ?_⟩; have m0_ := Aside0.mk (Ng.kept Fw.out hk (by intro k_ h1_ h2_ h3_; have := OWga.out; have := Oga_ge.out; have := OWge.out; have := OWw.out; have := Ow.out; have := OWgw.out; have := Oge_w.out; have := Oge_gw.out; have := Pw_gw.out; have := Ow_x.out; have := Ogw_x.out; have := Ox.out; have := OWx.out; have := Ox_gx.out; have := OWgx.out; have := OWg.out; have := Og.out; have := OWgg.out; have := Ogx_g.out; have := Ogx_gg.out; have := Pg_gg.out; have := Og_z.out; have := Ogg_z.out; have := Oz.out; have := OWz.out; omega)); have m1_ := Aside0.mk (Rg.kept Fx.out hk (by intro k_ h1_ h2_ h3_; have := OWga.out; have := Oga_ge.out; have := OWge.out; have := OWw.out; have := Ow.out; have := OWgw.out; have := Oge_w.out; have := Oge_gw.out; have := Pw_gw.out; have := Ow_x.out; have := Ogw_x.out; have := Ox.out; have := OWx.out; have := Ox_gx.out; have := OWgx.out; have := OWg.out; have := Og.out; have := OWgg.out; have := Ogx_g.out; have := Ogx_gg.out; have := Pg_gg.out; have := Og_z.out; have := Ogg_z.out; have := Oz.out; have := OWz.out; omega)); have m2_ := Aside0.mk (Rg.kept Fz.out hk (by intro k_ h1_ h2_ h3_; have := OWga.out; have := Oga_ge.out; have := OWge.out; have := OWw.out; have := Ow.out; have := OWgw.out; have := Oge_w.out; have := Oge_gw.out; have := Pw_gw.out; have := Ow_x.out; have := Ogw_x.out; have := Ox.out; have := OWx.out; have := Ox_gx.out; have := OWgx.out; have := OWg.out; have := Og.out; have := OWgg.out; have := Ogx_g.out; have := Ogx_gg.out; have := Pg_gg.out; have := Og_z.out; have := Ogg_z.out; have := Oz.out; have := OWz.out; omega)); have m3_ := Aside0.mk (blk_kept Bga.out hk (by intro h3_; have := OWga.out; have := Oga_ge.out; have := OWge.out; have := OWw.out; have := Ow.out; have := OWgw.out; have := Oge_w.out; have := Oge_gw.out; have := Pw_gw.out; have := Ow_x.out; have := Ogw_x.out; have := Ox.out; have := OWx.out; have := Ox_gx.out; have := OWgx.out; have := OWg.out; have := Og.out; have := OWgg.out; have := Ogx_g.out; have := Ogx_gg.out; have := Pg_gg.out; have := Og_z.out; have := Ogg_z.out; have := Oz.out; have := OWz.out; omega)); have m4_ := Aside0.mk (blk_kept Bge.out hk (by intro h3_; have := OWga.out; have := Oga_ge.out; have := OWge.out; have := OWw.out; have := Ow.out; have := OWgw.out; have := Oge_w.out; have := Oge_gw.out; have := Pw_gw.out; have := Ow_x.out; have := Ogw_x.out; have := Ox.out; have := OWx.out; have := Ox_gx.out; have := OWgx.out; have := OWg.out; have := Og.out; have := OWgg.out; have := Ogx_g.out; have := Ogx_gg.out; have := Pg_gg.out; have := Og_z.out; have := Ogg_z.out; have := Oz.out; have := OWz.out; omega)); have m5_ := Aside0.mk (blk_kept Bgw.out hk (by intro h3_; have := OWga.out; have := Oga_ge.out; have := OWge.out; have := OWw.out; have := Ow.out; have := OWgw.out; have := Oge_w.out; have := Oge_gw.out; have := Pw_gw.out; have := Ow_x.out; have := Ogw_x.out; have := Ox.out; have := OWx.out; have := Ox_gx.out; have := OWgx.out; have := OWg.out; have := Og.out; have := OWgg.out; have := Ogx_g.out; have := Ogx_gg.out; have := Pg_gg.out; have := Og_z.out; have := Ogg_z.out; have := Oz.out; have := OWz.out; omega)); have m6_ := Aside0.mk (blk_kept Bgx.out hk (by intro h3_; have := OWga.out; have := Oga_ge.out; have := OWge.out; have := OWw.out; have := Ow.out; have := OWgw.out; have := Oge_w.out; have := Oge_gw.out; have := Pw_gw.out; have := Ow_x.out; have := Ogw_x.out; have := Ox.out; have := OWx.out; have := Ox_gx.out; have := OWgx.out; have := OWg.out; have := Og.out; have := OWgg.out; have := Ogx_g.out; have := Ogx_gg.out; have := Pg_gg.out; have := Og_z.out; have := Ogg_z.out; have := Oz.out; have := OWz.out; omega)); have m7_ := Aside0.mk (blk_kept Bgg.out hk (by intro h3_; have := OWga.out; have := Oga_ge.out; have := OWge.out; have := OWw.out; have := Ow.out; have := OWgw.out; have := Oge_w.out; have := Oge_gw.out; have := Pw_gw.out; have := Ow_x.out; have := Ogw_x.out; have := Ox.out; have := OWx.out; have := Ox_gx.out; have := OWgx.out; have := OWg.out; have := Og.out; have := OWgg.out; have := Ogx_g.out; have := Ogx_gg.out; have := Pg_gg.out; have := Og_z.out; have := Ogg_z.out; have := Oz.out; have := OWz.out; omega)); have m8_ := Aside0.mk ((Rg.mk hy (Nat.le_trans (Rg.le Fg.out) hk.1) : Rg w.heap.size y40 log hig _ R')); have m9_ := Aside0.mk (hb); clear Fw Fx Fz Bga Bge Bgw Bgx Bgg Fg HB czga_0 fzga_0 czga_1 fzga_1 czge_0 fzge_0 czge_1 fzge_1 czgw_0 fzgw_0 czgw_1 fzgw_1 czgx_0 fzgx_0 czgx_1 fzgx_1 czgg_0 fzgg_0 czgg_1 fzgg_1; have Fw := m0_; have Fx := m1_; have Fz := m2_; have Bga := m3_; have Bge := m4_; have Bgw := m5_; have Bgx := m6_; have Bgg := m7_; have Fg := m8_; have HB := m9_; clear m0_ m1_ m2_ m3_ m4_ m5_ m6_ m7_ m8_ m9_; have czga_0 : y40.cell? ⟨ga, 0, none⟩ = some (.int .i64 n) := (blk_cell Bga.out 0).trans rfl; have fzga_0 := blk_frozen Bga.out 0; have czga_1 : y40.cell? ⟨ga, 1, none⟩ = some (.slice A0 L.length c0) := (blk_cell Bga.out 1).trans rfl; have fzga_1 := blk_frozen Bga.out 1; have czge_0 : y40.cell? ⟨ge, 0, none⟩ = some (.int .i64 M) := (blk_cell Bge.out 0).trans rfl; have fzge_0 := blk_frozen Bge.out 0; have czge_1 : y40.cell? ⟨ge, 1, none⟩ = some (.int .i64 O) := (blk_cell Bge.out 1).trans rfl; have fzge_1 := blk_frozen Bge.out 1; have czgw_0 : y40.cell? ⟨gw, 0, none⟩ = some (.int .i64 m0) := (blk_cell Bgw.out 0).trans rfl; have fzgw_0 := blk_frozen Bgw.out 0; have czgw_1 : y40.cell? ⟨gw, 1, none⟩ = some (.slice Aw R.length cw) := (blk_cell Bgw.out 1).trans rfl; have fzgw_1 := blk_frozen Bgw.out 1; have czgx_0 : y40.cell? ⟨gx, 0, none⟩ = some (.int .i64 n) := (blk_cell Bgx.out 0).trans rfl; have fzgx_0 := blk_frozen Bgx.out 0; have czgx_1 : y40.cell? ⟨gx, 1, none⟩ = some (.slice Ax L.length cx) := (blk_cell Bgx.out 1).trans rfl; have fzgx_1 := blk_frozen Bgx.out 1; have czgg_0 : y40.cell? ⟨gg, 0, none⟩ = some (.int .i64 m0) := (blk_cell Bgg.out 0).trans rfl; have fzgg_0 := blk_frozen Bgg.out 0; have czgg_1 : y40.cell? ⟨gg, 1, none⟩ = some (.slice Ag R.length cg) := (blk_cell Bgg.out 1).trans rfl; have fzgg_1 := blk_frozen Bgg.out 1; clear hy hb hk)
    | ((with_reducible refine gate_callee (f := 25) rfl ?_); refine goesL_ (some 73) rfl rfl Try.func25 (by kernel_rfl) rfl #[.agg #[.int .i64 m0, .slice Ag R'.length cg], .int .i64 1] rfl (by (try simp only [List.map_toArray, List.map_cons, List.map_nil]); first | done | rfl | (rw [hl] <;> rfl)) ?_; (with_reducible refine (laws_heldForest.calls k m0 _ _ R' 1 q _ Fg.out.C ?side1 hh).mono ?_); (case side1 => rw [hl]; exact Fg.out.cap); rintro e y41 ⟨rfl, hb⟩; refine ⟨_, rfl, ?_⟩; have m0_ := Aside0.mk (Ng.below Fw.out hb); have m1_ := Aside0.mk (Rg.below Fx.out hb); have m2_ := Aside0.mk (Rg.below Fg.out hb); have m3_ := Aside0.mk (Rg.below Fz.out hb); have m4_ := Aside0.mk (blk_below Bga.out hb); have m5_ := Aside0.mk (blk_below Bge.out hb); have m6_ := Aside0.mk (blk_below Bgw.out hb); have m7_ := Aside0.mk (blk_below Bgx.out hb); have m8_ := Aside0.mk (blk_below Bgg.out hb); have m9_ := Aside0.mk (below_step HB.out hb); clear Fw Fx Fg Fz Bga Bge Bgw Bgx Bgg HB czga_0 fzga_0 czga_1 fzga_1 czge_0 fzge_0 czge_1 fzge_1 czgw_0 fzgw_0 czgw_1 fzgw_1 czgx_0 fzgx_0 czgx_1 fzgx_1 czgg_0 fzgg_0 czgg_1 fzgg_1; have Fw := m0_; have Fx := m1_; have Fg := m2_; have Fz := m3_; have Bga := m4_; have Bge := m5_; have Bgw := m6_; have Bgx := m7_; have Bgg := m8_; have HB := m9_; clear m0_ m1_ m2_ m3_ m4_ m5_ m6_ m7_ m8_ m9_; have czga_0 : y41.cell? ⟨ga, 0, none⟩ = some (.int .i64 n) := (blk_cell Bga.out 0).trans rfl; have fzga_0 := blk_frozen Bga.out 0; have czga_1 : y41.cell? ⟨ga, 1, none⟩ = some (.slice A0 L.length c0) := (blk_cell Bga.out 1).trans rfl; have fzga_1 := blk_frozen Bga.out 1; have czge_0 : y41.cell? ⟨ge, 0, none⟩ = some (.int .i64 M) := (blk_cell Bge.out 0).trans rfl; have fzge_0 := blk_frozen Bge.out 0; have czge_1 : y41.cell? ⟨ge, 1, none⟩ = some (.int .i64 O) := (blk_cell Bge.out 1).trans rfl; have fzge_1 := blk_frozen Bge.out 1; have czgw_0 : y41.cell? ⟨gw, 0, none⟩ = some (.int .i64 m0) := (blk_cell Bgw.out 0).trans rfl; have fzgw_0 := blk_frozen Bgw.out 0; have czgw_1 : y41.cell? ⟨gw, 1, none⟩ = some (.slice Aw R.length cw) := (blk_cell Bgw.out 1).trans rfl; have fzgw_1 := blk_frozen Bgw.out 1; have czgx_0 : y41.cell? ⟨gx, 0, none⟩ = some (.int .i64 n) := (blk_cell Bgx.out 0).trans rfl; have fzgx_0 := blk_frozen Bgx.out 0; have czgx_1 : y41.cell? ⟨gx, 1, none⟩ = some (.slice Ax L.length cx) := (blk_cell Bgx.out 1).trans rfl; have fzgx_1 := blk_frozen Bgx.out 1; have czgg_0 : y41.cell? ⟨gg, 0, none⟩ = some (.int .i64 m0) := (blk_cell Bgg.out 0).trans rfl; have fzgg_0 := blk_frozen Bgg.out 0; have czgg_1 : y41.cell? ⟨gg, 1, none⟩ = some (.slice Ag R.length cg) := (blk_cell Bgg.out 1).trans rfl; have fzgg_1 := blk_frozen Bgg.out 1; clear hb))
  have hb : Below y41.heap.size y41 y41.drew := below_drew1 (Below.refl _ _)
  have m0_ := Aside0.mk (Ng.below Fw.out hb)
  have m1_ := Aside0.mk (Rg.below Fx.out hb)
  have m2_ := Aside0.mk (Rg.below Fg.out hb)
  have m3_ := Aside0.mk (Rg.below Fz.out hb)
  have m4_ := Aside0.mk (blk_below Bga.out hb)
  have m5_ := Aside0.mk (blk_below Bge.out hb)
  have m6_ := Aside0.mk (blk_below Bgw.out hb)
  have m7_ := Aside0.mk (blk_below Bgx.out hb)
  have m8_ := Aside0.mk (blk_below Bgg.out hb)
  have m9_ := Aside0.mk (below_step HB.out hb)
  clear Fw Fx Fg Fz Bga Bge Bgw Bgx Bgg HB czga_0 fzga_0 czga_1 fzga_1 czge_0 fzge_0 czge_1 fzge_1 czgw_0 fzgw_0 czgw_1 fzgw_1 czgx_0 fzgx_0 czgx_1 fzgx_1 czgg_0 fzgg_0 czgg_1 fzgg_1
  have Fw := m0_
  have Fx := m1_
  have Fg := m2_
  have Fz := m3_
  have Bga := m4_
  have Bge := m5_
  have Bgw := m6_
  have Bgx := m7_
  have Bgg := m8_
  have HB := m9_
  clear hb m0_ m1_ m2_ m3_ m4_ m5_ m6_ m7_ m8_ m9_
  refine start_ (n := 11) (S := fun w_ => w_.cell? ⟨ga, 0, none⟩ = some (.int .i64 n) ∧ w_.cell? ⟨ga, 1, none⟩ = some (.slice A0 L.length c0) ∧ w_.cell? ⟨ge, 0, none⟩ = some (.int .i64 M) ∧ w_.cell? ⟨ge, 1, none⟩ = some (.int .i64 O) ∧ w_.cell? ⟨gw, 0, none⟩ = some (.int .i64 m0) ∧ w_.cell? ⟨gw, 1, none⟩ = some (.slice Aw R.length cw) ∧ w_.cell? ⟨gx, 0, none⟩ = some (.int .i64 n) ∧ w_.cell? ⟨gx, 1, none⟩ = some (.slice Ax L.length cx) ∧ w_.cell? ⟨gg, 0, none⟩ = some (.int .i64 m0) ∧ w_.cell? ⟨gg, 1, none⟩ = some (.slice Ag R.length cg)) (ds := []) #[false, false, false, false, false, false, false, false, false, false, false] (by kernel_rfl) rfl rfl ⟨(blk_cell Bga.out 0).trans rfl, (blk_cell Bga.out 1).trans rfl, (blk_cell Bge.out 0).trans rfl, (blk_cell Bge.out 1).trans rfl, (blk_cell Bgw.out 0).trans rfl, (blk_cell Bgw.out 1).trans rfl, (blk_cell Bgx.out 0).trans rfl, (blk_cell Bgx.out 1).trans rfl, (blk_cell Bgg.out 0).trans rfl, (blk_cell Bgg.out 1).trans rfl⟩ (fun hHeld => ?_); refine with_tabW laws_FnExactLink.tab24 laws_FnExactLink.bits24 (fun HT_ HW_ => ?_)
  generalize y41.drew = y42 at Fw Fx Fg Fz Bga Bge Bgw Bgx Bgg HB hHeld ⊢
  refine take_ (i := 0) (N := some 80) (v := ?_) (a' := ?_) #[true, false, false, false, false, false, false, false, false, false, false] rfl rfl (take_ofW HT_.out HW_.out (by kernel_rfl)) (fun _ _ _ h => h) (Or.inl ⟨by rfl, ?_⟩) hHeld ?_ ?_
  rotate_left
  · rintro w_ ⟨s0_, s1_, s2_, s3_, s4_, s5_, s6_, s7_, s8_, s9_⟩
    go_simp
    with_reducible rfl
  rotate_left
  · simp only [Act.put, List.setIfInBounds_toArray, List.set_cons_zero, List.set_cons_succ, i64_w, i32_w]
    rfl
  refine take_ (i := 2) (N := some 82) (v := ?_) (a' := ?_) #[true, false, true, false, false, false, false, false, false, false, false] rfl rfl (take_ofW HT_.out HW_.out (by kernel_rfl)) (fun _ _ _ h => h) (Or.inl ⟨by rfl, ?_⟩) hHeld ?_ ?_
  rotate_left
  · rintro w_ ⟨s0_, s1_, s2_, s3_, s4_, s5_, s6_, s7_, s8_, s9_⟩
    go_simp
    with_reducible rfl
  rotate_left
  · simp only [Act.put, List.setIfInBounds_toArray, List.set_cons_zero, List.set_cons_succ, i64_w, i32_w]
    rfl
  refine join_ (σ := Option Addr × Nat × Nat × Nat × Nat × Option Addr × Nat) 2 #[true, true, true, true, true, true, true, true, true, false, false] (fun s_ => [(81, .agg #[.int .i64 n, .slice s_.2.2.2.2.2.1 L.length s_.2.2.2.2.2.2]), (83, .agg #[.int .i64 M, .int .i64 O]), (84, .tuple #[.agg #[.int .i64 m0, .slice s_.1 R.length s_.2.1], .bool b]), (14, .pointer (some ⟨s_.2.2.2.2.1, 0, none⟩)), (79, .tuple #[.agg #[.int .i64 m0, .slice s_.1 R.length s_.2.1], .bool b]), (85, .agg #[.int .i64 m0, .slice s_.1 R.length s_.2.1]), (86, .bool b)]) (fun s_ w_ => (w_.cell? ⟨ga, 0, none⟩ = some (.int .i64 n) ∧ w_.cell? ⟨ga, 1, none⟩ = some (.slice A0 L.length c0) ∧ w_.cell? ⟨ge, 0, none⟩ = some (.int .i64 M) ∧ w_.cell? ⟨ge, 1, none⟩ = some (.int .i64 O) ∧ w_.cell? ⟨gw, 0, none⟩ = some (.int .i64 m0) ∧ w_.cell? ⟨gw, 1, none⟩ = some (.slice Aw R.length cw) ∧ w_.cell? ⟨gx, 0, none⟩ = some (.int .i64 n) ∧ w_.cell? ⟨gx, 1, none⟩ = some (.slice Ax L.length cx) ∧ w_.cell? ⟨gg, 0, none⟩ = some (.int .i64 m0) ∧ w_.cell? ⟨gg, 1, none⟩ = some (.slice Ag R.length cg)) ∧ (Ng w.heap.size w_ low hiw (.slice Aw R.length cw) R) ∧ (Rg w.heap.size w_ lox hix (.slice Ax L.length cx) L') ∧ (Rg w.heap.size w_ log hig (.slice Ag R.length cg) R') ∧ (Rg w.heap.size w_ loz hiz (.slice Az L.length cz) L) ∧ (w_.heap[ga]? = some (.cells #[.int .i64 n, .slice A0 L.length c0] 35 (0, 0))) ∧ (w_.heap[ge]? = some (.cells #[.int .i64 M, .int .i64 O] 37 (0, 0))) ∧ (w_.heap[gw]? = some (.cells #[.int .i64 m0, .slice Aw R.length cw] 39 (0, 0))) ∧ (w_.heap[gx]? = some (.cells #[.int .i64 n, .slice Ax L.length cx] 39 (0, 0))) ∧ (w_.heap[gg]? = some (.cells #[.int .i64 m0, .slice Ag R.length cg] 39 (0, 0))) ∧ (Rg w.heap.size w_ s_.2.2.1 s_.2.2.2.1 (.slice s_.1 R.length s_.2.1) R) ∧ (w_.heap[s_.2.2.2.2.1]? = some (.cells #[.int .i64 0, .slice none 0 0] 39 (0, 0))) ∧ (w.heap.size ≤ s_.2.2.1) ∧ (s_.2.2.1 ≤ s_.2.2.2.1) ∧ (w.heap.size ≤ s_.2.2.2.2.1) ∧ (hiz ≤ s_.2.2.1) ∧ (hiz ≤ s_.2.2.2.2.1) ∧ (s_.2.2.2.2.1 < s_.2.2.1 ∨ s_.2.2.2.1 ≤ s_.2.2.2.2.1) ∧ (Below w.heap.size w w_)) ?_ ?_
  rotate_left
  · intro hCont
    refine two_ (i := 1) (j := 8) (Ni := some 81) (Nj := some 14) #[true, true, true, false, false, false, false, false, false, false, false] #[true, false, true, false, false, false, false, false, true, false, false] rfl rfl rfl rfl (two_of HT_.out (by kernel_rfl)) (by decide) (by decide) (fun K hK => ?_) (fun K hK => ?_)
    · skip
      refine goes_ Try.func20 (by kernel_rfl) rfl #[.agg #[.int .i64 n, .slice A0 L.length c0]] (by rfl) rfl rfl (by (try simp only [List.map_toArray, List.map_cons, List.map_nil]); first | done | rfl) ?_
      with_reducible refine (laws_toForest.calls k n _ _ L n L _ (Kd.C_below HR0.out HB.out) HC0.out hto).mono ?_
      rintro e y43 ⟨v_, rfl, ho, hb⟩
      refine ⟨_, rfl, ?_⟩
      obtain ⟨lou, hiu, hlo_, hle_, hhi_, hrg_⟩ := Rg.born (b := w.heap.size) ho hb (below_size HB.out)
      obtain ⟨Au, cu, rfl⟩ := hrg_.slice
      have m0_ := Aside0.mk (Ng.below Fw.out hb)
      have m1_ := Aside0.mk (Rg.below Fx.out hb)
      have m2_ := Aside0.mk (Rg.below Fg.out hb)
      have m3_ := Aside0.mk (Rg.below Fz.out hb)
      have m4_ := Aside0.mk (blk_below Bga.out hb)
      have m5_ := Aside0.mk (blk_below Bge.out hb)
      have m6_ := Aside0.mk (blk_below Bgw.out hb)
      have m7_ := Aside0.mk (blk_below Bgx.out hb)
      have m8_ := Aside0.mk (blk_below Bgg.out hb)
      have m9_ := Aside0.mk (hrg_)
      have m10_ := Aside0.mk (below_step HB.out hb)
      have m11_ := Aside0.mk ((by rw [hlo_]; exact Rg.le Fz.out : hiz ≤ lou))
      have m12_ := Aside0.mk ((hle_ : lou ≤ hiu))
      have m13_ := Aside0.mk ((by rw [hlo_]; exact below_size HB.out : w.heap.size ≤ lou))
      clear Fw Fx Fg Fz Bga Bge Bgw Bgx Bgg HB
      have Fw := m0_
      have Fx := m1_
      have Fg := m2_
      have Fz := m3_
      have Bga := m4_
      have Bge := m5_
      have Bgw := m6_
      have Bgx := m7_
      have Bgg := m8_
      have Fu := m9_
      have HB := m10_
      have Oz_u := m11_
      have Ou := m12_
      have OWu := m13_
      clear m0_ m1_ m2_ m3_ m4_ m5_ m6_ m7_ m8_ m9_ m10_ m11_ m12_ m13_
      clear ho hb hrg_ hlo_ hle_ hhi_
      refine hK.out _ _ ⟨(blk_cell Bga.out 0).trans rfl, (blk_cell Bga.out 1).trans rfl, (blk_cell Bge.out 0).trans rfl, (blk_cell Bge.out 1).trans rfl, (blk_cell Bgw.out 0).trans rfl, (blk_cell Bgw.out 1).trans rfl, (blk_cell Bgx.out 0).trans rfl, (blk_cell Bgx.out 1).trans rfl, (blk_cell Bgg.out 0).trans rfl, (blk_cell Bgg.out 1).trans rfl⟩ (fun hHeld => ?_)
      clear hK K
      refine norm_ (a' := ?_) ?_ ?_
      rotate_left
      · show Act.put _ (some 81) _ = _
        simp only [Act.put, List.setIfInBounds_toArray, List.set_cons_zero, List.set_cons_succ, i64_w, i32_w]
        rfl
      refine two_ (i := 3) (j := 8) (Ni := some 83) (Nj := some 14) #[true, true, true, true, false, false, false, false, false, false, false] #[true, true, true, false, false, false, false, false, true, false, false] rfl rfl rfl rfl (two_of HT_.out (by kernel_rfl)) (by decide) (by decide) (fun K hK => ?_) (fun K hK => ?_)
      · skip
        refine goes_ Try.func21 (by kernel_rfl) rfl #[.agg #[.int .i64 M, .int .i64 O]] (by rfl) rfl rfl (by (try simp only [List.map_toArray, List.map_cons, List.map_nil]); first | done | rfl) ?_
        with_reducible refine (laws_toEdge.calls M O M O _ hte).mono ?_
        rintro e y44 ⟨rfl, hb⟩
        refine ⟨_, rfl, ?_⟩
        have m0_ := Aside0.mk (Ng.below Fw.out hb)
        have m1_ := Aside0.mk (Rg.below Fx.out hb)
        have m2_ := Aside0.mk (Rg.below Fg.out hb)
        have m3_ := Aside0.mk (Rg.below Fz.out hb)
        have m4_ := Aside0.mk (Rg.below Fu.out hb)
        have m5_ := Aside0.mk (blk_below Bga.out hb)
        have m6_ := Aside0.mk (blk_below Bge.out hb)
        have m7_ := Aside0.mk (blk_below Bgw.out hb)
        have m8_ := Aside0.mk (blk_below Bgx.out hb)
        have m9_ := Aside0.mk (blk_below Bgg.out hb)
        have m10_ := Aside0.mk (below_step HB.out hb)
        clear Fw Fx Fg Fz Fu Bga Bge Bgw Bgx Bgg HB
        have Fw := m0_
        have Fx := m1_
        have Fg := m2_
        have Fz := m3_
        have Fu := m4_
        have Bga := m5_
        have Bge := m6_
        have Bgw := m7_
        have Bgx := m8_
        have Bgg := m9_
        have HB := m10_
        clear m0_ m1_ m2_ m3_ m4_ m5_ m6_ m7_ m8_ m9_ m10_
        clear hb
        refine hK.out _ _ ⟨(blk_cell Bga.out 0).trans rfl, (blk_cell Bga.out 1).trans rfl, (blk_cell Bge.out 0).trans rfl, (blk_cell Bge.out 1).trans rfl, (blk_cell Bgw.out 0).trans rfl, (blk_cell Bgw.out 1).trans rfl, (blk_cell Bgx.out 0).trans rfl, (blk_cell Bgx.out 1).trans rfl, (blk_cell Bgg.out 0).trans rfl, (blk_cell Bgg.out 1).trans rfl⟩ (fun hHeld => ?_)
        clear hK K
        refine norm_ (a' := ?_) ?_ ?_
        rotate_left
        · show Act.put _ (some 83) _ = _
          simp only [Act.put, List.setIfInBounds_toArray, List.set_cons_zero, List.set_cons_succ, i64_w, i32_w]
          rfl
        refine two_ (i := 4) (j := 8) (Ni := some 84) (Nj := some 14) #[true, true, true, true, true, false, false, false, false, false, false] #[true, true, true, true, false, false, false, false, true, false, false] rfl rfl rfl rfl (two_of HT_.out (by kernel_rfl)) (by decide) (by decide) (fun K hK => ?_) (fun K hK => ?_)
        · skip
          refine goes_ Try.func31 (by kernel_rfl) rfl #[.agg #[.int .i64 n, .slice Au L.length cu], .agg #[.int .i64 M, .int .i64 O]] (by rfl) rfl rfl (by (try simp only [List.map_toArray, List.map_cons, List.map_nil]); first | done | rfl) ?_
          with_reducible refine (impl_Link.callsS k n _ _ L M O m0 R b _ Fu.out.C Fu.out.cap hi).mono ?_
          rintro e y45 ⟨v_, rfl, ho, hb⟩
          refine ⟨_, rfl, ?_⟩
          obtain ⟨loh, hih, hlo_, hle_, hhi_, hrg_⟩ := Rg.born (b := w.heap.size) ho hb (below_size HB.out)
          obtain ⟨Ah, ch, rfl⟩ := hrg_.slice
          have m0_ := Aside0.mk (Ng.below Fw.out hb)
          have m1_ := Aside0.mk (Rg.below Fx.out hb)
          have m2_ := Aside0.mk (Rg.below Fg.out hb)
          have m3_ := Aside0.mk (Rg.below Fz.out hb)
          have m4_ := Aside0.mk (Rg.below Fu.out hb)
          have m5_ := Aside0.mk (blk_below Bga.out hb)
          have m6_ := Aside0.mk (blk_below Bge.out hb)
          have m7_ := Aside0.mk (blk_below Bgw.out hb)
          have m8_ := Aside0.mk (blk_below Bgx.out hb)
          have m9_ := Aside0.mk (blk_below Bgg.out hb)
          have m10_ := Aside0.mk (hrg_)
          have m11_ := Aside0.mk (below_step HB.out hb)
          have m12_ := Aside0.mk ((by rw [hlo_]; exact Rg.le Fz.out : hiz ≤ loh))
          have m13_ := Aside0.mk ((by rw [hlo_]; exact Rg.le Fu.out : hiu ≤ loh))
          have m14_ := Aside0.mk ((hle_ : loh ≤ hih))
          have m15_ := Aside0.mk ((by rw [hlo_]; exact below_size HB.out : w.heap.size ≤ loh))
          clear Fw Fx Fg Fz Fu Bga Bge Bgw Bgx Bgg HB
          have Fw := m0_
          have Fx := m1_
          have Fg := m2_
          have Fz := m3_
          have Fu := m4_
          have Bga := m5_
          have Bge := m6_
          have Bgw := m7_
          have Bgx := m8_
          have Bgg := m9_
          have Fh := m10_
          have HB := m11_
          have Oz_h := m12_
          have Ou_h := m13_
          have Oh := m14_
          have OWh := m15_
          clear m0_ m1_ m2_ m3_ m4_ m5_ m6_ m7_ m8_ m9_ m10_ m11_ m12_ m13_ m14_ m15_
          clear ho hb hrg_ hlo_ hle_ hhi_
          clear Fu
          refine hK.out _ _ ⟨(blk_cell Bga.out 0).trans rfl, (blk_cell Bga.out 1).trans rfl, (blk_cell Bge.out 0).trans rfl, (blk_cell Bge.out 1).trans rfl, (blk_cell Bgw.out 0).trans rfl, (blk_cell Bgw.out 1).trans rfl, (blk_cell Bgx.out 0).trans rfl, (blk_cell Bgx.out 1).trans rfl, (blk_cell Bgg.out 0).trans rfl, (blk_cell Bgg.out 1).trans rfl⟩ (fun hHeld => ?_)
          clear hK K
          refine norm_ (a' := ?_) ?_ ?_
          rotate_left
          · show Act.put _ (some 84) _ = _
            simp only [Act.put, List.setIfInBounds_toArray, List.set_cons_zero, List.set_cons_succ, i64_w, i32_w]
            rfl
          refine pure_ (i := 5) (N := some 79) (v := ?_) (a' := ?_) #[true, true, true, true, true, true, false, false, false, false, false] rfl rfl (any_of HT_.out (by kernel_rfl)) (fun _ _ _ h => h) (Or.inl ⟨by rfl, ?_⟩) ?_ ?_
          rotate_left
          · intro w_
            go_simp
            with_reducible rfl
          rotate_left
          · simp only [Act.put, List.setIfInBounds_toArray, List.set_cons_zero, List.set_cons_succ, i64_w, i32_w]
            rfl
          refine pure_ (i := 6) (N := some 85) (v := ?_) (a' := ?_) #[true, true, true, true, true, true, true, false, false, false, false] rfl rfl (any_of HT_.out (by kernel_rfl)) (fun _ _ _ h => h) (Or.inl ⟨by rfl, ?_⟩) ?_ ?_
          rotate_left
          · intro w_
            go_simp
            with_reducible rfl
          rotate_left
          · simp only [Act.put, List.setIfInBounds_toArray, List.set_cons_zero, List.set_cons_succ, i64_w, i32_w]
            rfl
          refine pure_ (i := 7) (N := some 86) (v := ?_) (a' := ?_) #[true, true, true, true, true, true, true, true, false, false, false] rfl rfl (any_of HT_.out (by kernel_rfl)) (fun _ _ _ h => h) (Or.inl ⟨by rfl, ?_⟩) ?_ ?_
          rotate_left
          · intro w_
            go_simp
            with_reducible rfl
          rotate_left
          · simp only [Act.put, List.setIfInBounds_toArray, List.set_cons_zero, List.set_cons_succ, i64_w, i32_w]
            rfl
          refine one_ (i := 8) (N := some 14) #[true, true, true, true, true, true, true, true, true, false, false] rfl rfl (one_of HT_.out (by kernel_rfl)) (by decide) (fun K hK => ?_)
          refine box_step ?hg (N := 14) ?hd (cs := #[.int .i64 0, .slice none 0 0]) (t := 39) ?hr ?_; (case hd => rfl); (case hg => rfl); (case hr => first | (go_simp; done) | (go_simp; rfl))
          intro gh hg y46 hbox hb
          have m0_ := Aside0.mk (Ng.below Fw.out hb)
          have m1_ := Aside0.mk (Rg.below Fx.out hb)
          have m2_ := Aside0.mk (Rg.below Fg.out hb)
          have m3_ := Aside0.mk (Rg.below Fz.out hb)
          have m4_ := Aside0.mk (Rg.below Fh.out hb)
          have m5_ := Aside0.mk (blk_below Bga.out hb)
          have m6_ := Aside0.mk (blk_below Bge.out hb)
          have m7_ := Aside0.mk (blk_below Bgw.out hb)
          have m8_ := Aside0.mk (blk_below Bgx.out hb)
          have m9_ := Aside0.mk (blk_below Bgg.out hb)
          have m10_ := Aside0.mk (hbox)
          have m11_ := Aside0.mk (below_step HB.out hb)
          have m12_ := Aside0.mk ((by rw [hg]; exact Rg.le Fz.out : hiz ≤ gh))
          have m13_ := Aside0.mk ((by rw [hg]; exact Rg.le Fh.out : hih ≤ gh))
          have m14_ := Aside0.mk ((by rw [hg]; exact below_size HB.out : w.heap.size ≤ gh))
          clear Fw Fx Fg Fz Fh Bga Bge Bgw Bgx Bgg HB
          have Fw := m0_
          have Fx := m1_
          have Fg := m2_
          have Fz := m3_
          have Fh := m4_
          have Bga := m5_
          have Bge := m6_
          have Bgw := m7_
          have Bgx := m8_
          have Bgg := m9_
          have Bgh := m10_
          have HB := m11_
          have Oz_gh := m12_
          have Oh_gh := m13_
          have OWgh := m14_
          clear m0_ m1_ m2_ m3_ m4_ m5_ m6_ m7_ m8_ m9_ m10_ m11_ m12_ m13_ m14_
          clear hg hbox hb
          refine hK.out _ _ ⟨(blk_cell Bga.out 0).trans rfl, (blk_cell Bga.out 1).trans rfl, (blk_cell Bge.out 0).trans rfl, (blk_cell Bge.out 1).trans rfl, (blk_cell Bgw.out 0).trans rfl, (blk_cell Bgw.out 1).trans rfl, (blk_cell Bgx.out 0).trans rfl, (blk_cell Bgx.out 1).trans rfl, (blk_cell Bgg.out 0).trans rfl, (blk_cell Bgg.out 1).trans rfl⟩ (fun hHeld => ?_)
          clear hK K
          refine norm_ (a' := ?_) ?_ ?_
          rotate_left
          · show Act.put _ (some 14) _ = _
            simp only [Act.put, List.setIfInBounds_toArray, List.set_cons_zero, List.set_cons_succ, i64_w, i32_w]
            rfl
          exact norm_ (by simp only [putAll, Act.put, List.setIfInBounds_toArray, List.set_cons_zero, List.set_cons_succ]) (hCont (Ah, ch, loh, hih, gh, Au, cu) _ ⟨⟨(blk_cell Bga.out 0).trans rfl, (blk_cell Bga.out 1).trans rfl, (blk_cell Bge.out 0).trans rfl, (blk_cell Bge.out 1).trans rfl, (blk_cell Bgw.out 0).trans rfl, (blk_cell Bgw.out 1).trans rfl, (blk_cell Bgx.out 0).trans rfl, (blk_cell Bgx.out 1).trans rfl, (blk_cell Bgg.out 0).trans rfl, (blk_cell Bgg.out 1).trans rfl⟩, Fw.out, Fx.out, Fg.out, Fz.out, Bga.out, Bge.out, Bgw.out, Bgx.out, Bgg.out, Fh.out, Bgh.out, (by (try dsimp only); have := OWga.out; have := Oga_ge.out; have := OWge.out; have := OWw.out; have := Ow.out; have := OWgw.out; have := Oge_w.out; have := Oge_gw.out; have := Pw_gw.out; have := Ow_x.out; have := Ogw_x.out; have := Ox.out; have := OWx.out; have := Ox_gx.out; have := OWgx.out; have := OWg.out; have := Og.out; have := OWgg.out; have := Ogx_g.out; have := Ogx_gg.out; have := Pg_gg.out; have := Og_z.out; have := Ogg_z.out; have := Oz.out; have := OWz.out; have := Oz_u.out; have := Ou.out; have := OWu.out; have := Oz_h.out; have := Ou_h.out; have := Oh.out; have := OWh.out; have := Oz_gh.out; have := Oh_gh.out; have := OWgh.out; omega), (by (try dsimp only); have := OWga.out; have := Oga_ge.out; have := OWge.out; have := OWw.out; have := Ow.out; have := OWgw.out; have := Oge_w.out; have := Oge_gw.out; have := Pw_gw.out; have := Ow_x.out; have := Ogw_x.out; have := Ox.out; have := OWx.out; have := Ox_gx.out; have := OWgx.out; have := OWg.out; have := Og.out; have := OWgg.out; have := Ogx_g.out; have := Ogx_gg.out; have := Pg_gg.out; have := Og_z.out; have := Ogg_z.out; have := Oz.out; have := OWz.out; have := Oz_u.out; have := Ou.out; have := OWu.out; have := Oz_h.out; have := Ou_h.out; have := Oh.out; have := OWh.out; have := Oz_gh.out; have := Oh_gh.out; have := OWgh.out; omega), (by (try dsimp only); have := OWga.out; have := Oga_ge.out; have := OWge.out; have := OWw.out; have := Ow.out; have := OWgw.out; have := Oge_w.out; have := Oge_gw.out; have := Pw_gw.out; have := Ow_x.out; have := Ogw_x.out; have := Ox.out; have := OWx.out; have := Ox_gx.out; have := OWgx.out; have := OWg.out; have := Og.out; have := OWgg.out; have := Ogx_g.out; have := Ogx_gg.out; have := Pg_gg.out; have := Og_z.out; have := Ogg_z.out; have := Oz.out; have := OWz.out; have := Oz_u.out; have := Ou.out; have := OWu.out; have := Oz_h.out; have := Ou_h.out; have := Oh.out; have := OWh.out; have := Oz_gh.out; have := Oh_gh.out; have := OWgh.out; omega), (by (try dsimp only); have := OWga.out; have := Oga_ge.out; have := OWge.out; have := OWw.out; have := Ow.out; have := OWgw.out; have := Oge_w.out; have := Oge_gw.out; have := Pw_gw.out; have := Ow_x.out; have := Ogw_x.out; have := Ox.out; have := OWx.out; have := Ox_gx.out; have := OWgx.out; have := OWg.out; have := Og.out; have := OWgg.out; have := Ogx_g.out; have := Ogx_gg.out; have := Pg_gg.out; have := Og_z.out; have := Ogg_z.out; have := Oz.out; have := OWz.out; have := Oz_u.out; have := Ou.out; have := OWu.out; have := Oz_h.out; have := Ou_h.out; have := Oh.out; have := OWh.out; have := Oz_gh.out; have := Oh_gh.out; have := OWgh.out; omega), (by (try dsimp only); have := OWga.out; have := Oga_ge.out; have := OWge.out; have := OWw.out; have := Ow.out; have := OWgw.out; have := Oge_w.out; have := Oge_gw.out; have := Pw_gw.out; have := Ow_x.out; have := Ogw_x.out; have := Ox.out; have := OWx.out; have := Ox_gx.out; have := OWgx.out; have := OWg.out; have := Og.out; have := OWgg.out; have := Ogx_g.out; have := Ogx_gg.out; have := Pg_gg.out; have := Og_z.out; have := Ogg_z.out; have := Oz.out; have := OWz.out; have := Oz_u.out; have := Ou.out; have := OWu.out; have := Oz_h.out; have := Ou_h.out; have := Oh.out; have := OWh.out; have := Oz_gh.out; have := Oh_gh.out; have := OWgh.out; omega), (by (try dsimp only); have := OWga.out; have := Oga_ge.out; have := OWge.out; have := OWw.out; have := Ow.out; have := OWgw.out; have := Oge_w.out; have := Oge_gw.out; have := Pw_gw.out; have := Ow_x.out; have := Ogw_x.out; have := Ox.out; have := OWx.out; have := Ox_gx.out; have := OWgx.out; have := OWg.out; have := Og.out; have := OWgg.out; have := Ogx_g.out; have := Ogx_gg.out; have := Pg_gg.out; have := Og_z.out; have := Ogg_z.out; have := Oz.out; have := OWz.out; have := Oz_u.out; have := Ou.out; have := OWu.out; have := Oz_h.out; have := Ou_h.out; have := Oh.out; have := OWh.out; have := Oz_gh.out; have := Oh_gh.out; have := OWgh.out; omega), HB.out⟩)
        · skip
          refine box_step ?hg (N := 14) ?hd (cs := #[.int .i64 0, .slice none 0 0]) (t := 39) ?hr ?_; (case hd => rfl); (case hg => rfl); (case hr => first | (go_simp; done) | (go_simp; rfl))
          intro gh hg y47 hbox hb
          have m0_ := Aside0.mk (Ng.below Fw.out hb)
          have m1_ := Aside0.mk (Rg.below Fx.out hb)
          have m2_ := Aside0.mk (Rg.below Fg.out hb)
          have m3_ := Aside0.mk (Rg.below Fz.out hb)
          have m4_ := Aside0.mk (Rg.below Fu.out hb)
          have m5_ := Aside0.mk (blk_below Bga.out hb)
          have m6_ := Aside0.mk (blk_below Bge.out hb)
          have m7_ := Aside0.mk (blk_below Bgw.out hb)
          have m8_ := Aside0.mk (blk_below Bgx.out hb)
          have m9_ := Aside0.mk (blk_below Bgg.out hb)
          have m10_ := Aside0.mk (hbox)
          have m11_ := Aside0.mk (below_step HB.out hb)
          have m12_ := Aside0.mk ((by rw [hg]; exact Rg.le Fz.out : hiz ≤ gh))
          have m13_ := Aside0.mk ((by rw [hg]; exact Rg.le Fu.out : hiu ≤ gh))
          have m14_ := Aside0.mk ((by rw [hg]; exact below_size HB.out : w.heap.size ≤ gh))
          clear Fw Fx Fg Fz Fu Bga Bge Bgw Bgx Bgg HB
          have Fw := m0_
          have Fx := m1_
          have Fg := m2_
          have Fz := m3_
          have Fu := m4_
          have Bga := m5_
          have Bge := m6_
          have Bgw := m7_
          have Bgx := m8_
          have Bgg := m9_
          have Bgh := m10_
          have HB := m11_
          have Oz_gh := m12_
          have Ou_gh := m13_
          have OWgh := m14_
          clear m0_ m1_ m2_ m3_ m4_ m5_ m6_ m7_ m8_ m9_ m10_ m11_ m12_ m13_ m14_
          clear hg hbox hb
          refine hK.out _ _ ⟨(blk_cell Bga.out 0).trans rfl, (blk_cell Bga.out 1).trans rfl, (blk_cell Bge.out 0).trans rfl, (blk_cell Bge.out 1).trans rfl, (blk_cell Bgw.out 0).trans rfl, (blk_cell Bgw.out 1).trans rfl, (blk_cell Bgx.out 0).trans rfl, (blk_cell Bgx.out 1).trans rfl, (blk_cell Bgg.out 0).trans rfl, (blk_cell Bgg.out 1).trans rfl⟩ (fun hHeld => ?_)
          clear hK K
          refine norm_ (a' := ?_) ?_ ?_
          rotate_left
          · show Act.put _ (some 14) _ = _
            simp only [Act.put, List.setIfInBounds_toArray, List.set_cons_zero, List.set_cons_succ, i64_w, i32_w]
            rfl
          refine one_ (i := 4) (N := some 84) #[true, true, true, true, true, false, false, false, true, false, false] rfl rfl (one_of HT_.out (by kernel_rfl)) (by decide) (fun K hK => ?_)
          refine goes_ Try.func31 (by kernel_rfl) rfl #[.agg #[.int .i64 n, .slice Au L.length cu], .agg #[.int .i64 M, .int .i64 O]] (by rfl) rfl rfl (by (try simp only [List.map_toArray, List.map_cons, List.map_nil]); first | done | rfl) ?_
          with_reducible refine (impl_Link.callsS k n _ _ L M O m0 R b _ Fu.out.C Fu.out.cap hi).mono ?_
          rintro e y48 ⟨v_, rfl, ho, hb⟩
          refine ⟨_, rfl, ?_⟩
          obtain ⟨loh, hih, hlo_, hle_, hhi_, hrg_⟩ := Rg.born (b := w.heap.size) ho hb (below_size HB.out)
          obtain ⟨Ah, ch, rfl⟩ := hrg_.slice
          have m0_ := Aside0.mk (Ng.below Fw.out hb)
          have m1_ := Aside0.mk (Rg.below Fx.out hb)
          have m2_ := Aside0.mk (Rg.below Fg.out hb)
          have m3_ := Aside0.mk (Rg.below Fz.out hb)
          have m4_ := Aside0.mk (Rg.below Fu.out hb)
          have m5_ := Aside0.mk (blk_below Bga.out hb)
          have m6_ := Aside0.mk (blk_below Bge.out hb)
          have m7_ := Aside0.mk (blk_below Bgw.out hb)
          have m8_ := Aside0.mk (blk_below Bgx.out hb)
          have m9_ := Aside0.mk (blk_below Bgg.out hb)
          have m10_ := Aside0.mk (blk_below Bgh.out hb)
          have m11_ := Aside0.mk (hrg_)
          have m12_ := Aside0.mk (below_step HB.out hb)
          have m13_ := Aside0.mk ((by rw [hlo_]; exact Rg.le Fz.out : hiz ≤ loh))
          have m14_ := Aside0.mk ((by rw [hlo_]; exact Rg.le Fu.out : hiu ≤ loh))
          have m15_ := Aside0.mk ((by rw [hlo_]; exact blk_lt Bgh.out : gh < loh))
          have m16_ := Aside0.mk ((hle_ : loh ≤ hih))
          have m17_ := Aside0.mk ((by rw [hlo_]; exact below_size HB.out : w.heap.size ≤ loh))
          clear Fw Fx Fg Fz Fu Bga Bge Bgw Bgx Bgg Bgh HB
          have Fw := m0_
          have Fx := m1_
          have Fg := m2_
          have Fz := m3_
          have Fu := m4_
          have Bga := m5_
          have Bge := m6_
          have Bgw := m7_
          have Bgx := m8_
          have Bgg := m9_
          have Bgh := m10_
          have Fh := m11_
          have HB := m12_
          have Oz_h := m13_
          have Ou_h := m14_
          have Ogh_h := m15_
          have Oh := m16_
          have OWh := m17_
          clear m0_ m1_ m2_ m3_ m4_ m5_ m6_ m7_ m8_ m9_ m10_ m11_ m12_ m13_ m14_ m15_ m16_ m17_
          clear ho hb hrg_ hlo_ hle_ hhi_
          clear Fu
          refine hK.out _ _ ⟨(blk_cell Bga.out 0).trans rfl, (blk_cell Bga.out 1).trans rfl, (blk_cell Bge.out 0).trans rfl, (blk_cell Bge.out 1).trans rfl, (blk_cell Bgw.out 0).trans rfl, (blk_cell Bgw.out 1).trans rfl, (blk_cell Bgx.out 0).trans rfl, (blk_cell Bgx.out 1).trans rfl, (blk_cell Bgg.out 0).trans rfl, (blk_cell Bgg.out 1).trans rfl⟩ (fun hHeld => ?_)
          clear hK K
          refine norm_ (a' := ?_) ?_ ?_
          rotate_left
          · show Act.put _ (some 84) _ = _
            simp only [Act.put, List.setIfInBounds_toArray, List.set_cons_zero, List.set_cons_succ, i64_w, i32_w]
            rfl
          refine pure_ (i := 5) (N := some 79) (v := ?_) (a' := ?_) #[true, true, true, true, true, true, false, false, true, false, false] rfl rfl (any_of HT_.out (by kernel_rfl)) (fun _ _ _ h => h) (Or.inl ⟨by rfl, ?_⟩) ?_ ?_
          rotate_left
          · intro w_
            go_simp
            with_reducible rfl
          rotate_left
          · simp only [Act.put, List.setIfInBounds_toArray, List.set_cons_zero, List.set_cons_succ, i64_w, i32_w]
            rfl
          refine pure_ (i := 6) (N := some 85) (v := ?_) (a' := ?_) #[true, true, true, true, true, true, true, false, true, false, false] rfl rfl (any_of HT_.out (by kernel_rfl)) (fun _ _ _ h => h) (Or.inl ⟨by rfl, ?_⟩) ?_ ?_
          rotate_left
          · intro w_
            go_simp
            with_reducible rfl
          rotate_left
          · simp only [Act.put, List.setIfInBounds_toArray, List.set_cons_zero, List.set_cons_succ, i64_w, i32_w]
            rfl
          refine pure_ (i := 7) (N := some 86) (v := ?_) (a' := ?_) #[true, true, true, true, true, true, true, true, true, false, false] rfl rfl (any_of HT_.out (by kernel_rfl)) (fun _ _ _ h => h) (Or.inl ⟨by rfl, ?_⟩) ?_ ?_
          rotate_left
          · intro w_
            go_simp
            with_reducible rfl
          rotate_left
          · simp only [Act.put, List.setIfInBounds_toArray, List.set_cons_zero, List.set_cons_succ, i64_w, i32_w]
            rfl
          exact norm_ (by simp only [putAll, Act.put, List.setIfInBounds_toArray, List.set_cons_zero, List.set_cons_succ]) (hCont (Ah, ch, loh, hih, gh, Au, cu) _ ⟨⟨(blk_cell Bga.out 0).trans rfl, (blk_cell Bga.out 1).trans rfl, (blk_cell Bge.out 0).trans rfl, (blk_cell Bge.out 1).trans rfl, (blk_cell Bgw.out 0).trans rfl, (blk_cell Bgw.out 1).trans rfl, (blk_cell Bgx.out 0).trans rfl, (blk_cell Bgx.out 1).trans rfl, (blk_cell Bgg.out 0).trans rfl, (blk_cell Bgg.out 1).trans rfl⟩, Fw.out, Fx.out, Fg.out, Fz.out, Bga.out, Bge.out, Bgw.out, Bgx.out, Bgg.out, Fh.out, Bgh.out, (by (try dsimp only); have := OWga.out; have := Oga_ge.out; have := OWge.out; have := OWw.out; have := Ow.out; have := OWgw.out; have := Oge_w.out; have := Oge_gw.out; have := Pw_gw.out; have := Ow_x.out; have := Ogw_x.out; have := Ox.out; have := OWx.out; have := Ox_gx.out; have := OWgx.out; have := OWg.out; have := Og.out; have := OWgg.out; have := Ogx_g.out; have := Ogx_gg.out; have := Pg_gg.out; have := Og_z.out; have := Ogg_z.out; have := Oz.out; have := OWz.out; have := Oz_u.out; have := Ou.out; have := OWu.out; have := Oz_gh.out; have := Ou_gh.out; have := OWgh.out; have := Oz_h.out; have := Ou_h.out; have := Ogh_h.out; have := Oh.out; have := OWh.out; omega), (by (try dsimp only); have := OWga.out; have := Oga_ge.out; have := OWge.out; have := OWw.out; have := Ow.out; have := OWgw.out; have := Oge_w.out; have := Oge_gw.out; have := Pw_gw.out; have := Ow_x.out; have := Ogw_x.out; have := Ox.out; have := OWx.out; have := Ox_gx.out; have := OWgx.out; have := OWg.out; have := Og.out; have := OWgg.out; have := Ogx_g.out; have := Ogx_gg.out; have := Pg_gg.out; have := Og_z.out; have := Ogg_z.out; have := Oz.out; have := OWz.out; have := Oz_u.out; have := Ou.out; have := OWu.out; have := Oz_gh.out; have := Ou_gh.out; have := OWgh.out; have := Oz_h.out; have := Ou_h.out; have := Ogh_h.out; have := Oh.out; have := OWh.out; omega), (by (try dsimp only); have := OWga.out; have := Oga_ge.out; have := OWge.out; have := OWw.out; have := Ow.out; have := OWgw.out; have := Oge_w.out; have := Oge_gw.out; have := Pw_gw.out; have := Ow_x.out; have := Ogw_x.out; have := Ox.out; have := OWx.out; have := Ox_gx.out; have := OWgx.out; have := OWg.out; have := Og.out; have := OWgg.out; have := Ogx_g.out; have := Ogx_gg.out; have := Pg_gg.out; have := Og_z.out; have := Ogg_z.out; have := Oz.out; have := OWz.out; have := Oz_u.out; have := Ou.out; have := OWu.out; have := Oz_gh.out; have := Ou_gh.out; have := OWgh.out; have := Oz_h.out; have := Ou_h.out; have := Ogh_h.out; have := Oh.out; have := OWh.out; omega), (by (try dsimp only); have := OWga.out; have := Oga_ge.out; have := OWge.out; have := OWw.out; have := Ow.out; have := OWgw.out; have := Oge_w.out; have := Oge_gw.out; have := Pw_gw.out; have := Ow_x.out; have := Ogw_x.out; have := Ox.out; have := OWx.out; have := Ox_gx.out; have := OWgx.out; have := OWg.out; have := Og.out; have := OWgg.out; have := Ogx_g.out; have := Ogx_gg.out; have := Pg_gg.out; have := Og_z.out; have := Ogg_z.out; have := Oz.out; have := OWz.out; have := Oz_u.out; have := Ou.out; have := OWu.out; have := Oz_gh.out; have := Ou_gh.out; have := OWgh.out; have := Oz_h.out; have := Ou_h.out; have := Ogh_h.out; have := Oh.out; have := OWh.out; omega), (by (try dsimp only); have := OWga.out; have := Oga_ge.out; have := OWge.out; have := OWw.out; have := Ow.out; have := OWgw.out; have := Oge_w.out; have := Oge_gw.out; have := Pw_gw.out; have := Ow_x.out; have := Ogw_x.out; have := Ox.out; have := OWx.out; have := Ox_gx.out; have := OWgx.out; have := OWg.out; have := Og.out; have := OWgg.out; have := Ogx_g.out; have := Ogx_gg.out; have := Pg_gg.out; have := Og_z.out; have := Ogg_z.out; have := Oz.out; have := OWz.out; have := Oz_u.out; have := Ou.out; have := OWu.out; have := Oz_gh.out; have := Ou_gh.out; have := OWgh.out; have := Oz_h.out; have := Ou_h.out; have := Ogh_h.out; have := Oh.out; have := OWh.out; omega), (by (try dsimp only); have := OWga.out; have := Oga_ge.out; have := OWge.out; have := OWw.out; have := Ow.out; have := OWgw.out; have := Oge_w.out; have := Oge_gw.out; have := Pw_gw.out; have := Ow_x.out; have := Ogw_x.out; have := Ox.out; have := OWx.out; have := Ox_gx.out; have := OWgx.out; have := OWg.out; have := Og.out; have := OWgg.out; have := Ogx_g.out; have := Ogx_gg.out; have := Pg_gg.out; have := Og_z.out; have := Ogg_z.out; have := Oz.out; have := OWz.out; have := Oz_u.out; have := Ou.out; have := OWu.out; have := Oz_gh.out; have := Ou_gh.out; have := OWgh.out; have := Oz_h.out; have := Ou_h.out; have := Ogh_h.out; have := Oh.out; have := OWh.out; omega), HB.out⟩)
      · skip
        refine box_step ?hg (N := 14) ?hd (cs := #[.int .i64 0, .slice none 0 0]) (t := 39) ?hr ?_; (case hd => rfl); (case hg => rfl); (case hr => first | (go_simp; done) | (go_simp; rfl))
        intro gh hg y49 hbox hb
        have m0_ := Aside0.mk (Ng.below Fw.out hb)
        have m1_ := Aside0.mk (Rg.below Fx.out hb)
        have m2_ := Aside0.mk (Rg.below Fg.out hb)
        have m3_ := Aside0.mk (Rg.below Fz.out hb)
        have m4_ := Aside0.mk (Rg.below Fu.out hb)
        have m5_ := Aside0.mk (blk_below Bga.out hb)
        have m6_ := Aside0.mk (blk_below Bge.out hb)
        have m7_ := Aside0.mk (blk_below Bgw.out hb)
        have m8_ := Aside0.mk (blk_below Bgx.out hb)
        have m9_ := Aside0.mk (blk_below Bgg.out hb)
        have m10_ := Aside0.mk (hbox)
        have m11_ := Aside0.mk (below_step HB.out hb)
        have m12_ := Aside0.mk ((by rw [hg]; exact Rg.le Fz.out : hiz ≤ gh))
        have m13_ := Aside0.mk ((by rw [hg]; exact Rg.le Fu.out : hiu ≤ gh))
        have m14_ := Aside0.mk ((by rw [hg]; exact below_size HB.out : w.heap.size ≤ gh))
        clear Fw Fx Fg Fz Fu Bga Bge Bgw Bgx Bgg HB
        have Fw := m0_
        have Fx := m1_
        have Fg := m2_
        have Fz := m3_
        have Fu := m4_
        have Bga := m5_
        have Bge := m6_
        have Bgw := m7_
        have Bgx := m8_
        have Bgg := m9_
        have Bgh := m10_
        have HB := m11_
        have Oz_gh := m12_
        have Ou_gh := m13_
        have OWgh := m14_
        clear m0_ m1_ m2_ m3_ m4_ m5_ m6_ m7_ m8_ m9_ m10_ m11_ m12_ m13_ m14_
        clear hg hbox hb
        refine hK.out _ _ ⟨(blk_cell Bga.out 0).trans rfl, (blk_cell Bga.out 1).trans rfl, (blk_cell Bge.out 0).trans rfl, (blk_cell Bge.out 1).trans rfl, (blk_cell Bgw.out 0).trans rfl, (blk_cell Bgw.out 1).trans rfl, (blk_cell Bgx.out 0).trans rfl, (blk_cell Bgx.out 1).trans rfl, (blk_cell Bgg.out 0).trans rfl, (blk_cell Bgg.out 1).trans rfl⟩ (fun hHeld => ?_)
        clear hK K
        refine norm_ (a' := ?_) ?_ ?_
        rotate_left
        · show Act.put _ (some 14) _ = _
          simp only [Act.put, List.setIfInBounds_toArray, List.set_cons_zero, List.set_cons_succ, i64_w, i32_w]
          rfl
        refine one_ (i := 3) (N := some 83) #[true, true, true, true, false, false, false, false, true, false, false] rfl rfl (one_of HT_.out (by kernel_rfl)) (by decide) (fun K hK => ?_)
        refine goes_ Try.func21 (by kernel_rfl) rfl #[.agg #[.int .i64 M, .int .i64 O]] (by rfl) rfl rfl (by (try simp only [List.map_toArray, List.map_cons, List.map_nil]); first | done | rfl) ?_
        with_reducible refine (laws_toEdge.calls M O M O _ hte).mono ?_
        rintro e y50 ⟨rfl, hb⟩
        refine ⟨_, rfl, ?_⟩
        have m0_ := Aside0.mk (Ng.below Fw.out hb)
        have m1_ := Aside0.mk (Rg.below Fx.out hb)
        have m2_ := Aside0.mk (Rg.below Fg.out hb)
        have m3_ := Aside0.mk (Rg.below Fz.out hb)
        have m4_ := Aside0.mk (Rg.below Fu.out hb)
        have m5_ := Aside0.mk (blk_below Bga.out hb)
        have m6_ := Aside0.mk (blk_below Bge.out hb)
        have m7_ := Aside0.mk (blk_below Bgw.out hb)
        have m8_ := Aside0.mk (blk_below Bgx.out hb)
        have m9_ := Aside0.mk (blk_below Bgg.out hb)
        have m10_ := Aside0.mk (blk_below Bgh.out hb)
        have m11_ := Aside0.mk (below_step HB.out hb)
        clear Fw Fx Fg Fz Fu Bga Bge Bgw Bgx Bgg Bgh HB
        have Fw := m0_
        have Fx := m1_
        have Fg := m2_
        have Fz := m3_
        have Fu := m4_
        have Bga := m5_
        have Bge := m6_
        have Bgw := m7_
        have Bgx := m8_
        have Bgg := m9_
        have Bgh := m10_
        have HB := m11_
        clear m0_ m1_ m2_ m3_ m4_ m5_ m6_ m7_ m8_ m9_ m10_ m11_
        clear hb
        refine hK.out _ _ ⟨(blk_cell Bga.out 0).trans rfl, (blk_cell Bga.out 1).trans rfl, (blk_cell Bge.out 0).trans rfl, (blk_cell Bge.out 1).trans rfl, (blk_cell Bgw.out 0).trans rfl, (blk_cell Bgw.out 1).trans rfl, (blk_cell Bgx.out 0).trans rfl, (blk_cell Bgx.out 1).trans rfl, (blk_cell Bgg.out 0).trans rfl, (blk_cell Bgg.out 1).trans rfl⟩ (fun hHeld => ?_)
        clear hK K
        refine norm_ (a' := ?_) ?_ ?_
        rotate_left
        · show Act.put _ (some 83) _ = _
          simp only [Act.put, List.setIfInBounds_toArray, List.set_cons_zero, List.set_cons_succ, i64_w, i32_w]
          rfl
        refine one_ (i := 4) (N := some 84) #[true, true, true, true, true, false, false, false, true, false, false] rfl rfl (one_of HT_.out (by kernel_rfl)) (by decide) (fun K hK => ?_)
        refine goes_ Try.func31 (by kernel_rfl) rfl #[.agg #[.int .i64 n, .slice Au L.length cu], .agg #[.int .i64 M, .int .i64 O]] (by rfl) rfl rfl (by (try simp only [List.map_toArray, List.map_cons, List.map_nil]); first | done | rfl) ?_
        with_reducible refine (impl_Link.callsS k n _ _ L M O m0 R b _ Fu.out.C Fu.out.cap hi).mono ?_
        rintro e y51 ⟨v_, rfl, ho, hb⟩
        refine ⟨_, rfl, ?_⟩
        obtain ⟨loh, hih, hlo_, hle_, hhi_, hrg_⟩ := Rg.born (b := w.heap.size) ho hb (below_size HB.out)
        obtain ⟨Ah, ch, rfl⟩ := hrg_.slice
        have m0_ := Aside0.mk (Ng.below Fw.out hb)
        have m1_ := Aside0.mk (Rg.below Fx.out hb)
        have m2_ := Aside0.mk (Rg.below Fg.out hb)
        have m3_ := Aside0.mk (Rg.below Fz.out hb)
        have m4_ := Aside0.mk (Rg.below Fu.out hb)
        have m5_ := Aside0.mk (blk_below Bga.out hb)
        have m6_ := Aside0.mk (blk_below Bge.out hb)
        have m7_ := Aside0.mk (blk_below Bgw.out hb)
        have m8_ := Aside0.mk (blk_below Bgx.out hb)
        have m9_ := Aside0.mk (blk_below Bgg.out hb)
        have m10_ := Aside0.mk (blk_below Bgh.out hb)
        have m11_ := Aside0.mk (hrg_)
        have m12_ := Aside0.mk (below_step HB.out hb)
        have m13_ := Aside0.mk ((by rw [hlo_]; exact Rg.le Fz.out : hiz ≤ loh))
        have m14_ := Aside0.mk ((by rw [hlo_]; exact Rg.le Fu.out : hiu ≤ loh))
        have m15_ := Aside0.mk ((by rw [hlo_]; exact blk_lt Bgh.out : gh < loh))
        have m16_ := Aside0.mk ((hle_ : loh ≤ hih))
        have m17_ := Aside0.mk ((by rw [hlo_]; exact below_size HB.out : w.heap.size ≤ loh))
        clear Fw Fx Fg Fz Fu Bga Bge Bgw Bgx Bgg Bgh HB
        have Fw := m0_
        have Fx := m1_
        have Fg := m2_
        have Fz := m3_
        have Fu := m4_
        have Bga := m5_
        have Bge := m6_
        have Bgw := m7_
        have Bgx := m8_
        have Bgg := m9_
        have Bgh := m10_
        have Fh := m11_
        have HB := m12_
        have Oz_h := m13_
        have Ou_h := m14_
        have Ogh_h := m15_
        have Oh := m16_
        have OWh := m17_
        clear m0_ m1_ m2_ m3_ m4_ m5_ m6_ m7_ m8_ m9_ m10_ m11_ m12_ m13_ m14_ m15_ m16_ m17_
        clear ho hb hrg_ hlo_ hle_ hhi_
        clear Fu
        refine hK.out _ _ ⟨(blk_cell Bga.out 0).trans rfl, (blk_cell Bga.out 1).trans rfl, (blk_cell Bge.out 0).trans rfl, (blk_cell Bge.out 1).trans rfl, (blk_cell Bgw.out 0).trans rfl, (blk_cell Bgw.out 1).trans rfl, (blk_cell Bgx.out 0).trans rfl, (blk_cell Bgx.out 1).trans rfl, (blk_cell Bgg.out 0).trans rfl, (blk_cell Bgg.out 1).trans rfl⟩ (fun hHeld => ?_)
        clear hK K
        refine norm_ (a' := ?_) ?_ ?_
        rotate_left
        · show Act.put _ (some 84) _ = _
          simp only [Act.put, List.setIfInBounds_toArray, List.set_cons_zero, List.set_cons_succ, i64_w, i32_w]
          rfl
        refine pure_ (i := 5) (N := some 79) (v := ?_) (a' := ?_) #[true, true, true, true, true, true, false, false, true, false, false] rfl rfl (any_of HT_.out (by kernel_rfl)) (fun _ _ _ h => h) (Or.inl ⟨by rfl, ?_⟩) ?_ ?_
        rotate_left
        · intro w_
          go_simp
          with_reducible rfl
        rotate_left
        · simp only [Act.put, List.setIfInBounds_toArray, List.set_cons_zero, List.set_cons_succ, i64_w, i32_w]
          rfl
        refine pure_ (i := 6) (N := some 85) (v := ?_) (a' := ?_) #[true, true, true, true, true, true, true, false, true, false, false] rfl rfl (any_of HT_.out (by kernel_rfl)) (fun _ _ _ h => h) (Or.inl ⟨by rfl, ?_⟩) ?_ ?_
        rotate_left
        · intro w_
          go_simp
          with_reducible rfl
        rotate_left
        · simp only [Act.put, List.setIfInBounds_toArray, List.set_cons_zero, List.set_cons_succ, i64_w, i32_w]
          rfl
        refine pure_ (i := 7) (N := some 86) (v := ?_) (a' := ?_) #[true, true, true, true, true, true, true, true, true, false, false] rfl rfl (any_of HT_.out (by kernel_rfl)) (fun _ _ _ h => h) (Or.inl ⟨by rfl, ?_⟩) ?_ ?_
        rotate_left
        · intro w_
          go_simp
          with_reducible rfl
        rotate_left
        · simp only [Act.put, List.setIfInBounds_toArray, List.set_cons_zero, List.set_cons_succ, i64_w, i32_w]
          rfl
        exact norm_ (by simp only [putAll, Act.put, List.setIfInBounds_toArray, List.set_cons_zero, List.set_cons_succ]) (hCont (Ah, ch, loh, hih, gh, Au, cu) _ ⟨⟨(blk_cell Bga.out 0).trans rfl, (blk_cell Bga.out 1).trans rfl, (blk_cell Bge.out 0).trans rfl, (blk_cell Bge.out 1).trans rfl, (blk_cell Bgw.out 0).trans rfl, (blk_cell Bgw.out 1).trans rfl, (blk_cell Bgx.out 0).trans rfl, (blk_cell Bgx.out 1).trans rfl, (blk_cell Bgg.out 0).trans rfl, (blk_cell Bgg.out 1).trans rfl⟩, Fw.out, Fx.out, Fg.out, Fz.out, Bga.out, Bge.out, Bgw.out, Bgx.out, Bgg.out, Fh.out, Bgh.out, (by (try dsimp only); have := OWga.out; have := Oga_ge.out; have := OWge.out; have := OWw.out; have := Ow.out; have := OWgw.out; have := Oge_w.out; have := Oge_gw.out; have := Pw_gw.out; have := Ow_x.out; have := Ogw_x.out; have := Ox.out; have := OWx.out; have := Ox_gx.out; have := OWgx.out; have := OWg.out; have := Og.out; have := OWgg.out; have := Ogx_g.out; have := Ogx_gg.out; have := Pg_gg.out; have := Og_z.out; have := Ogg_z.out; have := Oz.out; have := OWz.out; have := Oz_u.out; have := Ou.out; have := OWu.out; have := Oz_gh.out; have := Ou_gh.out; have := OWgh.out; have := Oz_h.out; have := Ou_h.out; have := Ogh_h.out; have := Oh.out; have := OWh.out; omega), (by (try dsimp only); have := OWga.out; have := Oga_ge.out; have := OWge.out; have := OWw.out; have := Ow.out; have := OWgw.out; have := Oge_w.out; have := Oge_gw.out; have := Pw_gw.out; have := Ow_x.out; have := Ogw_x.out; have := Ox.out; have := OWx.out; have := Ox_gx.out; have := OWgx.out; have := OWg.out; have := Og.out; have := OWgg.out; have := Ogx_g.out; have := Ogx_gg.out; have := Pg_gg.out; have := Og_z.out; have := Ogg_z.out; have := Oz.out; have := OWz.out; have := Oz_u.out; have := Ou.out; have := OWu.out; have := Oz_gh.out; have := Ou_gh.out; have := OWgh.out; have := Oz_h.out; have := Ou_h.out; have := Ogh_h.out; have := Oh.out; have := OWh.out; omega), (by (try dsimp only); have := OWga.out; have := Oga_ge.out; have := OWge.out; have := OWw.out; have := Ow.out; have := OWgw.out; have := Oge_w.out; have := Oge_gw.out; have := Pw_gw.out; have := Ow_x.out; have := Ogw_x.out; have := Ox.out; have := OWx.out; have := Ox_gx.out; have := OWgx.out; have := OWg.out; have := Og.out; have := OWgg.out; have := Ogx_g.out; have := Ogx_gg.out; have := Pg_gg.out; have := Og_z.out; have := Ogg_z.out; have := Oz.out; have := OWz.out; have := Oz_u.out; have := Ou.out; have := OWu.out; have := Oz_gh.out; have := Ou_gh.out; have := OWgh.out; have := Oz_h.out; have := Ou_h.out; have := Ogh_h.out; have := Oh.out; have := OWh.out; omega), (by (try dsimp only); have := OWga.out; have := Oga_ge.out; have := OWge.out; have := OWw.out; have := Ow.out; have := OWgw.out; have := Oge_w.out; have := Oge_gw.out; have := Pw_gw.out; have := Ow_x.out; have := Ogw_x.out; have := Ox.out; have := OWx.out; have := Ox_gx.out; have := OWgx.out; have := OWg.out; have := Og.out; have := OWgg.out; have := Ogx_g.out; have := Ogx_gg.out; have := Pg_gg.out; have := Og_z.out; have := Ogg_z.out; have := Oz.out; have := OWz.out; have := Oz_u.out; have := Ou.out; have := OWu.out; have := Oz_gh.out; have := Ou_gh.out; have := OWgh.out; have := Oz_h.out; have := Ou_h.out; have := Ogh_h.out; have := Oh.out; have := OWh.out; omega), (by (try dsimp only); have := OWga.out; have := Oga_ge.out; have := OWge.out; have := OWw.out; have := Ow.out; have := OWgw.out; have := Oge_w.out; have := Oge_gw.out; have := Pw_gw.out; have := Ow_x.out; have := Ogw_x.out; have := Ox.out; have := OWx.out; have := Ox_gx.out; have := OWgx.out; have := OWg.out; have := Og.out; have := OWgg.out; have := Ogx_g.out; have := Ogx_gg.out; have := Pg_gg.out; have := Og_z.out; have := Ogg_z.out; have := Oz.out; have := OWz.out; have := Oz_u.out; have := Ou.out; have := OWu.out; have := Oz_gh.out; have := Ou_gh.out; have := OWgh.out; have := Oz_h.out; have := Ou_h.out; have := Ogh_h.out; have := Oh.out; have := OWh.out; omega), (by (try dsimp only); have := OWga.out; have := Oga_ge.out; have := OWge.out; have := OWw.out; have := Ow.out; have := OWgw.out; have := Oge_w.out; have := Oge_gw.out; have := Pw_gw.out; have := Ow_x.out; have := Ogw_x.out; have := Ox.out; have := OWx.out; have := Ox_gx.out; have := OWgx.out; have := OWg.out; have := Og.out; have := OWgg.out; have := Ogx_g.out; have := Ogx_gg.out; have := Pg_gg.out; have := Og_z.out; have := Ogg_z.out; have := Oz.out; have := OWz.out; have := Oz_u.out; have := Ou.out; have := OWu.out; have := Oz_gh.out; have := Ou_gh.out; have := OWgh.out; have := Oz_h.out; have := Ou_h.out; have := Ogh_h.out; have := Oh.out; have := OWh.out; omega), HB.out⟩)
    · skip
      refine box_step ?hg (N := 14) ?hd (cs := #[.int .i64 0, .slice none 0 0]) (t := 39) ?hr ?_; (case hd => rfl); (case hg => rfl); (case hr => first | (go_simp; done) | (go_simp; rfl))
      intro gh hg y52 hbox hb
      have m0_ := Aside0.mk (Ng.below Fw.out hb)
      have m1_ := Aside0.mk (Rg.below Fx.out hb)
      have m2_ := Aside0.mk (Rg.below Fg.out hb)
      have m3_ := Aside0.mk (Rg.below Fz.out hb)
      have m4_ := Aside0.mk (blk_below Bga.out hb)
      have m5_ := Aside0.mk (blk_below Bge.out hb)
      have m6_ := Aside0.mk (blk_below Bgw.out hb)
      have m7_ := Aside0.mk (blk_below Bgx.out hb)
      have m8_ := Aside0.mk (blk_below Bgg.out hb)
      have m9_ := Aside0.mk (hbox)
      have m10_ := Aside0.mk (below_step HB.out hb)
      have m11_ := Aside0.mk ((by rw [hg]; exact Rg.le Fz.out : hiz ≤ gh))
      have m12_ := Aside0.mk ((by rw [hg]; exact below_size HB.out : w.heap.size ≤ gh))
      clear Fw Fx Fg Fz Bga Bge Bgw Bgx Bgg HB
      have Fw := m0_
      have Fx := m1_
      have Fg := m2_
      have Fz := m3_
      have Bga := m4_
      have Bge := m5_
      have Bgw := m6_
      have Bgx := m7_
      have Bgg := m8_
      have Bgh := m9_
      have HB := m10_
      have Oz_gh := m11_
      have OWgh := m12_
      clear m0_ m1_ m2_ m3_ m4_ m5_ m6_ m7_ m8_ m9_ m10_ m11_ m12_
      clear hg hbox hb
      refine hK.out _ _ ⟨(blk_cell Bga.out 0).trans rfl, (blk_cell Bga.out 1).trans rfl, (blk_cell Bge.out 0).trans rfl, (blk_cell Bge.out 1).trans rfl, (blk_cell Bgw.out 0).trans rfl, (blk_cell Bgw.out 1).trans rfl, (blk_cell Bgx.out 0).trans rfl, (blk_cell Bgx.out 1).trans rfl, (blk_cell Bgg.out 0).trans rfl, (blk_cell Bgg.out 1).trans rfl⟩ (fun hHeld => ?_)
      clear hK K
      refine norm_ (a' := ?_) ?_ ?_
      rotate_left
      · show Act.put _ (some 14) _ = _
        simp only [Act.put, List.setIfInBounds_toArray, List.set_cons_zero, List.set_cons_succ, i64_w, i32_w]
        rfl
      refine one_ (i := 1) (N := some 81) #[true, true, true, false, false, false, false, false, true, false, false] rfl rfl (one_of HT_.out (by kernel_rfl)) (by decide) (fun K hK => ?_)
      refine goes_ Try.func20 (by kernel_rfl) rfl #[.agg #[.int .i64 n, .slice A0 L.length c0]] (by rfl) rfl rfl (by (try simp only [List.map_toArray, List.map_cons, List.map_nil]); first | done | rfl) ?_
      with_reducible refine (laws_toForest.calls k n _ _ L n L _ (Kd.C_below HR0.out HB.out) HC0.out hto).mono ?_
      rintro e y53 ⟨v_, rfl, ho, hb⟩
      refine ⟨_, rfl, ?_⟩
      obtain ⟨lou, hiu, hlo_, hle_, hhi_, hrg_⟩ := Rg.born (b := w.heap.size) ho hb (below_size HB.out)
      obtain ⟨Au, cu, rfl⟩ := hrg_.slice
      have m0_ := Aside0.mk (Ng.below Fw.out hb)
      have m1_ := Aside0.mk (Rg.below Fx.out hb)
      have m2_ := Aside0.mk (Rg.below Fg.out hb)
      have m3_ := Aside0.mk (Rg.below Fz.out hb)
      have m4_ := Aside0.mk (blk_below Bga.out hb)
      have m5_ := Aside0.mk (blk_below Bge.out hb)
      have m6_ := Aside0.mk (blk_below Bgw.out hb)
      have m7_ := Aside0.mk (blk_below Bgx.out hb)
      have m8_ := Aside0.mk (blk_below Bgg.out hb)
      have m9_ := Aside0.mk (blk_below Bgh.out hb)
      have m10_ := Aside0.mk (hrg_)
      have m11_ := Aside0.mk (below_step HB.out hb)
      have m12_ := Aside0.mk ((by rw [hlo_]; exact Rg.le Fz.out : hiz ≤ lou))
      have m13_ := Aside0.mk ((by rw [hlo_]; exact blk_lt Bgh.out : gh < lou))
      have m14_ := Aside0.mk ((hle_ : lou ≤ hiu))
      have m15_ := Aside0.mk ((by rw [hlo_]; exact below_size HB.out : w.heap.size ≤ lou))
      clear Fw Fx Fg Fz Bga Bge Bgw Bgx Bgg Bgh HB
      have Fw := m0_
      have Fx := m1_
      have Fg := m2_
      have Fz := m3_
      have Bga := m4_
      have Bge := m5_
      have Bgw := m6_
      have Bgx := m7_
      have Bgg := m8_
      have Bgh := m9_
      have Fu := m10_
      have HB := m11_
      have Oz_u := m12_
      have Ogh_u := m13_
      have Ou := m14_
      have OWu := m15_
      clear m0_ m1_ m2_ m3_ m4_ m5_ m6_ m7_ m8_ m9_ m10_ m11_ m12_ m13_ m14_ m15_
      clear ho hb hrg_ hlo_ hle_ hhi_
      refine hK.out _ _ ⟨(blk_cell Bga.out 0).trans rfl, (blk_cell Bga.out 1).trans rfl, (blk_cell Bge.out 0).trans rfl, (blk_cell Bge.out 1).trans rfl, (blk_cell Bgw.out 0).trans rfl, (blk_cell Bgw.out 1).trans rfl, (blk_cell Bgx.out 0).trans rfl, (blk_cell Bgx.out 1).trans rfl, (blk_cell Bgg.out 0).trans rfl, (blk_cell Bgg.out 1).trans rfl⟩ (fun hHeld => ?_)
      clear hK K
      refine norm_ (a' := ?_) ?_ ?_
      rotate_left
      · show Act.put _ (some 81) _ = _
        simp only [Act.put, List.setIfInBounds_toArray, List.set_cons_zero, List.set_cons_succ, i64_w, i32_w]
        rfl
      refine one_ (i := 3) (N := some 83) #[true, true, true, true, false, false, false, false, true, false, false] rfl rfl (one_of HT_.out (by kernel_rfl)) (by decide) (fun K hK => ?_)
      refine goes_ Try.func21 (by kernel_rfl) rfl #[.agg #[.int .i64 M, .int .i64 O]] (by rfl) rfl rfl (by (try simp only [List.map_toArray, List.map_cons, List.map_nil]); first | done | rfl) ?_
      with_reducible refine (laws_toEdge.calls M O M O _ hte).mono ?_
      rintro e y54 ⟨rfl, hb⟩
      refine ⟨_, rfl, ?_⟩
      have m0_ := Aside0.mk (Ng.below Fw.out hb)
      have m1_ := Aside0.mk (Rg.below Fx.out hb)
      have m2_ := Aside0.mk (Rg.below Fg.out hb)
      have m3_ := Aside0.mk (Rg.below Fz.out hb)
      have m4_ := Aside0.mk (Rg.below Fu.out hb)
      have m5_ := Aside0.mk (blk_below Bga.out hb)
      have m6_ := Aside0.mk (blk_below Bge.out hb)
      have m7_ := Aside0.mk (blk_below Bgw.out hb)
      have m8_ := Aside0.mk (blk_below Bgx.out hb)
      have m9_ := Aside0.mk (blk_below Bgg.out hb)
      have m10_ := Aside0.mk (blk_below Bgh.out hb)
      have m11_ := Aside0.mk (below_step HB.out hb)
      clear Fw Fx Fg Fz Fu Bga Bge Bgw Bgx Bgg Bgh HB
      have Fw := m0_
      have Fx := m1_
      have Fg := m2_
      have Fz := m3_
      have Fu := m4_
      have Bga := m5_
      have Bge := m6_
      have Bgw := m7_
      have Bgx := m8_
      have Bgg := m9_
      have Bgh := m10_
      have HB := m11_
      clear m0_ m1_ m2_ m3_ m4_ m5_ m6_ m7_ m8_ m9_ m10_ m11_
      clear hb
      refine hK.out _ _ ⟨(blk_cell Bga.out 0).trans rfl, (blk_cell Bga.out 1).trans rfl, (blk_cell Bge.out 0).trans rfl, (blk_cell Bge.out 1).trans rfl, (blk_cell Bgw.out 0).trans rfl, (blk_cell Bgw.out 1).trans rfl, (blk_cell Bgx.out 0).trans rfl, (blk_cell Bgx.out 1).trans rfl, (blk_cell Bgg.out 0).trans rfl, (blk_cell Bgg.out 1).trans rfl⟩ (fun hHeld => ?_)
      clear hK K
      refine norm_ (a' := ?_) ?_ ?_
      rotate_left
      · show Act.put _ (some 83) _ = _
        simp only [Act.put, List.setIfInBounds_toArray, List.set_cons_zero, List.set_cons_succ, i64_w, i32_w]
        rfl
      refine one_ (i := 4) (N := some 84) #[true, true, true, true, true, false, false, false, true, false, false] rfl rfl (one_of HT_.out (by kernel_rfl)) (by decide) (fun K hK => ?_)
      refine goes_ Try.func31 (by kernel_rfl) rfl #[.agg #[.int .i64 n, .slice Au L.length cu], .agg #[.int .i64 M, .int .i64 O]] (by rfl) rfl rfl (by (try simp only [List.map_toArray, List.map_cons, List.map_nil]); first | done | rfl) ?_
      with_reducible refine (impl_Link.callsS k n _ _ L M O m0 R b _ Fu.out.C Fu.out.cap hi).mono ?_
      rintro e y55 ⟨v_, rfl, ho, hb⟩
      refine ⟨_, rfl, ?_⟩
      obtain ⟨loh, hih, hlo_, hle_, hhi_, hrg_⟩ := Rg.born (b := w.heap.size) ho hb (below_size HB.out)
      obtain ⟨Ah, ch, rfl⟩ := hrg_.slice
      have m0_ := Aside0.mk (Ng.below Fw.out hb)
      have m1_ := Aside0.mk (Rg.below Fx.out hb)
      have m2_ := Aside0.mk (Rg.below Fg.out hb)
      have m3_ := Aside0.mk (Rg.below Fz.out hb)
      have m4_ := Aside0.mk (Rg.below Fu.out hb)
      have m5_ := Aside0.mk (blk_below Bga.out hb)
      have m6_ := Aside0.mk (blk_below Bge.out hb)
      have m7_ := Aside0.mk (blk_below Bgw.out hb)
      have m8_ := Aside0.mk (blk_below Bgx.out hb)
      have m9_ := Aside0.mk (blk_below Bgg.out hb)
      have m10_ := Aside0.mk (blk_below Bgh.out hb)
      have m11_ := Aside0.mk (hrg_)
      have m12_ := Aside0.mk (below_step HB.out hb)
      have m13_ := Aside0.mk ((by rw [hlo_]; exact Rg.le Fz.out : hiz ≤ loh))
      have m14_ := Aside0.mk ((by rw [hlo_]; exact blk_lt Bgh.out : gh < loh))
      have m15_ := Aside0.mk ((by rw [hlo_]; exact Rg.le Fu.out : hiu ≤ loh))
      have m16_ := Aside0.mk ((hle_ : loh ≤ hih))
      have m17_ := Aside0.mk ((by rw [hlo_]; exact below_size HB.out : w.heap.size ≤ loh))
      clear Fw Fx Fg Fz Fu Bga Bge Bgw Bgx Bgg Bgh HB
      have Fw := m0_
      have Fx := m1_
      have Fg := m2_
      have Fz := m3_
      have Fu := m4_
      have Bga := m5_
      have Bge := m6_
      have Bgw := m7_
      have Bgx := m8_
      have Bgg := m9_
      have Bgh := m10_
      have Fh := m11_
      have HB := m12_
      have Oz_h := m13_
      have Ogh_h := m14_
      have Ou_h := m15_
      have Oh := m16_
      have OWh := m17_
      clear m0_ m1_ m2_ m3_ m4_ m5_ m6_ m7_ m8_ m9_ m10_ m11_ m12_ m13_ m14_ m15_ m16_ m17_
      clear ho hb hrg_ hlo_ hle_ hhi_
      clear Fu
      refine hK.out _ _ ⟨(blk_cell Bga.out 0).trans rfl, (blk_cell Bga.out 1).trans rfl, (blk_cell Bge.out 0).trans rfl, (blk_cell Bge.out 1).trans rfl, (blk_cell Bgw.out 0).trans rfl, (blk_cell Bgw.out 1).trans rfl, (blk_cell Bgx.out 0).trans rfl, (blk_cell Bgx.out 1).trans rfl, (blk_cell Bgg.out 0).trans rfl, (blk_cell Bgg.out 1).trans rfl⟩ (fun hHeld => ?_)
      clear hK K
      refine norm_ (a' := ?_) ?_ ?_
      rotate_left
      · show Act.put _ (some 84) _ = _
        simp only [Act.put, List.setIfInBounds_toArray, List.set_cons_zero, List.set_cons_succ, i64_w, i32_w]
        rfl
      refine pure_ (i := 5) (N := some 79) (v := ?_) (a' := ?_) #[true, true, true, true, true, true, false, false, true, false, false] rfl rfl (any_of HT_.out (by kernel_rfl)) (fun _ _ _ h => h) (Or.inl ⟨by rfl, ?_⟩) ?_ ?_
      rotate_left
      · intro w_
        go_simp
        with_reducible rfl
      rotate_left
      · simp only [Act.put, List.setIfInBounds_toArray, List.set_cons_zero, List.set_cons_succ, i64_w, i32_w]
        rfl
      refine pure_ (i := 6) (N := some 85) (v := ?_) (a' := ?_) #[true, true, true, true, true, true, true, false, true, false, false] rfl rfl (any_of HT_.out (by kernel_rfl)) (fun _ _ _ h => h) (Or.inl ⟨by rfl, ?_⟩) ?_ ?_
      rotate_left
      · intro w_
        go_simp
        with_reducible rfl
      rotate_left
      · simp only [Act.put, List.setIfInBounds_toArray, List.set_cons_zero, List.set_cons_succ, i64_w, i32_w]
        rfl
      refine pure_ (i := 7) (N := some 86) (v := ?_) (a' := ?_) #[true, true, true, true, true, true, true, true, true, false, false] rfl rfl (any_of HT_.out (by kernel_rfl)) (fun _ _ _ h => h) (Or.inl ⟨by rfl, ?_⟩) ?_ ?_
      rotate_left
      · intro w_
        go_simp
        with_reducible rfl
      rotate_left
      · simp only [Act.put, List.setIfInBounds_toArray, List.set_cons_zero, List.set_cons_succ, i64_w, i32_w]
        rfl
      exact norm_ (by simp only [putAll, Act.put, List.setIfInBounds_toArray, List.set_cons_zero, List.set_cons_succ]) (hCont (Ah, ch, loh, hih, gh, Au, cu) _ ⟨⟨(blk_cell Bga.out 0).trans rfl, (blk_cell Bga.out 1).trans rfl, (blk_cell Bge.out 0).trans rfl, (blk_cell Bge.out 1).trans rfl, (blk_cell Bgw.out 0).trans rfl, (blk_cell Bgw.out 1).trans rfl, (blk_cell Bgx.out 0).trans rfl, (blk_cell Bgx.out 1).trans rfl, (blk_cell Bgg.out 0).trans rfl, (blk_cell Bgg.out 1).trans rfl⟩, Fw.out, Fx.out, Fg.out, Fz.out, Bga.out, Bge.out, Bgw.out, Bgx.out, Bgg.out, Fh.out, Bgh.out, (by (try dsimp only); have := OWga.out; have := Oga_ge.out; have := OWge.out; have := OWw.out; have := Ow.out; have := OWgw.out; have := Oge_w.out; have := Oge_gw.out; have := Pw_gw.out; have := Ow_x.out; have := Ogw_x.out; have := Ox.out; have := OWx.out; have := Ox_gx.out; have := OWgx.out; have := OWg.out; have := Og.out; have := OWgg.out; have := Ogx_g.out; have := Ogx_gg.out; have := Pg_gg.out; have := Og_z.out; have := Ogg_z.out; have := Oz.out; have := OWz.out; have := Oz_gh.out; have := OWgh.out; have := Oz_u.out; have := Ogh_u.out; have := Ou.out; have := OWu.out; have := Oz_h.out; have := Ogh_h.out; have := Ou_h.out; have := Oh.out; have := OWh.out; omega), (by (try dsimp only); have := OWga.out; have := Oga_ge.out; have := OWge.out; have := OWw.out; have := Ow.out; have := OWgw.out; have := Oge_w.out; have := Oge_gw.out; have := Pw_gw.out; have := Ow_x.out; have := Ogw_x.out; have := Ox.out; have := OWx.out; have := Ox_gx.out; have := OWgx.out; have := OWg.out; have := Og.out; have := OWgg.out; have := Ogx_g.out; have := Ogx_gg.out; have := Pg_gg.out; have := Og_z.out; have := Ogg_z.out; have := Oz.out; have := OWz.out; have := Oz_gh.out; have := OWgh.out; have := Oz_u.out; have := Ogh_u.out; have := Ou.out; have := OWu.out; have := Oz_h.out; have := Ogh_h.out; have := Ou_h.out; have := Oh.out; have := OWh.out; omega), (by (try dsimp only); have := OWga.out; have := Oga_ge.out; have := OWge.out; have := OWw.out; have := Ow.out; have := OWgw.out; have := Oge_w.out; have := Oge_gw.out; have := Pw_gw.out; have := Ow_x.out; have := Ogw_x.out; have := Ox.out; have := OWx.out; have := Ox_gx.out; have := OWgx.out; have := OWg.out; have := Og.out; have := OWgg.out; have := Ogx_g.out; have := Ogx_gg.out; have := Pg_gg.out; have := Og_z.out; have := Ogg_z.out; have := Oz.out; have := OWz.out; have := Oz_gh.out; have := OWgh.out; have := Oz_u.out; have := Ogh_u.out; have := Ou.out; have := OWu.out; have := Oz_h.out; have := Ogh_h.out; have := Ou_h.out; have := Oh.out; have := OWh.out; omega), (by (try dsimp only); have := OWga.out; have := Oga_ge.out; have := OWge.out; have := OWw.out; have := Ow.out; have := OWgw.out; have := Oge_w.out; have := Oge_gw.out; have := Pw_gw.out; have := Ow_x.out; have := Ogw_x.out; have := Ox.out; have := OWx.out; have := Ox_gx.out; have := OWgx.out; have := OWg.out; have := Og.out; have := OWgg.out; have := Ogx_g.out; have := Ogx_gg.out; have := Pg_gg.out; have := Og_z.out; have := Ogg_z.out; have := Oz.out; have := OWz.out; have := Oz_gh.out; have := OWgh.out; have := Oz_u.out; have := Ogh_u.out; have := Ou.out; have := OWu.out; have := Oz_h.out; have := Ogh_h.out; have := Ou_h.out; have := Oh.out; have := OWh.out; omega), (by (try dsimp only); have := OWga.out; have := Oga_ge.out; have := OWge.out; have := OWw.out; have := Ow.out; have := OWgw.out; have := Oge_w.out; have := Oge_gw.out; have := Pw_gw.out; have := Ow_x.out; have := Ogw_x.out; have := Ox.out; have := OWx.out; have := Ox_gx.out; have := OWgx.out; have := OWg.out; have := Og.out; have := OWgg.out; have := Ogx_g.out; have := Ogx_gg.out; have := Pg_gg.out; have := Og_z.out; have := Ogg_z.out; have := Oz.out; have := OWz.out; have := Oz_gh.out; have := OWgh.out; have := Oz_u.out; have := Ogh_u.out; have := Ou.out; have := OWu.out; have := Oz_h.out; have := Ogh_h.out; have := Ou_h.out; have := Oh.out; have := OWh.out; omega), (by (try dsimp only); have := OWga.out; have := Oga_ge.out; have := OWge.out; have := OWw.out; have := Ow.out; have := OWgw.out; have := Oge_w.out; have := Oge_gw.out; have := Pw_gw.out; have := Ow_x.out; have := Ogw_x.out; have := Ox.out; have := OWx.out; have := Ox_gx.out; have := OWgx.out; have := OWg.out; have := Og.out; have := OWgg.out; have := Ogx_g.out; have := Ogx_gg.out; have := Pg_gg.out; have := Og_z.out; have := Ogg_z.out; have := Oz.out; have := OWz.out; have := Oz_gh.out; have := OWgh.out; have := Oz_u.out; have := Ogh_u.out; have := Ou.out; have := OWu.out; have := Oz_h.out; have := Ogh_h.out; have := Ou_h.out; have := Oh.out; have := OWh.out; omega), HB.out⟩)
  rintro ⟨Ah, ch, loh, hih, gh, Au, cu⟩ y56 ⟨hHeld_, h0_, h1_, h2_, h3_, h4_, h5_, h6_, h7_, h8_, h9_, h10_, h11_, h12_, h13_, h14_, h15_, h16_, h17_⟩
  clear HB hHeld Fw Fx Fg Fz Bga Bge Bgw Bgx Bgg
  have Fw : Aside0 (Ng w.heap.size y56 low hiw (.slice Aw R.length cw) R) := ⟨h0_⟩
  have Fx : Aside0 (Rg w.heap.size y56 lox hix (.slice Ax L.length cx) L') := ⟨h1_⟩
  have Fg : Aside0 (Rg w.heap.size y56 log hig (.slice Ag R.length cg) R') := ⟨h2_⟩
  have Fz : Aside0 (Rg w.heap.size y56 loz hiz (.slice Az L.length cz) L) := ⟨h3_⟩
  have Bga : Aside0 (y56.heap[ga]? = some (.cells #[.int .i64 n, .slice A0 L.length c0] 35 (0, 0))) := ⟨h4_⟩
  have Bge : Aside0 (y56.heap[ge]? = some (.cells #[.int .i64 M, .int .i64 O] 37 (0, 0))) := ⟨h5_⟩
  have Bgw : Aside0 (y56.heap[gw]? = some (.cells #[.int .i64 m0, .slice Aw R.length cw] 39 (0, 0))) := ⟨h6_⟩
  have Bgx : Aside0 (y56.heap[gx]? = some (.cells #[.int .i64 n, .slice Ax L.length cx] 39 (0, 0))) := ⟨h7_⟩
  have Bgg : Aside0 (y56.heap[gg]? = some (.cells #[.int .i64 m0, .slice Ag R.length cg] 39 (0, 0))) := ⟨h8_⟩
  have Fh : Aside0 (Rg w.heap.size y56 loh hih (.slice Ah R.length ch) R) := ⟨h9_⟩
  have Bgh : Aside0 (y56.heap[gh]? = some (.cells #[.int .i64 0, .slice none 0 0] 39 (0, 0))) := ⟨h10_⟩
  have OWh : Aside0 (w.heap.size ≤ loh) := ⟨h11_⟩
  have Oh : Aside0 (loh ≤ hih) := ⟨h12_⟩
  have OWgh : Aside0 (w.heap.size ≤ gh) := ⟨h13_⟩
  have Oz_h : Aside0 (hiz ≤ loh) := ⟨h14_⟩
  have Oz_gh : Aside0 (hiz ≤ gh) := ⟨h15_⟩
  have Ph_gh : Aside0 (gh < loh ∨ hih ≤ gh) := ⟨h16_⟩
  have HB : Aside0 (Below w.heap.size w y56) := ⟨h17_⟩
  clear h0_ h1_ h2_ h3_ h4_ h5_ h6_ h7_ h8_ h9_ h10_ h11_ h12_ h13_ h14_ h15_ h16_ h17_
  have hHeld : y56.cell? ⟨ga, 0, none⟩ = some (.int .i64 n) ∧ y56.cell? ⟨ga, 1, none⟩ = some (.slice A0 L.length c0) ∧ y56.cell? ⟨ge, 0, none⟩ = some (.int .i64 M) ∧ y56.cell? ⟨ge, 1, none⟩ = some (.int .i64 O) ∧ y56.cell? ⟨gw, 0, none⟩ = some (.int .i64 m0) ∧ y56.cell? ⟨gw, 1, none⟩ = some (.slice Aw R.length cw) ∧ y56.cell? ⟨gx, 0, none⟩ = some (.int .i64 n) ∧ y56.cell? ⟨gx, 1, none⟩ = some (.slice Ax L.length cx) ∧ y56.cell? ⟨gg, 0, none⟩ = some (.int .i64 m0) ∧ y56.cell? ⟨gg, 1, none⟩ = some (.slice Ag R.length cg) := hHeld_
  clear hHeld_
  refine norm_ (a' := ?_) ?_ ?_
  rotate_left
  · simp only [putAll, Act.put, List.setIfInBounds_toArray, List.set_cons_zero, List.set_cons_succ]
    rfl
  refine one_ (i := 9) (N := none) #[true, true, true, true, true, true, true, true, true, true, false] rfl rfl (one_of HT_.out (by kernel_rfl)) (by decide) (fun K hK => ?_)
  have cs0_ : y56.cell? ⟨gh, 0, none⟩ = some (.int .i64 0) := (blk_cell Bgh.out 0).trans rfl
  have fs0_ := blk_frozen Bgh.out 0
  have cs1_ : y56.cell? ⟨gh, 1, none⟩ = some (.slice none 0 0) := (blk_cell Bgh.out 1).trans rfl
  have fs1_ := blk_frozen Bgh.out 1
  refine skip_ (w1 := ((y56.setCell ⟨gh, 0, none⟩ (.int .i64 m0)).setCell ⟨gh, 1, none⟩ (.slice Ah R.length ch))) (by rfl) rfl ?_ ?_
  · first | (go_simp; done) | (go_simp; rfl)
  obtain ⟨y57, hw⟩ : ∃ y57, y57 = ((y56.setCell ⟨gh, 0, none⟩ (.int .i64 m0)).setCell ⟨gh, 1, none⟩ (.slice Ah R.length ch)) := ⟨_, rfl⟩
  rw [← hw]
  have hk := set2_kept hw
  have m0_ := Aside0.mk (Ng.kept Fw.out hk (by intro k_ h1_ h2_ h3_; have := OWga.out; have := Oga_ge.out; have := OWge.out; have := OWw.out; have := Ow.out; have := OWgw.out; have := Oge_w.out; have := Oge_gw.out; have := Pw_gw.out; have := Ow_x.out; have := Ogw_x.out; have := Ox.out; have := OWx.out; have := Ox_gx.out; have := OWgx.out; have := OWg.out; have := Og.out; have := OWgg.out; have := Ogx_g.out; have := Ogx_gg.out; have := Pg_gg.out; have := Og_z.out; have := Ogg_z.out; have := Oz.out; have := OWz.out; have := OWh.out; have := Oh.out; have := OWgh.out; have := Oz_h.out; have := Oz_gh.out; have := Ph_gh.out; omega))
  have m1_ := Aside0.mk (Rg.kept Fx.out hk (by intro k_ h1_ h2_ h3_; have := OWga.out; have := Oga_ge.out; have := OWge.out; have := OWw.out; have := Ow.out; have := OWgw.out; have := Oge_w.out; have := Oge_gw.out; have := Pw_gw.out; have := Ow_x.out; have := Ogw_x.out; have := Ox.out; have := OWx.out; have := Ox_gx.out; have := OWgx.out; have := OWg.out; have := Og.out; have := OWgg.out; have := Ogx_g.out; have := Ogx_gg.out; have := Pg_gg.out; have := Og_z.out; have := Ogg_z.out; have := Oz.out; have := OWz.out; have := OWh.out; have := Oh.out; have := OWgh.out; have := Oz_h.out; have := Oz_gh.out; have := Ph_gh.out; omega))
  have m2_ := Aside0.mk (Rg.kept Fg.out hk (by intro k_ h1_ h2_ h3_; have := OWga.out; have := Oga_ge.out; have := OWge.out; have := OWw.out; have := Ow.out; have := OWgw.out; have := Oge_w.out; have := Oge_gw.out; have := Pw_gw.out; have := Ow_x.out; have := Ogw_x.out; have := Ox.out; have := OWx.out; have := Ox_gx.out; have := OWgx.out; have := OWg.out; have := Og.out; have := OWgg.out; have := Ogx_g.out; have := Ogx_gg.out; have := Pg_gg.out; have := Og_z.out; have := Ogg_z.out; have := Oz.out; have := OWz.out; have := OWh.out; have := Oh.out; have := OWgh.out; have := Oz_h.out; have := Oz_gh.out; have := Ph_gh.out; omega))
  have m3_ := Aside0.mk (Rg.kept Fz.out hk (by intro k_ h1_ h2_ h3_; have := OWga.out; have := Oga_ge.out; have := OWge.out; have := OWw.out; have := Ow.out; have := OWgw.out; have := Oge_w.out; have := Oge_gw.out; have := Pw_gw.out; have := Ow_x.out; have := Ogw_x.out; have := Ox.out; have := OWx.out; have := Ox_gx.out; have := OWgx.out; have := OWg.out; have := Og.out; have := OWgg.out; have := Ogx_g.out; have := Ogx_gg.out; have := Pg_gg.out; have := Og_z.out; have := Ogg_z.out; have := Oz.out; have := OWz.out; have := OWh.out; have := Oh.out; have := OWgh.out; have := Oz_h.out; have := Oz_gh.out; have := Ph_gh.out; omega))
  have m4_ := Aside0.mk (Rg.kept Fh.out hk (by intro k_ h1_ h2_ h3_; have := OWga.out; have := Oga_ge.out; have := OWge.out; have := OWw.out; have := Ow.out; have := OWgw.out; have := Oge_w.out; have := Oge_gw.out; have := Pw_gw.out; have := Ow_x.out; have := Ogw_x.out; have := Ox.out; have := OWx.out; have := Ox_gx.out; have := OWgx.out; have := OWg.out; have := Og.out; have := OWgg.out; have := Ogx_g.out; have := Ogx_gg.out; have := Pg_gg.out; have := Og_z.out; have := Ogg_z.out; have := Oz.out; have := OWz.out; have := OWh.out; have := Oh.out; have := OWgh.out; have := Oz_h.out; have := Oz_gh.out; have := Ph_gh.out; omega))
  have m5_ := Aside0.mk (blk_kept Bga.out hk (by intro h3_; have := OWga.out; have := Oga_ge.out; have := OWge.out; have := OWw.out; have := Ow.out; have := OWgw.out; have := Oge_w.out; have := Oge_gw.out; have := Pw_gw.out; have := Ow_x.out; have := Ogw_x.out; have := Ox.out; have := OWx.out; have := Ox_gx.out; have := OWgx.out; have := OWg.out; have := Og.out; have := OWgg.out; have := Ogx_g.out; have := Ogx_gg.out; have := Pg_gg.out; have := Og_z.out; have := Ogg_z.out; have := Oz.out; have := OWz.out; have := OWh.out; have := Oh.out; have := OWgh.out; have := Oz_h.out; have := Oz_gh.out; have := Ph_gh.out; omega))
  have m6_ := Aside0.mk (blk_kept Bge.out hk (by intro h3_; have := OWga.out; have := Oga_ge.out; have := OWge.out; have := OWw.out; have := Ow.out; have := OWgw.out; have := Oge_w.out; have := Oge_gw.out; have := Pw_gw.out; have := Ow_x.out; have := Ogw_x.out; have := Ox.out; have := OWx.out; have := Ox_gx.out; have := OWgx.out; have := OWg.out; have := Og.out; have := OWgg.out; have := Ogx_g.out; have := Ogx_gg.out; have := Pg_gg.out; have := Og_z.out; have := Ogg_z.out; have := Oz.out; have := OWz.out; have := OWh.out; have := Oh.out; have := OWgh.out; have := Oz_h.out; have := Oz_gh.out; have := Ph_gh.out; omega))
  have m7_ := Aside0.mk (blk_kept Bgw.out hk (by intro h3_; have := OWga.out; have := Oga_ge.out; have := OWge.out; have := OWw.out; have := Ow.out; have := OWgw.out; have := Oge_w.out; have := Oge_gw.out; have := Pw_gw.out; have := Ow_x.out; have := Ogw_x.out; have := Ox.out; have := OWx.out; have := Ox_gx.out; have := OWgx.out; have := OWg.out; have := Og.out; have := OWgg.out; have := Ogx_g.out; have := Ogx_gg.out; have := Pg_gg.out; have := Og_z.out; have := Ogg_z.out; have := Oz.out; have := OWz.out; have := OWh.out; have := Oh.out; have := OWgh.out; have := Oz_h.out; have := Oz_gh.out; have := Ph_gh.out; omega))
  have m8_ := Aside0.mk (blk_kept Bgx.out hk (by intro h3_; have := OWga.out; have := Oga_ge.out; have := OWge.out; have := OWw.out; have := Ow.out; have := OWgw.out; have := Oge_w.out; have := Oge_gw.out; have := Pw_gw.out; have := Ow_x.out; have := Ogw_x.out; have := Ox.out; have := OWx.out; have := Ox_gx.out; have := OWgx.out; have := OWg.out; have := Og.out; have := OWgg.out; have := Ogx_g.out; have := Ogx_gg.out; have := Pg_gg.out; have := Og_z.out; have := Ogg_z.out; have := Oz.out; have := OWz.out; have := OWh.out; have := Oh.out; have := OWgh.out; have := Oz_h.out; have := Oz_gh.out; have := Ph_gh.out; omega))
  have m9_ := Aside0.mk (blk_kept Bgg.out hk (by intro h3_; have := OWga.out; have := Oga_ge.out; have := OWge.out; have := OWw.out; have := Ow.out; have := OWgw.out; have := Oge_w.out; have := Oge_gw.out; have := Pw_gw.out; have := Ow_x.out; have := Ogw_x.out; have := Ox.out; have := OWx.out; have := Ox_gx.out; have := OWgx.out; have := OWg.out; have := Og.out; have := OWgg.out; have := Ogx_g.out; have := Ogx_gg.out; have := Pg_gg.out; have := Og_z.out; have := Ogg_z.out; have := Oz.out; have := OWz.out; have := OWh.out; have := Oh.out; have := OWgh.out; have := Oz_h.out; have := Oz_gh.out; have := Ph_gh.out; omega))
  have m10_ := Aside0.mk (set2_blk hw Bgh.out)
  have m11_ := Aside0.mk ((by rw [hw]; exact below_set (below_set HB.out OWgh.out) OWgh.out : Below w.heap.size w y57))
  clear Fw Fx Fg Fz Fh Bga Bge Bgw Bgx Bgg Bgh HB
  have Fw := m0_
  have Fx := m1_
  have Fg := m2_
  have Fz := m3_
  have Fh := m4_
  have Bga := m5_
  have Bge := m6_
  have Bgw := m7_
  have Bgx := m8_
  have Bgg := m9_
  have Bgh := m10_
  have HB := m11_
  clear m0_ m1_ m2_ m3_ m4_ m5_ m6_ m7_ m8_ m9_ m10_ m11_
  clear hw hk cs0_ fs0_ cs1_ fs1_
  refine hK.out _ _ ⟨(blk_cell Bga.out 0).trans rfl, (blk_cell Bga.out 1).trans rfl, (blk_cell Bge.out 0).trans rfl, (blk_cell Bge.out 1).trans rfl, (blk_cell Bgw.out 0).trans rfl, (blk_cell Bgw.out 1).trans rfl, (blk_cell Bgx.out 0).trans rfl, (blk_cell Bgx.out 1).trans rfl, (blk_cell Bgg.out 0).trans rfl, (blk_cell Bgg.out 1).trans rfl⟩ (fun hHeld => ?_)
  clear hK K
  refine pure_ (i := 10) (N := some 15) (v := ?_) (a' := ?_) #[true, true, true, true, true, true, true, true, true, true, true] rfl rfl (any_of HT_.out (by kernel_rfl)) (fun _ _ _ h => h) (Or.inl ⟨by rfl, ?_⟩) ?_ ?_
  rotate_left
  · intro w_
    go_simp
    with_reducible rfl
  rotate_left
  · simp only [Act.put, List.setIfInBounds_toArray, List.set_cons_zero, List.set_cons_succ, i64_w, i32_w]
    rfl
  refine done_ (done_of HT_.out (by kernel_rfl)) ?_
  have czga_0 : y57.cell? ⟨ga, 0, none⟩ = some (.int .i64 n) := (blk_cell Bga.out 0).trans rfl
  have fzga_0 := blk_frozen Bga.out 0
  have czga_1 : y57.cell? ⟨ga, 1, none⟩ = some (.slice A0 L.length c0) := (blk_cell Bga.out 1).trans rfl
  have fzga_1 := blk_frozen Bga.out 1
  have czge_0 : y57.cell? ⟨ge, 0, none⟩ = some (.int .i64 M) := (blk_cell Bge.out 0).trans rfl
  have fzge_0 := blk_frozen Bge.out 0
  have czge_1 : y57.cell? ⟨ge, 1, none⟩ = some (.int .i64 O) := (blk_cell Bge.out 1).trans rfl
  have fzge_1 := blk_frozen Bge.out 1
  have czgw_0 : y57.cell? ⟨gw, 0, none⟩ = some (.int .i64 m0) := (blk_cell Bgw.out 0).trans rfl
  have fzgw_0 := blk_frozen Bgw.out 0
  have czgw_1 : y57.cell? ⟨gw, 1, none⟩ = some (.slice Aw R.length cw) := (blk_cell Bgw.out 1).trans rfl
  have fzgw_1 := blk_frozen Bgw.out 1
  have czgx_0 : y57.cell? ⟨gx, 0, none⟩ = some (.int .i64 n) := (blk_cell Bgx.out 0).trans rfl
  have fzgx_0 := blk_frozen Bgx.out 0
  have czgx_1 : y57.cell? ⟨gx, 1, none⟩ = some (.slice Ax L.length cx) := (blk_cell Bgx.out 1).trans rfl
  have fzgx_1 := blk_frozen Bgx.out 1
  have czgg_0 : y57.cell? ⟨gg, 0, none⟩ = some (.int .i64 m0) := (blk_cell Bgg.out 0).trans rfl
  have fzgg_0 := blk_frozen Bgg.out 0
  have czgg_1 : y57.cell? ⟨gg, 1, none⟩ = some (.slice Ag R.length cg) := (blk_cell Bgg.out 1).trans rfl
  have fzgg_1 := blk_frozen Bgg.out 1
  have czgh_0 : y57.cell? ⟨gh, 0, none⟩ = some (.int .i64 m0) := (blk_cell Bgh.out 0).trans rfl
  have fzgh_0 := blk_frozen Bgh.out 0
  have czgh_1 : y57.cell? ⟨gh, 1, none⟩ = some (.slice Ah R.length ch) := (blk_cell Bgh.out 1).trans rfl
  have fzgh_1 := blk_frozen Bgh.out 1
  try go_wp2_with (first
    | ((with_reducible refine gate_callee (f := 23) rfl ?_); refine goesL_ (some 89) rfl rfl Try.func23 (by kernel_rfl) rfl #[.agg #[.int .i64 m0, .slice Ah R.length ch], .agg #[.int .i64 m0, .slice Aw R.length cw]] rfl (by (try simp only [List.map_toArray, List.map_cons, List.map_nil]); first | done | rfl) ?_; (with_reducible refine (laws_eqForest.calls k m0 _ _ R m0 _ _ R true _ Fh.out.C Fh.out.cap Fw.out.C Fw.out.cap he).mono ?_); rintro e y58 ⟨rfl, hb⟩; refine ⟨_, rfl, ?_⟩; have m0_ := Aside0.mk (Ng.below Fw.out hb); have m1_ := Aside0.mk (Rg.below Fx.out hb); have m2_ := Aside0.mk (Rg.below Fg.out hb); have m3_ := Aside0.mk (Rg.below Fz.out hb); have m4_ := Aside0.mk (Rg.below Fh.out hb); have m5_ := Aside0.mk (blk_below Bga.out hb); have m6_ := Aside0.mk (blk_below Bge.out hb); have m7_ := Aside0.mk (blk_below Bgw.out hb); have m8_ := Aside0.mk (blk_below Bgx.out hb); have m9_ := Aside0.mk (blk_below Bgg.out hb); have m10_ := Aside0.mk (blk_below Bgh.out hb); have m11_ := Aside0.mk (below_step HB.out hb); clear Fw Fx Fg Fz Fh Bga Bge Bgw Bgx Bgg Bgh HB czga_0 fzga_0 czga_1 fzga_1 czge_0 fzge_0 czge_1 fzge_1 czgw_0 fzgw_0 czgw_1 fzgw_1 czgx_0 fzgx_0 czgx_1 fzgx_1 czgg_0 fzgg_0 czgg_1 fzgg_1 czgh_0 fzgh_0 czgh_1 fzgh_1; have Fw := m0_; have Fx := m1_; have Fg := m2_; have Fz := m3_; have Fh := m4_; have Bga := m5_; have Bge := m6_; have Bgw := m7_; have Bgx := m8_; have Bgg := m9_; have Bgh := m10_; have HB := m11_; clear m0_ m1_ m2_ m3_ m4_ m5_ m6_ m7_ m8_ m9_ m10_ m11_; have czga_0 : y58.cell? ⟨ga, 0, none⟩ = some (.int .i64 n) := (blk_cell Bga.out 0).trans rfl; have fzga_0 := blk_frozen Bga.out 0; have czga_1 : y58.cell? ⟨ga, 1, none⟩ = some (.slice A0 L.length c0) := (blk_cell Bga.out 1).trans rfl; have fzga_1 := blk_frozen Bga.out 1; have czge_0 : y58.cell? ⟨ge, 0, none⟩ = some (.int .i64 M) := (blk_cell Bge.out 0).trans rfl; have fzge_0 := blk_frozen Bge.out 0; have czge_1 : y58.cell? ⟨ge, 1, none⟩ = some (.int .i64 O) := (blk_cell Bge.out 1).trans rfl; have fzge_1 := blk_frozen Bge.out 1; have czgw_0 : y58.cell? ⟨gw, 0, none⟩ = some (.int .i64 m0) := (blk_cell Bgw.out 0).trans rfl; have fzgw_0 := blk_frozen Bgw.out 0; have czgw_1 : y58.cell? ⟨gw, 1, none⟩ = some (.slice Aw R.length cw) := (blk_cell Bgw.out 1).trans rfl; have fzgw_1 := blk_frozen Bgw.out 1; have czgx_0 : y58.cell? ⟨gx, 0, none⟩ = some (.int .i64 n) := (blk_cell Bgx.out 0).trans rfl; have fzgx_0 := blk_frozen Bgx.out 0; have czgx_1 : y58.cell? ⟨gx, 1, none⟩ = some (.slice Ax L.length cx) := (blk_cell Bgx.out 1).trans rfl; have fzgx_1 := blk_frozen Bgx.out 1; have czgg_0 : y58.cell? ⟨gg, 0, none⟩ = some (.int .i64 m0) := (blk_cell Bgg.out 0).trans rfl; have fzgg_0 := blk_frozen Bgg.out 0; have czgg_1 : y58.cell? ⟨gg, 1, none⟩ = some (.slice Ag R.length cg) := (blk_cell Bgg.out 1).trans rfl; have fzgg_1 := blk_frozen Bgg.out 1; have czgh_0 : y58.cell? ⟨gh, 0, none⟩ = some (.int .i64 m0) := (blk_cell Bgh.out 0).trans rfl; have fzgh_0 := blk_frozen Bgh.out 0; have czgh_1 : y58.cell? ⟨gh, 1, none⟩ = some (.slice Ah R.length ch) := (blk_cell Bgh.out 1).trans rfl; have fzgh_1 := blk_frozen Bgh.out 1; clear hb)
    | ((with_reducible refine gate_callee (f := 25) rfl ?_); refine goesL_ (some 98) rfl rfl Try.func25 (by kernel_rfl) rfl #[.agg #[.int .i64 m0, .slice Ag R'.length cg], .int .i64 1] rfl (by (try simp only [List.map_toArray, List.map_cons, List.map_nil]); first | done | rfl | (rw [hl] <;> rfl)) ?_; (with_reducible refine (laws_heldForest.calls k m0 _ _ R' 1 q _ Fg.out.C ?side1 hh).mono ?_); (case side1 => rw [hl]; exact Fg.out.cap); rintro e y59 ⟨rfl, hb⟩; refine ⟨_, rfl, ?_⟩; have m0_ := Aside0.mk (Ng.below Fw.out hb); have m1_ := Aside0.mk (Rg.below Fx.out hb); have m2_ := Aside0.mk (Rg.below Fg.out hb); have m3_ := Aside0.mk (Rg.below Fz.out hb); have m4_ := Aside0.mk (Rg.below Fh.out hb); have m5_ := Aside0.mk (blk_below Bga.out hb); have m6_ := Aside0.mk (blk_below Bge.out hb); have m7_ := Aside0.mk (blk_below Bgw.out hb); have m8_ := Aside0.mk (blk_below Bgx.out hb); have m9_ := Aside0.mk (blk_below Bgg.out hb); have m10_ := Aside0.mk (blk_below Bgh.out hb); have m11_ := Aside0.mk (below_step HB.out hb); clear Fw Fx Fg Fz Fh Bga Bge Bgw Bgx Bgg Bgh HB czga_0 fzga_0 czga_1 fzga_1 czge_0 fzge_0 czge_1 fzge_1 czgw_0 fzgw_0 czgw_1 fzgw_1 czgx_0 fzgx_0 czgx_1 fzgx_1 czgg_0 fzgg_0 czgg_1 fzgg_1 czgh_0 fzgh_0 czgh_1 fzgh_1; have Fw := m0_; have Fx := m1_; have Fg := m2_; have Fz := m3_; have Fh := m4_; have Bga := m5_; have Bge := m6_; have Bgw := m7_; have Bgx := m8_; have Bgg := m9_; have Bgh := m10_; have HB := m11_; clear m0_ m1_ m2_ m3_ m4_ m5_ m6_ m7_ m8_ m9_ m10_ m11_; have czga_0 : y59.cell? ⟨ga, 0, none⟩ = some (.int .i64 n) := (blk_cell Bga.out 0).trans rfl; have fzga_0 := blk_frozen Bga.out 0; have czga_1 : y59.cell? ⟨ga, 1, none⟩ = some (.slice A0 L.length c0) := (blk_cell Bga.out 1).trans rfl; have fzga_1 := blk_frozen Bga.out 1; have czge_0 : y59.cell? ⟨ge, 0, none⟩ = some (.int .i64 M) := (blk_cell Bge.out 0).trans rfl; have fzge_0 := blk_frozen Bge.out 0; have czge_1 : y59.cell? ⟨ge, 1, none⟩ = some (.int .i64 O) := (blk_cell Bge.out 1).trans rfl; have fzge_1 := blk_frozen Bge.out 1; have czgw_0 : y59.cell? ⟨gw, 0, none⟩ = some (.int .i64 m0) := (blk_cell Bgw.out 0).trans rfl; have fzgw_0 := blk_frozen Bgw.out 0; have czgw_1 : y59.cell? ⟨gw, 1, none⟩ = some (.slice Aw R.length cw) := (blk_cell Bgw.out 1).trans rfl; have fzgw_1 := blk_frozen Bgw.out 1; have czgx_0 : y59.cell? ⟨gx, 0, none⟩ = some (.int .i64 n) := (blk_cell Bgx.out 0).trans rfl; have fzgx_0 := blk_frozen Bgx.out 0; have czgx_1 : y59.cell? ⟨gx, 1, none⟩ = some (.slice Ax L.length cx) := (blk_cell Bgx.out 1).trans rfl; have fzgx_1 := blk_frozen Bgx.out 1; have czgg_0 : y59.cell? ⟨gg, 0, none⟩ = some (.int .i64 m0) := (blk_cell Bgg.out 0).trans rfl; have fzgg_0 := blk_frozen Bgg.out 0; have czgg_1 : y59.cell? ⟨gg, 1, none⟩ = some (.slice Ag R.length cg) := (blk_cell Bgg.out 1).trans rfl; have fzgg_1 := blk_frozen Bgg.out 1; have czgh_0 : y59.cell? ⟨gh, 0, none⟩ = some (.int .i64 m0) := (blk_cell Bgh.out 0).trans rfl; have fzgh_0 := blk_frozen Bgh.out 0; have czgh_1 : y59.cell? ⟨gh, 1, none⟩ = some (.slice Ah R.length ch) := (blk_cell Bgh.out 1).trans rfl; have fzgh_1 := blk_frozen Bgh.out 1; clear hb))
  go_ret
  exact ⟨rfl, HB.out⟩
set_option maxHeartbeats 8000000 in
set_option maxRecDepth 100000 in
theorem law_big (k : Nat) (n : Int) (A0 : Option Addr) (c0 : Nat) (L : List (List Int)) (M O : Int) (t : Int) (w : World) (hr0 : Kd.C (Kd.slice 3 (Kd.int .i64)) w A0 L.length L) (hc0 : L.length ≤ c0) (hz : laws_szForest.f k n L 1048576 = some t) (ht : decide (t < 0) = true) :
    Calls Try.prog 7 #[.agg #[.int .i64 n, .slice A0 L.length c0], .agg #[.int .i64 M, .int .i64 O]] w fun e w' => e = .returned (.bool true) ∧ Below w.heap.size w w' := by
  have hu1 := Try.underlying35
  have hu2 := Try.underlying39
  have hu3 := Try.underlying37
  have HB := Aside0.mk (Below.refl w.heap.size w)
  have HR0 := Aside0.mk hr0
  have HC0 := Aside0.mk hc0
  clear hr0 hc0
  go_enter Try.func7, Try.ntmps7
  go_wp2_with (first
    | ((with_reducible refine gate_dst (N := 2) rfl ?_); refine box_event ?hg (N := 2) ?hd (cs := #[.int .i64 n, .slice A0 L.length c0]) (t := 35) ?hr ?_; (case hd => rfl); (case hg => rfl); (case hr => first | (go_simp; done) | (go_simp; rfl)); intro ga hg y1 hbox hb; have m0_ := Aside0.mk (hbox); have m1_ := Aside0.mk (below_step HB.out hb); have m2_ := Aside0.mk ((by rw [hg]; exact below_size HB.out : w.heap.size ≤ ga)); clear HB; have Bga := m0_; have HB := m1_; have OWga := m2_; clear m0_ m1_ m2_; have czga_0 : y1.cell? ⟨ga, 0, none⟩ = some (.int .i64 n) := (blk_cell Bga.out 0).trans rfl; have fzga_0 := blk_frozen Bga.out 0; have czga_1 : y1.cell? ⟨ga, 1, none⟩ = some (.slice A0 L.length c0) := (blk_cell Bga.out 1).trans rfl; have fzga_1 := blk_frozen Bga.out 1; clear hg hbox hb)
    | ((with_reducible refine gate_dst (N := 3) rfl ?_); refine box_event ?hg (N := 3) ?hd (cs := #[.int .i64 M, .int .i64 O]) (t := 37) ?hr ?_; (case hd => rfl); (case hg => rfl); (case hr => first | (go_simp; done) | (go_simp; rfl)); intro ge hg y2 hbox hb; have m0_ := Aside0.mk (blk_below Bga.out hb); have m1_ := Aside0.mk (hbox); have m2_ := Aside0.mk (below_step HB.out hb); have m3_ := Aside0.mk ((by rw [hg]; exact blk_lt Bga.out : ga < ge)); have m4_ := Aside0.mk ((by rw [hg]; exact below_size HB.out : w.heap.size ≤ ge)); clear Bga HB czga_0 fzga_0 czga_1 fzga_1; have Bga := m0_; have Bge := m1_; have HB := m2_; have Oga_ge := m3_; have OWge := m4_; clear m0_ m1_ m2_ m3_ m4_; have czga_0 : y2.cell? ⟨ga, 0, none⟩ = some (.int .i64 n) := (blk_cell Bga.out 0).trans rfl; have fzga_0 := blk_frozen Bga.out 0; have czga_1 : y2.cell? ⟨ga, 1, none⟩ = some (.slice A0 L.length c0) := (blk_cell Bga.out 1).trans rfl; have fzga_1 := blk_frozen Bga.out 1; have czge_0 : y2.cell? ⟨ge, 0, none⟩ = some (.int .i64 M) := (blk_cell Bge.out 0).trans rfl; have fzge_0 := blk_frozen Bge.out 0; have czge_1 : y2.cell? ⟨ge, 1, none⟩ = some (.int .i64 O) := (blk_cell Bge.out 1).trans rfl; have fzge_1 := blk_frozen Bge.out 1; clear hg hbox hb)
    | ((with_reducible refine gate_callee (f := 18) rfl ?_); refine goesL_ (some 18) rfl rfl Try.func18 (by kernel_rfl) rfl #[.agg #[.int .i64 n, .slice A0 L.length c0], .int .i64 1048576] rfl (by (try simp only [List.map_toArray, List.map_cons, List.map_nil]); first | done | rfl) ?_; (with_reducible refine (laws_szForest.calls k n _ _ L 1048576 t _ (Kd.C_below HR0.out HB.out) HC0.out hz).mono ?_); rintro e y3 ⟨rfl, hb⟩; refine ⟨_, rfl, ?_⟩; have m0_ := Aside0.mk (blk_below Bga.out hb); have m1_ := Aside0.mk (blk_below Bge.out hb); have m2_ := Aside0.mk (below_step HB.out hb); clear Bga Bge HB czga_0 fzga_0 czga_1 fzga_1 czge_0 fzge_0 czge_1 fzge_1; have Bga := m0_; have Bge := m1_; have HB := m2_; clear m0_ m1_ m2_; have czga_0 : y3.cell? ⟨ga, 0, none⟩ = some (.int .i64 n) := (blk_cell Bga.out 0).trans rfl; have fzga_0 := blk_frozen Bga.out 0; have czga_1 : y3.cell? ⟨ga, 1, none⟩ = some (.slice A0 L.length c0) := (blk_cell Bga.out 1).trans rfl; have fzga_1 := blk_frozen Bga.out 1; have czge_0 : y3.cell? ⟨ge, 0, none⟩ = some (.int .i64 M) := (blk_cell Bge.out 0).trans rfl; have fzge_0 := blk_frozen Bge.out 0; have czge_1 : y3.cell? ⟨ge, 1, none⟩ = some (.int .i64 O) := (blk_cell Bge.out 1).trans rfl; have fzge_1 := blk_frozen Bge.out 1; clear hb))
  go_ret
  exact ⟨rfl, HB.out⟩
def laws_FnExactLink.Ok (k : Nat) (n : Int) (L : List (List Int)) (M O : Int) : Prop := ∃ t, laws_szForest.f k n L 1048576 = some t ∧ (decide (t < 0) = true ∨ (decide (t < 0) = false ∧ ∃ (L' R R' : List (List Int)) (m0 m q : Int) (b : Bool), laws_toForest.f k n L = some (n, L) ∧ laws_toEdge.f M O = some (M, O) ∧ spec_Link.f k n L M O = some (m0, R, b) ∧ impl_Link.f k n L M O = some (m0, R, b) ∧ laws_eqForest.f k m0 R m0 R = some true ∧ laws_eqForest.f k n L n L = some true ∧ laws_markIntSS.f k L 1 = some (m, L') ∧ decide (m < 0) = false ∧ laws_markIntSS.f k R 1 = some (q, R') ∧ R'.length = R.length ∧ laws_heldForest.f k m0 R' 1 = some q ∧ decide (q < 0) = false))
theorem laws_FnExactLink.calls (k : Nat) (a0_0 : Int) (A0_1 : Option Addr) (c0_1 : Nat) (l0_1 : List (List Int)) (a1_0 : Int) (a1_1 : Int) (w : World) (hr0_1 : Kd.C (Kd.slice 3 (Kd.int .i64)) w A0_1 l0_1.length l0_1) (hc0_1 : l0_1.length ≤ c0_1) (h : laws_FnExactLink.Ok k a0_0 l0_1 a1_0 a1_1) :
    Calls Try.prog 7 #[.agg #[.int .i64 a0_0, .slice A0_1 l0_1.length c0_1], .agg #[.int .i64 a1_0, .int .i64 a1_1]] w fun e w' => e = .returned (.bool true) ∧ Below w.heap.size w w' := by
  obtain ⟨t, hz, ht | ⟨ht, L', R, R', m0, m, q, b, h1, h2, h3, h4, h5, h6, h7, h8, h9, h10, h11, h12⟩⟩ := h
  · exact law_big k a0_0 A0_1 c0_1 l0_1 a1_0 a1_1 t w hr0_1 hc0_1 hz ht
  · exact law_walk k a0_0 A0_1 c0_1 l0_1 a1_0 a1_1 t w hr0_1 hc0_1 hz L' R R' m0 m q b ht h1 h2 h3 h4 h5 h6 h7 h8 h9 h10 h11 h12

end Go.Proofs.Ytbkklafkoegdpaa.QFnExactLink
