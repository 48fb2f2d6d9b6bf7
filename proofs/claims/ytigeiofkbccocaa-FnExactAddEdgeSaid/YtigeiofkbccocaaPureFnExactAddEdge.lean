/- For every graph and edge AddEdge of the program and of the reference tell the same, in memory of its own. No condition is laid beside the statement. -/
import Derived.Test.YtigeiofkbccocaaQFnExactAddEdgex11
import Derived.Laws.BitsLemmas
import Derived.Lib.Bytes
import Derived.OpenShut
namespace Go.Proofs.Ytigeiofkbccocaa.Pure
open Go.RowKit Go.Proofs.Ytigeiofkbccocaa.QFnExactAddEdge Go.Proofs.YtigeiofkbccocaaW.PrintWords Go.Proofs.YtigeiofkbccocaaW.PrintLast
set_option linter.unusedVariables false
set_option linter.unusedSimpArgs false


/-! loops in general -/
theorem wrap_succ {i n : Nat} (h : i < n) (hn : n ≤ 4611686018427387904) : wrap64 ((i : Int) + 1) = ((i + 1 : Nat) : Int) := by unfold wrap64; omega
theorem Ev.loopR {σ β : Type} {L : Nat → σ → Int → Option β} {n : Nat} (R : Nat → σ → β) (I : Nat → σ → Prop)
    (hstep : ∀ (i : Nat) s, i < n → I i s → Ev (fun k => L k s i) (R i s) ∨ ∃ s', I (i + 1) s' ∧ R i s = R (i + 1) s' ∧ ∀ r, Ev (fun k => L k s' ((i + 1 : Nat) : Int)) r → Ev (fun k => L k s i) r)
    (hend : ∀ s, I n s → Ev (fun k => L k s n) (R n s)) : ∀ (d i : Nat) (s : σ), i + d = n → I i s → Ev (fun k => L k s i) (R i s) := by
  intro d
  induction d with
  | zero =>
    intro i s hi hI
    have : i = n := by omega
    subst this
    exact hend s hI
  | succ d ih =>
    intro i s hi hI
    rcases hstep i s (by omega) hI with h | ⟨s', h1, h2, h3⟩
    · exact h
    · rw [h2]
      exact h3 _ (ih (i + 1) s' (by omega) h1)
/-- A loop that builds by appending. -/
theorem Ev.apploop {β γ : Type} {L : Nat → List γ → Int → Option β} {n : Nat} (g : Nat → List γ) (fin : List γ → β) (a0 : List γ)
    (hstep : ∀ (i : Nat) x r, i < n → x = a0 ++ (List.range i).flatMap g → Ev (fun k => L k (x ++ g i) ((i + 1 : Nat) : Int)) r → Ev (fun k => L k x i) r)
    (hend : ∀ x, x = a0 ++ (List.range n).flatMap g → Ev (fun k => L k x n) (fin x)) : Ev (fun k => L k a0 0) (fin (a0 ++ (List.range n).flatMap g)) := by
  have key := Ev.loopR (L := L) (n := n) (fun _ _ => fin (a0 ++ (List.range n).flatMap g)) (fun i x => x = a0 ++ (List.range i).flatMap g) (by
    intro i x hi hx
    right
    refine ⟨x ++ g i, by rw [hx, List.range_succ, List.flatMap_append]; simp, rfl, fun r hr => hstep i x r hi hx hr⟩) (by
    intro x hx
    have := hend x hx
    rw [hx] at this ⊢
    exact this)
  exact key n 0 a0 (by omega) (by simp)
/-- A loop that writes every element of a row. -/
theorem Ev.setloop' {β γ : Type} {L : Nat → List γ → Int → Option β} {n : Nat} (g : Nat → γ) (x0 : List γ) (h0 : x0.length = n) (fin : List γ → β)
    (hstep : ∀ (i : Nat) x r, i < n → x.length = n → Ev (fun k => L k (x.set i (g i)) ((i + 1 : Nat) : Int)) r → Ev (fun k => L k x i) r)
    (hend : ∀ x, x.length = n → Ev (fun k => L k x n) (fin x)) : Ev (fun k => L k x0 0) (fin ((List.range n).map g)) := by
  have key := Ev.loopR (L := L) (n := n) (fun _ _ => fin ((List.range n).map g)) (fun i x => x.length = n ∧ ∀ j, j < i → x[j]? = some (g j)) (by
    intro i x hi hx
    right
    refine ⟨x.set i (g i), ⟨by rw [List.length_set]; exact hx.1, fun j hj => ?_⟩, rfl, fun r hr => hstep i x r hi hx.1 hr⟩
    by_cases hji : j = i
    · subst hji
      rw [List.getElem?_set_self (by omega)]
    · rw [List.getElem?_set_ne (by omega)]
      exact hx.2 j (by omega)) (by
    intro x hx
    have hxe : x = (List.range n).map g := by
      apply List.ext_getElem?
      intro j
      by_cases hj : j < n
      · rw [hx.2 j hj]; simp [hj]
      · rw [List.getElem?_eq_none (by omega), List.getElem?_eq_none (by simp; omega)]
    rw [← hxe]
    exact hend x hx.1)
  exact key n 0 _ (by omega) ⟨h0, fun j hj => by omega⟩
/-- A loop that fills what was made. -/
theorem Ev.setloop {β γ : Type} {L : Nat → List γ → Int → Option β} {n : Nat} (g : Nat → γ) (z : γ) (fin : List γ → β)
    (hstep : ∀ (i : Nat) x r, i < n → x.length = n → Ev (fun k => L k (x.set i (g i)) ((i + 1 : Nat) : Int)) r → Ev (fun k => L k x i) r)
    (hend : ∀ x, x.length = n → Ev (fun k => L k x n) (fin x)) : Ev (fun k => L k (List.replicate n z) 0) (fin ((List.range n).map g)) :=
  Ev.setloop' g _ (by simp) fin hstep hend
/-- A loop that asks something of each index. -/
theorem Ev.allloop {β : Type} {L : Nat → Int → Option β} {n : Nat} (p : Nat → Bool) (c fin : β)
    (hstep : ∀ (i : Nat) r, i < n → p i = true → Ev (fun k => L k ((i + 1 : Nat) : Int)) r → Ev (fun k => L k i) r)
    (hno : ∀ (i : Nat), i < n → p i = false → Ev (fun k => L k i) c)
    (hend : Ev (fun k => L k n) fin) : Ev (fun k => L k 0) (if (List.range n).all p then fin else c) := by
  have key := Ev.loopR (σ := Unit) (L := fun k _ i => L k i) (n := n) (fun i _ => if (List.range' i (n - i)).all p then fin else c) (fun _ _ => True) (by
    intro i _ hi _
    have e : List.range' i (n - i) = i :: List.range' (i + 1) (n - (i + 1)) := by
      have : n - i = (n - (i + 1)) + 1 := by omega
      rw [this, List.range'_succ]
    cases hp : p i with
    | true => right; exact ⟨(), trivial, by rw [e, List.all_cons, hp, Bool.true_and], fun r hr => hstep i r hi hp hr⟩
    | false => left; rw [e, List.all_cons, hp, Bool.false_and]; exact hno i hi hp) (by
    intro _ _
    simpa using hend)
  have := key n 0 () (by omega) trivial
  rw [List.range_eq_range']
  simpa using this
theorem range_map_getD {α β : Type} (l : List α) (d : α) (h : α → β) : (List.range l.length).map (fun i => h (l.getD i d)) = l.map h := by
  apply List.ext_getElem
  · simp
  · intro i h1 h2
    simp at h1 h2
    simp [List.getD_eq_getElem?_getD, List.getElem?_eq_getElem h2]
theorem range_flatMap_getD {α β : Type} (l : List α) (d : α) (h : α → List β) : (List.range l.length).flatMap (fun i => h (l.getD i d)) = l.flatMap h := by
  have := congrArg List.flatten (range_map_getD l d h)
  rw [List.flatMap_def, List.flatMap_def]; exact this
theorem range_all_getD {α : Type} (l : List α) (d : α) (h : α → Bool) : (List.range l.length).all (fun i => h (l.getD i d)) = l.all h := by
  have := congrArg (fun l => l.all id) (range_map_getD l d h)
  simpa [List.all_map] using this
/-! edges that are right -/
theorem spec_in_eq (a b c : Int) : spec_l01In.f a b c = some (decide (b ≤ a ∧ a ≤ c)) := by
  unfold spec_l01In.f
  by_cases h : a ≥ b
  · have h' : b ≤ a := h
    simp [h']
  · have h' : ¬ b ≤ a := h
    simp [h']
theorem impl_in_eq (a b c : Int) : impl_in.f a b c = some (decide (b ≤ a ∧ a ≤ c)) := by
  unfold impl_in.f
  by_cases h : a ≥ b
  · have h' : b ≤ a := h
    simp [h']
  · have h' : ¬ b ≤ a := h
    simp [h']
def edgeOk (n a b : Int) : Bool := decide ((1 ≤ n ∧ n ≤ 12) ∧ (0 ≤ a ∧ a ≤ n - 1) ∧ (0 ≤ b ∧ b ≤ n - 1) ∧ a < b)
theorem spec_EdgeOk_eq (n a b : Int) : spec_EdgeOk.f n a b = some (edgeOk n a b) := by
  unfold spec_EdgeOk.f edgeOk
  simp only [spec_in_eq, Option.bind_some, decide_eq_true_eq]
  by_cases h1 : 1 ≤ n ∧ n ≤ 12
  · have e : wrap64 (n - 1) = n - 1 := by unfold wrap64; omega
    rw [if_pos h1, e]
    by_cases h2 : 0 ≤ a ∧ a ≤ n - 1
    · rw [if_pos h2]
      by_cases h3 : 0 ≤ b ∧ b ≤ n - 1
      · rw [if_pos h3]; simp [h1, h2, h3]
      · rw [if_neg h3, decide_eq_false (fun h => h3 h.2.2.1)]
    · rw [if_neg h2, decide_eq_false (fun h => h2 h.2.1)]
  · rw [if_neg h1, decide_eq_false (fun h => h1 h.1)]
theorem impl_EdgeOk_eq (n a b : Int) : impl_EdgeOk.f n a b = some (edgeOk n a b) := by
  unfold impl_EdgeOk.f edgeOk
  simp only [impl_in_eq, Option.bind_some, decide_eq_true_eq]
  by_cases h1 : 1 ≤ n ∧ n ≤ 12
  · have e : wrap64 (n - 1) = n - 1 := by unfold wrap64; omega
    rw [if_pos h1, e]
    by_cases h2 : 0 ≤ a ∧ a ≤ n - 1
    · rw [if_pos h2]
      by_cases h3 : 0 ≤ b ∧ b ≤ n - 1
      · rw [if_pos h3]; simp [h1, h2, h3]
      · rw [if_neg h3, decide_eq_false (fun h => h3 h.2.2.1)]
    · rw [if_neg h2, decide_eq_false (fun h => h2 h.2.1)]
  · rw [if_neg h1, decide_eq_false (fun h => h1 h.1)]

/-! the law's own functions over graphs -/
def toE (e : S76) : S79 := ⟨e.f0, e.f1⟩
theorem laws_szEdgeS_eq (l : List S76) (a : Int) (hl : l.length ≤ 9223372036854775807) (h0 : 0 ≤ a) (h1 : a ≤ 1048576) : laws_szEdgeS.f l a = some (if a - l.length < 0 then -1 else a - l.length) := by
  unfold laws_szEdgeS.f
  have : wrap64 (a - (l.length : Int)) = a - l.length := by unfold wrap64; omega
  rw [this]
  split <;> rfl
theorem laws_toEdgeS_ev (l : List S76) (hl : l.length ≤ 1048576) : Ev (fun k => laws_toEdgeS.f k l) (l.map toE) := by
  simp only [laws_toEdgeS.f, if_pos (show (0 : Int) ≤ (l.length : Int) by omega), Int.toNat_natCast, if_pos (show l.length ≤ 17592186044416 by omega)]
  have := Ev.setloop (L := fun k x i => laws_toEdgeS.l0 k l x i) (n := l.length) (fun i => toE (l.getD i z76)) z79 id (by
    intro i x r hi hx h
    refine Ev.step (fun k => by rw [laws_toEdgeS.l0, if_pos (by omega), if_pos (by omega), laws_toEdge.f, Option.bind_some, if_pos (by omega), wrap_succ hi (by omega)]) ?_
    exact h) (by
    intro x hx
    refine Ev.step (fun k => by rw [laws_toEdgeS.l0, if_neg (by omega)]) ?_
    exact Ev.now _)
  rw [range_map_getD] at this
  exact this
theorem laws_eqEdge_refl (a b : Int) : laws_eqEdge.f a b a b = some true := by simp [laws_eqEdge.f]
theorem laws_eqEdgeS_refl (l : List S79) (hl : l.length ≤ 4611686018427387904) : Ev (fun k => laws_eqEdgeS.f k l l) true := by
  simp only [laws_eqEdgeS.f, if_true]
  have := Ev.allloop (L := fun k i => laws_eqEdgeS.l0 k l l i) (n := l.length) (fun _ => true) false true (by
    intro i r hi _ h
    refine Ev.step (fun k => by rw [laws_eqEdgeS.l0, if_pos (by omega), if_pos (by omega), if_pos (by omega), laws_eqEdge_refl, Option.bind_some, if_pos rfl, wrap_succ hi hl]) ?_
    exact h) (by intro i _ h; cases h) (by
    refine Ev.step (fun k => by rw [laws_eqEdgeS.l0, if_neg (by omega)]) ?_
    exact Ev.now _)
  simpa using this

/-! the law's own functions over graphs -/
theorem laws_szGraph_eq (n : Int) (l : List S76) (a : Int) (hl : l.length ≤ 9223372036854775807) (h0 : 0 ≤ a) (h1 : a ≤ 1048576) : laws_szGraph.f n l a = some (if a - l.length < 0 then -1 else a - l.length) := by
  unfold laws_szGraph.f
  rw [laws_szEdgeS_eq l a hl h0 h1]
  by_cases h : a - l.length < 0
  · simp [h]
  · simp [h]
theorem laws_toGraph_ev (n : Int) (l : List S76) (hl : l.length ≤ 1048576) : Ev (fun k => laws_toGraph.f k n l) (n, l.map toE) := by
  simp only [laws_toGraph.f]
  exact Ev.bind (laws_toEdgeS_ev l hl) (Ev.now _)
theorem laws_eqGraph_refl (n : Int) (l : List S79) (hl : l.length ≤ 4611686018427387904) : Ev (fun k => laws_eqGraph.f k n l n l) true := by
  simp only [laws_eqGraph.f, if_true]
  refine Ev.bind (laws_eqEdgeS_refl l hl) ?_
  exact Ev.now _

/-! graphs that are right -/
def lessE (a b : S79) : Bool := decide (a.f0 < b.f0 ∨ a.f0 = b.f0 ∧ a.f1 < b.f1)
theorem spec_l05Less_eq (a b c d : Int) : spec_l05Less.f a b c d = some (decide (a < c ∨ a = c ∧ b < d)) := by
  unfold spec_l05Less.f
  by_cases h : a < c
  · simp [h]
  · by_cases h2 : a = c
    · subst h2; simp
    · simp [h, h2]
theorem impl_ahead_eq (a b c d : Int) : impl_ahead.f a b c d = some (decide (a < c ∨ a = c ∧ b < d)) := by
  unfold impl_ahead.f
  by_cases h : a < c
  · simp [h]
  · by_cases h2 : a = c
    · subst h2; simp
    · simp [h, h2]
def edgeAt (n : Int) (l : List S79) (i : Nat) : Bool := edgeOk n (l.getD i z79).f0 (l.getD i z79).f1 && (decide (i = 0) || lessE (l.getD (i - 1) z79) (l.getD i z79))
def edgesOk (n : Int) (l : List S79) : Bool := if (List.range l.length).all (edgeAt n l) then decide ((l.length : Int) ≤ 66) else false
theorem spec_l05Edges_ev (n : Int) (l : List S79) (hl : l.length ≤ 4611686018427387904) : Ev (fun k => spec_l05Edges.f k n l) (edgesOk n l) := by
  simp only [spec_l05Edges.f]
  refine Ev.allloop (L := fun k i => spec_l05Edges.l0 k n l i) (n := l.length) (edgeAt n l) false (decide ((l.length : Int) ≤ 66)) ?_ ?_ ?_
  · intro i r hi hp h
    simp only [edgeAt, Bool.and_eq_true, Bool.or_eq_true, decide_eq_true_eq] at hp
    refine Ev.step (fun k => by rw [spec_l05Edges.l0, if_pos (by omega), if_pos (by omega), spec_EdgeOk_eq, Option.bind_some]) ?_
    simp only [rd_T79, Int.toNat_natCast, if_pos hp.1, wrap_succ hi hl]
    by_cases hz : (i : Int) > 0
    · have e : wrap64 ((i : Int) - 1) = ((i - 1 : Nat) : Int) := by unfold wrap64; omega
      have hq : lessE (l.getD (i - 1) z79) (l.getD i z79) = true := by
        rcases hp.2 with h0 | h0
        · omega
        · exact h0
      unfold lessE at hq
      simp only [if_pos hz, e, if_pos (show (0 : Int) ≤ ((i - 1 : Nat) : Int) by omega), if_pos (show ((i - 1 : Nat) : Int) < (l.length : Int) by omega), Int.toNat_natCast, spec_l05Less_eq, Option.bind_some, if_pos hq]
      exact h
    · simp only [if_neg hz]
      exact h
  · intro i hi hp
    simp only [edgeAt, Bool.and_eq_false_iff, Bool.or_eq_false_iff] at hp
    refine Ev.step (fun k => by rw [spec_l05Edges.l0, if_pos (by omega), if_pos (by omega), spec_EdgeOk_eq, Option.bind_some]) ?_
    simp only [rd_T79, Int.toNat_natCast]
    by_cases he : edgeOk n (l.getD i z79).f0 (l.getD i z79).f1 = true
    · rcases hp with hp | hp
      · rw [he] at hp; cases hp
      · have hz : (i : Int) > 0 := by have := of_decide_eq_false hp.1; omega
        have e : wrap64 ((i : Int) - 1) = ((i - 1 : Nat) : Int) := by unfold wrap64; omega
        have hq := hp.2
        unfold lessE at hq
        simp only [if_pos he, if_pos hz, e, if_pos (show (0 : Int) ≤ ((i - 1 : Nat) : Int) by omega), if_pos (show ((i - 1 : Nat) : Int) < (l.length : Int) by omega), Int.toNat_natCast, spec_l05Less_eq, Option.bind_some, hq]
        exact Ev.now _
    · have he' := Bool.eq_false_iff.2 he
      simp only [he', Bool.false_eq_true, if_false]
      exact Ev.now _
  · refine Ev.step (fun k => by rw [spec_l05Edges.l0, if_neg (by omega)]) ?_
    exact Ev.now _
theorem impl_edgesOk_ev (n : Int) (l : List S79) (hl : l.length ≤ 4611686018427387904) : Ev (fun k => impl_edgesOk.f k n l) (edgesOk n l) := by
  simp only [impl_edgesOk.f]
  refine Ev.allloop (L := fun k i => impl_edgesOk.l0 k n l l l.length i) (n := l.length) (edgeAt n l) false (decide ((l.length : Int) ≤ 66)) ?_ ?_ ?_
  · intro i r hi hp h
    simp only [edgeAt, Bool.and_eq_true, Bool.or_eq_true, decide_eq_true_eq] at hp
    refine Ev.step (fun k => by rw [impl_edgesOk.l0, if_pos (by omega), if_pos (by omega), if_pos (by omega), impl_EdgeOk_eq, Option.bind_some]) ?_
    simp only [rd_T79, Int.toNat_natCast, if_pos hp.1, wrap_succ hi hl]
    by_cases hz : (i : Int) > 0
    · have e : wrap64 ((i : Int) - 1) = ((i - 1 : Nat) : Int) := by unfold wrap64; omega
      have hq : lessE (l.getD (i - 1) z79) (l.getD i z79) = true := by
        rcases hp.2 with h0 | h0
        · omega
        · exact h0
      unfold lessE at hq
      simp only [if_pos hz, e, if_pos (show (0 : Int) ≤ ((i - 1 : Nat) : Int) by omega), if_pos (show ((i - 1 : Nat) : Int) < (l.length : Int) by omega), Int.toNat_natCast, impl_ahead_eq, Option.bind_some, if_pos hq]
      exact h
    · simp only [if_neg hz]
      exact h
  · intro i hi hp
    simp only [edgeAt, Bool.and_eq_false_iff, Bool.or_eq_false_iff] at hp
    refine Ev.step (fun k => by rw [impl_edgesOk.l0, if_pos (by omega), if_pos (by omega), if_pos (by omega), impl_EdgeOk_eq, Option.bind_some]) ?_
    simp only [rd_T79, Int.toNat_natCast]
    by_cases he : edgeOk n (l.getD i z79).f0 (l.getD i z79).f1 = true
    · rcases hp with hp | hp
      · rw [he] at hp; cases hp
      · have hz : (i : Int) > 0 := by have := of_decide_eq_false hp.1; omega
        have e : wrap64 ((i : Int) - 1) = ((i - 1 : Nat) : Int) := by unfold wrap64; omega
        have hq := hp.2
        unfold lessE at hq
        simp only [if_pos he, if_pos hz, e, if_pos (show (0 : Int) ≤ ((i - 1 : Nat) : Int) by omega), if_pos (show ((i - 1 : Nat) : Int) < (l.length : Int) by omega), Int.toNat_natCast, impl_ahead_eq, Option.bind_some, hq]
        exact Ev.now _
    · have he' := Bool.eq_false_iff.2 he
      simp only [he', Bool.false_eq_true, if_false]
      exact Ev.now _
  · refine Ev.step (fun k => by rw [impl_edgesOk.l0, if_neg (by omega)]) ?_
    exact Ev.now _

def graphOk (n : Int) (l : List S79) : Bool := decide (1 ≤ n ∧ n ≤ 12) && edgesOk n l
theorem spec_GraphOk_ev (n : Int) (l : List S79) (hl : l.length ≤ 4611686018427387904) : Ev (fun k => spec_GraphOk.f k n l) (graphOk n l) := by
  simp only [spec_GraphOk.f, spec_in_eq, Option.bind_some, graphOk]
  by_cases h : 1 ≤ n ∧ n ≤ 12
  · simp only [decide_eq_true h, if_true, Bool.true_and]
    exact Ev.bind (spec_l05Edges_ev n l hl) (Ev.now _)
  · simp only [decide_eq_false h, Bool.false_eq_true, if_false, Bool.false_and]
    exact Ev.now _
theorem impl_GraphOk_ev (n : Int) (l : List S79) (hl : l.length ≤ 4611686018427387904) : Ev (fun k => impl_GraphOk.f k n l) (graphOk n l) := by
  simp only [impl_GraphOk.f, impl_in_eq, Option.bind_some, graphOk]
  by_cases h : 1 ≤ n ∧ n ≤ 12
  · simp only [decide_eq_true h, if_true, Bool.true_and]
    exact Ev.bind (impl_edgesOk_ev n l hl) (Ev.now _)
  · simp only [decide_eq_false h, Bool.false_eq_true, if_false, Bool.false_and]
    exact Ev.now _

def seqE (m : Int) (n : Nat) : List S79 := (List.range n).map (fun (i : Nat) => (⟨m + 2 * i, m + 2 * i + 1⟩ : S79))
theorem getD_set_self {α : Type} {l : List α} {i : Nat} {v d : α} (h : i < l.length) : (l.set i v).getD i d = v := by
  rw [List.getD_eq_getElem?_getD, List.getElem?_set_self h]; rfl
theorem laws_markEdgeS_ev (l : List S79) (m : Int) (h0 : 0 ≤ m) (hm : m ≤ 1099511627776) (hl : l.length ≤ 1099511627776) : Ev (fun k => laws_markEdgeS.f k l m) (m + 2 * l.length, seqE m l.length) := by
  simp only [laws_markEdgeS.f]
  have := Ev.setloop' (L := fun k x i => laws_markEdgeS.l0 k x (m + 2 * i) i) (n := l.length) (fun i => (⟨m + 2 * i, m + 2 * i + 1⟩ : S79)) l rfl (fun x => (m + 2 * (l.length : Int), x)) (by
    intro i x r hi hx h
    have e1 : wrap64 (m + 2 * (i : Int) + 1) = m + 2 * i + 1 := by unfold wrap64; omega
    have e2 : wrap64 (m + 2 * (i : Int) + 1 + 1) = m + 2 * ((i + 1 : Nat) : Int) := by unfold wrap64; omega
    refine Ev.step (fun k => by rw [laws_markEdgeS.l0, if_pos (by omega), if_pos (by omega), e1, e2, Option.bind_some, wrap_succ hi (by omega)]) ?_
    simp only [rd_T79, Int.toNat_natCast, getD_set_self (show i < x.length by omega), List.set_set]
    exact h) (by
    intro x hx
    refine Ev.step (fun k => by rw [laws_markEdgeS.l0, if_neg (by omega)]) ?_
    exact Ev.now _)
  simpa [seqE] using this
theorem laws_markGraph_ev (n : Int) (l : List S79) (m : Int) (h0 : 0 ≤ m) (hm : m ≤ 1099511627776) (hl : l.length ≤ 1099511627776) : Ev (fun k => laws_markGraph.f k n l m) (m + 2 * l.length, seqE m l.length) := by
  simp only [laws_markGraph.f]
  exact Ev.bind (laws_markEdgeS_ev l m h0 hm hl) (Ev.now _)

theorem laws_heldEdgeS_ev (m : Int) (n : Nat) (h0 : 0 ≤ m) (hm : m ≤ 1099511627776) (hl : n ≤ 1099511627776) : Ev (fun k => laws_heldEdgeS.f k (seqE m n) m) (m + 2 * n) := by
  simp only [laws_heldEdgeS.f]
  have hlen : (seqE m n).length = n := by simp [seqE]
  have := Ev.allloop (L := fun k i => laws_heldEdgeS.l0 k (seqE m n) (m + 2 * i) i) (n := n) (fun _ => true) (-1) (m + 2 * (n : Int)) (by
    intro i r hi _ h
    have e1 : wrap64 (m + 2 * (i : Int) + 1) = m + 2 * i + 1 := by unfold wrap64; omega
    have e2 : wrap64 (m + 2 * (i : Int) + 1 + 1) = m + 2 * ((i + 1 : Nat) : Int) := by unfold wrap64; omega
    have er : rd_T79 (seqE m n) (i : Int) = ⟨m + 2 * i, m + 2 * i + 1⟩ := by
      simp [rd_T79, seqE, List.getD_eq_getElem?_getD, List.getElem?_map, List.getElem?_range hi]
    refine Ev.step (fun k => by rw [laws_heldEdgeS.l0, if_pos (by omega), if_pos (by omega), er]) ?_
    simp only [e1, e2, if_true, wrap_succ hi (show n ≤ 4611686018427387904 by omega)]
    exact h) (by intro i _ h; cases h) (by
    refine Ev.step (fun k => by rw [laws_heldEdgeS.l0, if_neg (by omega)]) ?_
    exact Ev.now _)
  simpa using this
theorem laws_heldGraph_ev (n' : Int) (m : Int) (n : Nat) (h0 : 0 ≤ m) (hm : m ≤ 1099511627776) (hl : n ≤ 1099511627776) : Ev (fun k => laws_heldGraph.f k n' (seqE m n) m) (m + 2 * n) := by
  simp only [laws_heldGraph.f]
  refine Ev.bind (laws_heldEdgeS_ev m n h0 hm hl) ?_
  simp only [if_neg (show ¬ (m + 2 * (n : Int) < 0) by omega)]
  exact Ev.now _

def eqAt (l : List S79) (a b : Int) (i : Nat) : Bool := ((l.getD i z79).f0 == a && ((l.getD i z79).f1 == b))
def hasE (l : List S79) (a b : Int) : Bool := if (List.range l.length).all (fun i => !eqAt l a b i) then false else true
theorem spec_l05Has_ev (l : List S79) (a b : Int) (hl : l.length ≤ 4611686018427387904) : Ev (fun k => spec_l05Has.f k l a b) (hasE l a b) := by
  simp only [spec_l05Has.f, hasE]
  refine Ev.allloop (L := fun k i => spec_l05Has.l0 k l i a b) (n := l.length) (fun i => !eqAt l a b i) true false ?_ ?_ ?_
  · intro i r hi hp h
    simp only [Bool.not_eq_true'] at hp
    unfold eqAt at hp
    refine Ev.step (fun k => by rw [spec_l05Has.l0, if_pos (by omega), if_pos (by omega), rd_T79, Int.toNat_natCast, hp, if_neg (by simp), wrap_succ hi hl]) ?_
    exact h
  · intro i hi hp
    simp only [Bool.not_eq_false'] at hp
    unfold eqAt at hp
    refine Ev.step (fun k => by rw [spec_l05Has.l0, if_pos (by omega), if_pos (by omega), rd_T79, Int.toNat_natCast, hp, if_pos rfl]) ?_
    exact Ev.now _
  · refine Ev.step (fun k => by rw [spec_l05Has.l0, if_neg (by omega)]) ?_
    exact Ev.now _
theorem hasE_iff {l : List S79} {a b : Int} : hasE l a b = true ↔ ∃ e ∈ l, e.f0 = a ∧ e.f1 = b := by
  have e : (List.range l.length).all (fun i => !eqAt l a b i) = l.all (fun e => !(e.f0 == a && (e.f1 == b))) := range_all_getD l z79 (fun e => !(e.f0 == a && (e.f1 == b)))
  rw [hasE, e]
  constructor
  · intro h
    split at h
    · cases h
    · rename_i hn
      obtain ⟨x, hx, hy⟩ := List.all_eq_false.1 (Bool.eq_false_iff.2 hn)
      simp at hy
      exact ⟨x, hx, hy⟩
  · rintro ⟨x, hx, rfl, rfl⟩
    split
    · rename_i hn
      simp only [List.all_eq_true] at hn
      have := hn x hx
      simp at this
    · rfl

theorem impl_hasEdge_ev (l : List S79) (a b : Int) (hl : l.length ≤ 4611686018427387904) : Ev (fun k => impl_hasEdge.f k l a b) (hasE l a b) := by
  simp only [impl_hasEdge.f, hasE]
  refine Ev.allloop (L := fun k i => impl_hasEdge.l0 k l l.length i a b) (n := l.length) (fun i => !eqAt l a b i) true false ?_ ?_ ?_
  · intro i r hi hp h
    simp only [Bool.not_eq_true'] at hp
    unfold eqAt at hp
    refine Ev.step (fun k => by rw [impl_hasEdge.l0, if_pos (by omega), if_pos (by omega), if_pos (by omega), rd_T79, Int.toNat_natCast, hp, if_neg (by simp), wrap_succ hi hl]) ?_
    exact h
  · intro i hi hp
    simp only [Bool.not_eq_false'] at hp
    unfold eqAt at hp
    refine Ev.step (fun k => by rw [impl_hasEdge.l0, if_pos (by omega), if_pos (by omega), if_pos (by omega), rd_T79, Int.toNat_natCast, hp, if_pos rfl]) ?_
    exact Ev.now _
  · refine Ev.step (fun k => by rw [impl_hasEdge.l0, if_neg (by omega)]) ?_
    exact Ev.now _

theorem spec_HasEdge_ev (n : Int) (l : List S79) (a b : Int) (hl : l.length ≤ 4611686018427387904) : Ev (fun k => spec_HasEdge.f k n l a b) (hasE l a b) := by
  simp only [spec_HasEdge.f]
  exact Ev.bind (spec_l05Has_ev l a b hl) (Ev.now _)
theorem impl_HasEdge_ev (n : Int) (l : List S79) (a b : Int) (hl : l.length ≤ 4611686018427387904) : Ev (fun k => impl_HasEdge.f k n l a b) (hasE l a b) := by
  simp only [impl_HasEdge.f]
  exact Ev.bind (impl_hasEdge_ev l a b hl) (Ev.now _)

/-! an edge put -/
theorem flatMap_range_len {β : Type} (g : Nat → List β) (h : ∀ i, (g i).length ≤ 1) : ∀ i : Nat, ((List.range i).flatMap g).length ≤ i
  | 0 => by simp
  | i + 1 => by
    rw [List.range_succ, List.flatMap_append, List.length_append]
    have := flatMap_range_len g h i
    have h1 : (List.flatMap g [i]).length ≤ 1 := by
      have := h i
      simpa using this
    omega
def insE : List S79 → S79 → List S79
  | [], e => [e]
  | x :: l, e => if lessE x e = true then x :: insE l e else e :: x :: l
theorem insE_len (e : S79) : ∀ l : List S79, (insE l e).length = l.length + 1
  | [] => rfl
  | x :: l => by
    rw [insE]
    split
    · rw [List.length_cons, insE_len e l, List.length_cons]
    · simp
theorem lessE_iff {a b : S79} : lessE a b = true ↔ (a.f0 < b.f0 ∨ a.f0 = b.f0 ∧ a.f1 < b.f1) := by
  unfold lessE; exact decide_eq_true_iff
theorem edgesOk_asc {n : Int} {l : List S79} (h : edgesOk n l = true) : l.Pairwise (fun a b => lessE a b = true) := by
  unfold edgesOk at h
  split at h
  · rename_i ha
    rw [List.all_eq_true] at ha
    have hn : ∀ i (hi : i + 1 < l.length), lessE (l[i]'(by omega)) (l[i + 1]'hi) = true := by
      intro i hi
      have := ha (i + 1) (List.mem_range.2 hi)
      simp only [edgeAt, Bool.and_eq_true, Bool.or_eq_true, decide_eq_true_eq, Nat.add_sub_cancel] at this
      rcases this.2 with h0 | h0
      · omega
      · simpa [List.getD_eq_getElem?_getD, List.getElem?_eq_getElem hi, List.getElem?_eq_getElem (show i < l.length by omega)] using h0
    have hd : ∀ (d i : Nat) (hi : i + d + 1 < l.length), lessE (l[i]'(by omega)) (l[i + d + 1]'hi) = true := by
      intro d
      induction d with
      | zero => intro i hi; exact hn i hi
      | succ d ih =>
        intro i hi
        have h1 := lessE_iff.1 (ih i (by omega))
        have h2 := lessE_iff.1 (hn (i + d + 1) hi)
        refine lessE_iff.2 ?_
        have e : i + (d + 1) + 1 = i + d + 1 + 1 := by omega
        simp only [e]
        omega
    rw [List.pairwise_iff_getElem]
    intro i j hi hj hij
    obtain ⟨d, rfl⟩ : ∃ d, j = i + d + 1 := ⟨j - i - 1, by omega⟩
    exact hd d i hj
  · cases h
def putS (l : List S79) (e : S79) : List S79 :=
  l.flatMap (fun x => if lessE x e = true then [x] else []) ++ [e] ++ l.flatMap (fun x => if lessE e x = true then [x] else [])
theorem flatMap_none {α β : Type} {l : List α} {g : α → List β} (h : ∀ x ∈ l, g x = []) : l.flatMap g = [] := by
  induction l with
  | nil => rfl
  | cons x l ih => rw [List.flatMap_cons, h x List.mem_cons_self, ih (fun y hy => h y (List.mem_cons_of_mem _ hy))]; rfl
theorem flatMap_all {α : Type} {l : List α} {g : α → List α} (h : ∀ x ∈ l, g x = [x]) : l.flatMap g = l := by
  induction l with
  | nil => rfl
  | cons x l ih => rw [List.flatMap_cons, h x List.mem_cons_self, ih (fun y hy => h y (List.mem_cons_of_mem _ hy))]; rfl
theorem putS_insE {e : S79} : ∀ {l : List S79}, l.Pairwise (fun a b => lessE a b = true) → (∀ x ∈ l, ¬ (x.f0 = e.f0 ∧ x.f1 = e.f1)) → putS l e = insE l e
  | [], _, _ => rfl
  | x :: l, h, hne => by
    rw [List.pairwise_cons] at h
    have hx := hne x List.mem_cons_self
    rw [insE]
    by_cases c : lessE x e = true
    · have c' := lessE_iff.1 c
      have c2 : ¬ lessE e x = true := fun hh => by have := lessE_iff.1 hh; omega
      have ih := putS_insE h.2 (fun y hy => hne y (List.mem_cons_of_mem _ hy))
      rw [if_pos c, ← ih]
      unfold putS
      rw [List.flatMap_cons, List.flatMap_cons, if_pos c, if_neg c2]
      simp
    · have c' : ¬ (x.f0 < e.f0 ∨ x.f0 = e.f0 ∧ x.f1 < e.f1) := fun hh => c (lessE_iff.2 hh)
      rw [if_neg c]
      unfold putS
      have hall : ∀ y ∈ x :: l, ¬ lessE y e = true ∧ lessE e y = true := by
        intro y hy
        rcases List.mem_cons.1 hy with rfl | hy
        · exact ⟨c, lessE_iff.2 (by omega)⟩
        · have h1 := lessE_iff.1 (h.1 y hy)
          refine ⟨fun hh => ?_, lessE_iff.2 (by omega)⟩
          have := lessE_iff.1 hh
          omega
      rw [flatMap_none (fun y hy => if_neg (hall y hy).1), flatMap_all (fun y hy => if_pos (hall y hy).2)]
      rfl
theorem spec_l05Put_ev (l : List S79) (a b : Int) (hl : l.length ≤ 1048576) : Ev (fun k => spec_l05Put.f k l a b) (putS l ⟨a, b⟩) := by
  simp only [spec_l05Put.f]
  have hg : ∀ i : Nat, rd_T79 l (i : Int) = l.getD i z79 := fun i => by simp [rd_T79]
  have h2 : ∀ x0 : List S79, x0.length ≤ 1048577 → Ev (fun k => spec_l05Put.l1 k l x0 0 a b) (x0 ++ l.flatMap (fun x => if lessE ⟨a, b⟩ x = true then [x] else [])) := by
    intro x0 hx0
    have := Ev.apploop (L := fun k x i => spec_l05Put.l1 k l x i a b) (n := l.length) (fun i => if lessE ⟨a, b⟩ (l.getD i z79) = true then [l.getD i z79] else []) id x0 ?_ ?_
    · rw [range_flatMap_getD l z79 (fun x => if lessE ⟨a, b⟩ x = true then [x] else [])] at this
      exact this
    · intro i x r hi hx h
      have hxl : x.length ≤ 1048577 + i := by
        rw [hx, List.length_append]
        have := flatMap_range_len (fun i => if lessE ⟨a, b⟩ (l.getD i z79) = true then [l.getD i z79] else []) (fun j => by split <;> simp) i
        omega
      have hle := spec_l05Less_eq a b (l.getD i z79).f0 (l.getD i z79).f1
      refine Ev.step (fun k => by rw [spec_l05Put.l1, if_pos (by omega), if_pos (by omega), hg, hle, Option.bind_some, wrap_succ hi (by omega)]) ?_
      by_cases c : lessE ⟨a, b⟩ (l.getD i z79) = true
      · simp only [if_pos c] at h
        unfold lessE at c
        simp only [if_pos c, if_pos (show x.length < 8796093022208 by omega)]
        exact h
      · simp only [if_neg c, List.append_nil] at h
        unfold lessE at c
        simp only [if_neg c]
        exact h
    · intro x hx
      refine Ev.step (fun k => by rw [spec_l05Put.l1, if_neg (by omega)]) ?_
      exact Ev.now _
  have := Ev.apploop (L := fun k x i => spec_l05Put.l0 k l x i a b) (n := l.length) (fun i => if lessE (l.getD i z79) ⟨a, b⟩ = true then [l.getD i z79] else []) (fun x => x ++ [⟨a, b⟩] ++ l.flatMap (fun x => if lessE ⟨a, b⟩ x = true then [x] else [])) [] ?_ ?_
  · rw [List.nil_append, range_flatMap_getD l z79 (fun x => if lessE x ⟨a, b⟩ = true then [x] else [])] at this
    exact this
  · intro i x r hi hx h
    have hxl : x.length ≤ i := by
      rw [hx, List.nil_append]
      exact flatMap_range_len _ (fun j => by split <;> simp) i
    have hle := spec_l05Less_eq (l.getD i z79).f0 (l.getD i z79).f1 a b
    refine Ev.step (fun k => by rw [spec_l05Put.l0, if_pos (by omega), if_pos (by omega), hg, hle, Option.bind_some, wrap_succ hi (by omega)]) ?_
    by_cases c : lessE (l.getD i z79) ⟨a, b⟩ = true
    · simp only [if_pos c] at h
      unfold lessE at c
      simp only [if_pos c, if_pos (show x.length < 8796093022208 by omega)]
      exact h
    · simp only [if_neg c, List.append_nil] at h
      unfold lessE at c
      simp only [if_neg c]
      exact h
  · intro x hx
    have hxl : x.length ≤ l.length := by
      rw [hx, List.nil_append]
      exact flatMap_range_len _ (fun j => by split <;> simp) _
    refine Ev.step (fun k => by rw [spec_l05Put.l0, if_neg (by omega), if_pos (by omega)]) ?_
    exact h2 _ (by simp; omega)
theorem impl_withEdge_ev (l : List S79) (a b : Int) (hl : l.length ≤ 1048576) : Ev (fun k => impl_withEdge.f k l a b) (insE l ⟨a, b⟩) := by
  simp only [impl_withEdge.f]
  have hg : ∀ (i : Nat) (hi : i < l.length), rd_T79 l (i : Int) = l[i] := fun i hi => by simp [rd_T79, List.getD_eq_getElem?_getD, List.getElem?_eq_getElem hi]
  have key : ∀ (d i : Nat), i + d = l.length → Ev (fun k => impl_withEdge.l0 k l i a b) (l.take i ++ insE (l.drop i) ⟨a, b⟩) := by
    intro d
    induction d with
    | zero =>
      intro i hi
      refine Ev.step (fun k => by rw [impl_withEdge.l0, if_neg (by omega), if_pos (by omega), if_pos (by omega)]) ?_
      simp only [Option.bind_some, Int.toNat_natCast, List.nil_append, List.length_nil, List.length_take, List.length_singleton, List.length_append, List.length_drop]
      rw [if_pos (by omega), if_pos (by omega), if_pos (by omega), List.drop_of_length_le (by omega), insE, List.append_nil]
      exact Ev.now _
    | succ d ih =>
      intro i hi
      have hil : i < l.length := by omega
      have hle := impl_ahead_eq l[i].f0 l[i].f1 a b
      rw [List.drop_eq_getElem_cons hil, insE]
      refine Ev.step (fun k => by rw [impl_withEdge.l0, if_pos (by omega), if_pos (by omega), hg i hil, hle, Option.bind_some, wrap_succ hil (by omega)]) ?_
      by_cases c : lessE l[i] ⟨a, b⟩ = true
      · rw [if_pos c]
        have := ih (i + 1) (by omega)
        rw [List.take_succ_eq_append_getElem hil, List.append_assoc] at this
        unfold lessE at c
        simp only [if_pos c]
        exact this
      · rw [if_neg c]
        unfold lessE at c
        simp only [if_neg c, if_pos (show (i : Int) ≤ (l.length : Int) by omega)]
        simp only [Option.bind_some, Int.toNat_natCast, List.nil_append, List.length_nil, List.length_take, List.length_singleton, List.length_append, List.length_drop]
        rw [if_pos (by omega), if_pos (by omega), if_pos (by omega), ← List.drop_eq_getElem_cons hil]
        have e : l.take i ++ ⟨a, b⟩ :: l.drop i = l.take i ++ [⟨a, b⟩] ++ l.drop i := by simp
        rw [e]
        exact Ev.now _
  have := key l.length 0 (by omega)
  simpa using this
def addP (n : Int) (l : List S79) (a b : Int) : Int × List S79 × Bool :=
  if graphOk n l = true ∧ edgeOk n a b = true ∧ ¬ hasE l a b = true then (n, insE l ⟨a, b⟩, true) else (0, [], false)
theorem addP_len (n : Int) (l : List S79) (a b : Int) : (addP n l a b).2.1.length ≤ l.length + 1 := by
  unfold addP
  split
  · rw [insE_len]; exact Nat.le_refl _
  · simp
theorem spec_AddEdge_ev (n : Int) (l : List S79) (a b : Int) (hl : l.length ≤ 1048576) : Ev (fun k => spec_AddEdge.f k n l a b) (addP n l a b) := by
  simp only [spec_AddEdge.f, spec_EdgeOk_eq, Option.bind_some]
  refine Ev.bind (spec_GraphOk_ev n l (by omega)) ?_
  unfold addP
  by_cases h : graphOk n l = true
  · simp only [if_pos h]
    by_cases h1 : edgeOk n a b = true
    · simp only [if_pos h1]
      refine Ev.bind (spec_HasEdge_ev n l a b (by omega)) ?_
      by_cases h2 : hasE l a b = true
      · simp only [if_pos h2]
        rw [if_neg (fun hh => hh.2.2 h2)]
        exact Ev.now _
      · simp only [if_neg h2]
        rw [if_pos ⟨h, h1, h2⟩]
        refine Ev.bind (spec_l05Put_ev l a b hl) ?_
        have hgo := h
        simp only [graphOk, Bool.and_eq_true] at hgo
        have e : putS l ⟨a, b⟩ = insE l ⟨a, b⟩ := putS_insE (edgesOk_asc hgo.2) (fun x hx hxx => h2 (hasE_iff.2 ⟨x, hx, hxx.1, hxx.2⟩))
        rw [e]
        exact Ev.now _
    · simp only [if_neg h1]
      rw [if_neg (fun hh => h1 hh.2.1)]
      exact Ev.now _
  · simp only [if_neg h]
    rw [if_neg (fun hh => h hh.1)]
    exact Ev.now _
theorem impl_AddEdge_ev (n : Int) (l : List S79) (a b : Int) (hl : l.length ≤ 1048576) : Ev (fun k => impl_AddEdge.f k n l a b) (addP n l a b) := by
  simp only [impl_AddEdge.f, impl_EdgeOk_eq, Option.bind_some]
  refine Ev.bind (impl_GraphOk_ev n l (by omega)) ?_
  unfold addP
  by_cases h : graphOk n l = true
  · simp only [if_pos h]
    by_cases h1 : edgeOk n a b = true
    · simp only [if_pos h1]
      refine Ev.bind (impl_HasEdge_ev n l a b (by omega)) ?_
      by_cases h2 : hasE l a b = true
      · simp only [if_pos h2]
        rw [if_neg (fun hh => hh.2.2 h2)]
        exact Ev.now _
      · simp only [if_neg h2]
        rw [if_pos ⟨h, h1, h2⟩]
        refine Ev.bind (impl_withEdge_ev l a b hl) ?_
        exact Ev.now _
    · simp only [if_neg h1]
      rw [if_neg (fun hh => h1 hh.2.1)]
      exact Ev.now _
  · simp only [if_neg h]
    rw [if_neg (fun hh => h hh.1)]
    exact Ev.now _

theorem FnExactAddEdge_pure (n : Int) (l : List S76) (a b : Int) (q0 : (Go.Lit.int .i64 n).wf = true) (q1 : l.length ≤ 9223372036854775807 ∧ ∀ a ∈ l, (Go.Lit.int .i64 a.f0).wf = true ∧ (Go.Lit.int .i64 a.f1).wf = true) (q2 : (Go.Lit.int .i64 a).wf = true) (q3 : (Go.Lit.int .i64 b).wf = true) : ∃ k, laws_FnExactAddEdge.f k n l a b = some true := by
  refine Ev.rounds (g := fun k => laws_FnExactAddEdge.f k n l a b) ?_
  simp only [laws_FnExactAddEdge.f, laws_szGraph_eq n l 1048576 q1.1 (by omega) (by omega), Option.bind_some]
  by_cases h : (1048576 : Int) - l.length < 0
  · simp only [if_pos h, show ((-1 : Int) < 0) = True by simp, if_true]; exact Ev.now _
  · have hl : l.length ≤ 1048576 := by omega
    have hl3 : (l.map toE).length ≤ 1048576 := by rw [List.length_map]; omega
    have ht := addP_len n (l.map toE) a b
    have he : laws_toEdge.f a b = some (a, b) := by simp [laws_toEdge.f]
    simp only [if_neg h, he, Option.bind_some]
    refine Ev.bind (laws_toGraph_ev n l hl) ?_
    refine Ev.bind (spec_AddEdge_ev n _ a b hl3) ?_
    refine Ev.bind (laws_toGraph_ev n l hl) ?_
    refine Ev.bind (impl_AddEdge_ev n _ a b hl3) ?_
    refine Ev.bind (laws_eqGraph_refl (addP n (l.map toE) a b).1 (addP n (l.map toE) a b).2.1 (by omega)) ?_
    simp only [if_true, bne_self_eq_false]
    refine Ev.step (fun k => by rw [laws_FnExactAddEdge.j0, if_neg (by simp)]) ?_
    refine Ev.bind (laws_toGraph_ev n l hl) ?_
    refine Ev.bind (laws_eqGraph_refl n (l.map toE) (by omega)) ?_
    simp only [if_true]
    refine Ev.bind (laws_markGraph_ev n _ 1 (by omega) (by omega) (by omega)) ?_
    simp only [if_neg (show ¬ (1 + 2 * ((l.map toE).length : Int) < 0) by omega)]
    refine Ev.bind (laws_eqGraph_refl (addP n (l.map toE) a b).1 (addP n (l.map toE) a b).2.1 (by omega)) ?_
    simp only [if_true, bne_self_eq_false]
    refine Ev.step (fun k => by rw [laws_FnExactAddEdge.j1, if_neg (by simp), he]) ?_
    refine Ev.bind (laws_markGraph_ev _ _ 1 (by omega) (by omega) (by omega)) ?_
    refine Ev.bind (laws_heldGraph_ev _ 1 _ (by omega) (by omega) (by omega)) ?_
    simp only [if_neg (show ¬ (1 + 2 * ((addP n (l.map toE) a b).2.1.length : Int) < 0) by omega), if_true, Option.bind_some]
    refine Ev.bind (laws_toGraph_ev n l hl) ?_
    refine Ev.bind (impl_AddEdge_ev n _ a b hl3) ?_
    refine Ev.bind (laws_eqGraph_refl (addP n (l.map toE) a b).1 (addP n (l.map toE) a b).2.1 (by omega)) ?_
    simp only [if_true, bne_self_eq_false]
    refine Ev.step (fun k => by rw [laws_FnExactAddEdge.j2, if_neg (by simp)]) ?_
    refine Ev.bind (laws_heldGraph_ev _ 1 _ (by omega) (by omega) (by omega)) ?_
    simp only [if_neg (show ¬ (1 + 2 * ((addP n (l.map toE) a b).2.1.length : Int) < 0) by omega), if_true]
    exact Ev.now _

end Go.Proofs.Ytigeiofkbccocaa.Pure
