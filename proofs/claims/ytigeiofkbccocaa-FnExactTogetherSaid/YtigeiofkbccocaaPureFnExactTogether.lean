/- For every graph and two numbers Together of the program and of the reference tell the same. No condition is laid beside the statement. -/
import Derived.Test.YtigeiofkbccocaaQFnExactTogetherx7
import Derived.Laws.BitsLemmas
import Derived.Lib.Bytes
import Derived.OpenShut
namespace Go.Proofs.Ytigeiofkbccocaa.Pure
open Go.RowKit Go.Proofs.Ytigeiofkbccocaa.QFnExactTogether Go.Proofs.YtigeiofkbccocaaW.PrintWords Go.Proofs.YtigeiofkbccocaaW.PrintLast
set_option linter.unusedVariables false
set_option linter.unusedSimpArgs false


/-! loops in general -/
theorem wrap_succ {i n : Nat} (h : i < n) (hn : n ≤ 4611686018427387904) : wrap64 ((i : Int) + 1) = ((i + 1 : Nat) : Int) := by unfold wrap64; omega
theorem Ev.loopR {σ β : Type} {L : Nat → σ → Int → Option β} {n : Nat} (R : Nat → σ → β) (I : Nat → σ → Prop)
    (hstep : ∀ (i : Nat) s, i < n → I i s → Ev (fun k => L k s i) (R i s) ∨ ∃ s', I (i + 1) s' ∧ R i s = R (i + 1) s' ∧ ∀ r, Ev (fun k => L k s' ((i + 1 : Nat) : Int)) r → Ev (fun k => L k s i) r)
    (hend : ∀ s, I n s → Ev (fun k => L k s n) (R n s)) : ∀ (d i : Nat) (s : σ), i + d = n → I i s → Ev (fun k => L k s i) (R i s) := by
  intro d
  induction d with
  | zero =>
    intro i s hi hI
    have : i = n := by omega
    subst this
    exact hend s hI
  | succ d ih =>
    intro i s hi hI
    rcases hstep i s (by omega) hI with h | ⟨s', h1, h2, h3⟩
    · exact h
    · rw [h2]
      exact h3 _ (ih (i + 1) s' (by omega) h1)
/-- A loop that builds by appending. -/
theorem Ev.apploop {β γ : Type} {L : Nat → List γ → Int → Option β} {n : Nat} (g : Nat → List γ) (fin : List γ → β) (a0 : List γ)
    (hstep : ∀ (i : Nat) x r, i < n → x = a0 ++ (List.range i).flatMap g → Ev (fun k => L k (x ++ g i) ((i + 1 : Nat) : Int)) r → Ev (fun k => L k x i) r)
    (hend : ∀ x, x = a0 ++ (List.range n).flatMap g → Ev (fun k => L k x n) (fin x)) : Ev (fun k => L k a0 0) (fin (a0 ++ (List.range n).flatMap g)) := by
  have key := Ev.loopR (L := L) (n := n) (fun _ _ => fin (a0 ++ (List.range n).flatMap g)) (fun i x => x = a0 ++ (List.range i).flatMap g) (by
    intro i x hi hx
    right
    refine ⟨x ++ g i, by rw [hx, List.range_succ, List.flatMap_append]; simp, rfl, fun r hr => hstep i x r hi hx hr⟩) (by
    intro x hx
    have := hend x hx
    rw [hx] at this ⊢
    exact this)
  exact key n 0 a0 (by omega) (by simp)
/-- A loop that writes every element of a row. -/
theorem Ev.setloop' {β γ : Type} {L : Nat → List γ → Int → Option β} {n : Nat} (g : Nat → γ) (x0 : List γ) (h0 : x0.length = n) (fin : List γ → β)
    (hstep : ∀ (i : Nat) x r, i < n → x.length = n → Ev (fun k => L k (x.set i (g i)) ((i + 1 : Nat) : Int)) r → Ev (fun k => L k x i) r)
    (hend : ∀ x, x.length = n → Ev (fun k => L k x n) (fin x)) : Ev (fun k => L k x0 0) (fin ((List.range n).map g)) := by
  have key := Ev.loopR (L := L) (n := n) (fun _ _ => fin ((List.range n).map g)) (fun i x => x.length = n ∧ ∀ j, j < i → x[j]? = some (g j)) (by
    intro i x hi hx
    right
    refine ⟨x.set i (g i), ⟨by rw [List.length_set]; exact hx.1, fun j hj => ?_⟩, rfl, fun r hr => hstep i x r hi hx.1 hr⟩
    by_cases hji : j = i
    · subst hji
      rw [List.getElem?_set_self (by omega)]
    · rw [List.getElem?_set_ne (by omega)]
      exact hx.2 j (by omega)) (by
    intro x hx
    have hxe : x = (List.range n).map g := by
      apply List.ext_getElem?
      intro j
      by_cases hj : j < n
      · rw [hx.2 j hj]; simp [hj]
      · rw [List.getElem?_eq_none (by omega), List.getElem?_eq_none (by simp; omega)]
    rw [← hxe]
    exact hend x hx.1)
  exact key n 0 _ (by omega) ⟨h0, fun j hj => by omega⟩
/-- A loop that fills what was made. -/
theorem Ev.setloop {β γ : Type} {L : Nat → List γ → Int → Option β} {n : Nat} (g : Nat → γ) (z : γ) (fin : List γ → β)
    (hstep : ∀ (i : Nat) x r, i < n → x.length = n → Ev (fun k => L k (x.set i (g i)) ((i + 1 : Nat) : Int)) r → Ev (fun k => L k x i) r)
    (hend : ∀ x, x.length = n → Ev (fun k => L k x n) (fin x)) : Ev (fun k => L k (List.replicate n z) 0) (fin ((List.range n).map g)) :=
  Ev.setloop' g _ (by simp) fin hstep hend
/-- A loop that asks something of each index. -/
theorem Ev.allloop {β : Type} {L : Nat → Int → Option β} {n : Nat} (p : Nat → Bool) (c fin : β)
    (hstep : ∀ (i : Nat) r, i < n → p i = true → Ev (fun k => L k ((i + 1 : Nat) : Int)) r → Ev (fun k => L k i) r)
    (hno : ∀ (i : Nat), i < n → p i = false → Ev (fun k => L k i) c)
    (hend : Ev (fun k => L k n) fin) : Ev (fun k => L k 0) (if (List.range n).all p then fin else c) := by
  have key := Ev.loopR (σ := Unit) (L := fun k _ i => L k i) (n := n) (fun i _ => if (List.range' i (n - i)).all p then fin else c) (fun _ _ => True) (by
    intro i _ hi _
    have e : List.range' i (n - i) = i :: List.range' (i + 1) (n - (i + 1)) := by
      have : n - i = (n - (i + 1)) + 1 := by omega
      rw [this, List.range'_succ]
    cases hp : p i with
    | true => right; exact ⟨(), trivial, by rw [e, List.all_cons, hp, Bool.true_and], fun r hr => hstep i r hi hp hr⟩
    | false => left; rw [e, List.all_cons, hp, Bool.false_and]; exact hno i hi hp) (by
    intro _ _
    simpa using hend)
  have := key n 0 () (by omega) trivial
  rw [List.range_eq_range']
  simpa using this
theorem range_map_getD {α β : Type} (l : List α) (d : α) (h : α → β) : (List.range l.length).map (fun i => h (l.getD i d)) = l.map h := by
  apply List.ext_getElem
  · simp
  · intro i h1 h2
    simp at h1 h2
    simp [List.getD_eq_getElem?_getD, List.getElem?_eq_getElem h2]
theorem range_flatMap_getD {α β : Type} (l : List α) (d : α) (h : α → List β) : (List.range l.length).flatMap (fun i => h (l.getD i d)) = l.flatMap h := by
  have := congrArg List.flatten (range_map_getD l d h)
  rw [List.flatMap_def, List.flatMap_def]; exact this
theorem range_all_getD {α : Type} (l : List α) (d : α) (h : α → Bool) : (List.range l.length).all (fun i => h (l.getD i d)) = l.all h := by
  have := congrArg (fun l => l.all id) (range_map_getD l d h)
  simpa [List.all_map] using this
theorem flatMap_single {α β : Type} (l : List α) (g : α → β) : l.flatMap (fun x => [g x]) = l.map g := by
  induction l with
  | nil => rfl
  | cons a l ih => simp [ih]
/-- A loop that looks for the first index. -/
def findR {β : Type} (p : Nat → Bool) (c : Nat → β) (fin : β) : Nat → Nat → β
  | 0, _ => fin
  | d + 1, i => if p i then c i else findR p c fin d (i + 1)
theorem Ev.findloop {β : Type} {L : Nat → Int → Option β} {n : Nat} (p : Nat → Bool) (c : Nat → β) (fin : β)
    (hstep : ∀ (i : Nat) r, i < n → p i = false → Ev (fun k => L k ((i + 1 : Nat) : Int)) r → Ev (fun k => L k i) r)
    (hhit : ∀ (i : Nat), i < n → p i = true → Ev (fun k => L k i) (c i))
    (hend : Ev (fun k => L k n) fin) : Ev (fun k => L k 0) (findR p c fin n 0) := by
  have key := Ev.loopR (σ := Unit) (L := fun k _ i => L k i) (n := n) (fun i _ => findR p c fin (n - i) i) (fun _ _ => True) (by
    intro i _ hi _
    have e : findR p c fin (n - i) i = if p i then c i else findR p c fin (n - (i + 1)) (i + 1) := by
      have : n - i = (n - (i + 1)) + 1 := by omega
      rw [this, findR]
    cases hp : p i with
    | false => right; exact ⟨(), trivial, by rw [e, hp]; rfl, fun r hr => hstep i r hi hp hr⟩
    | true => left; rw [e, hp]; exact hhit i hi hp) (by
    intro _ _
    simpa [findR] using hend)
  have := key n 0 () (by omega) trivial
  simpa using this

/-! edges that are right -/
theorem spec_in_eq (a b c : Int) : spec_l01In.f a b c = some (decide (b ≤ a ∧ a ≤ c)) := by
  unfold spec_l01In.f
  by_cases h : a ≥ b
  · have h' : b ≤ a := h
    simp [h']
  · have h' : ¬ b ≤ a := h
    simp [h']
theorem impl_in_eq (a b c : Int) : impl_in.f a b c = some (decide (b ≤ a ∧ a ≤ c)) := by
  unfold impl_in.f
  by_cases h : a ≥ b
  · have h' : b ≤ a := h
    simp [h']
  · have h' : ¬ b ≤ a := h
    simp [h']
def edgeOk (n a b : Int) : Bool := decide ((1 ≤ n ∧ n ≤ 12) ∧ (0 ≤ a ∧ a ≤ n - 1) ∧ (0 ≤ b ∧ b ≤ n - 1) ∧ a < b)
theorem spec_EdgeOk_eq (n a b : Int) : spec_EdgeOk.f n a b = some (edgeOk n a b) := by
  unfold spec_EdgeOk.f edgeOk
  simp only [spec_in_eq, Option.bind_some, decide_eq_true_eq]
  by_cases h1 : 1 ≤ n ∧ n ≤ 12
  · have e : wrap64 (n - 1) = n - 1 := by unfold wrap64; omega
    rw [if_pos h1, e]
    by_cases h2 : 0 ≤ a ∧ a ≤ n - 1
    · rw [if_pos h2]
      by_cases h3 : 0 ≤ b ∧ b ≤ n - 1
      · rw [if_pos h3]; simp [h1, h2, h3]
      · rw [if_neg h3, decide_eq_false (fun h => h3 h.2.2.1)]
    · rw [if_neg h2, decide_eq_false (fun h => h2 h.2.1)]
  · rw [if_neg h1, decide_eq_false (fun h => h1 h.1)]
theorem impl_EdgeOk_eq (n a b : Int) : impl_EdgeOk.f n a b = some (edgeOk n a b) := by
  unfold impl_EdgeOk.f edgeOk
  simp only [impl_in_eq, Option.bind_some, decide_eq_true_eq]
  by_cases h1 : 1 ≤ n ∧ n ≤ 12
  · have e : wrap64 (n - 1) = n - 1 := by unfold wrap64; omega
    rw [if_pos h1, e]
    by_cases h2 : 0 ≤ a ∧ a ≤ n - 1
    · rw [if_pos h2]
      by_cases h3 : 0 ≤ b ∧ b ≤ n - 1
      · rw [if_pos h3]; simp [h1, h2, h3]
      · rw [if_neg h3, decide_eq_false (fun h => h3 h.2.2.1)]
    · rw [if_neg h2, decide_eq_false (fun h => h2 h.2.1)]
  · rw [if_neg h1, decide_eq_false (fun h => h1 h.1)]

/-! the law's own functions over graphs -/
def toE (e : S76) : S79 := ⟨e.f0, e.f1⟩
theorem laws_szEdgeS_eq (l : List S76) (a : Int) (hl : l.length ≤ 9223372036854775807) (h0 : 0 ≤ a) (h1 : a ≤ 1048576) : laws_szEdgeS.f l a = some (if a - l.length < 0 then -1 else a - l.length) := by
  unfold laws_szEdgeS.f
  have : wrap64 (a - (l.length : Int)) = a - l.length := by unfold wrap64; omega
  rw [this]
  split <;> rfl
theorem laws_toEdgeS_ev (l : List S76) (hl : l.length ≤ 1048576) : Ev (fun k => laws_toEdgeS.f k l) (l.map toE) := by
  simp only [laws_toEdgeS.f, if_pos (show (0 : Int) ≤ (l.length : Int) by omega), Int.toNat_natCast, if_pos (show l.length ≤ 17592186044416 by omega)]
  have := Ev.setloop (L := fun k x i => laws_toEdgeS.l0 k l x i) (n := l.length) (fun i => toE (l.getD i z76)) z79 id (by
    intro i x r hi hx h
    refine Ev.step (fun k => by rw [laws_toEdgeS.l0, if_pos (by omega), if_pos (by omega), laws_toEdge.f, Option.bind_some, if_pos (by omega), wrap_succ hi (by omega)]) ?_
    exact h) (by
    intro x hx
    refine Ev.step (fun k => by rw [laws_toEdgeS.l0, if_neg (by omega)]) ?_
    exact Ev.now _)
  rw [range_map_getD] at this
  exact this
theorem laws_eqEdge_refl (a b : Int) : laws_eqEdge.f a b a b = some true := by simp [laws_eqEdge.f]
theorem laws_eqEdgeS_refl (l : List S79) (hl : l.length ≤ 4611686018427387904) : Ev (fun k => laws_eqEdgeS.f k l l) true := by
  simp only [laws_eqEdgeS.f, if_true]
  have := Ev.allloop (L := fun k i => laws_eqEdgeS.l0 k l l i) (n := l.length) (fun _ => true) false true (by
    intro i r hi _ h
    refine Ev.step (fun k => by rw [laws_eqEdgeS.l0, if_pos (by omega), if_pos (by omega), if_pos (by omega), laws_eqEdge_refl, Option.bind_some, if_pos rfl, wrap_succ hi hl]) ?_
    exact h) (by intro i _ h; cases h) (by
    refine Ev.step (fun k => by rw [laws_eqEdgeS.l0, if_neg (by omega)]) ?_
    exact Ev.now _)
  simpa using this

/-! the law's own functions over graphs -/
theorem laws_szGraph_eq (n : Int) (l : List S76) (a : Int) (hl : l.length ≤ 9223372036854775807) (h0 : 0 ≤ a) (h1 : a ≤ 1048576) : laws_szGraph.f n l a = some (if a - l.length < 0 then -1 else a - l.length) := by
  unfold laws_szGraph.f
  rw [laws_szEdgeS_eq l a hl h0 h1]
  by_cases h : a - l.length < 0
  · simp [h]
  · simp [h]
theorem laws_toGraph_ev (n : Int) (l : List S76) (hl : l.length ≤ 1048576) : Ev (fun k => laws_toGraph.f k n l) (n, l.map toE) := by
  simp only [laws_toGraph.f]
  exact Ev.bind (laws_toEdgeS_ev l hl) (Ev.now _)
theorem laws_eqGraph_refl (n : Int) (l : List S79) (hl : l.length ≤ 4611686018427387904) : Ev (fun k => laws_eqGraph.f k n l n l) true := by
  simp only [laws_eqGraph.f, if_true]
  refine Ev.bind (laws_eqEdgeS_refl l hl) ?_
  exact Ev.now _

/-! graphs that are right -/
def lessE (a b : S79) : Bool := decide (a.f0 < b.f0 ∨ a.f0 = b.f0 ∧ a.f1 < b.f1)
theorem spec_l05Less_eq (a b c d : Int) : spec_l05Less.f a b c d = some (decide (a < c ∨ a = c ∧ b < d)) := by
  unfold spec_l05Less.f
  by_cases h : a < c
  · simp [h]
  · by_cases h2 : a = c
    · subst h2; simp
    · simp [h, h2]
theorem impl_ahead_eq (a b c d : Int) : impl_ahead.f a b c d = some (decide (a < c ∨ a = c ∧ b < d)) := by
  unfold impl_ahead.f
  by_cases h : a < c
  · simp [h]
  · by_cases h2 : a = c
    · subst h2; simp
    · simp [h, h2]
def edgeAt (n : Int) (l : List S79) (i : Nat) : Bool := edgeOk n (l.getD i z79).f0 (l.getD i z79).f1 && (decide (i = 0) || lessE (l.getD (i - 1) z79) (l.getD i z79))
def edgesOk (n : Int) (l : List S79) : Bool := if (List.range l.length).all (edgeAt n l) then decide ((l.length : Int) ≤ 66) else false
theorem spec_l05Edges_ev (n : Int) (l : List S79) (hl : l.length ≤ 4611686018427387904) : Ev (fun k => spec_l05Edges.f k n l) (edgesOk n l) := by
  simp only [spec_l05Edges.f]
  refine Ev.allloop (L := fun k i => spec_l05Edges.l0 k n l i) (n := l.length) (edgeAt n l) false (decide ((l.length : Int) ≤ 66)) ?_ ?_ ?_
  · intro i r hi hp h
    simp only [edgeAt, Bool.and_eq_true, Bool.or_eq_true, decide_eq_true_eq] at hp
    refine Ev.step (fun k => by rw [spec_l05Edges.l0, if_pos (by omega), if_pos (by omega), spec_EdgeOk_eq, Option.bind_some]) ?_
    simp only [rd_T79, Int.toNat_natCast, if_pos hp.1, wrap_succ hi hl]
    by_cases hz : (i : Int) > 0
    · have e : wrap64 ((i : Int) - 1) = ((i - 1 : Nat) : Int) := by unfold wrap64; omega
      have hq : lessE (l.getD (i - 1) z79) (l.getD i z79) = true := by
        rcases hp.2 with h0 | h0
        · omega
        · exact h0
      unfold lessE at hq
      simp only [if_pos hz, e, if_pos (show (0 : Int) ≤ ((i - 1 : Nat) : Int) by omega), if_pos (show ((i - 1 : Nat) : Int) < (l.length : Int) by omega), Int.toNat_natCast, spec_l05Less_eq, Option.bind_some, if_pos hq]
      exact h
    · simp only [if_neg hz]
      exact h
  · intro i hi hp
    simp only [edgeAt, Bool.and_eq_false_iff, Bool.or_eq_false_iff] at hp
    refine Ev.step (fun k => by rw [spec_l05Edges.l0, if_pos (by omega), if_pos (by omega), spec_EdgeOk_eq, Option.bind_some]) ?_
    simp only [rd_T79, Int.toNat_natCast]
    by_cases he : edgeOk n (l.getD i z79).f0 (l.getD i z79).f1 = true
    · rcases hp with hp | hp
      · rw [he] at hp; cases hp
      · have hz : (i : Int) > 0 := by have := of_decide_eq_false hp.1; omega
        have e : wrap64 ((i : Int) - 1) = ((i - 1 : Nat) : Int) := by unfold wrap64; omega
        have hq := hp.2
        unfold lessE at hq
        simp only [if_pos he, if_pos hz, e, if_pos (show (0 : Int) ≤ ((i - 1 : Nat) : Int) by omega), if_pos (show ((i - 1 : Nat) : Int) < (l.length : Int) by omega), Int.toNat_natCast, spec_l05Less_eq, Option.bind_some, hq]
        exact Ev.now _
    · have he' := Bool.eq_false_iff.2 he
      simp only [he', Bool.false_eq_true, if_false]
      exact Ev.now _
  · refine Ev.step (fun k => by rw [spec_l05Edges.l0, if_neg (by omega)]) ?_
    exact Ev.now _
theorem impl_edgesOk_ev (n : Int) (l : List S79) (hl : l.length ≤ 4611686018427387904) : Ev (fun k => impl_edgesOk.f k n l) (edgesOk n l) := by
  simp only [impl_edgesOk.f]
  refine Ev.allloop (L := fun k i => impl_edgesOk.l0 k n l l l.length i) (n := l.length) (edgeAt n l) false (decide ((l.length : Int) ≤ 66)) ?_ ?_ ?_
  · intro i r hi hp h
    simp only [edgeAt, Bool.and_eq_true, Bool.or_eq_true, decide_eq_true_eq] at hp
    refine Ev.step (fun k => by rw [impl_edgesOk.l0, if_pos (by omega), if_pos (by omega), if_pos (by omega), impl_EdgeOk_eq, Option.bind_some]) ?_
    simp only [rd_T79, Int.toNat_natCast, if_pos hp.1, wrap_succ hi hl]
    by_cases hz : (i : Int) > 0
    · have e : wrap64 ((i : Int) - 1) = ((i - 1 : Nat) : Int) := by unfold wrap64; omega
      have hq : lessE (l.getD (i - 1) z79) (l.getD i z79) = true := by
        rcases hp.2 with h0 | h0
        · omega
        · exact h0
      unfold lessE at hq
      simp only [if_pos hz, e, if_pos (show (0 : Int) ≤ ((i - 1 : Nat) : Int) by omega), if_pos (show ((i - 1 : Nat) : Int) < (l.length : Int) by omega), Int.toNat_natCast, impl_ahead_eq, Option.bind_some, if_pos hq]
      exact h
    · simp only [if_neg hz]
      exact h
  · intro i hi hp
    simp only [edgeAt, Bool.and_eq_false_iff, Bool.or_eq_false_iff] at hp
    refine Ev.step (fun k => by rw [impl_edgesOk.l0, if_pos (by omega), if_pos (by omega), if_pos (by omega), impl_EdgeOk_eq, Option.bind_some]) ?_
    simp only [rd_T79, Int.toNat_natCast]
    by_cases he : edgeOk n (l.getD i z79).f0 (l.getD i z79).f1 = true
    · rcases hp with hp | hp
      · rw [he] at hp; cases hp
      · have hz : (i : Int) > 0 := by have := of_decide_eq_false hp.1; omega
        have e : wrap64 ((i : Int) - 1) = ((i - 1 : Nat) : Int) := by unfold wrap64; omega
        have hq := hp.2
        unfold lessE at hq
        simp only [if_pos he, if_pos hz, e, if_pos (show (0 : Int) ≤ ((i - 1 : Nat) : Int) by omega), if_pos (show ((i - 1 : Nat) : Int) < (l.length : Int) by omega), Int.toNat_natCast, impl_ahead_eq, Option.bind_some, hq]
        exact Ev.now _
    · have he' := Bool.eq_false_iff.2 he
      simp only [he', Bool.false_eq_true, if_false]
      exact Ev.now _
  · refine Ev.step (fun k => by rw [impl_edgesOk.l0, if_neg (by omega)]) ?_
    exact Ev.now _

def graphOk (n : Int) (l : List S79) : Bool := decide (1 ≤ n ∧ n ≤ 12) && edgesOk n l
theorem spec_GraphOk_ev (n : Int) (l : List S79) (hl : l.length ≤ 4611686018427387904) : Ev (fun k => spec_GraphOk.f k n l) (graphOk n l) := by
  simp only [spec_GraphOk.f, spec_in_eq, Option.bind_some, graphOk]
  by_cases h : 1 ≤ n ∧ n ≤ 12
  · simp only [decide_eq_true h, if_true, Bool.true_and]
    exact Ev.bind (spec_l05Edges_ev n l hl) (Ev.now _)
  · simp only [decide_eq_false h, Bool.false_eq_true, if_false, Bool.false_and]
    exact Ev.now _
theorem impl_GraphOk_ev (n : Int) (l : List S79) (hl : l.length ≤ 4611686018427387904) : Ev (fun k => impl_GraphOk.f k n l) (graphOk n l) := by
  simp only [impl_GraphOk.f, impl_in_eq, Option.bind_some, graphOk]
  by_cases h : 1 ≤ n ∧ n ≤ 12
  · simp only [decide_eq_true h, if_true, Bool.true_and]
    exact Ev.bind (impl_edgesOk_ev n l hl) (Ev.now _)
  · simp only [decide_eq_false h, Bool.false_eq_true, if_false, Bool.false_and]
    exact Ev.now _

/-! what hangs together by edges: 'lab E x' is the least that hangs together with x -/
def uni (f : Int → Int) (e : Int × Int) : Int → Int := fun x => if f x = max (f e.1) (f e.2) then min (f e.1) (f e.2) else f x
def labF (f : Int → Int) (E : List (Int × Int)) : Int → Int := E.foldl uni f
def lab (E : List (Int × Int)) : Int → Int := labF id E
def CE (g : Int → Int) (E : List (Int × Int)) : Prop := ∀ e ∈ E, g e.1 = g e.2
theorem uni_eq (f : Int → Int) (e : Int × Int) : uni f e e.1 = uni f e e.2 := by
  simp only [uni]; split <;> split <;> omega
theorem uni_keep (f : Int → Int) (e : Int × Int) {x y : Int} (h : f x = f y) : uni f e x = uni f e y := by simp only [uni, h]
theorem uni_le {f : Int → Int} (e : Int × Int) (x : Int) : uni f e x ≤ f x := by
  simp only [uni]; split <;> omega
theorem uni_g {g f : Int → Int} {e : Int × Int} (he : g e.1 = g e.2) (h : ∀ x, g (f x) = g x) (x : Int) : g (uni f e x) = g x := by
  simp only [uni]
  split
  · rename_i hx
    have h1 := h e.1
    have h2 := h e.2
    have h3 := h x
    rcases Int.le_total (f e.1) (f e.2) with hl | hl
    · rw [Int.min_eq_left hl]; rw [Int.max_eq_right hl] at hx; rw [hx] at h3; omega
    · rw [Int.min_eq_right hl]; rw [Int.max_eq_left hl] at hx; rw [hx] at h3; omega
  · exact h x
theorem labF_keep : ∀ (E : List (Int × Int)) (f : Int → Int) {x y : Int}, f x = f y → labF f E x = labF f E y
  | [], _, _, _, h => h
  | e :: E, f, _, _, h => labF_keep E (uni f e) (uni_keep f e h)
theorem labF_ce : ∀ (E : List (Int × Int)) (f : Int → Int), CE (labF f E) E
  | [], _ => fun e h => by cases h
  | e :: E, f => by
    intro d hd
    rcases List.mem_cons.mp hd with rfl | hd
    · exact labF_keep E (uni f d) (uni_eq f d)
    · exact labF_ce E (uni f e) d hd
theorem labF_le : ∀ (E : List (Int × Int)) (f : Int → Int) (x : Int), labF f E x ≤ f x
  | [], _, _ => Int.le_refl _
  | e :: E, f, x => Int.le_trans (labF_le E (uni f e) x) (uni_le e x)
theorem labF_g {g : Int → Int} : ∀ (E : List (Int × Int)) (f : Int → Int), CE g E → (∀ x, g (f x) = g x) → ∀ x, g (labF f E x) = g x
  | [], _, _, h => h
  | e :: E, f, hc, h => labF_g E (uni f e) (fun d hd => hc d (List.mem_cons_of_mem _ hd)) (uni_g (hc e List.mem_cons_self) h)
theorem labF_nonneg : ∀ (E : List (Int × Int)) (f : Int → Int), (∀ e ∈ E, 0 ≤ e.1 ∧ 0 ≤ e.2) → (∀ x, 0 ≤ x → 0 ≤ f x) → ∀ x, 0 ≤ x → 0 ≤ labF f E x
  | [], _, _, h => h
  | e :: E, f, hE, h => by
    refine labF_nonneg E (uni f e) (fun d hd => hE d (List.mem_cons_of_mem _ hd)) (fun x hx => ?_)
    have he := hE e List.mem_cons_self
    have h1 := h _ he.1
    have h2 := h _ he.2
    have h3 := h x hx
    simp only [uni]; split <;> omega
theorem labF_append (f : Int → Int) (E1 E2 : List (Int × Int)) : labF f (E1 ++ E2) = labF (labF f E1) E2 := by
  simp [labF, List.foldl_append]
theorem lab_ce (E : List (Int × Int)) : CE (lab E) E := labF_ce E id
theorem lab_le (E : List (Int × Int)) (x : Int) : lab E x ≤ x := labF_le E id x
theorem lab_g {g : Int → Int} {E : List (Int × Int)} (h : CE g E) (x : Int) : g (lab E x) = g x := labF_g E id h (fun _ => rfl) x
theorem lab_idem (E : List (Int × Int)) (x : Int) : lab E (lab E x) = lab E x := lab_g (lab_ce E) x
theorem lab_nonneg {E : List (Int × Int)} (h : ∀ e ∈ E, 0 ≤ e.1 ∧ 0 ≤ e.2) {x : Int} (hx : 0 ≤ x) : 0 ≤ lab E x := labF_nonneg E id h (fun _ h => h) x hx
theorem lab_same {g : Int → Int} {E : List (Int × Int)} (h : CE g E) {x y : Int} (hxy : lab E x = lab E y) : g x = g y := by
  rw [← lab_g h x, ← lab_g h y, hxy]
theorem lab_unique {f : Int → Int} {E : List (Int × Int)} (h1 : ∀ x, lab E (f x) = lab E x) (h2 : ∀ x, f x ≤ x) (h3 : CE f E) (x : Int) : f x = lab E x := by
  have a := lab_g h3 x
  have b := h1 (lab E x)
  rw [lab_idem] at b
  have c := lab_le E (f (lab E x))
  have d := h2 (lab E x)
  omega
/-- More edges hold together no less. -/
theorem lab_mono {E D : List (Int × Int)} (h : ∀ e ∈ E, e ∈ D) {x y : Int} (hxy : lab E x = lab E y) : lab D x = lab D y :=
  lab_same (g := lab D) (fun e he => lab_ce D e (h e he)) hxy

/-! the reference's labels: rounds over the edges -/
def relax (f : Int → Int) (e : Int × Int) : Int → Int := fun x => if f e.1 < f e.2 ∧ x = e.2 then f e.1 else (if f e.2 < f e.1 ∧ x = e.1 then f e.2 else f x)
theorem relax_apply (f : Int → Int) (a b x : Int) : relax f (a, b) x = if f a < f b ∧ x = b then f a else (if f b < f a ∧ x = a then f b else f x) := rfl
def rnd (E : List (Int × Int)) (f : Int → Int) : Int → Int := E.foldl relax f
def rnds (E : List (Int × Int)) : Nat → (Int → Int) → Int → Int
  | 0, f => f
  | k + 1, f => rnds E k (rnd E f)
def JL (E : List (Int × Int)) (f : Int → Int) : Prop := (∀ x, f x ≤ x) ∧ ∀ x, lab E (f x) = lab E x
theorem relax_le (f : Int → Int) (e : Int × Int) (x : Int) : relax f e x ≤ f x := by
  simp only [relax]; split
  · rename_i h; rw [h.2]; omega
  · split
    · rename_i h; rw [h.2]; omega
    · omega
theorem relax_J {E : List (Int × Int)} {f : Int → Int} {e : Int × Int} (he : e ∈ E) (h : JL E f) : JL E (relax f e) := by
  refine ⟨fun x => Int.le_trans (relax_le f e x) (h.1 x), fun x => ?_⟩
  have hc := lab_ce E e he
  have h1 := h.2 e.1
  have h2 := h.2 e.2
  simp only [relax]; split
  · rename_i hh; rw [hh.2]; omega
  · split
    · rename_i hh; rw [hh.2]; omega
    · exact h.2 x
theorem J_ge {E : List (Int × Int)} {f : Int → Int} (h : JL E f) (x : Int) : lab E x ≤ f x := by
  have := h.2 x
  have := lab_le E (f x)
  omega
theorem relax_good {E : List (Int × Int)} {f : Int → Int} {e : Int × Int} (he : e ∈ E) (h : JL E f) {x : Int} (hx : f x = lab E x) : relax f e x = lab E x := by
  have := J_ge (relax_J he h) x
  have := relax_le f e x
  omega
theorem fold_J {E : List (Int × Int)} : ∀ (D : List (Int × Int)) (f : Int → Int), (∀ e ∈ D, e ∈ E) → JL E f → JL E (D.foldl relax f)
  | [], _, _, h => h
  | e :: D, f, hs, h => fold_J D (relax f e) (fun d hd => hs d (List.mem_cons_of_mem _ hd)) (relax_J (hs e List.mem_cons_self) h)
theorem fold_good {E : List (Int × Int)} : ∀ (D : List (Int × Int)) (f : Int → Int), (∀ e ∈ D, e ∈ E) → JL E f → ∀ {x}, f x = lab E x → (D.foldl relax f) x = lab E x
  | [], _, _, _, _, hx => hx
  | e :: D, f, hs, h, _, hx => fold_good D (relax f e) (fun d hd => hs d (List.mem_cons_of_mem _ hd)) (relax_J (hs e List.mem_cons_self) h) (relax_good (hs e List.mem_cons_self) h hx)
theorem fold_reach {E : List (Int × Int)} {a : Int × Int} : ∀ (D : List (Int × Int)) (f : Int → Int), (∀ e ∈ D, e ∈ E) → JL E f → a ∈ D →
    (f a.1 = lab E a.1 → (D.foldl relax f) a.2 = lab E a.2) ∧ (f a.2 = lab E a.2 → (D.foldl relax f) a.1 = lab E a.1)
  | [], _, _, _, h => by cases h
  | e :: D, f, hs, h, ha => by
    have he := hs e List.mem_cons_self
    have hs' : ∀ d ∈ D, d ∈ E := fun d hd => hs d (List.mem_cons_of_mem _ hd)
    have hJ := relax_J he h
    rcases List.mem_cons.mp ha with rfl | ha
    · have hc := lab_ce E a he
      have g1 := J_ge h a.1
      have g2 := J_ge h a.2
      refine ⟨fun hg => fold_good D (relax f a) hs' hJ ?_, fun hg => fold_good D (relax f a) hs' hJ ?_⟩
      · simp only [relax]
        split
        · omega
        · rename_i hn
          have : ¬ f a.1 < f a.2 := fun hh => hn ⟨hh, by trivial⟩
          split
          · rename_i hh; omega
          · omega
      · simp only [relax]
        split
        · rename_i hh; omega
        · split
          · omega
          · rename_i hn
            have : ¬ f a.2 < f a.1 := fun hh => hn ⟨hh, by trivial⟩
            omega
    · have ih := fold_reach D (relax f e) hs' hJ ha
      exact ⟨fun hg => ih.1 (relax_good he h hg), fun hg => ih.2 (relax_good he h hg)⟩
theorem countP_lt {α : Type} {p q : α → Bool} : ∀ {l : List α}, (∀ x ∈ l, p x = true → q x = true) → (∃ x ∈ l, p x = false ∧ q x = true) → l.countP p + 1 ≤ l.countP q
  | [], _, h => by obtain ⟨x, hx, _⟩ := h; cases hx
  | a :: l, hm, h => by
    have hm' : ∀ x ∈ l, p x = true → q x = true := fun x hx => hm x (List.mem_cons_of_mem _ hx)
    have hle : l.countP p ≤ l.countP q := List.countP_mono_left hm'
    rw [List.countP_cons, List.countP_cons]
    obtain ⟨x, hx, h1, h2⟩ := h
    rcases List.mem_cons.mp hx with rfl | hx
    · simp [h1, h2]; omega
    · have := countP_lt hm' ⟨x, hx, h1, h2⟩
      have ha := hm a List.mem_cons_self
      cases hp : p a with
      | false => simp; omega
      | true => simp [ha hp]; omega
def goodB (E : List (Int × Int)) (f : Int → Int) (i : Nat) : Bool := decide (f i = lab E i)
theorem rnd_step {E : List (Int × Int)} {n : Nat} (hE : ∀ e ∈ E, (0 ≤ e.1 ∧ e.1 < n) ∧ (0 ≤ e.2 ∧ e.2 < n)) {f : Int → Int} (h : JL E f) :
    (∀ x : Int, 0 ≤ x → x < n → f x = lab E x) ∨ (List.range n).countP (goodB E f) + 1 ≤ (List.range n).countP (goodB E (rnd E f)) := by
  by_cases hall : ∀ x : Int, 0 ≤ x → x < n → f x = lab E x
  · exact Or.inl hall
  · right
    have hex : ∃ e ∈ E, (f e.1 = lab E e.1 ∧ f e.2 ≠ lab E e.2) ∨ (f e.2 = lab E e.2 ∧ f e.1 ≠ lab E e.1) := by
      apply Classical.byContradiction
      intro hno
      apply hall
      intro x _ _
      have hg : CE (fun x => if f x = lab E x then 0 else 1) E := by
        intro e he
        by_cases h1 : f e.1 = lab E e.1
        · by_cases h2 : f e.2 = lab E e.2
          · simp [h1, h2]
          · exact absurd ⟨e, he, Or.inl ⟨h1, h2⟩⟩ hno
        · by_cases h2 : f e.2 = lab E e.2
          · exact absurd ⟨e, he, Or.inr ⟨h2, h1⟩⟩ hno
          · simp [h1, h2]
      have := lab_g hg x
      have hm : f (lab E x) = lab E (lab E x) := by
        have a := h.1 (lab E x)
        have b := J_ge h (lab E x)
        rw [lab_idem] at b ⊢
        omega
      simp only [hm, if_true] at this
      by_cases hx : f x = lab E x
      · exact hx
      · rw [if_neg hx] at this; omega
    obtain ⟨e, he, hc⟩ := hex
    have hb := hE e he
    have hr := fold_reach (a := e) E f (fun _ h => h) h he
    refine countP_lt ?_ ?_
    · intro i hi hp
      simp only [goodB, decide_eq_true_eq] at hp ⊢
      exact fold_good E f (fun _ h => h) h hp
    · rcases hc with ⟨h1, h2⟩ | ⟨h1, h2⟩
      · refine ⟨e.2.toNat, by rw [List.mem_range]; omega, ?_, ?_⟩
        · simp only [goodB, decide_eq_false_iff_not, Int.toNat_of_nonneg hb.2.1]; exact h2
        · simp only [goodB, decide_eq_true_eq, Int.toNat_of_nonneg hb.2.1]; exact hr.1 h1
      · refine ⟨e.1.toNat, by rw [List.mem_range]; omega, ?_, ?_⟩
        · simp only [goodB, decide_eq_false_iff_not, Int.toNat_of_nonneg hb.1.1]; exact h2
        · simp only [goodB, decide_eq_true_eq, Int.toNat_of_nonneg hb.1.1]; exact hr.2 h1
theorem rnds_all {E : List (Int × Int)} {n : Nat} (hE : ∀ e ∈ E, (0 ≤ e.1 ∧ e.1 < n) ∧ (0 ≤ e.2 ∧ e.2 < n)) : ∀ (k : Nat) (f : Int → Int), JL E f → n ≤ (List.range n).countP (goodB E f) + k →
    ∀ x : Int, 0 ≤ x → x < n → rnds E k f x = lab E x
  | 0, f, h, hk => by
    intro x h0 h1
    have hle := List.countP_le_length (p := goodB E f) (l := List.range n)
    rw [List.length_range] at hle
    have := (List.countP_eq_length (p := goodB E f) (l := List.range n)).1 (by rw [List.length_range]; omega) x.toNat (by rw [List.mem_range]; omega)
    simp only [goodB, decide_eq_true_eq, Int.toNat_of_nonneg h0] at this
    exact this
  | k + 1, f, h, hk => by
    have hJ : JL E (rnd E f) := fold_J E f (fun _ h => h) h
    intro x h0 h1
    rcases rnd_step hE h with hall | hst
    · have hall' : ∀ x : Int, 0 ≤ x → x < n → rnd E f x = lab E x := fun y hy0 hy1 => fold_good E f (fun _ h => h) h (hall y hy0 hy1)
      refine rnds_all hE k (rnd E f) hJ ?_ x h0 h1
      have : (List.range n).countP (goodB E (rnd E f)) = (List.range n).length := by
        rw [List.countP_eq_length]
        intro i hi
        rw [List.mem_range] at hi
        simp only [goodB, decide_eq_true_eq]
        exact hall' i (by omega) (by omega)
      rw [this, List.length_range]
      omega
    · exact rnds_all hE k (rnd E f) hJ (by omega) x h0 h1
theorem rnds_lab {E : List (Int × Int)} {n : Nat} (hE : ∀ e ∈ E, (0 ≤ e.1 ∧ e.1 < n) ∧ (0 ≤ e.2 ∧ e.2 < n)) (x : Int) (h0 : 0 ≤ x) (h1 : x < n) : rnds E n id x = lab E x :=
  rnds_all hE n id ⟨fun _ => Int.le_refl _, fun _ => rfl⟩ (by omega) x h0 h1

/-! labels -/
def listF (n : Nat) (f : Int → Int) : List Int := (List.range n).map (fun (i : Nat) => f (i : Int))
theorem listF_len (n : Nat) (f : Int → Int) : (listF n f).length = n := by simp [listF]
theorem listF_rd {n : Nat} {f : Int → Int} {x : Int} (h0 : 0 ≤ x) (h1 : x < n) : rd (listF n f) x = f x := by
  have hx : x.toNat < n := by omega
  simp only [rd, listF, List.getD_eq_getElem?_getD, List.getElem?_map, List.getElem?_range hx, Option.map_some, Option.getD_some]
  congr 1; omega
theorem listF_get {n : Nat} {f : Int → Int} {j : Nat} (h : j < n) : (listF n f)[j]? = some (f j) := by
  simp [listF, List.getElem?_range h]
theorem listF_set {n : Nat} {f : Int → Int} {x v : Int} (h0 : 0 ≤ x) (h1 : x < n) : (listF n f).set x.toNat v = listF n (fun y => if y = x then v else f y) := by
  apply List.ext_getElem?
  intro j
  by_cases hj : j < n
  · rw [listF_get hj]
    by_cases hx : j = x.toNat
    · subst hx
      rw [List.getElem?_set_self (by rw [listF_len]; omega), if_pos (by omega)]
    · rw [List.getElem?_set_ne (by omega), listF_get hj, if_neg (by omega)]
  · rw [List.getElem?_eq_none (by rw [List.length_set, listF_len]; omega), List.getElem?_eq_none (by rw [listF_len]; omega)]
theorem listF_congr {n : Nat} {f g : Int → Int} (h : ∀ x : Int, 0 ≤ x → x < n → f x = g x) : listF n f = listF n g := by
  unfold listF
  apply List.map_congr_left
  intro i hi
  rw [List.mem_range] at hi
  exact h i (by omega) (by omega)
theorem listF_ext {n : Nat} {f : Int → Int} {l : List Int} (hl : l.length = n) (h : ∀ j : Nat, j < n → l[j]? = some (f j)) : l = listF n f := by
  apply List.ext_getElem?
  intro j
  by_cases hj : j < n
  · rw [h j hj, listF_get hj]
  · rw [List.getElem?_eq_none (by omega), List.getElem?_eq_none (by rw [listF_len]; omega)]
def ep (e : S79) : Int × Int := (e.f0, e.f1)
theorem edgesOk_mem {n : Int} {l : List S79} (h : edgesOk n l = true) : l.length ≤ 66 ∧ ∀ e ∈ l, 0 ≤ e.f0 ∧ e.f0 < e.f1 ∧ e.f1 < n := by
  unfold edgesOk at h
  split at h
  · rename_i ha
    have hl := of_decide_eq_true h
    refine ⟨by omega, fun e he => ?_⟩
    rw [List.all_eq_true] at ha
    obtain ⟨i, hi, rfl⟩ := List.mem_iff_getElem.1 he
    have := ha i (List.mem_range.2 hi)
    simp only [edgeAt, Bool.and_eq_true, List.getD_eq_getElem?_getD, List.getElem?_eq_getElem hi, Option.getD_some, edgeOk, decide_eq_true_eq] at this
    omega
  · cases h
theorem graphOk_mem {n : Int} {l : List S79} (h : graphOk n l = true) : (1 ≤ n ∧ n ≤ 12) ∧ l.length ≤ 66 ∧ ∀ e ∈ l, 0 ≤ e.f0 ∧ e.f0 < e.f1 ∧ e.f1 < n := by
  simp only [graphOk, Bool.and_eq_true, decide_eq_true_eq] at h
  exact ⟨h.1, edgesOk_mem h.2⟩
theorem ep_drop (l : List S79) (i : Nat) (hi : i < l.length) : (l.map ep).drop i = ep (l.getD i z79) :: (l.map ep).drop (i + 1) := by
  rw [List.drop_eq_getElem_cons (by simpa using hi)]
  simp [List.getD_eq_getElem?_getD, List.getElem?_eq_getElem hi]
theorem getD_mem {α : Type} {l : List α} {d : α} {i : Nat} (hi : i < l.length) : l.getD i d ∈ l := by
  simp [List.getD_eq_getElem?_getD, List.getElem?_eq_getElem hi]

theorem spec_l2_ev (n : Nat) (hn : n ≤ 12) (l : List S79) (hl : l.length ≤ 66) (hm : ∀ e ∈ l, 0 ≤ e.f0 ∧ e.f0 < e.f1 ∧ e.f1 < n) (t r : Int) (ro : List Int) : ∀ (d i : Nat) (f : Int → Int), i + d = l.length →
    Ev (fun k => spec_l05Labels.l1 k n l (listF n (((l.map ep).drop i).foldl relax f)) (wrap64 (t + 1))) ro → Ev (fun k => spec_l05Labels.l2 k n l (listF n f) t i) ro := by
  intro d
  induction d with
  | zero =>
    intro i f hi h
    rw [List.drop_of_length_le (by simp; omega)] at h
    refine Ev.step (fun k => by rw [spec_l05Labels.l2, if_neg (by omega)]) ?_
    exact h
  | succ d ih =>
    intro i f hi h
    have hil : i < l.length := by omega
    have he := hm _ (getD_mem (d := z79) hil)
    rw [ep_drop l i hil, List.foldl_cons] at h
    have h' := ih (i + 1) _ (by omega) h
    have hr1 := listF_rd (n := n) (f := f) he.1 (by omega)
    have hr2 := listF_rd (n := n) (f := f) (x := (l.getD i z79).f1) (by omega) (by omega)
    refine Ev.step (fun k => by rw [spec_l05Labels.l2, if_pos (by omega), if_pos (by omega)]) ?_
    simp only [rd_T79, Int.toNat_natCast, listF_len, wrap_succ hil (show l.length ≤ 4611686018427387904 by omega)]
    simp only [if_pos he.1, if_pos (show (l.getD i z79).f0 < (n : Int) by omega), if_pos (show (0 : Int) ≤ (l.getD i z79).f1 by omega), if_pos he.2.2, hr1, hr2, Option.bind_some]
    by_cases c1 : f (l.getD i z79).f0 < f (l.getD i z79).f1
    · have c2 : ¬ f (l.getD i z79).f1 < f (l.getD i z79).f0 := by omega
      simp only [if_pos c1, if_neg c2]
      rw [listF_set (by omega) he.2.2]
      have e : listF n (relax f (ep (l.getD i z79))) = listF n (fun y => if y = (l.getD i z79).f1 then f (l.getD i z79).f0 else f y) := by
        refine listF_congr (fun x _ _ => ?_)
        rw [show ep (l.getD i z79) = ((l.getD i z79).f0, (l.getD i z79).f1) from rfl, relax_apply]
        by_cases hx : x = (l.getD i z79).f1
        · rw [if_pos ⟨c1, hx⟩, if_pos hx]
        · rw [if_neg (fun h => hx h.2), if_neg (fun h => c2 h.1), if_neg hx]
      rw [← e]; exact h'
    · simp only [if_neg c1]
      by_cases c2 : f (l.getD i z79).f1 < f (l.getD i z79).f0
      · simp only [if_pos c2]
        rw [listF_set he.1 (by omega)]
        have e : listF n (relax f (ep (l.getD i z79))) = listF n (fun y => if y = (l.getD i z79).f0 then f (l.getD i z79).f1 else f y) := by
          refine listF_congr (fun x _ _ => ?_)
          rw [show ep (l.getD i z79) = ((l.getD i z79).f0, (l.getD i z79).f1) from rfl, relax_apply]
          rw [if_neg (fun h => c1 h.1)]
          by_cases hx : x = (l.getD i z79).f0
          · rw [if_pos ⟨c2, hx⟩, if_pos hx]
          · rw [if_neg (fun h => hx h.2), if_neg hx]
        rw [← e]; exact h'
      · simp only [if_neg c2]
        have e : listF n (relax f (ep (l.getD i z79))) = listF n f := by
          refine listF_congr (fun x _ _ => ?_)
          rw [show ep (l.getD i z79) = ((l.getD i z79).f0, (l.getD i z79).f1) from rfl, relax_apply]
          rw [if_neg (fun h => c1 h.1), if_neg (fun h => c2 h.1)]
        rw [← e]; exact h'
theorem spec_l1_ev (n : Nat) (hn : n ≤ 12) (l : List S79) (hl : l.length ≤ 66) (hm : ∀ e ∈ l, 0 ≤ e.f0 ∧ e.f0 < e.f1 ∧ e.f1 < n) : ∀ (d i : Nat) (f : Int → Int), i + d = n →
    Ev (fun k => spec_l05Labels.l1 k n l (listF n f) i) (listF n (rnds (l.map ep) d f)) := by
  intro d
  induction d with
  | zero =>
    intro i f hi
    refine Ev.step (fun k => by rw [spec_l05Labels.l1, if_neg (by omega)]) ?_
    exact Ev.now _
  | succ d ih =>
    intro i f hi
    refine Ev.step (fun k => by rw [spec_l05Labels.l1, if_pos (by omega)]) ?_
    refine spec_l2_ev n hn l hl hm i 0 _ l.length 0 f (by omega) ?_
    rw [List.drop_zero, wrap_succ (show i < n by omega) (by omega), rnds]
    exact ih (i + 1) _ (by omega)
theorem spec_first_ev (n : Nat) (hn : n ≤ 12) (l : List S79) (ro : List Int) (h : Ev (fun k => spec_l05Labels.l1 k n l (listF n id) 0) ro) : ∀ (d i : Nat), i + d = n → Ev (fun k => spec_l05Labels.l0 k n l (listF i id) i) ro := by
  intro d
  induction d with
  | zero =>
    intro i hi
    have : i = n := by omega
    subst this
    refine Ev.step (fun k => by rw [spec_l05Labels.l0, if_neg (by omega)]) ?_
    exact h
  | succ d ih =>
    intro i hi
    refine Ev.step (fun k => by rw [spec_l05Labels.l0, if_pos (by omega), listF_len, if_pos (by omega), wrap_succ (show i < n by omega) (by omega)]) ?_
    have e : listF i id ++ [(i : Int)] = listF (i + 1) id := by simp [listF, List.range_succ]
    rw [e]
    exact ih (i + 1) (by omega)
def labelsP (n : Int) (l : List S79) : List Int := if graphOk n l = true then listF n.toNat (lab (l.map ep)) else []
theorem spec_l05Labels_ev (n : Nat) (hn : n ≤ 12) (l : List S79) (hl : l.length ≤ 66) (hm : ∀ e ∈ l, 0 ≤ e.f0 ∧ e.f0 < e.f1 ∧ e.f1 < n) : Ev (fun k => spec_l05Labels.f k n l) (listF n (lab (l.map ep))) := by
  simp only [spec_l05Labels.f]
  have h1 := spec_l1_ev n hn l hl hm n 0 id (by omega)
  have e : listF n (rnds (l.map ep) n id) = listF n (lab (l.map ep)) := by
    refine listF_congr (fun x h0 hx => rnds_lab (fun e he => ?_) x h0 hx)
    obtain ⟨a, ha, rfl⟩ := List.mem_map.1 he
    have := hm a ha
    simp only [ep]; omega
  rw [e] at h1
  have := spec_first_ev n hn l _ h1 n 0 (by omega)
  simpa [listF] using this
theorem spec_Labels_ev (n : Int) (l : List S79) (hl : l.length ≤ 4611686018427387904) : Ev (fun k => spec_Labels.f k n l) (labelsP n l) := by
  simp only [spec_Labels.f]
  refine Ev.bind (spec_GraphOk_ev n l hl) ?_
  unfold labelsP
  cases h : graphOk n l with
  | false => simp only [Bool.false_eq_true, if_false]; exact Ev.now _
  | true =>
    have hg := graphOk_mem h
    simp only [if_true]
    have e : ((n.toNat : Nat) : Int) = n := by omega
    have := spec_l05Labels_ev n.toNat (by omega) l hg.2.1 (by rw [e]; exact hg.2.2)
    rw [e] at this
    exact Ev.bind this (Ev.now _)

theorem mx_max (a b : Int) : mx a b = max a b := by unfold mx; split <;> omega
theorem mn_min (a b : Int) : mn a b = min a b := by unfold mn; split <;> omega
theorem impl_union_ev (n : Nat) (hn : n ≤ 12) (f : Int → Int) (a b : Int) (ha : 0 ≤ a) (ha2 : a < n) (hb : 0 ≤ b) (hb2 : b < n) : Ev (fun k => impl_union.f k (listF n f) a b) (!decide (f a = f b), listF n (uni f (a, b))) := by
  simp only [impl_union.f, listF_len, if_pos ha, if_pos ha2, if_pos hb, if_pos hb2, listF_rd ha ha2, listF_rd hb hb2]
  by_cases h : f a = f b
  · simp only [if_pos h]
    have e : listF n (uni f (a, b)) = listF n f := by
      refine listF_congr (fun x _ _ => ?_)
      simp only [uni]; split <;> omega
    rw [e, decide_eq_true h]
    exact Ev.now _
  · simp only [if_neg h]
    rw [decide_eq_false h]
    have key := Ev.loopR (L := fun k x i => impl_union.l0 k x (f a) (f b) n i) (n := n) (fun _ _ => (!false, listF n (uni f (a, b)))) (fun i x => x.length = n ∧ (∀ j : Nat, j < i → x[j]? = some (uni f (a, b) j)) ∧ (∀ j : Nat, i ≤ j → j < n → x[j]? = some (f j))) (by
      intro i x hi hx
      right
      have hxi := hx.2.2 i (Nat.le_refl _) hi
      have hr : rd x (i : Int) = f i := by
        simp only [rd, Int.toNat_natCast, List.getD_eq_getElem?_getD, hxi, Option.getD_some]
      by_cases c : f i = max (f a) (f b)
      · refine ⟨x.set i (min (f a) (f b)), ⟨by rw [List.length_set]; exact hx.1, fun j hj => ?_, fun j hj hj2 => ?_⟩, rfl, fun r hr2 => ?_⟩
        · by_cases hji : j = i
          · subst hji
            rw [List.getElem?_set_self (by omega)]
            simp only [uni, if_pos c]
          · rw [List.getElem?_set_ne (by omega)]
            exact hx.2.1 j (by omega)
        · rw [List.getElem?_set_ne (by omega)]
          exact hx.2.2 j (by omega) hj2
        · refine Ev.step (fun k => by rw [impl_union.l0, if_pos (by omega), if_pos (by omega), if_pos (by omega), hr, mx_max, mn_min, if_pos c, Int.toNat_natCast, wrap_succ hi (by omega)]) ?_
          exact hr2
      · refine ⟨x, ⟨hx.1, fun j hj => ?_, fun j hj hj2 => hx.2.2 j (by omega) hj2⟩, rfl, fun r hr2 => ?_⟩
        · by_cases hji : j = i
          · subst hji
            rw [hxi]
            simp only [uni, if_neg c]
          · exact hx.2.1 j (by omega)
        · refine Ev.step (fun k => by rw [impl_union.l0, if_pos (by omega), if_pos (by omega), if_pos (by omega), hr, mx_max, if_neg c, wrap_succ hi (by omega)]) ?_
          exact hr2) (by
      intro x hx
      refine Ev.step (fun k => by rw [impl_union.l0, if_neg (by omega)]) ?_
      have : x = listF n (uni f (a, b)) := listF_ext hx.1 (fun j hj => hx.2.1 j hj)
      rw [this]
      exact Ev.now _)
    exact key n 0 (listF n f) (by omega) ⟨listF_len n f, fun j hj => by omega, fun j _ hj => listF_get hj⟩
theorem impl_first_ev (n : Nat) (hn : n ≤ 12) : Ev (fun k => impl_first.f k n) (listF n id) := by
  simp only [impl_first.f]
  have key : ∀ (d i : Nat), i + d = n → Ev (fun k => impl_first.l0 k (listF i id) n i) (listF n id) := by
    intro d
    induction d with
    | zero =>
      intro i hi
      have : i = n := by omega
      subst this
      refine Ev.step (fun k => by rw [impl_first.l0, if_neg (by omega)]) ?_
      exact Ev.now _
    | succ d ih =>
      intro i hi
      refine Ev.step (fun k => by rw [impl_first.l0, if_pos (by omega), listF_len, if_pos (by omega), wrap_succ (show i < n by omega) (by omega)]) ?_
      have e : listF i id ++ [(i : Int)] = listF (i + 1) id := by simp [listF, List.range_succ]
      rw [e]
      exact ih (i + 1) (by omega)
  have := key n 0 (by omega)
  simpa [listF] using this

theorem impl_Labels_l0_ev (n : Nat) (hn : n ≤ 12) (l : List S79) (hl : l.length ≤ 66) (hm : ∀ e ∈ l, 0 ≤ e.f0 ∧ e.f0 < e.f1 ∧ e.f1 < n) : ∀ (d i : Nat) (f : Int → Int), i + d = l.length →
    Ev (fun k => impl_Labels.l0 k (listF n f) l l.length i) (listF n (labF f ((l.map ep).drop i))) := by
  intro d
  induction d with
  | zero =>
    intro i f hi
    rw [List.drop_of_length_le (by simp; omega)]
    refine Ev.step (fun k => by rw [impl_Labels.l0, if_neg (by omega)]) ?_
    exact Ev.now _
  | succ d ih =>
    intro i f hi
    have hil : i < l.length := by omega
    have he := hm _ (getD_mem (d := z79) hil)
    rw [ep_drop l i hil]
    refine Ev.step (fun k => by rw [impl_Labels.l0, if_pos (by omega), if_pos (by omega), if_pos (by omega)]) ?_
    simp only [rd_T79, Int.toNat_natCast, wrap_succ hil (show l.length ≤ 4611686018427387904 by omega)]
    refine Ev.bind (impl_union_ev n hn f _ _ he.1 (by omega) (by omega) he.2.2) ?_
    exact ih (i + 1) _ (by omega)
theorem impl_Labels_ev (n : Int) (l : List S79) (hl : l.length ≤ 4611686018427387904) : Ev (fun k => impl_Labels.f k n l) (labelsP n l) := by
  simp only [impl_Labels.f]
  refine Ev.bind (impl_GraphOk_ev n l hl) ?_
  unfold labelsP
  cases h : graphOk n l with
  | false => simp only [Bool.false_eq_true, if_false]; exact Ev.now _
  | true =>
    have hg := graphOk_mem h
    simp only [if_true]
    have e : ((n.toNat : Nat) : Int) = n := by omega
    have h1 := impl_first_ev n.toNat (by omega)
    rw [e] at h1
    refine Ev.bind h1 ?_
    have := impl_Labels_l0_ev n.toNat (by omega) l hg.2.1 (by rw [e]; exact hg.2.2) l.length 0 id (by omega)
    rw [List.drop_zero] at this
    exact this

theorem labelsP_len (n : Int) (l : List S79) : (labelsP n l).length = if graphOk n l = true then n.toNat else 0 := by
  unfold labelsP
  split
  · rw [listF_len]
  · rfl
def togetherP (n : Int) (l : List S79) (a b : Int) : Bool := if graphOk n l = true ∧ (0 ≤ a ∧ a ≤ n - 1) ∧ (0 ≤ b ∧ b ≤ n - 1) then (rd (labelsP n l) a == rd (labelsP n l) b) else false
theorem spec_Together_ev (n : Int) (l : List S79) (a b : Int) (hl : l.length ≤ 4611686018427387904) : Ev (fun k => spec_Together.f k n l a b) (togetherP n l a b) := by
  simp only [spec_Together.f]
  refine Ev.bind (spec_Labels_ev n l hl) ?_
  have hlen := labelsP_len n l
  have hb : (labelsP n l).length ≤ 12 := by
    rw [hlen]; split
    · rename_i hg; have := graphOk_mem hg; omega
    · omega
  have e : wrap64 (((labelsP n l).length : Int) - 1) = ((labelsP n l).length : Int) - 1 := by unfold wrap64; omega
  simp only [spec_in_eq, Option.bind_some, e]
  unfold togetherP
  cases hg : graphOk n l with
  | false =>
    rw [hg] at hlen
    simp only [Bool.false_eq_true, if_false] at hlen
    rw [decide_eq_false (show ¬ (0 ≤ a ∧ a ≤ ((labelsP n l).length : Int) - 1) by omega)]
    simp only [Bool.false_eq_true, if_false, false_and]
    exact Ev.now _
  | true =>
    rw [hg] at hlen
    have := graphOk_mem hg
    simp only [if_true] at hlen
    have hn : ((labelsP n l).length : Int) = n := by omega
    rw [hn]
    by_cases h1 : 0 ≤ a ∧ a ≤ n - 1
    · simp only [decide_eq_true h1, if_true]
      by_cases h2 : 0 ≤ b ∧ b ≤ n - 1
      · simp only [decide_eq_true h2, if_true, if_pos h1.1, if_pos h2.1, if_pos (show a < n by omega), if_pos (show b < n by omega)]
        rw [if_pos ⟨trivial, h1, h2⟩]
        exact Ev.now _
      · simp only [decide_eq_false h2, Bool.false_eq_true, if_false]
        rw [if_neg (fun h => h2 h.2.2)]
        exact Ev.now _
    · simp only [decide_eq_false h1, Bool.false_eq_true, if_false]
      rw [if_neg (fun h => h1 h.2.1)]
      exact Ev.now _
theorem impl_Together_ev (n : Int) (l : List S79) (a b : Int) (hl : l.length ≤ 4611686018427387904) : Ev (fun k => impl_Together.f k n l a b) (togetherP n l a b) := by
  simp only [impl_Together.f]
  refine Ev.bind (impl_GraphOk_ev n l hl) ?_
  have hlen := labelsP_len n l
  unfold togetherP
  cases hg : graphOk n l with
  | false =>
    simp only [Bool.false_eq_true, if_false, false_and]
    exact Ev.now _
  | true =>
    rw [hg] at hlen
    have := graphOk_mem hg
    simp only [if_true] at hlen
    have hn : ((labelsP n l).length : Int) = n := by omega
    have e : wrap64 (n - 1) = n - 1 := by unfold wrap64; omega
    simp only [if_true, impl_in_eq, Option.bind_some, e]
    by_cases h1 : 0 ≤ a ∧ a ≤ n - 1
    · simp only [decide_eq_true h1, if_true]
      by_cases h2 : 0 ≤ b ∧ b ≤ n - 1
      · simp only [decide_eq_true h2, if_true]
        rw [if_pos ⟨trivial, h1, h2⟩]
        refine Ev.bind (impl_Labels_ev n l hl) ?_
        simp only [hn, if_pos h1.1, if_pos h2.1, if_pos (show a < n by omega), if_pos (show b < n by omega)]
        exact Ev.now _
      · simp only [decide_eq_false h2, Bool.false_eq_true, if_false]
        rw [if_neg (fun h => h2 h.2.2)]
        exact Ev.now _
    · simp only [decide_eq_false h1, Bool.false_eq_true, if_false]
      rw [if_neg (fun h => h1 h.2.1)]
      exact Ev.now _

theorem FnExactTogether_pure (n : Int) (l : List S76) (a b : Int) (q0 : (Go.Lit.int .i64 n).wf = true) (q1 : l.length ≤ 9223372036854775807 ∧ ∀ a ∈ l, (Go.Lit.int .i64 a.f0).wf = true ∧ (Go.Lit.int .i64 a.f1).wf = true) (qa : (Go.Lit.int .i64 a).wf = true) (qb : (Go.Lit.int .i64 b).wf = true) : ∃ k, laws_FnExactTogether.f k n l a b = some true := by
  refine Ev.rounds (g := fun k => laws_FnExactTogether.f k n l a b) ?_
  simp only [laws_FnExactTogether.f, laws_szGraph_eq n l 1048576 q1.1 (by omega) (by omega), Option.bind_some]
  by_cases h : (1048576 : Int) - l.length < 0
  · simp only [if_pos h, show ((-1 : Int) < 0) = True by simp, if_true]; exact Ev.now _
  · have hl : l.length ≤ 1048576 := by omega
    have hl2 : (l.map toE).length ≤ 4611686018427387904 := by rw [List.length_map]; omega
    simp only [if_neg h]
    refine Ev.bind (laws_toGraph_ev n l hl) ?_
    refine Ev.bind (spec_Together_ev n _ a b hl2) ?_
    refine Ev.bind (laws_toGraph_ev n l hl) ?_
    refine Ev.bind (impl_Together_ev n _ a b hl2) ?_
    simp only [bne_self_eq_false, Bool.false_eq_true, if_false]
    refine Ev.bind (laws_toGraph_ev n l hl) ?_
    refine Ev.bind (laws_eqGraph_refl n _ hl2) ?_
    exact Ev.now _

end Go.Proofs.Ytigeiofkbccocaa.Pure
