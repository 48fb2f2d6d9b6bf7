/- For every graph and vertex Around of the program and of the reference tell the same, in memory of its own. No condition is laid beside the statement. -/
import Derived.Test.YtigeiofkbccocaaQFnExactAroundx9
import Derived.Laws.BitsLemmas
import Derived.Lib.Bytes
import Derived.OpenShut
namespace Go.Proofs.Ytigeiofkbccocaa.Pure
open Go.RowKit Go.Proofs.Ytigeiofkbccocaa.QFnExactAround Go.Proofs.YtigeiofkbccocaaW.PrintWords Go.Proofs.YtigeiofkbccocaaW.PrintLast
set_option linter.unusedVariables false
set_option linter.unusedSimpArgs false


/-! loops in general -/
theorem wrap_succ {i n : Nat} (h : i < n) (hn : n ≤ 4611686018427387904) : wrap64 ((i : Int) + 1) = ((i + 1 : Nat) : Int) := by unfold wrap64; omega
theorem Ev.loopR {σ β : Type} {L : Nat → σ → Int → Option β} {n : Nat} (R : Nat → σ → β) (I : Nat → σ → Prop)
    (hstep : ∀ (i : Nat) s, i < n → I i s → Ev (fun k => L k s i) (R i s) ∨ ∃ s', I (i + 1) s' ∧ R i s = R (i + 1) s' ∧ ∀ r, Ev (fun k => L k s' ((i + 1 : Nat) : Int)) r → Ev (fun k => L k s i) r)
    (hend : ∀ s, I n s → Ev (fun k => L k s n) (R n s)) : ∀ (d i : Nat) (s : σ), i + d = n → I i s → Ev (fun k => L k s i) (R i s) := by
  intro d
  induction d with
  | zero =>
    intro i s hi hI
    have : i = n := by omega
    subst this
    exact hend s hI
  | succ d ih =>
    intro i s hi hI
    rcases hstep i s (by omega) hI with h | ⟨s', h1, h2, h3⟩
    · exact h
    · rw [h2]
      exact h3 _ (ih (i + 1) s' (by omega) h1)
/-- A loop that builds by appending. -/
theorem Ev.apploop {β γ : Type} {L : Nat → List γ → Int → Option β} {n : Nat} (g : Nat → List γ) (fin : List γ → β) (a0 : List γ)
    (hstep : ∀ (i : Nat) x r, i < n → x = a0 ++ (List.range i).flatMap g → Ev (fun k => L k (x ++ g i) ((i + 1 : Nat) : Int)) r → Ev (fun k => L k x i) r)
    (hend : ∀ x, x = a0 ++ (List.range n).flatMap g → Ev (fun k => L k x n) (fin x)) : Ev (fun k => L k a0 0) (fin (a0 ++ (List.range n).flatMap g)) := by
  have key := Ev.loopR (L := L) (n := n) (fun _ _ => fin (a0 ++ (List.range n).flatMap g)) (fun i x => x = a0 ++ (List.range i).flatMap g) (by
    intro i x hi hx
    right
    refine ⟨x ++ g i, by rw [hx, List.range_succ, List.flatMap_append]; simp, rfl, fun r hr => hstep i x r hi hx hr⟩) (by
    intro x hx
    have := hend x hx
    rw [hx] at this ⊢
    exact this)
  exact key n 0 a0 (by omega) (by simp)
/-- A loop that writes every element of a row. -/
theorem Ev.setloop' {β γ : Type} {L : Nat → List γ → Int → Option β} {n : Nat} (g : Nat → γ) (x0 : List γ) (h0 : x0.length = n) (fin : List γ → β)
    (hstep : ∀ (i : Nat) x r, i < n → x.length = n → Ev (fun k => L k (x.set i (g i)) ((i + 1 : Nat) : Int)) r → Ev (fun k => L k x i) r)
    (hend : ∀ x, x.length = n → Ev (fun k => L k x n) (fin x)) : Ev (fun k => L k x0 0) (fin ((List.range n).map g)) := by
  have key := Ev.loopR (L := L) (n := n) (fun _ _ => fin ((List.range n).map g)) (fun i x => x.length = n ∧ ∀ j, j < i → x[j]? = some (g j)) (by
    intro i x hi hx
    right
    refine ⟨x.set i (g i), ⟨by rw [List.length_set]; exact hx.1, fun j hj => ?_⟩, rfl, fun r hr => hstep i x r hi hx.1 hr⟩
    by_cases hji : j = i
    · subst hji
      rw [List.getElem?_set_self (by omega)]
    · rw [List.getElem?_set_ne (by omega)]
      exact hx.2 j (by omega)) (by
    intro x hx
    have hxe : x = (List.range n).map g := by
      apply List.ext_getElem?
      intro j
      by_cases hj : j < n
      · rw [hx.2 j hj]; simp [hj]
      · rw [List.getElem?_eq_none (by omega), List.getElem?_eq_none (by simp; omega)]
    rw [← hxe]
    exact hend x hx.1)
  exact key n 0 _ (by omega) ⟨h0, fun j hj => by omega⟩
/-- A loop that fills what was made. -/
theorem Ev.setloop {β γ : Type} {L : Nat → List γ → Int → Option β} {n : Nat} (g : Nat → γ) (z : γ) (fin : List γ → β)
    (hstep : ∀ (i : Nat) x r, i < n → x.length = n → Ev (fun k => L k (x.set i (g i)) ((i + 1 : Nat) : Int)) r → Ev (fun k => L k x i) r)
    (hend : ∀ x, x.length = n → Ev (fun k => L k x n) (fin x)) : Ev (fun k => L k (List.replicate n z) 0) (fin ((List.range n).map g)) :=
  Ev.setloop' g _ (by simp) fin hstep hend
/-- A loop that asks something of each index. -/
theorem Ev.allloop {β : Type} {L : Nat → Int → Option β} {n : Nat} (p : Nat → Bool) (c fin : β)
    (hstep : ∀ (i : Nat) r, i < n → p i = true → Ev (fun k => L k ((i + 1 : Nat) : Int)) r → Ev (fun k => L k i) r)
    (hno : ∀ (i : Nat), i < n → p i = false → Ev (fun k => L k i) c)
    (hend : Ev (fun k => L k n) fin) : Ev (fun k => L k 0) (if (List.range n).all p then fin else c) := by
  have key := Ev.loopR (σ := Unit) (L := fun k _ i => L k i) (n := n) (fun i _ => if (List.range' i (n - i)).all p then fin else c) (fun _ _ => True) (by
    intro i _ hi _
    have e : List.range' i (n - i) = i :: List.range' (i + 1) (n - (i + 1)) := by
      have : n - i = (n - (i + 1)) + 1 := by omega
      rw [this, List.range'_succ]
    cases hp : p i with
    | true => right; exact ⟨(), trivial, by rw [e, List.all_cons, hp, Bool.true_and], fun r hr => hstep i r hi hp hr⟩
    | false => left; rw [e, List.all_cons, hp, Bool.false_and]; exact hno i hi hp) (by
    intro _ _
    simpa using hend)
  have := key n 0 () (by omega) trivial
  rw [List.range_eq_range']
  simpa using this
theorem range_map_getD {α β : Type} (l : List α) (d : α) (h : α → β) : (List.range l.length).map (fun i => h (l.getD i d)) = l.map h := by
  apply List.ext_getElem
  · simp
  · intro i h1 h2
    simp at h1 h2
    simp [List.getD_eq_getElem?_getD, List.getElem?_eq_getElem h2]
theorem range_flatMap_getD {α β : Type} (l : List α) (d : α) (h : α → List β) : (List.range l.length).flatMap (fun i => h (l.getD i d)) = l.flatMap h := by
  have := congrArg List.flatten (range_map_getD l d h)
  rw [List.flatMap_def, List.flatMap_def]; exact this
theorem range_all_getD {α : Type} (l : List α) (d : α) (h : α → Bool) : (List.range l.length).all (fun i => h (l.getD i d)) = l.all h := by
  have := congrArg (fun l => l.all id) (range_map_getD l d h)
  simpa [List.all_map] using this
theorem flatMap_single {α β : Type} (l : List α) (g : α → β) : l.flatMap (fun x => [g x]) = l.map g := by
  induction l with
  | nil => rfl
  | cons a l ih => simp [ih]
/-- A loop that looks for the first index. -/
def findR {β : Type} (p : Nat → Bool) (c : Nat → β) (fin : β) : Nat → Nat → β
  | 0, _ => fin
  | d + 1, i => if p i then c i else findR p c fin d (i + 1)
theorem Ev.findloop {β : Type} {L : Nat → Int → Option β} {n : Nat} (p : Nat → Bool) (c : Nat → β) (fin : β)
    (hstep : ∀ (i : Nat) r, i < n → p i = false → Ev (fun k => L k ((i + 1 : Nat) : Int)) r → Ev (fun k => L k i) r)
    (hhit : ∀ (i : Nat), i < n → p i = true → Ev (fun k => L k i) (c i))
    (hend : Ev (fun k => L k n) fin) : Ev (fun k => L k 0) (findR p c fin n 0) := by
  have key := Ev.loopR (σ := Unit) (L := fun k _ i => L k i) (n := n) (fun i _ => findR p c fin (n - i) i) (fun _ _ => True) (by
    intro i _ hi _
    have e : findR p c fin (n - i) i = if p i then c i else findR p c fin (n - (i + 1)) (i + 1) := by
      have : n - i = (n - (i + 1)) + 1 := by omega
      rw [this, findR]
    cases hp : p i with
    | false => right; exact ⟨(), trivial, by rw [e, hp]; rfl, fun r hr => hstep i r hi hp hr⟩
    | true => left; rw [e, hp]; exact hhit i hi hp) (by
    intro _ _
    simpa [findR] using hend)
  have := key n 0 () (by omega) trivial
  simpa using this

/-! edges that are right -/
theorem spec_in_eq (a b c : Int) : spec_l01In.f a b c = some (decide (b ≤ a ∧ a ≤ c)) := by
  unfold spec_l01In.f
  by_cases h : a ≥ b
  · have h' : b ≤ a := h
    simp [h']
  · have h' : ¬ b ≤ a := h
    simp [h']
theorem impl_in_eq (a b c : Int) : impl_in.f a b c = some (decide (b ≤ a ∧ a ≤ c)) := by
  unfold impl_in.f
  by_cases h : a ≥ b
  · have h' : b ≤ a := h
    simp [h']
  · have h' : ¬ b ≤ a := h
    simp [h']
def edgeOk (n a b : Int) : Bool := decide ((1 ≤ n ∧ n ≤ 12) ∧ (0 ≤ a ∧ a ≤ n - 1) ∧ (0 ≤ b ∧ b ≤ n - 1) ∧ a < b)
theorem spec_EdgeOk_eq (n a b : Int) : spec_EdgeOk.f n a b = some (edgeOk n a b) := by
  unfold spec_EdgeOk.f edgeOk
  simp only [spec_in_eq, Option.bind_some, decide_eq_true_eq]
  by_cases h1 : 1 ≤ n ∧ n ≤ 12
  · have e : wrap64 (n - 1) = n - 1 := by unfold wrap64; omega
    rw [if_pos h1, e]
    by_cases h2 : 0 ≤ a ∧ a ≤ n - 1
    · rw [if_pos h2]
      by_cases h3 : 0 ≤ b ∧ b ≤ n - 1
      · rw [if_pos h3]; simp [h1, h2, h3]
      · rw [if_neg h3, decide_eq_false (fun h => h3 h.2.2.1)]
    · rw [if_neg h2, decide_eq_false (fun h => h2 h.2.1)]
  · rw [if_neg h1, decide_eq_false (fun h => h1 h.1)]
theorem impl_EdgeOk_eq (n a b : Int) : impl_EdgeOk.f n a b = some (edgeOk n a b) := by
  unfold impl_EdgeOk.f edgeOk
  simp only [impl_in_eq, Option.bind_some, decide_eq_true_eq]
  by_cases h1 : 1 ≤ n ∧ n ≤ 12
  · have e : wrap64 (n - 1) = n - 1 := by unfold wrap64; omega
    rw [if_pos h1, e]
    by_cases h2 : 0 ≤ a ∧ a ≤ n - 1
    · rw [if_pos h2]
      by_cases h3 : 0 ≤ b ∧ b ≤ n - 1
      · rw [if_pos h3]; simp [h1, h2, h3]
      · rw [if_neg h3, decide_eq_false (fun h => h3 h.2.2.1)]
    · rw [if_neg h2, decide_eq_false (fun h => h2 h.2.1)]
  · rw [if_neg h1, decide_eq_false (fun h => h1 h.1)]

/-! the law's own functions over graphs -/
def toE (e : S76) : S79 := ⟨e.f0, e.f1⟩
theorem laws_szEdgeS_eq (l : List S76) (a : Int) (hl : l.length ≤ 9223372036854775807) (h0 : 0 ≤ a) (h1 : a ≤ 1048576) : laws_szEdgeS.f l a = some (if a - l.length < 0 then -1 else a - l.length) := by
  unfold laws_szEdgeS.f
  have : wrap64 (a - (l.length : Int)) = a - l.length := by unfold wrap64; omega
  rw [this]
  split <;> rfl
theorem laws_toEdgeS_ev (l : List S76) (hl : l.length ≤ 1048576) : Ev (fun k => laws_toEdgeS.f k l) (l.map toE) := by
  simp only [laws_toEdgeS.f, if_pos (show (0 : Int) ≤ (l.length : Int) by omega), Int.toNat_natCast, if_pos (show l.length ≤ 17592186044416 by omega)]
  have := Ev.setloop (L := fun k x i => laws_toEdgeS.l0 k l x i) (n := l.length) (fun i => toE (l.getD i z76)) z79 id (by
    intro i x r hi hx h
    refine Ev.step (fun k => by rw [laws_toEdgeS.l0, if_pos (by omega), if_pos (by omega), laws_toEdge.f, Option.bind_some, if_pos (by omega), wrap_succ hi (by omega)]) ?_
    exact h) (by
    intro x hx
    refine Ev.step (fun k => by rw [laws_toEdgeS.l0, if_neg (by omega)]) ?_
    exact Ev.now _)
  rw [range_map_getD] at this
  exact this
theorem laws_eqEdge_refl (a b : Int) : laws_eqEdge.f a b a b = some true := by simp [laws_eqEdge.f]
theorem laws_eqEdgeS_refl (l : List S79) (hl : l.length ≤ 4611686018427387904) : Ev (fun k => laws_eqEdgeS.f k l l) true := by
  simp only [laws_eqEdgeS.f, if_true]
  have := Ev.allloop (L := fun k i => laws_eqEdgeS.l0 k l l i) (n := l.length) (fun _ => true) false true (by
    intro i r hi _ h
    refine Ev.step (fun k => by rw [laws_eqEdgeS.l0, if_pos (by omega), if_pos (by omega), if_pos (by omega), laws_eqEdge_refl, Option.bind_some, if_pos rfl, wrap_succ hi hl]) ?_
    exact h) (by intro i _ h; cases h) (by
    refine Ev.step (fun k => by rw [laws_eqEdgeS.l0, if_neg (by omega)]) ?_
    exact Ev.now _)
  simpa using this

/-! the law's own functions over graphs -/
theorem laws_szGraph_eq (n : Int) (l : List S76) (a : Int) (hl : l.length ≤ 9223372036854775807) (h0 : 0 ≤ a) (h1 : a ≤ 1048576) : laws_szGraph.f n l a = some (if a - l.length < 0 then -1 else a - l.length) := by
  unfold laws_szGraph.f
  rw [laws_szEdgeS_eq l a hl h0 h1]
  by_cases h : a - l.length < 0
  · simp [h]
  · simp [h]
theorem laws_toGraph_ev (n : Int) (l : List S76) (hl : l.length ≤ 1048576) : Ev (fun k => laws_toGraph.f k n l) (n, l.map toE) := by
  simp only [laws_toGraph.f]
  exact Ev.bind (laws_toEdgeS_ev l hl) (Ev.now _)
theorem laws_eqGraph_refl (n : Int) (l : List S79) (hl : l.length ≤ 4611686018427387904) : Ev (fun k => laws_eqGraph.f k n l n l) true := by
  simp only [laws_eqGraph.f, if_true]
  refine Ev.bind (laws_eqEdgeS_refl l hl) ?_
  exact Ev.now _

/-! graphs that are right -/
def lessE (a b : S79) : Bool := decide (a.f0 < b.f0 ∨ a.f0 = b.f0 ∧ a.f1 < b.f1)
theorem spec_l05Less_eq (a b c d : Int) : spec_l05Less.f a b c d = some (decide (a < c ∨ a = c ∧ b < d)) := by
  unfold spec_l05Less.f
  by_cases h : a < c
  · simp [h]
  · by_cases h2 : a = c
    · subst h2; simp
    · simp [h, h2]
theorem impl_ahead_eq (a b c d : Int) : impl_ahead.f a b c d = some (decide (a < c ∨ a = c ∧ b < d)) := by
  unfold impl_ahead.f
  by_cases h : a < c
  · simp [h]
  · by_cases h2 : a = c
    · subst h2; simp
    · simp [h, h2]
def edgeAt (n : Int) (l : List S79) (i : Nat) : Bool := edgeOk n (l.getD i z79).f0 (l.getD i z79).f1 && (decide (i = 0) || lessE (l.getD (i - 1) z79) (l.getD i z79))
def edgesOk (n : Int) (l : List S79) : Bool := if (List.range l.length).all (edgeAt n l) then decide ((l.length : Int) ≤ 66) else false
theorem spec_l05Edges_ev (n : Int) (l : List S79) (hl : l.length ≤ 4611686018427387904) : Ev (fun k => spec_l05Edges.f k n l) (edgesOk n l) := by
  simp only [spec_l05Edges.f]
  refine Ev.allloop (L := fun k i => spec_l05Edges.l0 k n l i) (n := l.length) (edgeAt n l) false (decide ((l.length : Int) ≤ 66)) ?_ ?_ ?_
  · intro i r hi hp h
    simp only [edgeAt, Bool.and_eq_true, Bool.or_eq_true, decide_eq_true_eq] at hp
    refine Ev.step (fun k => by rw [spec_l05Edges.l0, if_pos (by omega), if_pos (by omega), spec_EdgeOk_eq, Option.bind_some]) ?_
    simp only [rd_T79, Int.toNat_natCast, if_pos hp.1, wrap_succ hi hl]
    by_cases hz : (i : Int) > 0
    · have e : wrap64 ((i : Int) - 1) = ((i - 1 : Nat) : Int) := by unfold wrap64; omega
      have hq : lessE (l.getD (i - 1) z79) (l.getD i z79) = true := by
        rcases hp.2 with h0 | h0
        · omega
        · exact h0
      unfold lessE at hq
      simp only [if_pos hz, e, if_pos (show (0 : Int) ≤ ((i - 1 : Nat) : Int) by omega), if_pos (show ((i - 1 : Nat) : Int) < (l.length : Int) by omega), Int.toNat_natCast, spec_l05Less_eq, Option.bind_some, if_pos hq]
      exact h
    · simp only [if_neg hz]
      exact h
  · intro i hi hp
    simp only [edgeAt, Bool.and_eq_false_iff, Bool.or_eq_false_iff] at hp
    refine Ev.step (fun k => by rw [spec_l05Edges.l0, if_pos (by omega), if_pos (by omega), spec_EdgeOk_eq, Option.bind_some]) ?_
    simp only [rd_T79, Int.toNat_natCast]
    by_cases he : edgeOk n (l.getD i z79).f0 (l.getD i z79).f1 = true
    · rcases hp with hp | hp
      · rw [he] at hp; cases hp
      · have hz : (i : Int) > 0 := by have := of_decide_eq_false hp.1; omega
        have e : wrap64 ((i : Int) - 1) = ((i - 1 : Nat) : Int) := by unfold wrap64; omega
        have hq := hp.2
        unfold lessE at hq
        simp only [if_pos he, if_pos hz, e, if_pos (show (0 : Int) ≤ ((i - 1 : Nat) : Int) by omega), if_pos (show ((i - 1 : Nat) : Int) < (l.length : Int) by omega), Int.toNat_natCast, spec_l05Less_eq, Option.bind_some, hq]
        exact Ev.now _
    · have he' := Bool.eq_false_iff.2 he
      simp only [he', Bool.false_eq_true, if_false]
      exact Ev.now _
  · refine Ev.step (fun k => by rw [spec_l05Edges.l0, if_neg (by omega)]) ?_
    exact Ev.now _
theorem impl_edgesOk_ev (n : Int) (l : List S79) (hl : l.length ≤ 4611686018427387904) : Ev (fun k => impl_edgesOk.f k n l) (edgesOk n l) := by
  simp only [impl_edgesOk.f]
  refine Ev.allloop (L := fun k i => impl_edgesOk.l0 k n l l l.length i) (n := l.length) (edgeAt n l) false (decide ((l.length : Int) ≤ 66)) ?_ ?_ ?_
  · intro i r hi hp h
    simp only [edgeAt, Bool.and_eq_true, Bool.or_eq_true, decide_eq_true_eq] at hp
    refine Ev.step (fun k => by rw [impl_edgesOk.l0, if_pos (by omega), if_pos (by omega), if_pos (by omega), impl_EdgeOk_eq, Option.bind_some]) ?_
    simp only [rd_T79, Int.toNat_natCast, if_pos hp.1, wrap_succ hi hl]
    by_cases hz : (i : Int) > 0
    · have e : wrap64 ((i : Int) - 1) = ((i - 1 : Nat) : Int) := by unfold wrap64; omega
      have hq : lessE (l.getD (i - 1) z79) (l.getD i z79) = true := by
        rcases hp.2 with h0 | h0
        · omega
        · exact h0
      unfold lessE at hq
      simp only [if_pos hz, e, if_pos (show (0 : Int) ≤ ((i - 1 : Nat) : Int) by omega), if_pos (show ((i - 1 : Nat) : Int) < (l.length : Int) by omega), Int.toNat_natCast, impl_ahead_eq, Option.bind_some, if_pos hq]
      exact h
    · simp only [if_neg hz]
      exact h
  · intro i hi hp
    simp only [edgeAt, Bool.and_eq_false_iff, Bool.or_eq_false_iff] at hp
    refine Ev.step (fun k => by rw [impl_edgesOk.l0, if_pos (by omega), if_pos (by omega), if_pos (by omega), impl_EdgeOk_eq, Option.bind_some]) ?_
    simp only [rd_T79, Int.toNat_natCast]
    by_cases he : edgeOk n (l.getD i z79).f0 (l.getD i z79).f1 = true
    · rcases hp with hp | hp
      · rw [he] at hp; cases hp
      · have hz : (i : Int) > 0 := by have := of_decide_eq_false hp.1; omega
        have e : wrap64 ((i : Int) - 1) = ((i - 1 : Nat) : Int) := by unfold wrap64; omega
        have hq := hp.2
        unfold lessE at hq
        simp only [if_pos he, if_pos hz, e, if_pos (show (0 : Int) ≤ ((i - 1 : Nat) : Int) by omega), if_pos (show ((i - 1 : Nat) : Int) < (l.length : Int) by omega), Int.toNat_natCast, impl_ahead_eq, Option.bind_some, hq]
        exact Ev.now _
    · have he' := Bool.eq_false_iff.2 he
      simp only [he', Bool.false_eq_true, if_false]
      exact Ev.now _
  · refine Ev.step (fun k => by rw [impl_edgesOk.l0, if_neg (by omega)]) ?_
    exact Ev.now _

def graphOk (n : Int) (l : List S79) : Bool := decide (1 ≤ n ∧ n ≤ 12) && edgesOk n l
theorem spec_GraphOk_ev (n : Int) (l : List S79) (hl : l.length ≤ 4611686018427387904) : Ev (fun k => spec_GraphOk.f k n l) (graphOk n l) := by
  simp only [spec_GraphOk.f, spec_in_eq, Option.bind_some, graphOk]
  by_cases h : 1 ≤ n ∧ n ≤ 12
  · simp only [decide_eq_true h, if_true, Bool.true_and]
    exact Ev.bind (spec_l05Edges_ev n l hl) (Ev.now _)
  · simp only [decide_eq_false h, Bool.false_eq_true, if_false, Bool.false_and]
    exact Ev.now _
theorem impl_GraphOk_ev (n : Int) (l : List S79) (hl : l.length ≤ 4611686018427387904) : Ev (fun k => impl_GraphOk.f k n l) (graphOk n l) := by
  simp only [impl_GraphOk.f, impl_in_eq, Option.bind_some, graphOk]
  by_cases h : 1 ≤ n ∧ n ≤ 12
  · simp only [decide_eq_true h, if_true, Bool.true_and]
    exact Ev.bind (impl_edgesOk_ev n l hl) (Ev.now _)
  · simp only [decide_eq_false h, Bool.false_eq_true, if_false, Bool.false_and]
    exact Ev.now _

theorem edgesOk_mem {n : Int} {l : List S79} (h : edgesOk n l = true) : l.length ≤ 66 ∧ ∀ e ∈ l, 0 ≤ e.f0 ∧ e.f0 < e.f1 ∧ e.f1 < n := by
  unfold edgesOk at h
  split at h
  · rename_i ha
    have hl := of_decide_eq_true h
    refine ⟨by omega, fun e he => ?_⟩
    rw [List.all_eq_true] at ha
    obtain ⟨i, hi, rfl⟩ := List.mem_iff_getElem.1 he
    have := ha i (List.mem_range.2 hi)
    simp only [edgeAt, Bool.and_eq_true, List.getD_eq_getElem?_getD, List.getElem?_eq_getElem hi, Option.getD_some, edgeOk, decide_eq_true_eq] at this
    omega
  · cases h
theorem graphOk_mem {n : Int} {l : List S79} (h : graphOk n l = true) : (1 ≤ n ∧ n ≤ 12) ∧ l.length ≤ 66 ∧ ∀ e ∈ l, 0 ≤ e.f0 ∧ e.f0 < e.f1 ∧ e.f1 < n := by
  simp only [graphOk, Bool.and_eq_true, decide_eq_true_eq] at h
  exact ⟨h.1, edgesOk_mem h.2⟩

theorem laws_eqIntS_refl (l : List Int) (hl : l.length ≤ 4611686018427387904) : Ev (fun k => laws_eqIntS.f k l l) true := by
  simp only [laws_eqIntS.f, if_true]
  have := Ev.allloop (L := fun k i => laws_eqIntS.l0 k l l i) (n := l.length) (fun _ => true) false true (by
    intro i r hi _ h
    refine Ev.step (fun k => by rw [laws_eqIntS.l0, if_pos (by omega), if_pos (by omega), if_pos (by omega), if_pos rfl, wrap_succ hi hl]) ?_
    exact h) (by intro i _ h; cases h) (by
    refine Ev.step (fun k => by rw [laws_eqIntS.l0, if_neg (by omega)]) ?_
    exact Ev.now _)
  simpa using this

def seqL (m : Int) (n : Nat) : List Int := (List.range n).map (fun (i : Nat) => m + i)
theorem laws_markIntS_ev (l : List Int) (m : Int) (h0 : 0 ≤ m) (hm : m ≤ 1099511627776) (hl : l.length ≤ 1099511627776) : Ev (fun k => laws_markIntS.f k l m) (m + l.length, seqL m l.length) := by
  simp only [laws_markIntS.f]
  have := Ev.setloop' (L := fun k x i => laws_markIntS.l0 k x (m + i) i) (n := l.length) (fun i => m + i) l rfl (fun x => (m + (l.length : Int), x)) (by
    intro i x r hi hx h
    have e : wrap64 (m + (i : Int) + 1) = m + ((i + 1 : Nat) : Int) := by unfold wrap64; omega
    refine Ev.step (fun k => by rw [laws_markIntS.l0, if_pos (by omega), if_pos (by omega), Int.toNat_natCast, wrap_succ hi (by omega), e]) ?_
    exact h) (by
    intro x hx
    refine Ev.step (fun k => by rw [laws_markIntS.l0, if_neg (by omega)]) ?_
    exact Ev.now _)
  simpa [seqL] using this
theorem laws_heldIntS_ev (m : Int) (n : Nat) (h0 : 0 ≤ m) (hm : m ≤ 1099511627776) (hl : n ≤ 1099511627776) : Ev (fun k => laws_heldIntS.f k (seqL m n) m) (m + n) := by
  simp only [laws_heldIntS.f]
  have hlen : (seqL m n).length = n := by simp [seqL]
  have := Ev.allloop (L := fun k i => laws_heldIntS.l0 k (seqL m n) (m + i) i) (n := n) (fun _ => true) (-1) (m + (n : Int)) (by
    intro i r hi _ h
    have e : wrap64 (m + (i : Int) + 1) = m + ((i + 1 : Nat) : Int) := by unfold wrap64; omega
    have er : rd (seqL m n) (i : Int) = m + i := by
      simp [rd, seqL, List.getD_eq_getElem?_getD, List.getElem?_map, List.getElem?_range hi]
    refine Ev.step (fun k => by rw [laws_heldIntS.l0, if_pos (by omega), if_pos (by omega), if_pos er, wrap_succ hi (by omega), e]) ?_
    exact h) (by intro i _ h; cases h) (by
    refine Ev.step (fun k => by rw [laws_heldIntS.l0, if_neg (by omega)]) ?_
    exact Ev.now _)
  simpa using this

def seqE (m : Int) (n : Nat) : List S79 := (List.range n).map (fun (i : Nat) => (⟨m + 2 * i, m + 2 * i + 1⟩ : S79))
theorem getD_set_self {α : Type} {l : List α} {i : Nat} {v d : α} (h : i < l.length) : (l.set i v).getD i d = v := by
  rw [List.getD_eq_getElem?_getD, List.getElem?_set_self h]; rfl
theorem laws_markEdgeS_ev (l : List S79) (m : Int) (h0 : 0 ≤ m) (hm : m ≤ 1099511627776) (hl : l.length ≤ 1099511627776) : Ev (fun k => laws_markEdgeS.f k l m) (m + 2 * l.length, seqE m l.length) := by
  simp only [laws_markEdgeS.f]
  have := Ev.setloop' (L := fun k x i => laws_markEdgeS.l0 k x (m + 2 * i) i) (n := l.length) (fun i => (⟨m + 2 * i, m + 2 * i + 1⟩ : S79)) l rfl (fun x => (m + 2 * (l.length : Int), x)) (by
    intro i x r hi hx h
    have e1 : wrap64 (m + 2 * (i : Int) + 1) = m + 2 * i + 1 := by unfold wrap64; omega
    have e2 : wrap64 (m + 2 * (i : Int) + 1 + 1) = m + 2 * ((i + 1 : Nat) : Int) := by unfold wrap64; omega
    refine Ev.step (fun k => by rw [laws_markEdgeS.l0, if_pos (by omega), if_pos (by omega), e1, e2, Option.bind_some, wrap_succ hi (by omega)]) ?_
    simp only [rd_T79, Int.toNat_natCast, getD_set_self (show i < x.length by omega), List.set_set]
    exact h) (by
    intro x hx
    refine Ev.step (fun k => by rw [laws_markEdgeS.l0, if_neg (by omega)]) ?_
    exact Ev.now _)
  simpa [seqE] using this
theorem laws_markGraph_ev (n : Int) (l : List S79) (m : Int) (h0 : 0 ≤ m) (hm : m ≤ 1099511627776) (hl : l.length ≤ 1099511627776) : Ev (fun k => laws_markGraph.f k n l m) (m + 2 * l.length, seqE m l.length) := by
  simp only [laws_markGraph.f]
  exact Ev.bind (laws_markEdgeS_ev l m h0 hm hl) (Ev.now _)

def eqAt (l : List S79) (a b : Int) (i : Nat) : Bool := ((l.getD i z79).f0 == a && ((l.getD i z79).f1 == b))
def hasE (l : List S79) (a b : Int) : Bool := if (List.range l.length).all (fun i => !eqAt l a b i) then false else true
theorem spec_l05Has_ev (l : List S79) (a b : Int) (hl : l.length ≤ 4611686018427387904) : Ev (fun k => spec_l05Has.f k l a b) (hasE l a b) := by
  simp only [spec_l05Has.f, hasE]
  refine Ev.allloop (L := fun k i => spec_l05Has.l0 k l i a b) (n := l.length) (fun i => !eqAt l a b i) true false ?_ ?_ ?_
  · intro i r hi hp h
    simp only [Bool.not_eq_true'] at hp
    unfold eqAt at hp
    refine Ev.step (fun k => by rw [spec_l05Has.l0, if_pos (by omega), if_pos (by omega), rd_T79, Int.toNat_natCast, hp, if_neg (by simp), wrap_succ hi hl]) ?_
    exact h
  · intro i hi hp
    simp only [Bool.not_eq_false'] at hp
    unfold eqAt at hp
    refine Ev.step (fun k => by rw [spec_l05Has.l0, if_pos (by omega), if_pos (by omega), rd_T79, Int.toNat_natCast, hp, if_pos rfl]) ?_
    exact Ev.now _
  · refine Ev.step (fun k => by rw [spec_l05Has.l0, if_neg (by omega)]) ?_
    exact Ev.now _
theorem hasE_iff {l : List S79} {a b : Int} : hasE l a b = true ↔ ∃ e ∈ l, e.f0 = a ∧ e.f1 = b := by
  have e : (List.range l.length).all (fun i => !eqAt l a b i) = l.all (fun e => !(e.f0 == a && (e.f1 == b))) := range_all_getD l z79 (fun e => !(e.f0 == a && (e.f1 == b)))
  rw [hasE, e]
  constructor
  · intro h
    split at h
    · cases h
    · rename_i hn
      obtain ⟨x, hx, hy⟩ := List.all_eq_false.1 (Bool.eq_false_iff.2 hn)
      simp at hy
      exact ⟨x, hx, hy⟩
  · rintro ⟨x, hx, rfl, rfl⟩
    split
    · rename_i hn
      simp only [List.all_eq_true] at hn
      have := hn x hx
      simp at this
    · rfl

/-! ascending rows -/
theorem asc_ext : ∀ {l m : List Int}, l.Pairwise (· < ·) → m.Pairwise (· < ·) → (∀ x, x ∈ l ↔ x ∈ m) → l = m
  | [], [], _, _, _ => rfl
  | [], b :: m, _, _, h => absurd ((h b).2 List.mem_cons_self) (by simp)
  | a :: l, [], _, _, h => absurd ((h a).1 List.mem_cons_self) (by simp)
  | a :: l, b :: m, hl, hm, h => by
    rw [List.pairwise_cons] at hl hm
    have hab : a = b := by
      have h1 := (h a).1 List.mem_cons_self
      have h2 := (h b).2 List.mem_cons_self
      rcases List.mem_cons.1 h1 with e | e
      · exact e
      · rcases List.mem_cons.1 h2 with e2 | e2
        · exact e2.symm
        · have := hm.1 a e; have := hl.1 b e2; omega
    subst hab
    rw [asc_ext hl.2 hm.2 (fun x => ⟨fun hx => by
      rcases List.mem_cons.1 ((h x).1 (List.mem_cons_of_mem _ hx)) with e | e
      · have := hl.1 x hx; omega
      · exact e, fun hx => by
      rcases List.mem_cons.1 ((h x).2 (List.mem_cons_of_mem _ hx)) with e | e
      · have := hm.1 x hx; omega
      · exact e⟩)]
def insS : List Int → Int → List Int
  | [], n => [n]
  | x :: l, n => if x < n then x :: insS l n else if x = n then x :: l else n :: x :: l
theorem insS_mem {n y : Int} : ∀ {l : List Int}, y ∈ insS l n ↔ y = n ∨ y ∈ l
  | [] => by simp [insS]
  | x :: l => by
    rw [insS]
    split
    · rw [List.mem_cons, insS_mem, List.mem_cons]
      constructor
      · rintro (h | h | h) <;> simp [h]
      · rintro (h | h | h) <;> simp [h]
    · split
      · rename_i h; subst h; simp
      · simp
theorem insS_asc {n : Int} : ∀ {l : List Int}, l.Pairwise (· < ·) → (insS l n).Pairwise (· < ·)
  | [], _ => by simp [insS]
  | x :: l, h => by
    rw [insS]
    have h' := List.pairwise_cons.1 h
    split
    · rename_i hx
      refine List.pairwise_cons.2 ⟨fun y hy => ?_, insS_asc h'.2⟩
      rcases insS_mem.1 hy with e | e
      · omega
      · exact h'.1 y e
    · split
      · exact h
      · refine List.pairwise_cons.2 ⟨fun y hy => ?_, h⟩
        rcases List.mem_cons.1 hy with e | e
        · omega
        · have := h'.1 y e; omega
theorem insS_len (n : Int) : ∀ (l : List Int), (insS l n).length ≤ l.length + 1
  | [] => by simp [insS]
  | x :: l => by
    rw [insS]
    have := insS_len n l
    split
    · simp; omega
    · split <;> simp

theorem impl_copyInts_eq (l : List Int) (hl : l.length < 17592186044416) : impl_copyInts.f l = some l := by
  simp [impl_copyInts.f, hl]
theorem impl_with_ev (l : List Int) (n : Int) (hl : l.length ≤ 1048576) : Ev (fun k => impl_with.f k l n) (insS l n) := by
  simp only [impl_with.f]
  have key : ∀ (d i : Nat), i + d = l.length → Ev (fun k => impl_with.l0 k l n i) (l.take i ++ insS (l.drop i) n) := by
    intro d
    induction d with
    | zero =>
      intro i hi
      have hcp : impl_copyInts.f (l.take ((i : Nat) : Int).toNat) = some (l.take i) := by
        rw [Int.toNat_natCast]; exact impl_copyInts_eq _ (by rw [List.length_take]; omega)
      refine Ev.step (fun k => by rw [impl_with.l0, if_neg (by omega), if_pos (by omega), if_pos (by omega), hcp]) ?_
      simp only [Option.bind_some, List.length_take, List.length_singleton, List.length_append, List.length_drop, Int.toNat_natCast]
      rw [if_pos (by omega), if_pos (by omega), List.drop_of_length_le (by omega), insS, List.append_nil]
      exact Ev.now _
    | succ d ih =>
      intro i hi
      have hil : i < l.length := by omega
      have hg : rd l (i : Int) = l[i] := by simp [rd, List.getD_eq_getElem?_getD, List.getElem?_eq_getElem hil]
      have hcp : impl_copyInts.f (l.take ((i : Nat) : Int).toNat) = some (l.take i) := by
        rw [Int.toNat_natCast]; exact impl_copyInts_eq _ (by rw [List.length_take]; omega)
      rw [List.drop_eq_getElem_cons hil, insS]
      by_cases h1 : l[i] < n
      · rw [if_pos h1]
        have := ih (i + 1) (by omega)
        rw [List.take_succ_eq_append_getElem hil, List.append_assoc] at this
        refine Ev.step (fun k => by rw [impl_with.l0, if_pos (by omega), if_pos (by omega), hg, if_pos h1, wrap_succ hil (by omega)]) ?_
        exact this
      · rw [if_neg h1]
        by_cases h2 : l[i] = n
        · rw [if_pos h2, ← List.drop_eq_getElem_cons hil, List.take_append_drop]
          refine Ev.step (fun k => by rw [impl_with.l0, if_pos (by omega), if_pos (by omega), hg, if_neg h1, if_pos h2]) ?_
          exact Ev.now _
        · rw [if_neg h2]
          refine Ev.step (fun k => by rw [impl_with.l0, if_pos (by omega), if_pos (by omega), hg, if_neg h1, if_neg h2, if_pos (by omega), hcp]) ?_
          simp only [Option.bind_some, List.length_take, List.length_singleton, List.length_append, List.length_drop, Int.toNat_natCast]
          rw [if_pos (by omega), if_pos (by omega), ← List.drop_eq_getElem_cons hil]
          have e : l.take i ++ n :: l.drop i = l.take i ++ [n] ++ l.drop i := by simp
          rw [e]
          exact Ev.now _
  have := key l.length 0 (by omega)
  simpa using this

/-! what lies around a vertex -/
def aroundStep (v : Int) (acc : List Int) (e : S79) : List Int :=
  let acc1 := if e.f0 = v then insS acc e.f1 else acc
  if e.f1 = v then insS acc1 e.f0 else acc1
def nbr (l : List S79) (v x : Int) : Prop := ∃ e ∈ l, (e.f0 = v ∧ e.f1 = x) ∨ (e.f1 = v ∧ e.f0 = x)
theorem aroundStep_mem {v x : Int} {acc : List Int} {e : S79} : x ∈ aroundStep v acc e ↔ x ∈ acc ∨ (e.f0 = v ∧ e.f1 = x) ∨ (e.f1 = v ∧ e.f0 = x) := by
  unfold aroundStep
  by_cases h0 : e.f0 = v
  · by_cases h1 : e.f1 = v
    · simp only [if_pos h0, if_pos h1, insS_mem]
      constructor
      · rintro (h | h | h)
        · exact .inr (.inr ⟨h1, h.symm⟩)
        · exact .inr (.inl ⟨h0, h.symm⟩)
        · exact .inl h
      · rintro (h | ⟨_, h⟩ | ⟨_, h⟩)
        · exact .inr (.inr h)
        · exact .inr (.inl h.symm)
        · exact .inl h.symm
    · simp only [if_pos h0, if_neg h1, insS_mem]
      constructor
      · rintro (h | h)
        · exact .inr (.inl ⟨h0, h.symm⟩)
        · exact .inl h
      · rintro (h | ⟨_, h⟩ | ⟨h, _⟩)
        · exact .inr h
        · exact .inl h.symm
        · exact absurd h h1
  · by_cases h1 : e.f1 = v
    · simp only [if_neg h0, if_pos h1, insS_mem]
      constructor
      · rintro (h | h)
        · exact .inr (.inr ⟨h1, h.symm⟩)
        · exact .inl h
      · rintro (h | ⟨h, _⟩ | ⟨_, h⟩)
        · exact .inr h
        · exact absurd h h0
        · exact .inl h.symm
    · simp only [if_neg h0, if_neg h1]
      constructor
      · exact .inl
      · rintro (h | ⟨h, _⟩ | ⟨h, _⟩)
        · exact h
        · exact absurd h h0
        · exact absurd h h1
theorem aroundStep_asc {v : Int} {acc : List Int} {e : S79} (h : acc.Pairwise (· < ·)) : (aroundStep v acc e).Pairwise (· < ·) := by
  unfold aroundStep
  have h1 : (if e.f0 = v then insS acc e.f1 else acc).Pairwise (· < ·) := by
    split
    · exact insS_asc h
    · exact h
  dsimp only
  split
  · exact insS_asc h1
  · exact h1
theorem aroundStep_len {v : Int} {acc : List Int} {e : S79} : (aroundStep v acc e).length ≤ acc.length + 2 := by
  unfold aroundStep
  have h0 : (if e.f0 = v then insS acc e.f1 else acc).length ≤ acc.length + 1 := by
    split
    · exact insS_len _ _
    · omega
  dsimp only
  split
  · have := insS_len e.f0 (if e.f0 = v then insS acc e.f1 else acc); omega
  · omega
theorem aroundF_mem {v x : Int} : ∀ {l : List S79} {acc : List Int}, x ∈ l.foldl (aroundStep v) acc ↔ x ∈ acc ∨ nbr l v x
  | [], acc => by simp [nbr]
  | e :: l, acc => by
    rw [List.foldl_cons, aroundF_mem, aroundStep_mem, or_assoc]
    refine or_congr Iff.rfl ⟨?_, ?_⟩
    · rintro (h | ⟨e', h1, h2⟩)
      · exact ⟨e, List.mem_cons_self, h⟩
      · exact ⟨e', List.mem_cons_of_mem _ h1, h2⟩
    · rintro ⟨e', h1, h2⟩
      rcases List.mem_cons.1 h1 with h | h
      · subst h; exact .inl h2
      · exact .inr ⟨e', h, h2⟩
theorem aroundF_asc {v : Int} : ∀ {l : List S79} {acc : List Int}, acc.Pairwise (· < ·) → (l.foldl (aroundStep v) acc).Pairwise (· < ·)
  | [], _, h => h
  | e :: l, acc, h => by rw [List.foldl_cons]; exact aroundF_asc (aroundStep_asc h)
def aroundP (n : Int) (l : List S79) (v : Int) : List Int := if graphOk n l = true then l.foldl (aroundStep v) [] else []
theorem impl_Around_ev (n : Int) (l : List S79) (v : Int) (hl : l.length ≤ 1048576) : Ev (fun k => impl_Around.f k n l v) (aroundP n l v) := by
  simp only [impl_Around.f]
  refine Ev.bind (impl_GraphOk_ev n l (by omega)) ?_
  unfold aroundP
  by_cases hg : graphOk n l = true
  · simp only [if_pos hg]
    obtain ⟨_, h66, _⟩ := graphOk_mem hg
    have := Ev.loopR (σ := List Int) (L := fun k s i => impl_Around.l0 k v s l (l.length : Int) i) (n := l.length) (fun i s => (l.drop i).foldl (aroundStep v) s) (fun i s => s.length ≤ 2 * i) ?_ ?_ l.length 0 [] (by omega) (by simp)
    · simpa using this
    · intro i s hi hs
      right
      have hg : rd_T79 l (i : Int) = l[i] := by simp [rd_T79, List.getD_eq_getElem?_getD, List.getElem?_eq_getElem hi]
      refine ⟨aroundStep v s l[i], ?_, ?_, ?_⟩
      · have := aroundStep_len (v := v) (acc := s) (e := l[i]); omega
      · rw [List.drop_eq_getElem_cons hi, List.foldl_cons]
      · intro r hr
        unfold aroundStep at hr
        by_cases h0 : l[i].f0 = v
        · by_cases h1 : l[i].f1 = v
          · simp only [if_pos h0, if_pos h1] at hr
            refine Ev.step (fun k => by rw [impl_Around.l0, if_pos (by omega), if_pos (by omega), if_pos (by omega), hg, if_pos h0, wrap_succ hi (by omega)]) ?_
            refine Ev.bind (impl_with_ev s _ (by omega)) ?_
            simp only [if_pos h1]
            refine Ev.bind (impl_with_ev _ _ (by have := insS_len l[i].f1 s; omega)) ?_
            exact hr
          · simp only [if_pos h0, if_neg h1] at hr
            refine Ev.step (fun k => by rw [impl_Around.l0, if_pos (by omega), if_pos (by omega), if_pos (by omega), hg, if_pos h0, wrap_succ hi (by omega)]) ?_
            refine Ev.bind (impl_with_ev s _ (by omega)) ?_
            simp only [if_neg h1]
            exact hr
        · by_cases h1 : l[i].f1 = v
          · simp only [if_neg h0, if_pos h1] at hr
            refine Ev.step (fun k => by rw [impl_Around.l0, if_pos (by omega), if_pos (by omega), if_pos (by omega), hg, if_neg h0, if_pos h1, wrap_succ hi (by omega)]) ?_
            refine Ev.bind (impl_with_ev s _ (by omega)) ?_
            exact hr
          · simp only [if_neg h0, if_neg h1] at hr
            refine Ev.step (fun k => by rw [impl_Around.l0, if_pos (by omega), if_pos (by omega), if_pos (by omega), hg, if_neg h0, if_neg h1, wrap_succ hi (by omega)]) ?_
            exact hr
    · intro s hs
      refine Ev.step (fun k => by rw [impl_Around.l0, if_neg (by omega)]) ?_
      simp only [List.drop_length, List.foldl_nil]
      exact Ev.now _
  · simp only [if_neg hg]
    exact Ev.now _
theorem range_asc (p : Nat → Bool) : ∀ n : Nat, (((List.range n).filter p).map (fun (i : Nat) => (i : Int))).Pairwise (· < ·) := by
  intro n
  rw [List.pairwise_map]
  refine List.Pairwise.filter _ ?_
  refine List.Pairwise.imp ?_ List.pairwise_lt_range
  intro a b h; omega
theorem range_flatMap_if (p : Nat → Bool) (n : Nat) : (List.range n).flatMap (fun i => if p i then [(i : Int)] else []) = ((List.range n).filter p).map (fun (i : Nat) => (i : Int)) := by
  induction n with
  | zero => rfl
  | succ n ih =>
    rw [List.range_succ, List.flatMap_append, ih, List.filter_append, List.map_append]
    congr 1
    by_cases h : p n
    · simp [h]
    · simp [h]
theorem spec_Around_ev (n : Int) (l : List S79) (v : Int) (hl : l.length ≤ 1048576) : Ev (fun k => spec_Around.f k n l v) (aroundP n l v) := by
  simp only [spec_Around.f, Option.bind_some]
  refine Ev.bind (spec_GraphOk_ev n l (by omega)) ?_
  unfold aroundP
  by_cases hg : graphOk n l = true
  · simp only [if_pos hg]
    obtain ⟨⟨h1, h12⟩, h66, hm⟩ := graphOk_mem hg
    obtain ⟨m, rfl⟩ : ∃ m : Nat, n = m := ⟨n.toNat, by omega⟩
    let p : Nat → Bool := fun i => hasE l i v || hasE l v i
    have hlen : ∀ i : Nat, ((List.range i).flatMap (fun i => if p i then [(i : Int)] else [])).length ≤ i := by
      intro i
      rw [range_flatMap_if, List.length_map]
      exact Nat.le_trans (List.length_filter_le _ _) (by simp)
    have := Ev.apploop (L := fun k x i => spec_Around.l0 k v x i (m : Int) l) (n := m) (fun i => if p i then [(i : Int)] else []) id [] ?_ ?_
    · rw [List.nil_append, range_flatMap_if] at this
      have e : ((List.range m).filter p).map (fun (i : Nat) => (i : Int)) = l.foldl (aroundStep v) [] := by
        refine asc_ext (range_asc _ _) (aroundF_asc List.Pairwise.nil) (fun x => ?_)
        rw [aroundF_mem]
        simp only [List.not_mem_nil, false_or, List.mem_map, List.mem_filter, List.mem_range]
        constructor
        · rintro ⟨i, ⟨hi, hp⟩, rfl⟩
          rcases Bool.or_eq_true_iff.1 hp with h | h
          · obtain ⟨e, he, e0, e1⟩ := hasE_iff.1 h
            exact ⟨e, he, .inr ⟨e1, e0⟩⟩
          · obtain ⟨e, he, e0, e1⟩ := hasE_iff.1 h
            exact ⟨e, he, .inl ⟨e0, e1⟩⟩
        · rintro ⟨e, he, h⟩
          have hb := hm e he
          rcases h with ⟨e0, e1⟩ | ⟨e1, e0⟩
          · refine ⟨x.toNat, ⟨by omega, Bool.or_eq_true_iff.2 (.inr (hasE_iff.2 ⟨e, he, by omega, by omega⟩))⟩, by omega⟩
          · refine ⟨x.toNat, ⟨by omega, Bool.or_eq_true_iff.2 (.inl (hasE_iff.2 ⟨e, he, by omega, by omega⟩))⟩, by omega⟩
      rw [e] at this
      exact this
    · intro i x r hi hx h
      have hxl : x.length ≤ i := by rw [hx, List.nil_append]; exact hlen i
      refine Ev.step (fun k => by rw [spec_Around.l0, if_pos (by omega), wrap_succ hi (by omega)]) ?_
      refine Ev.bind (spec_l05Has_ev l i v (by omega)) ?_
      by_cases c1 : hasE l i v = true
      · have hp : p i = true := by show (hasE l i v || hasE l v i) = true; rw [c1]; rfl
        simp only [if_pos c1, if_pos (show x.length < 17592186044416 by omega)]
        simp only [if_pos hp] at h
        exact h
      · simp only [if_neg c1]
        refine Ev.bind (spec_l05Has_ev l v i (by omega)) ?_
        by_cases c2 : hasE l v i = true
        · have hp : p i = true := by show (hasE l i v || hasE l v i) = true; rw [c2, Bool.or_true]
          simp only [if_pos c2, if_pos (show x.length < 17592186044416 by omega)]
          simp only [if_pos hp] at h
          exact h
        · have hp : ¬ p i = true := by show ¬ (hasE l i v || hasE l v i) = true; rw [Bool.or_eq_true]; exact fun h => h.elim c1 c2
          simp only [if_neg c2]
          simp only [if_neg hp, List.append_nil] at h
          exact h
    · intro x hx
      refine Ev.step (fun k => by rw [spec_Around.l0, if_neg (by omega)]) ?_
      exact Ev.now _
  · simp only [if_neg hg]
    exact Ev.now _

theorem aroundP_len (n : Int) (l : List S79) (v : Int) : (aroundP n l v).length ≤ 1000 := by
  unfold aroundP
  split
  · rename_i hg
    obtain ⟨_, h66, _⟩ := graphOk_mem hg
    have key : ∀ (l : List S79) (acc : List Int), (l.foldl (aroundStep v) acc).length ≤ acc.length + 2 * l.length := by
      intro l
      induction l with
      | nil => intro acc; simp
      | cons e l ih =>
        intro acc
        rw [List.foldl_cons, List.length_cons]
        have := ih (aroundStep v acc e)
        have := aroundStep_len (v := v) (acc := acc) (e := e)
        omega
    have := key l []
    simp at this; omega
  · simp
theorem FnExactAround_pure (n : Int) (l : List S76) (v : Int) (q0 : (Go.Lit.int .i64 n).wf = true) (q1 : l.length ≤ 9223372036854775807 ∧ ∀ a ∈ l, (Go.Lit.int .i64 a.f0).wf = true ∧ (Go.Lit.int .i64 a.f1).wf = true) (q2 : (Go.Lit.int .i64 v).wf = true) : ∃ k, laws_FnExactAround.f k n l v = some true := by
  refine Ev.rounds (g := fun k => laws_FnExactAround.f k n l v) ?_
  simp only [laws_FnExactAround.f, laws_szGraph_eq n l 1048576 q1.1 (by omega) (by omega), Option.bind_some]
  by_cases h : (1048576 : Int) - l.length < 0
  · simp only [if_pos h, show ((-1 : Int) < 0) = True by simp, if_true]; exact Ev.now _
  · have hl : l.length ≤ 1048576 := by omega
    have hl3 : (l.map toE).length ≤ 1048576 := by rw [List.length_map]; omega
    have hl2 : (l.map toE).length ≤ 4611686018427387904 := by omega
    have hlab := aroundP_len n (l.map toE) v
    simp only [if_neg h]
    refine Ev.bind (laws_toGraph_ev n l hl) ?_
    refine Ev.bind (spec_Around_ev n _ v hl3) ?_
    refine Ev.bind (laws_toGraph_ev n l hl) ?_
    refine Ev.bind (impl_Around_ev n _ v hl3) ?_
    refine Ev.bind (laws_eqIntS_refl (aroundP n (l.map toE) v) (by omega)) ?_
    simp only [if_true]
    refine Ev.bind (laws_toGraph_ev n l hl) ?_
    refine Ev.bind (laws_eqGraph_refl n _ hl2) ?_
    simp only [if_true]
    refine Ev.bind (laws_markGraph_ev n _ 1 (by omega) (by omega) (by omega)) ?_
    simp only [if_neg (show ¬ (1 + 2 * ((l.map toE).length : Int) < 0) by omega)]
    refine Ev.bind (laws_eqIntS_refl (aroundP n (l.map toE) v) (by omega)) ?_
    simp only [Bool.not_true]
    refine Ev.step (fun k => by rw [laws_FnExactAround.j0, if_neg (by simp)]) ?_
    refine Ev.bind (laws_markIntS_ev _ 1 (by omega) (by omega) (by omega)) ?_
    refine Ev.bind (laws_heldIntS_ev 1 _ (by omega) (by omega) (by omega)) ?_
    simp only [if_neg (show ¬ (1 + ((aroundP n (l.map toE) v).length : Int) < 0) by omega), if_true]
    refine Ev.bind (laws_toGraph_ev n l hl) ?_
    refine Ev.bind (impl_Around_ev n _ v hl3) ?_
    refine Ev.bind (laws_eqIntS_refl (aroundP n (l.map toE) v) (by omega)) ?_
    simp only [if_true]
    refine Ev.bind (laws_heldIntS_ev 1 _ (by omega) (by omega) (by omega)) ?_
    simp only [if_neg (show ¬ (1 + ((aroundP n (l.map toE) v).length : Int) < 0) by omega), if_true]
    exact Ev.now _

end Go.Proofs.Ytigeiofkbccocaa.Pure
