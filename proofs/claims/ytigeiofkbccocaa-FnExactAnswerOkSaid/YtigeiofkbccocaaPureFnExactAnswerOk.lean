/- For every number and answer AnswerOk of the program and of the reference tell the same. No condition is laid beside the statement. -/
import Derived.Test.YtigeiofkbccocaaQFnExactAnswerOkx6
import Derived.Laws.BitsLemmas
import Derived.Lib.Bytes
import Derived.OpenShut
namespace Go.Proofs.Ytigeiofkbccocaa.Pure
open Go.RowKit Go.Proofs.Ytigeiofkbccocaa.QFnExactAnswerOk Go.Proofs.YtigeiofkbccocaaW.PrintWords Go.Proofs.YtigeiofkbccocaaW.PrintLast
set_option linter.unusedVariables false
set_option linter.unusedSimpArgs false


/-! loops in general -/
theorem wrap_succ {i n : Nat} (h : i < n) (hn : n ≤ 4611686018427387904) : wrap64 ((i : Int) + 1) = ((i + 1 : Nat) : Int) := by unfold wrap64; omega
theorem Ev.loopR {σ β : Type} {L : Nat → σ → Int → Option β} {n : Nat} (R : Nat → σ → β) (I : Nat → σ → Prop)
    (hstep : ∀ (i : Nat) s, i < n → I i s → Ev (fun k => L k s i) (R i s) ∨ ∃ s', I (i + 1) s' ∧ R i s = R (i + 1) s' ∧ ∀ r, Ev (fun k => L k s' ((i + 1 : Nat) : Int)) r → Ev (fun k => L k s i) r)
    (hend : ∀ s, I n s → Ev (fun k => L k s n) (R n s)) : ∀ (d i : Nat) (s : σ), i + d = n → I i s → Ev (fun k => L k s i) (R i s) := by
  intro d
  induction d with
  | zero =>
    intro i s hi hI
    have : i = n := by omega
    subst this
    exact hend s hI
  | succ d ih =>
    intro i s hi hI
    rcases hstep i s (by omega) hI with h | ⟨s', h1, h2, h3⟩
    · exact h
    · rw [h2]
      exact h3 _ (ih (i + 1) s' (by omega) h1)
/-- A loop that builds by appending. -/
theorem Ev.apploop {β γ : Type} {L : Nat → List γ → Int → Option β} {n : Nat} (g : Nat → List γ) (fin : List γ → β) (a0 : List γ)
    (hstep : ∀ (i : Nat) x r, i < n → x = a0 ++ (List.range i).flatMap g → Ev (fun k => L k (x ++ g i) ((i + 1 : Nat) : Int)) r → Ev (fun k => L k x i) r)
    (hend : ∀ x, x = a0 ++ (List.range n).flatMap g → Ev (fun k => L k x n) (fin x)) : Ev (fun k => L k a0 0) (fin (a0 ++ (List.range n).flatMap g)) := by
  have key := Ev.loopR (L := L) (n := n) (fun _ _ => fin (a0 ++ (List.range n).flatMap g)) (fun i x => x = a0 ++ (List.range i).flatMap g) (by
    intro i x hi hx
    right
    refine ⟨x ++ g i, by rw [hx, List.range_succ, List.flatMap_append]; simp, rfl, fun r hr => hstep i x r hi hx hr⟩) (by
    intro x hx
    have := hend x hx
    rw [hx] at this ⊢
    exact this)
  exact key n 0 a0 (by omega) (by simp)
/-- A loop that writes every element of a row. -/
theorem Ev.setloop' {β γ : Type} {L : Nat → List γ → Int → Option β} {n : Nat} (g : Nat → γ) (x0 : List γ) (h0 : x0.length = n) (fin : List γ → β)
    (hstep : ∀ (i : Nat) x r, i < n → x.length = n → Ev (fun k => L k (x.set i (g i)) ((i + 1 : Nat) : Int)) r → Ev (fun k => L k x i) r)
    (hend : ∀ x, x.length = n → Ev (fun k => L k x n) (fin x)) : Ev (fun k => L k x0 0) (fin ((List.range n).map g)) := by
  have key := Ev.loopR (L := L) (n := n) (fun _ _ => fin ((List.range n).map g)) (fun i x => x.length = n ∧ ∀ j, j < i → x[j]? = some (g j)) (by
    intro i x hi hx
    right
    refine ⟨x.set i (g i), ⟨by rw [List.length_set]; exact hx.1, fun j hj => ?_⟩, rfl, fun r hr => hstep i x r hi hx.1 hr⟩
    by_cases hji : j = i
    · subst hji
      rw [List.getElem?_set_self (by omega)]
    · rw [List.getElem?_set_ne (by omega)]
      exact hx.2 j (by omega)) (by
    intro x hx
    have hxe : x = (List.range n).map g := by
      apply List.ext_getElem?
      intro j
      by_cases hj : j < n
      · rw [hx.2 j hj]; simp [hj]
      · rw [List.getElem?_eq_none (by omega), List.getElem?_eq_none (by simp; omega)]
    rw [← hxe]
    exact hend x hx.1)
  exact key n 0 _ (by omega) ⟨h0, fun j hj => by omega⟩
/-- A loop that fills what was made. -/
theorem Ev.setloop {β γ : Type} {L : Nat → List γ → Int → Option β} {n : Nat} (g : Nat → γ) (z : γ) (fin : List γ → β)
    (hstep : ∀ (i : Nat) x r, i < n → x.length = n → Ev (fun k => L k (x.set i (g i)) ((i + 1 : Nat) : Int)) r → Ev (fun k => L k x i) r)
    (hend : ∀ x, x.length = n → Ev (fun k => L k x n) (fin x)) : Ev (fun k => L k (List.replicate n z) 0) (fin ((List.range n).map g)) :=
  Ev.setloop' g _ (by simp) fin hstep hend
/-- A loop that asks something of each index. -/
theorem Ev.allloop {β : Type} {L : Nat → Int → Option β} {n : Nat} (p : Nat → Bool) (c fin : β)
    (hstep : ∀ (i : Nat) r, i < n → p i = true → Ev (fun k => L k ((i + 1 : Nat) : Int)) r → Ev (fun k => L k i) r)
    (hno : ∀ (i : Nat), i < n → p i = false → Ev (fun k => L k i) c)
    (hend : Ev (fun k => L k n) fin) : Ev (fun k => L k 0) (if (List.range n).all p then fin else c) := by
  have key := Ev.loopR (σ := Unit) (L := fun k _ i => L k i) (n := n) (fun i _ => if (List.range' i (n - i)).all p then fin else c) (fun _ _ => True) (by
    intro i _ hi _
    have e : List.range' i (n - i) = i :: List.range' (i + 1) (n - (i + 1)) := by
      have : n - i = (n - (i + 1)) + 1 := by omega
      rw [this, List.range'_succ]
    cases hp : p i with
    | true => right; exact ⟨(), trivial, by rw [e, List.all_cons, hp, Bool.true_and], fun r hr => hstep i r hi hp hr⟩
    | false => left; rw [e, List.all_cons, hp, Bool.false_and]; exact hno i hi hp) (by
    intro _ _
    simpa using hend)
  have := key n 0 () (by omega) trivial
  rw [List.range_eq_range']
  simpa using this
theorem range_map_getD {α β : Type} (l : List α) (d : α) (h : α → β) : (List.range l.length).map (fun i => h (l.getD i d)) = l.map h := by
  apply List.ext_getElem
  · simp
  · intro i h1 h2
    simp at h1 h2
    simp [List.getD_eq_getElem?_getD, List.getElem?_eq_getElem h2]
theorem range_flatMap_getD {α β : Type} (l : List α) (d : α) (h : α → List β) : (List.range l.length).flatMap (fun i => h (l.getD i d)) = l.flatMap h := by
  have := congrArg List.flatten (range_map_getD l d h)
  rw [List.flatMap_def, List.flatMap_def]; exact this
theorem range_all_getD {α : Type} (l : List α) (d : α) (h : α → Bool) : (List.range l.length).all (fun i => h (l.getD i d)) = l.all h := by
  have := congrArg (fun l => l.all id) (range_map_getD l d h)
  simpa [List.all_map] using this
theorem flatMap_single {α β : Type} (l : List α) (g : α → β) : l.flatMap (fun x => [g x]) = l.map g := by
  induction l with
  | nil => rfl
  | cons a l ih => simp [ih]
/-- A loop that looks for the first index. -/
def findR {β : Type} (p : Nat → Bool) (c : Nat → β) (fin : β) : Nat → Nat → β
  | 0, _ => fin
  | d + 1, i => if p i then c i else findR p c fin d (i + 1)
theorem Ev.findloop {β : Type} {L : Nat → Int → Option β} {n : Nat} (p : Nat → Bool) (c : Nat → β) (fin : β)
    (hstep : ∀ (i : Nat) r, i < n → p i = false → Ev (fun k => L k ((i + 1 : Nat) : Int)) r → Ev (fun k => L k i) r)
    (hhit : ∀ (i : Nat), i < n → p i = true → Ev (fun k => L k i) (c i))
    (hend : Ev (fun k => L k n) fin) : Ev (fun k => L k 0) (findR p c fin n 0) := by
  have key := Ev.loopR (σ := Unit) (L := fun k _ i => L k i) (n := n) (fun i _ => findR p c fin (n - i) i) (fun _ _ => True) (by
    intro i _ hi _
    have e : findR p c fin (n - i) i = if p i then c i else findR p c fin (n - (i + 1)) (i + 1) := by
      have : n - i = (n - (i + 1)) + 1 := by omega
      rw [this, findR]
    cases hp : p i with
    | false => right; exact ⟨(), trivial, by rw [e, hp]; rfl, fun r hr => hstep i r hi hp hr⟩
    | true => left; rw [e, hp]; exact hhit i hi hp) (by
    intro _ _
    simpa [findR] using hend)
  have := key n 0 () (by omega) trivial
  simpa using this

/-! edges that are right -/
theorem spec_in_eq (a b c : Int) : spec_l01In.f a b c = some (decide (b ≤ a ∧ a ≤ c)) := by
  unfold spec_l01In.f
  by_cases h : a ≥ b
  · have h' : b ≤ a := h
    simp [h']
  · have h' : ¬ b ≤ a := h
    simp [h']
theorem impl_in_eq (a b c : Int) : impl_in.f a b c = some (decide (b ≤ a ∧ a ≤ c)) := by
  unfold impl_in.f
  by_cases h : a ≥ b
  · have h' : b ≤ a := h
    simp [h']
  · have h' : ¬ b ≤ a := h
    simp [h']
def edgeOk (n a b : Int) : Bool := decide ((1 ≤ n ∧ n ≤ 12) ∧ (0 ≤ a ∧ a ≤ n - 1) ∧ (0 ≤ b ∧ b ≤ n - 1) ∧ a < b)
theorem spec_EdgeOk_eq (n a b : Int) : spec_EdgeOk.f n a b = some (edgeOk n a b) := by
  unfold spec_EdgeOk.f edgeOk
  simp only [spec_in_eq, Option.bind_some, decide_eq_true_eq]
  by_cases h1 : 1 ≤ n ∧ n ≤ 12
  · have e : wrap64 (n - 1) = n - 1 := by unfold wrap64; omega
    rw [if_pos h1, e]
    by_cases h2 : 0 ≤ a ∧ a ≤ n - 1
    · rw [if_pos h2]
      by_cases h3 : 0 ≤ b ∧ b ≤ n - 1
      · rw [if_pos h3]; simp [h1, h2, h3]
      · rw [if_neg h3, decide_eq_false (fun h => h3 h.2.2.1)]
    · rw [if_neg h2, decide_eq_false (fun h => h2 h.2.1)]
  · rw [if_neg h1, decide_eq_false (fun h => h1 h.1)]
theorem impl_EdgeOk_eq (n a b : Int) : impl_EdgeOk.f n a b = some (edgeOk n a b) := by
  unfold impl_EdgeOk.f edgeOk
  simp only [impl_in_eq, Option.bind_some, decide_eq_true_eq]
  by_cases h1 : 1 ≤ n ∧ n ≤ 12
  · have e : wrap64 (n - 1) = n - 1 := by unfold wrap64; omega
    rw [if_pos h1, e]
    by_cases h2 : 0 ≤ a ∧ a ≤ n - 1
    · rw [if_pos h2]
      by_cases h3 : 0 ≤ b ∧ b ≤ n - 1
      · rw [if_pos h3]; simp [h1, h2, h3]
      · rw [if_neg h3, decide_eq_false (fun h => h3 h.2.2.1)]
    · rw [if_neg h2, decide_eq_false (fun h => h2 h.2.1)]
  · rw [if_neg h1, decide_eq_false (fun h => h1 h.1)]

/-! the law's own functions over graphs -/
def toE (e : S76) : S79 := ⟨e.f0, e.f1⟩
theorem laws_szEdgeS_eq (l : List S76) (a : Int) (hl : l.length ≤ 9223372036854775807) (h0 : 0 ≤ a) (h1 : a ≤ 1048576) : laws_szEdgeS.f l a = some (if a - l.length < 0 then -1 else a - l.length) := by
  unfold laws_szEdgeS.f
  have : wrap64 (a - (l.length : Int)) = a - l.length := by unfold wrap64; omega
  rw [this]
  split <;> rfl
theorem laws_toEdgeS_ev (l : List S76) (hl : l.length ≤ 1048576) : Ev (fun k => laws_toEdgeS.f k l) (l.map toE) := by
  simp only [laws_toEdgeS.f, if_pos (show (0 : Int) ≤ (l.length : Int) by omega), Int.toNat_natCast, if_pos (show l.length ≤ 17592186044416 by omega)]
  have := Ev.setloop (L := fun k x i => laws_toEdgeS.l0 k l x i) (n := l.length) (fun i => toE (l.getD i z76)) z79 id (by
    intro i x r hi hx h
    refine Ev.step (fun k => by rw [laws_toEdgeS.l0, if_pos (by omega), if_pos (by omega), laws_toEdge.f, Option.bind_some, if_pos (by omega), wrap_succ hi (by omega)]) ?_
    exact h) (by
    intro x hx
    refine Ev.step (fun k => by rw [laws_toEdgeS.l0, if_neg (by omega)]) ?_
    exact Ev.now _)
  rw [range_map_getD] at this
  exact this
theorem laws_eqEdge_refl (a b : Int) : laws_eqEdge.f a b a b = some true := by simp [laws_eqEdge.f]
theorem laws_eqEdgeS_refl (l : List S79) (hl : l.length ≤ 4611686018427387904) : Ev (fun k => laws_eqEdgeS.f k l l) true := by
  simp only [laws_eqEdgeS.f, if_true]
  have := Ev.allloop (L := fun k i => laws_eqEdgeS.l0 k l l i) (n := l.length) (fun _ => true) false true (by
    intro i r hi _ h
    refine Ev.step (fun k => by rw [laws_eqEdgeS.l0, if_pos (by omega), if_pos (by omega), if_pos (by omega), laws_eqEdge_refl, Option.bind_some, if_pos rfl, wrap_succ hi hl]) ?_
    exact h) (by intro i _ h; cases h) (by
    refine Ev.step (fun k => by rw [laws_eqEdgeS.l0, if_neg (by omega)]) ?_
    exact Ev.now _)
  simpa using this

/-! graphs that are right -/
def lessE (a b : S79) : Bool := decide (a.f0 < b.f0 ∨ a.f0 = b.f0 ∧ a.f1 < b.f1)
theorem spec_l05Less_eq (a b c d : Int) : spec_l05Less.f a b c d = some (decide (a < c ∨ a = c ∧ b < d)) := by
  unfold spec_l05Less.f
  by_cases h : a < c
  · simp [h]
  · by_cases h2 : a = c
    · subst h2; simp
    · simp [h, h2]
theorem impl_ahead_eq (a b c d : Int) : impl_ahead.f a b c d = some (decide (a < c ∨ a = c ∧ b < d)) := by
  unfold impl_ahead.f
  by_cases h : a < c
  · simp [h]
  · by_cases h2 : a = c
    · subst h2; simp
    · simp [h, h2]
def edgeAt (n : Int) (l : List S79) (i : Nat) : Bool := edgeOk n (l.getD i z79).f0 (l.getD i z79).f1 && (decide (i = 0) || lessE (l.getD (i - 1) z79) (l.getD i z79))
def edgesOk (n : Int) (l : List S79) : Bool := if (List.range l.length).all (edgeAt n l) then decide ((l.length : Int) ≤ 66) else false
theorem spec_l05Edges_ev (n : Int) (l : List S79) (hl : l.length ≤ 4611686018427387904) : Ev (fun k => spec_l05Edges.f k n l) (edgesOk n l) := by
  simp only [spec_l05Edges.f]
  refine Ev.allloop (L := fun k i => spec_l05Edges.l0 k n l i) (n := l.length) (edgeAt n l) false (decide ((l.length : Int) ≤ 66)) ?_ ?_ ?_
  · intro i r hi hp h
    simp only [edgeAt, Bool.and_eq_true, Bool.or_eq_true, decide_eq_true_eq] at hp
    refine Ev.step (fun k => by rw [spec_l05Edges.l0, if_pos (by omega), if_pos (by omega), spec_EdgeOk_eq, Option.bind_some]) ?_
    simp only [rd_T79, Int.toNat_natCast, if_pos hp.1, wrap_succ hi hl]
    by_cases hz : (i : Int) > 0
    · have e : wrap64 ((i : Int) - 1) = ((i - 1 : Nat) : Int) := by unfold wrap64; omega
      have hq : lessE (l.getD (i - 1) z79) (l.getD i z79) = true := by
        rcases hp.2 with h0 | h0
        · omega
        · exact h0
      unfold lessE at hq
      simp only [if_pos hz, e, if_pos (show (0 : Int) ≤ ((i - 1 : Nat) : Int) by omega), if_pos (show ((i - 1 : Nat) : Int) < (l.length : Int) by omega), Int.toNat_natCast, spec_l05Less_eq, Option.bind_some, if_pos hq]
      exact h
    · simp only [if_neg hz]
      exact h
  · intro i hi hp
    simp only [edgeAt, Bool.and_eq_false_iff, Bool.or_eq_false_iff] at hp
    refine Ev.step (fun k => by rw [spec_l05Edges.l0, if_pos (by omega), if_pos (by omega), spec_EdgeOk_eq, Option.bind_some]) ?_
    simp only [rd_T79, Int.toNat_natCast]
    by_cases he : edgeOk n (l.getD i z79).f0 (l.getD i z79).f1 = true
    · rcases hp with hp | hp
      · rw [he] at hp; cases hp
      · have hz : (i : Int) > 0 := by have := of_decide_eq_false hp.1; omega
        have e : wrap64 ((i : Int) - 1) = ((i - 1 : Nat) : Int) := by unfold wrap64; omega
        have hq := hp.2
        unfold lessE at hq
        simp only [if_pos he, if_pos hz, e, if_pos (show (0 : Int) ≤ ((i - 1 : Nat) : Int) by omega), if_pos (show ((i - 1 : Nat) : Int) < (l.length : Int) by omega), Int.toNat_natCast, spec_l05Less_eq, Option.bind_some, hq]
        exact Ev.now _
    · have he' := Bool.eq_false_iff.2 he
      simp only [he', Bool.false_eq_true, if_false]
      exact Ev.now _
  · refine Ev.step (fun k => by rw [spec_l05Edges.l0, if_neg (by omega)]) ?_
    exact Ev.now _
theorem impl_edgesOk_ev (n : Int) (l : List S79) (hl : l.length ≤ 4611686018427387904) : Ev (fun k => impl_edgesOk.f k n l) (edgesOk n l) := by
  simp only [impl_edgesOk.f]
  refine Ev.allloop (L := fun k i => impl_edgesOk.l0 k n l l l.length i) (n := l.length) (edgeAt n l) false (decide ((l.length : Int) ≤ 66)) ?_ ?_ ?_
  · intro i r hi hp h
    simp only [edgeAt, Bool.and_eq_true, Bool.or_eq_true, decide_eq_true_eq] at hp
    refine Ev.step (fun k => by rw [impl_edgesOk.l0, if_pos (by omega), if_pos (by omega), if_pos (by omega), impl_EdgeOk_eq, Option.bind_some]) ?_
    simp only [rd_T79, Int.toNat_natCast, if_pos hp.1, wrap_succ hi hl]
    by_cases hz : (i : Int) > 0
    · have e : wrap64 ((i : Int) - 1) = ((i - 1 : Nat) : Int) := by unfold wrap64; omega
      have hq : lessE (l.getD (i - 1) z79) (l.getD i z79) = true := by
        rcases hp.2 with h0 | h0
        · omega
        · exact h0
      unfold lessE at hq
      simp only [if_pos hz, e, if_pos (show (0 : Int) ≤ ((i - 1 : Nat) : Int) by omega), if_pos (show ((i - 1 : Nat) : Int) < (l.length : Int) by omega), Int.toNat_natCast, impl_ahead_eq, Option.bind_some, if_pos hq]
      exact h
    · simp only [if_neg hz]
      exact h
  · intro i hi hp
    simp only [edgeAt, Bool.and_eq_false_iff, Bool.or_eq_false_iff] at hp
    refine Ev.step (fun k => by rw [impl_edgesOk.l0, if_pos (by omega), if_pos (by omega), if_pos (by omega), impl_EdgeOk_eq, Option.bind_some]) ?_
    simp only [rd_T79, Int.toNat_natCast]
    by_cases he : edgeOk n (l.getD i z79).f0 (l.getD i z79).f1 = true
    · rcases hp with hp | hp
      · rw [he] at hp; cases hp
      · have hz : (i : Int) > 0 := by have := of_decide_eq_false hp.1; omega
        have e : wrap64 ((i : Int) - 1) = ((i - 1 : Nat) : Int) := by unfold wrap64; omega
        have hq := hp.2
        unfold lessE at hq
        simp only [if_pos he, if_pos hz, e, if_pos (show (0 : Int) ≤ ((i - 1 : Nat) : Int) by omega), if_pos (show ((i - 1 : Nat) : Int) < (l.length : Int) by omega), Int.toNat_natCast, impl_ahead_eq, Option.bind_some, hq]
        exact Ev.now _
    · have he' := Bool.eq_false_iff.2 he
      simp only [he', Bool.false_eq_true, if_false]
      exact Ev.now _
  · refine Ev.step (fun k => by rw [impl_edgesOk.l0, if_neg (by omega)]) ?_
    exact Ev.now _

/-! the law's own functions over rows of numbers -/
theorem laws_toIntS_ev (l : List Int) (hl : l.length ≤ 1048576) : Ev (fun k => laws_toIntS.f k l) l := by
  simp only [laws_toIntS.f, if_pos (show (0 : Int) ≤ (l.length : Int) by omega), Int.toNat_natCast, if_pos (show l.length ≤ 35184372088832 by omega)]
  have := Ev.setloop (L := fun k x i => laws_toIntS.l0 k l x i) (n := l.length) (fun i => l.getD i 0) 0 id (by
    intro i x r hi hx h
    refine Ev.step (fun k => by rw [laws_toIntS.l0, if_pos (by omega), if_pos (by omega), if_pos (by omega), rd, Int.toNat_natCast, wrap_succ hi (by omega)]) ?_
    exact h) (by
    intro x hx
    refine Ev.step (fun k => by rw [laws_toIntS.l0, if_neg (by omega)]) ?_
    exact Ev.now _)
  have e : (List.range l.length).map (fun i => l.getD i 0) = l := by
    have := range_map_getD l 0 (id : Int → Int)
    simpa using this
  rw [e] at this
  exact this

theorem laws_eqIntS_refl (l : List Int) (hl : l.length ≤ 4611686018427387904) : Ev (fun k => laws_eqIntS.f k l l) true := by
  simp only [laws_eqIntS.f, if_true]
  have := Ev.allloop (L := fun k i => laws_eqIntS.l0 k l l i) (n := l.length) (fun _ => true) false true (by
    intro i r hi _ h
    refine Ev.step (fun k => by rw [laws_eqIntS.l0, if_pos (by omega), if_pos (by omega), if_pos (by omega), if_pos rfl, wrap_succ hi hl]) ?_
    exact h) (by intro i _ h; cases h) (by
    refine Ev.step (fun k => by rw [laws_eqIntS.l0, if_neg (by omega)]) ?_
    exact Ev.now _)
  simpa using this

/-! answers -/
def lblAt (l : List Int) (i : Nat) : Bool := decide (0 ≤ rd l i ∧ rd l i ≤ i) && decide (rd l (rd l i) = rd l i)
def labelsOk (n : Int) (l : List Int) : Bool := if (l.length : Int) = n then (if (List.range l.length).all (lblAt l) then true else false) else false
theorem spec_l09Labels_ev (n : Int) (l : List Int) (hl : l.length ≤ 4611686018427387904) : Ev (fun k => spec_l09Labels.f k n l) (labelsOk n l) := by
  simp only [spec_l09Labels.f, labelsOk]
  by_cases h : (l.length : Int) = n
  · simp only [if_pos h]
    subst h
    refine Ev.allloop (L := fun k i => spec_l09Labels.l0 k l.length l i) (n := l.length) (lblAt l) false true ?_ ?_ ?_
    · intro i r hi hp hh
      simp only [lblAt, Bool.and_eq_true, decide_eq_true_eq] at hp
      refine Ev.step (fun k => by rw [spec_l09Labels.l0, if_pos (by omega), if_pos (by omega), if_pos (by omega)]) ?_
      simp only [spec_in_eq, Option.bind_some, decide_eq_true hp.1, if_true, if_pos hp.1.1, if_pos (show rd l i < (l.length : Int) by omega), if_pos hp.2, wrap_succ hi hl]
      exact hh
    · intro i hi hp
      simp only [lblAt, Bool.and_eq_false_iff, decide_eq_false_iff_not] at hp
      refine Ev.step (fun k => by rw [spec_l09Labels.l0, if_pos (by omega), if_pos (by omega), if_pos (by omega)]) ?_
      simp only [spec_in_eq, Option.bind_some]
      by_cases c : 0 ≤ rd l i ∧ rd l i ≤ (i : Int)
      · rcases hp with hp | hp
        · exact absurd c hp
        · simp only [decide_eq_true c, if_true, if_pos c.1, if_pos (show rd l i < (l.length : Int) by omega), if_neg hp]
          exact Ev.now _
      · simp only [decide_eq_false c, Bool.false_eq_true, if_false]
        exact Ev.now _
    · refine Ev.step (fun k => by rw [spec_l09Labels.l0, if_neg (by omega)]) ?_
      exact Ev.now _
  · simp only [if_neg h]; exact Ev.now _
theorem impl_labelsOk_ev (n : Int) (l : List Int) (hl : l.length ≤ 4611686018427387904) : Ev (fun k => impl_labelsOk.f k n l) (labelsOk n l) := by
  simp only [impl_labelsOk.f, labelsOk]
  by_cases h : (l.length : Int) = n
  · simp only [if_pos h]
    refine Ev.allloop (L := fun k i => impl_labelsOk.l0 k l l l.length i) (n := l.length) (lblAt l) false true ?_ ?_ ?_
    · intro i r hi hp hh
      simp only [lblAt, Bool.and_eq_true, decide_eq_true_eq] at hp
      refine Ev.step (fun k => by rw [impl_labelsOk.l0, if_pos (by omega), if_pos (by omega), if_pos (by omega)]) ?_
      simp only [impl_in_eq, Option.bind_some, decide_eq_true hp.1, if_true, if_pos hp.1.1, if_pos (show rd l i < (l.length : Int) by omega), if_pos hp.2, wrap_succ hi hl]
      exact hh
    · intro i hi hp
      simp only [lblAt, Bool.and_eq_false_iff, decide_eq_false_iff_not] at hp
      refine Ev.step (fun k => by rw [impl_labelsOk.l0, if_pos (by omega), if_pos (by omega), if_pos (by omega)]) ?_
      simp only [impl_in_eq, Option.bind_some]
      by_cases c : 0 ≤ rd l i ∧ rd l i ≤ (i : Int)
      · rcases hp with hp | hp
        · exact absurd c hp
        · simp only [decide_eq_true c, if_true, if_pos c.1, if_pos (show rd l i < (l.length : Int) by omega), if_neg hp]
          exact Ev.now _
      · simp only [decide_eq_false c, Bool.false_eq_true, if_false]
        exact Ev.now _
    · refine Ev.step (fun k => by rw [impl_labelsOk.l0, if_neg (by omega)]) ?_
      exact Ev.now _
  · simp only [if_neg h]; exact Ev.now _

def answerOk (n a : Int) (l : List S79) (m : List Int) : Bool := decide (1 ≤ n ∧ n ≤ 12) && (decide (1 ≤ a ∧ a ≤ 100000) && (edgesOk n l && labelsOk n m))
theorem spec_AnswerOk_ev (n a : Int) (o : Bool) (l : List S79) (m : List Int) (hl : l.length ≤ 4611686018427387904) (hm : m.length ≤ 4611686018427387904) : Ev (fun k => spec_AnswerOk.f k n a o l m) (answerOk n a l m) := by
  simp only [spec_AnswerOk.f, spec_in_eq, Option.bind_some, answerOk]
  cases decide (1 ≤ n ∧ n ≤ 12) with
  | false => exact Ev.now _
  | true =>
    cases decide (1 ≤ a ∧ a ≤ 100000) with
    | false => exact Ev.now _
    | true =>
      simp only [if_true, Bool.true_and]
      refine Ev.bind (spec_l05Edges_ev n l hl) ?_
      cases edgesOk n l with
      | false => exact Ev.now _
      | true => exact Ev.bind (spec_l09Labels_ev n m hm) (Ev.now _)
theorem impl_AnswerOk_ev (n a : Int) (o : Bool) (l : List S79) (m : List Int) (hl : l.length ≤ 4611686018427387904) (hm : m.length ≤ 4611686018427387904) : Ev (fun k => impl_AnswerOk.f k n a o l m) (answerOk n a l m) := by
  simp only [impl_AnswerOk.f, impl_in_eq, Option.bind_some, answerOk]
  cases decide (1 ≤ n ∧ n ≤ 12) with
  | false => exact Ev.now _
  | true =>
    cases decide (1 ≤ a ∧ a ≤ 100000) with
    | false => exact Ev.now _
    | true =>
      simp only [if_true, Bool.true_and]
      refine Ev.bind (impl_edgesOk_ev n l hl) ?_
      cases edgesOk n l with
      | false => exact Ev.now _
      | true => exact Ev.bind (impl_labelsOk_ev n m hm) (Ev.now _)
theorem FnExactAnswerOk_pure (n a : Int) (o : Bool) (l : List S76) (m : List Int) (q0 : (Go.Lit.int .i64 n).wf = true) (qa : (Go.Lit.int .i64 a).wf = true) (q1 : l.length ≤ 9223372036854775807 ∧ ∀ a ∈ l, (Go.Lit.int .i64 a.f0).wf = true ∧ (Go.Lit.int .i64 a.f1).wf = true) (qm : m.length ≤ 9223372036854775807 ∧ ∀ a ∈ m, (Go.Lit.int .i64 a).wf = true) : ∃ k, laws_FnExactAnswerOk.f k n a o l m = some true := by
  refine Ev.rounds (g := fun k => laws_FnExactAnswerOk.f k n a o l m) ?_
  simp only [laws_FnExactAnswerOk.f, laws_szAnswer.f, laws_szEdgeS_eq l 1048576 q1.1 (by omega) (by omega), Option.bind_some]
  by_cases h : (1048576 : Int) - l.length < 0
  · simp only [if_pos h, show ((-1 : Int) < 0) = True by simp, if_true, Option.bind_some]; exact Ev.now _
  · have hl : l.length ≤ 1048576 := by omega
    have hl2 : (l.map toE).length ≤ 4611686018427387904 := by rw [List.length_map]; omega
    simp only [if_neg h, laws_szIntS.f]
    have e : wrap64 ((1048576 : Int) - l.length - m.length) = (1048576 : Int) - l.length - m.length := by have := qm.1; unfold wrap64; omega
    rw [e]
    by_cases h2 : (1048576 : Int) - l.length - m.length < 0
    · simp only [if_pos h2, show ((-1 : Int) < 0) = True by simp, if_true, Option.bind_some]; exact Ev.now _
    · simp only [if_neg h2, Option.bind_some]
      have hm : m.length ≤ 1048576 := by omega
      have ht : Ev (fun k => laws_toAnswer.f k a o l m) (a, o, l.map toE, m) := by
        simp only [laws_toAnswer.f]
        exact Ev.bind (laws_toEdgeS_ev l hl) (Ev.bind (laws_toIntS_ev m hm) (Ev.now _))
      refine Ev.bind ht ?_
      refine Ev.bind (spec_AnswerOk_ev n a o _ m hl2 (by omega)) ?_
      refine Ev.bind ht ?_
      refine Ev.bind (impl_AnswerOk_ev n a o _ m hl2 (by omega)) ?_
      simp only [bne_self_eq_false, Bool.false_eq_true, if_false]
      refine Ev.bind ht ?_
      have he : Ev (fun k => laws_eqAnswer.f k a o (l.map toE) m a o (l.map toE) m) true := by
        simp only [laws_eqAnswer.f, if_true, bne_self_eq_false, Bool.false_eq_true, if_false]
        refine Ev.bind (laws_eqEdgeS_refl _ hl2) ?_
        simp only [if_true]
        exact Ev.bind (laws_eqIntS_refl m (by omega)) (Ev.now _)
      refine Ev.bind he ?_
      exact Ev.now _

end Go.Proofs.Ytigeiofkbccocaa.Pure
