/- For every graph and edge HasEdge of the program and of the reference tell the same. No condition is laid beside the statement. -/
import Derived.Test.YtmjblanhgekhpaaQFnExactHasEdgex4
import Derived.Laws.BitsLemmas
import Derived.Lib.Bytes
import Derived.OpenShut
namespace Go.Proofs.Ytmjblanhgekhpaa.Pure
open Go.RowKit Go.Proofs.Ytmjblanhgekhpaa.QFnExactHasEdge Go.Proofs.YtmjblanhgekhpaaW.PrintWords Go.Proofs.YtmjblanhgekhpaaW.PrintLast
set_option linter.unusedVariables false
set_option linter.unusedSimpArgs false


/-! loops in general -/
theorem wrap_succ {i n : Nat} (h : i < n) (hn : n ≤ 4611686018427387904) : wrap64 ((i : Int) + 1) = ((i + 1 : Nat) : Int) := by unfold wrap64; omega
theorem Ev.loopR {σ β : Type} {L : Nat → σ → Int → Option β} {n : Nat} (R : Nat → σ → β) (I : Nat → σ → Prop)
    (hstep : ∀ (i : Nat) s, i < n → I i s → Ev (fun k => L k s i) (R i s) ∨ ∃ s', I (i + 1) s' ∧ R i s = R (i + 1) s' ∧ ∀ r, Ev (fun k => L k s' ((i + 1 : Nat) : Int)) r → Ev (fun k => L k s i) r)
    (hend : ∀ s, I n s → Ev (fun k => L k s n) (R n s)) : ∀ (d i : Nat) (s : σ), i + d = n → I i s → Ev (fun k => L k s i) (R i s) := by
  intro d
  induction d with
  | zero =>
    intro i s hi hI
    have : i = n := by omega
    subst this
    exact hend s hI
  | succ d ih =>
    intro i s hi hI
    rcases hstep i s (by omega) hI with h | ⟨s', h1, h2, h3⟩
    · exact h
    · rw [h2]
      exact h3 _ (ih (i + 1) s' (by omega) h1)
/-- A loop that builds by appending. -/
theorem Ev.apploop {β γ : Type} {L : Nat → List γ → Int → Option β} {n : Nat} (g : Nat → List γ) (fin : List γ → β) (a0 : List γ)
    (hstep : ∀ (i : Nat) x r, i < n → x = a0 ++ (List.range i).flatMap g → Ev (fun k => L k (x ++ g i) ((i + 1 : Nat) : Int)) r → Ev (fun k => L k x i) r)
    (hend : ∀ x, x = a0 ++ (List.range n).flatMap g → Ev (fun k => L k x n) (fin x)) : Ev (fun k => L k a0 0) (fin (a0 ++ (List.range n).flatMap g)) := by
  have key := Ev.loopR (L := L) (n := n) (fun _ _ => fin (a0 ++ (List.range n).flatMap g)) (fun i x => x = a0 ++ (List.range i).flatMap g) (by
    intro i x hi hx
    right
    refine ⟨x ++ g i, by rw [hx, List.range_succ, List.flatMap_append]; simp, rfl, fun r hr => hstep i x r hi hx hr⟩) (by
    intro x hx
    have := hend x hx
    rw [hx] at this ⊢
    exact this)
  exact key n 0 a0 (by omega) (by simp)
/-- A loop that writes every element of a row. -/
theorem Ev.setloop' {β γ : Type} {L : Nat → List γ → Int → Option β} {n : Nat} (g : Nat → γ) (x0 : List γ) (h0 : x0.length = n) (fin : List γ → β)
    (hstep : ∀ (i : Nat) x r, i < n → x.length = n → Ev (fun k => L k (x.set i (g i)) ((i + 1 : Nat) : Int)) r → Ev (fun k => L k x i) r)
    (hend : ∀ x, x.length = n → Ev (fun k => L k x n) (fin x)) : Ev (fun k => L k x0 0) (fin ((List.range n).map g)) := by
  have key := Ev.loopR (L := L) (n := n) (fun _ _ => fin ((List.range n).map g)) (fun i x => x.length = n ∧ ∀ j, j < i → x[j]? = some (g j)) (by
    intro i x hi hx
    right
    refine ⟨x.set i (g i), ⟨by rw [List.length_set]; exact hx.1, fun j hj => ?_⟩, rfl, fun r hr => hstep i x r hi hx.1 hr⟩
    by_cases hji : j = i
    · subst hji
      rw [List.getElem?_set_self (by omega)]
    · rw [List.getElem?_set_ne (by omega)]
      exact hx.2 j (by omega)) (by
    intro x hx
    have hxe : x = (List.range n).map g := by
      apply List.ext_getElem?
      intro j
      by_cases hj : j < n
      · rw [hx.2 j hj]; simp [hj]
      · rw [List.getElem?_eq_none (by omega), List.getElem?_eq_none (by simp; omega)]
    rw [← hxe]
    exact hend x hx.1)
  exact key n 0 _ (by omega) ⟨h0, fun j hj => by omega⟩
/-- A loop that fills what was made. -/
theorem Ev.setloop {β γ : Type} {L : Nat → List γ → Int → Option β} {n : Nat} (g : Nat → γ) (z : γ) (fin : List γ → β)
    (hstep : ∀ (i : Nat) x r, i < n → x.length = n → Ev (fun k => L k (x.set i (g i)) ((i + 1 : Nat) : Int)) r → Ev (fun k => L k x i) r)
    (hend : ∀ x, x.length = n → Ev (fun k => L k x n) (fin x)) : Ev (fun k => L k (List.replicate n z) 0) (fin ((List.range n).map g)) :=
  Ev.setloop' g _ (by simp) fin hstep hend
/-- A loop that asks something of each index. -/
theorem Ev.allloop {β : Type} {L : Nat → Int → Option β} {n : Nat} (p : Nat → Bool) (c fin : β)
    (hstep : ∀ (i : Nat) r, i < n → p i = true → Ev (fun k => L k ((i + 1 : Nat) : Int)) r → Ev (fun k => L k i) r)
    (hno : ∀ (i : Nat), i < n → p i = false → Ev (fun k => L k i) c)
    (hend : Ev (fun k => L k n) fin) : Ev (fun k => L k 0) (if (List.range n).all p then fin else c) := by
  have key := Ev.loopR (σ := Unit) (L := fun k _ i => L k i) (n := n) (fun i _ => if (List.range' i (n - i)).all p then fin else c) (fun _ _ => True) (by
    intro i _ hi _
    have e : List.range' i (n - i) = i :: List.range' (i + 1) (n - (i + 1)) := by
      have : n - i = (n - (i + 1)) + 1 := by omega
      rw [this, List.range'_succ]
    cases hp : p i with
    | true => right; exact ⟨(), trivial, by rw [e, List.all_cons, hp, Bool.true_and], fun r hr => hstep i r hi hp hr⟩
    | false => left; rw [e, List.all_cons, hp, Bool.false_and]; exact hno i hi hp) (by
    intro _ _
    simpa using hend)
  have := key n 0 () (by omega) trivial
  rw [List.range_eq_range']
  simpa using this
theorem range_map_getD {α β : Type} (l : List α) (d : α) (h : α → β) : (List.range l.length).map (fun i => h (l.getD i d)) = l.map h := by
  apply List.ext_getElem
  · simp
  · intro i h1 h2
    simp at h1 h2
    simp [List.getD_eq_getElem?_getD, List.getElem?_eq_getElem h2]
theorem range_flatMap_getD {α β : Type} (l : List α) (d : α) (h : α → List β) : (List.range l.length).flatMap (fun i => h (l.getD i d)) = l.flatMap h := by
  have := congrArg List.flatten (range_map_getD l d h)
  rw [List.flatMap_def, List.flatMap_def]; exact this
theorem range_all_getD {α : Type} (l : List α) (d : α) (h : α → Bool) : (List.range l.length).all (fun i => h (l.getD i d)) = l.all h := by
  have := congrArg (fun l => l.all id) (range_map_getD l d h)
  simpa [List.all_map] using this
theorem flatMap_single {α β : Type} (l : List α) (g : α → β) : l.flatMap (fun x => [g x]) = l.map g := by
  induction l with
  | nil => rfl
  | cons a l ih => simp [ih]
/-- A loop that looks for the first index. -/
def findR {β : Type} (p : Nat → Bool) (c : Nat → β) (fin : β) : Nat → Nat → β
  | 0, _ => fin
  | d + 1, i => if p i then c i else findR p c fin d (i + 1)
theorem Ev.findloop {β : Type} {L : Nat → Int → Option β} {n : Nat} (p : Nat → Bool) (c : Nat → β) (fin : β)
    (hstep : ∀ (i : Nat) r, i < n → p i = false → Ev (fun k => L k ((i + 1 : Nat) : Int)) r → Ev (fun k => L k i) r)
    (hhit : ∀ (i : Nat), i < n → p i = true → Ev (fun k => L k i) (c i))
    (hend : Ev (fun k => L k n) fin) : Ev (fun k => L k 0) (findR p c fin n 0) := by
  have key := Ev.loopR (σ := Unit) (L := fun k _ i => L k i) (n := n) (fun i _ => findR p c fin (n - i) i) (fun _ _ => True) (by
    intro i _ hi _
    have e : findR p c fin (n - i) i = if p i then c i else findR p c fin (n - (i + 1)) (i + 1) := by
      have : n - i = (n - (i + 1)) + 1 := by omega
      rw [this, findR]
    cases hp : p i with
    | false => right; exact ⟨(), trivial, by rw [e, hp]; rfl, fun r hr => hstep i r hi hp hr⟩
    | true => left; rw [e, hp]; exact hhit i hi hp) (by
    intro _ _
    simpa [findR] using hend)
  have := key n 0 () (by omega) trivial
  simpa using this

/-! the law's own functions over graphs -/
def toE (e : S29) : S36 := ⟨e.f0, e.f1⟩
theorem laws_szEdgeS_eq (l : List S29) (a : Int) (hl : l.length ≤ 9223372036854775807) (h0 : 0 ≤ a) (h1 : a ≤ 1048576) : laws_szEdgeS.f l a = some (if a - l.length < 0 then -1 else a - l.length) := by
  unfold laws_szEdgeS.f
  have : wrap64 (a - (l.length : Int)) = a - l.length := by unfold wrap64; omega
  rw [this]
  split <;> rfl
theorem laws_toEdgeS_ev (l : List S29) (hl : l.length ≤ 1048576) : Ev (fun k => laws_toEdgeS.f k l) (l.map toE) := by
  simp only [laws_toEdgeS.f, if_pos (show (0 : Int) ≤ (l.length : Int) by omega), Int.toNat_natCast, if_pos (show l.length ≤ 17592186044416 by omega)]
  have := Ev.setloop (L := fun k x i => laws_toEdgeS.l0 k l x i) (n := l.length) (fun i => toE (l.getD i z29)) z36 id (by
    intro i x r hi hx h
    refine Ev.step (fun k => by rw [laws_toEdgeS.l0, if_pos (by omega), if_pos (by omega), laws_toEdge.f, Option.bind_some, if_pos (by omega), wrap_succ hi (by omega)]) ?_
    exact h) (by
    intro x hx
    refine Ev.step (fun k => by rw [laws_toEdgeS.l0, if_neg (by omega)]) ?_
    exact Ev.now _)
  rw [range_map_getD] at this
  exact this
theorem laws_eqEdge_refl (a b : Int) : laws_eqEdge.f a b a b = some true := by simp [laws_eqEdge.f]
theorem laws_eqEdgeS_refl (l : List S36) (hl : l.length ≤ 4611686018427387904) : Ev (fun k => laws_eqEdgeS.f k l l) true := by
  simp only [laws_eqEdgeS.f, if_true]
  have := Ev.allloop (L := fun k i => laws_eqEdgeS.l0 k l l i) (n := l.length) (fun _ => true) false true (by
    intro i r hi _ h
    refine Ev.step (fun k => by rw [laws_eqEdgeS.l0, if_pos (by omega), if_pos (by omega), if_pos (by omega), laws_eqEdge_refl, Option.bind_some, if_pos rfl, wrap_succ hi hl]) ?_
    exact h) (by intro i _ h; cases h) (by
    refine Ev.step (fun k => by rw [laws_eqEdgeS.l0, if_neg (by omega)]) ?_
    exact Ev.now _)
  simpa using this

/-! the law's own functions over graphs -/
theorem laws_szGraph_eq (n : Int) (l : List S29) (a : Int) (hl : l.length ≤ 9223372036854775807) (h0 : 0 ≤ a) (h1 : a ≤ 1048576) : laws_szGraph.f n l a = some (if a - l.length < 0 then -1 else a - l.length) := by
  unfold laws_szGraph.f
  rw [laws_szEdgeS_eq l a hl h0 h1]
  by_cases h : a - l.length < 0
  · simp [h]
  · simp [h]
theorem laws_toGraph_ev (n : Int) (l : List S29) (hl : l.length ≤ 1048576) : Ev (fun k => laws_toGraph.f k n l) (n, l.map toE) := by
  simp only [laws_toGraph.f]
  exact Ev.bind (laws_toEdgeS_ev l hl) (Ev.now _)
theorem laws_eqGraph_refl (n : Int) (l : List S36) (hl : l.length ≤ 4611686018427387904) : Ev (fun k => laws_eqGraph.f k n l n l) true := by
  simp only [laws_eqGraph.f, if_true]
  refine Ev.bind (laws_eqEdgeS_refl l hl) ?_
  exact Ev.now _

def eqAt (l : List S36) (a b : Int) (i : Nat) : Bool := ((l.getD i z36).f0 == a && ((l.getD i z36).f1 == b))
def hasE (l : List S36) (a b : Int) : Bool := if (List.range l.length).all (fun i => !eqAt l a b i) then false else true
theorem spec_l05Has_ev (l : List S36) (a b : Int) (hl : l.length ≤ 4611686018427387904) : Ev (fun k => spec_l05Has.f k l a b) (hasE l a b) := by
  simp only [spec_l05Has.f, hasE]
  refine Ev.allloop (L := fun k i => spec_l05Has.l0 k l i a b) (n := l.length) (fun i => !eqAt l a b i) true false ?_ ?_ ?_
  · intro i r hi hp h
    simp only [Bool.not_eq_true'] at hp
    unfold eqAt at hp
    refine Ev.step (fun k => by rw [spec_l05Has.l0, if_pos (by omega), if_pos (by omega), rd_T36, Int.toNat_natCast, hp, if_neg (by simp), wrap_succ hi hl]) ?_
    exact h
  · intro i hi hp
    simp only [Bool.not_eq_false'] at hp
    unfold eqAt at hp
    refine Ev.step (fun k => by rw [spec_l05Has.l0, if_pos (by omega), if_pos (by omega), rd_T36, Int.toNat_natCast, hp, if_pos rfl]) ?_
    exact Ev.now _
  · refine Ev.step (fun k => by rw [spec_l05Has.l0, if_neg (by omega)]) ?_
    exact Ev.now _
theorem impl_hasEdge_ev (l : List S36) (a b : Int) (hl : l.length ≤ 4611686018427387904) : Ev (fun k => impl_hasEdge.f k l a b) (hasE l a b) := by
  simp only [impl_hasEdge.f, hasE]
  refine Ev.allloop (L := fun k i => impl_hasEdge.l0 k l l.length i a b) (n := l.length) (fun i => !eqAt l a b i) true false ?_ ?_ ?_
  · intro i r hi hp h
    simp only [Bool.not_eq_true'] at hp
    unfold eqAt at hp
    refine Ev.step (fun k => by rw [impl_hasEdge.l0, if_pos (by omega), if_pos (by omega), if_pos (by omega), rd_T36, Int.toNat_natCast, hp, if_neg (by simp), wrap_succ hi hl]) ?_
    exact h
  · intro i hi hp
    simp only [Bool.not_eq_false'] at hp
    unfold eqAt at hp
    refine Ev.step (fun k => by rw [impl_hasEdge.l0, if_pos (by omega), if_pos (by omega), if_pos (by omega), rd_T36, Int.toNat_natCast, hp, if_pos rfl]) ?_
    exact Ev.now _
  · refine Ev.step (fun k => by rw [impl_hasEdge.l0, if_neg (by omega)]) ?_
    exact Ev.now _
theorem hasE_iff {l : List S36} {a b : Int} : hasE l a b = true ↔ ∃ e ∈ l, e.f0 = a ∧ e.f1 = b := by
  have e : (List.range l.length).all (fun i => !eqAt l a b i) = l.all (fun e => !(e.f0 == a && (e.f1 == b))) := range_all_getD l z36 (fun e => !(e.f0 == a && (e.f1 == b)))
  rw [hasE, e]
  constructor
  · intro h
    split at h
    · cases h
    · rename_i hn
      obtain ⟨x, hx, hy⟩ := List.all_eq_false.1 (Bool.eq_false_iff.2 hn)
      simp at hy
      exact ⟨x, hx, hy⟩
  · rintro ⟨x, hx, rfl, rfl⟩
    split
    · rename_i hn
      simp only [List.all_eq_true] at hn
      have := hn x hx
      simp at this
    · rfl

theorem spec_HasEdge_ev (n : Int) (l : List S36) (a b : Int) (hl : l.length ≤ 4611686018427387904) : Ev (fun k => spec_HasEdge.f k n l a b) (hasE l a b) := by
  simp only [spec_HasEdge.f]
  exact Ev.bind (spec_l05Has_ev l a b hl) (Ev.now _)
theorem impl_HasEdge_ev (n : Int) (l : List S36) (a b : Int) (hl : l.length ≤ 4611686018427387904) : Ev (fun k => impl_HasEdge.f k n l a b) (hasE l a b) := by
  simp only [impl_HasEdge.f]
  exact Ev.bind (impl_hasEdge_ev l a b hl) (Ev.now _)

theorem FnExactHasEdge_pure (n : Int) (l : List S29) (a b : Int) (q0 : (Go.Lit.int .i64 n).wf = true) (q1 : l.length ≤ 9223372036854775807 ∧ ∀ a ∈ l, (Go.Lit.int .i64 a.f0).wf = true ∧ (Go.Lit.int .i64 a.f1).wf = true) (qa : (Go.Lit.int .i64 a).wf = true) (qb : (Go.Lit.int .i64 b).wf = true) : ∃ k, laws_FnExactHasEdge.f k n l a b = some true := by
  refine Ev.rounds (g := fun k => laws_FnExactHasEdge.f k n l a b) ?_
  simp only [laws_FnExactHasEdge.f, laws_szGraph_eq n l 1048576 q1.1 (by omega) (by omega), Option.bind_some, laws_toEdge.f]
  by_cases h : (1048576 : Int) - l.length < 0
  · simp only [if_pos h, show ((-1 : Int) < 0) = True by simp, if_true]; exact Ev.now _
  · have hl : l.length ≤ 1048576 := by omega
    have hl2 : (l.map toE).length ≤ 4611686018427387904 := by rw [List.length_map]; omega
    simp only [if_neg h]
    refine Ev.bind (laws_toGraph_ev n l hl) ?_
    refine Ev.bind (spec_HasEdge_ev n _ a b hl2) ?_
    refine Ev.bind (laws_toGraph_ev n l hl) ?_
    refine Ev.bind (impl_HasEdge_ev n _ a b hl2) ?_
    simp only [bne_self_eq_false, Bool.false_eq_true, if_false]
    refine Ev.bind (laws_toGraph_ev n l hl) ?_
    refine Ev.bind (laws_eqGraph_refl n _ hl2) ?_
    exact Ev.now _

end Go.Proofs.Ytmjblanhgekhpaa.Pure
