/- For every forest and edge Link of the program and of the reference tell the same, in memory of its own. No condition is laid beside the statement. -/
import Derived.Test.YtbkklafkoegdpaaHFnExactLink
import Derived.Test.YtbkklafkoegdpaaQFnExactLinkx15
import Derived.Laws.BitsLemmas
import Derived.Lib.Bytes
import Derived.OpenShut
namespace Go.Proofs.Ytbkklafkoegdpaa.Pure
open Go.RowKit Go.Proofs.Ytbkklafkoegdpaa.QFnExactLink Go.Proofs.YtbkklafkoegdpaaW.PrintWords Go.Proofs.YtbkklafkoegdpaaW.PrintLast
set_option linter.unusedVariables false
set_option linter.unusedSimpArgs false


/-! loops in general -/
theorem wrap_succ {i n : Nat} (h : i < n) (hn : n ≤ 4611686018427387904) : wrap64 ((i : Int) + 1) = ((i + 1 : Nat) : Int) := by unfold wrap64; omega
theorem Ev.loopR {σ β : Type} {L : Nat → σ → Int → Option β} {n : Nat} (R : Nat → σ → β) (I : Nat → σ → Prop)
    (hstep : ∀ (i : Nat) s, i < n → I i s → Ev (fun k => L k s i) (R i s) ∨ ∃ s', I (i + 1) s' ∧ R i s = R (i + 1) s' ∧ ∀ r, Ev (fun k => L k s' ((i + 1 : Nat) : Int)) r → Ev (fun k => L k s i) r)
    (hend : ∀ s, I n s → Ev (fun k => L k s n) (R n s)) : ∀ (d i : Nat) (s : σ), i + d = n → I i s → Ev (fun k => L k s i) (R i s) := by
  intro d
  induction d with
  | zero =>
    intro i s hi hI
    have : i = n := by omega
    subst this
    exact hend s hI
  | succ d ih =>
    intro i s hi hI
    rcases hstep i s (by omega) hI with h | ⟨s', h1, h2, h3⟩
    · exact h
    · rw [h2]
      exact h3 _ (ih (i + 1) s' (by omega) h1)
/-- A loop that builds by appending. -/
theorem Ev.apploop {β γ : Type} {L : Nat → List γ → Int → Option β} {n : Nat} (g : Nat → List γ) (fin : List γ → β) (a0 : List γ)
    (hstep : ∀ (i : Nat) x r, i < n → x = a0 ++ (List.range i).flatMap g → Ev (fun k => L k (x ++ g i) ((i + 1 : Nat) : Int)) r → Ev (fun k => L k x i) r)
    (hend : ∀ x, x = a0 ++ (List.range n).flatMap g → Ev (fun k => L k x n) (fin x)) : Ev (fun k => L k a0 0) (fin (a0 ++ (List.range n).flatMap g)) := by
  have key := Ev.loopR (L := L) (n := n) (fun _ _ => fin (a0 ++ (List.range n).flatMap g)) (fun i x => x = a0 ++ (List.range i).flatMap g) (by
    intro i x hi hx
    right
    refine ⟨x ++ g i, by rw [hx, List.range_succ, List.flatMap_append]; simp, rfl, fun r hr => hstep i x r hi hx hr⟩) (by
    intro x hx
    have := hend x hx
    rw [hx] at this ⊢
    exact this)
  exact key n 0 a0 (by omega) (by simp)
/-- A loop that writes every element of a row. -/
theorem Ev.setloop' {β γ : Type} {L : Nat → List γ → Int → Option β} {n : Nat} (g : Nat → γ) (x0 : List γ) (h0 : x0.length = n) (fin : List γ → β)
    (hstep : ∀ (i : Nat) x r, i < n → x.length = n → Ev (fun k => L k (x.set i (g i)) ((i + 1 : Nat) : Int)) r → Ev (fun k => L k x i) r)
    (hend : ∀ x, x.length = n → Ev (fun k => L k x n) (fin x)) : Ev (fun k => L k x0 0) (fin ((List.range n).map g)) := by
  have key := Ev.loopR (L := L) (n := n) (fun _ _ => fin ((List.range n).map g)) (fun i x => x.length = n ∧ ∀ j, j < i → x[j]? = some (g j)) (by
    intro i x hi hx
    right
    refine ⟨x.set i (g i), ⟨by rw [List.length_set]; exact hx.1, fun j hj => ?_⟩, rfl, fun r hr => hstep i x r hi hx.1 hr⟩
    by_cases hji : j = i
    · subst hji
      rw [List.getElem?_set_self (by omega)]
    · rw [List.getElem?_set_ne (by omega)]
      exact hx.2 j (by omega)) (by
    intro x hx
    have hxe : x = (List.range n).map g := by
      apply List.ext_getElem?
      intro j
      by_cases hj : j < n
      · rw [hx.2 j hj]; simp [hj]
      · rw [List.getElem?_eq_none (by omega), List.getElem?_eq_none (by simp; omega)]
    rw [← hxe]
    exact hend x hx.1)
  exact key n 0 _ (by omega) ⟨h0, fun j hj => by omega⟩
/-- A loop that fills what was made. -/
theorem Ev.setloop {β γ : Type} {L : Nat → List γ → Int → Option β} {n : Nat} (g : Nat → γ) (z : γ) (fin : List γ → β)
    (hstep : ∀ (i : Nat) x r, i < n → x.length = n → Ev (fun k => L k (x.set i (g i)) ((i + 1 : Nat) : Int)) r → Ev (fun k => L k x i) r)
    (hend : ∀ x, x.length = n → Ev (fun k => L k x n) (fin x)) : Ev (fun k => L k (List.replicate n z) 0) (fin ((List.range n).map g)) :=
  Ev.setloop' g _ (by simp) fin hstep hend
/-- A loop that asks something of each index. -/
theorem Ev.allloop {β : Type} {L : Nat → Int → Option β} {n : Nat} (p : Nat → Bool) (c fin : β)
    (hstep : ∀ (i : Nat) r, i < n → p i = true → Ev (fun k => L k ((i + 1 : Nat) : Int)) r → Ev (fun k => L k i) r)
    (hno : ∀ (i : Nat), i < n → p i = false → Ev (fun k => L k i) c)
    (hend : Ev (fun k => L k n) fin) : Ev (fun k => L k 0) (if (List.range n).all p then fin else c) := by
  have key := Ev.loopR (σ := Unit) (L := fun k _ i => L k i) (n := n) (fun i _ => if (List.range' i (n - i)).all p then fin else c) (fun _ _ => True) (by
    intro i _ hi _
    have e : List.range' i (n - i) = i :: List.range' (i + 1) (n - (i + 1)) := by
      have : n - i = (n - (i + 1)) + 1 := by omega
      rw [this, List.range'_succ]
    cases hp : p i with
    | true => right; exact ⟨(), trivial, by rw [e, List.all_cons, hp, Bool.true_and], fun r hr => hstep i r hi hp hr⟩
    | false => left; rw [e, List.all_cons, hp, Bool.false_and]; exact hno i hi hp) (by
    intro _ _
    simpa using hend)
  have := key n 0 () (by omega) trivial
  rw [List.range_eq_range']
  simpa using this
theorem range_map_getD {α β : Type} (l : List α) (d : α) (h : α → β) : (List.range l.length).map (fun i => h (l.getD i d)) = l.map h := by
  apply List.ext_getElem
  · simp
  · intro i h1 h2
    simp at h1 h2
    simp [List.getD_eq_getElem?_getD, List.getElem?_eq_getElem h2]
theorem range_flatMap_getD {α β : Type} (l : List α) (d : α) (h : α → List β) : (List.range l.length).flatMap (fun i => h (l.getD i d)) = l.flatMap h := by
  have := congrArg List.flatten (range_map_getD l d h)
  rw [List.flatMap_def, List.flatMap_def]; exact this
theorem range_all_getD {α : Type} (l : List α) (d : α) (h : α → Bool) : (List.range l.length).all (fun i => h (l.getD i d)) = l.all h := by
  have := congrArg (fun l => l.all id) (range_map_getD l d h)
  simpa [List.all_map] using this
/-- A loop that looks for the first index. -/
def findR {β : Type} (p : Nat → Bool) (c : Nat → β) (fin : β) : Nat → Nat → β
  | 0, _ => fin
  | d + 1, i => if p i then c i else findR p c fin d (i + 1)
theorem Ev.findloop {β : Type} {L : Nat → Int → Option β} {n : Nat} (p : Nat → Bool) (c : Nat → β) (fin : β)
    (hstep : ∀ (i : Nat) r, i < n → p i = false → Ev (fun k => L k ((i + 1 : Nat) : Int)) r → Ev (fun k => L k i) r)
    (hhit : ∀ (i : Nat), i < n → p i = true → Ev (fun k => L k i) (c i))
    (hend : Ev (fun k => L k n) fin) : Ev (fun k => L k 0) (findR p c fin n 0) := by
  have key := Ev.loopR (σ := Unit) (L := fun k _ i => L k i) (n := n) (fun i _ => findR p c fin (n - i) i) (fun _ _ => True) (by
    intro i _ hi _
    have e : findR p c fin (n - i) i = if p i then c i else findR p c fin (n - (i + 1)) (i + 1) := by
      have : n - i = (n - (i + 1)) + 1 := by omega
      rw [this, findR]
    cases hp : p i with
    | false => right; exact ⟨(), trivial, by rw [e, hp]; rfl, fun r hr => hstep i r hi hp hr⟩
    | true => left; rw [e, hp]; exact hhit i hi hp) (by
    intro _ _
    simpa [findR] using hend)
  have := key n 0 () (by omega) trivial
  simpa using this

/-- A loop that asks something of each index; what comes behind it is known where the answer is yes. -/
theorem Ev.allloop3 {β : Type} {L : Nat → Int → Option β} {n : Nat} (p : Nat → Bool) (c fin : β)
    (hstep : ∀ (i : Nat) r, i < n → (∀ j, j < i → p j = true) → (p i = true → Ev (fun k => L k ((i + 1 : Nat) : Int)) r) → Ev (fun k => L k i) (if p i = true then r else c))
    (hend : (∀ j, j < n → p j = true) → Ev (fun k => L k n) fin) : Ev (fun k => L k 0) (if (List.range n).all p = true then fin else c) := by
  have key : ∀ (d i : Nat), i + d = n → (∀ j, j < i → p j = true) → Ev (fun k => L k i) (if (List.range' i d).all p = true then fin else c) := by
    intro d
    induction d with
    | zero =>
      intro i hi hp
      have : i = n := by omega
      subst this
      simpa using hend hp
    | succ d ih =>
      intro i hi hp
      rw [List.range'_succ, List.all_cons]
      by_cases hpi : p i = true
      · have := hstep i _ (by omega) hp (fun _ => ih (i + 1) (by omega) (fun j hj => by
          by_cases hji : j = i
          · rw [hji]; exact hpi
          · exact hp j (by omega)))
        rw [if_pos hpi] at this
        rw [hpi, Bool.true_and]; exact this
      · have := hstep i c (by omega) hp (fun h => absurd h hpi)
        rw [if_neg hpi] at this
        rw [Bool.eq_false_iff.2 hpi, Bool.false_and]; exact this
  have := key n 0 (by omega) (fun j hj => by omega)
  rw [List.range_eq_range']
  exact this

theorem spec_in_eq (a b c : Int) : spec_l01In.f a b c = some (decide (b ≤ a ∧ a ≤ c)) := by
  unfold spec_l01In.f
  by_cases h : a ≥ b
  · have h' : b ≤ a := h
    simp [h']
  · have h' : ¬ b ≤ a := h
    simp [h']
theorem impl_in_eq (a b c : Int) : impl_in.f a b c = some (decide (b ≤ a ∧ a ≤ c)) := by
  unfold impl_in.f
  by_cases h : a ≥ b
  · have h' : b ≤ a := h
    simp [h']
  · have h' : ¬ b ≤ a := h
    simp [h']

/-! the law's own functions over rows of numbers -/
theorem laws_toIntS_ev (l : List Int) (hl : l.length ≤ 1048576) : Ev (fun k => laws_toIntS.f k l) l := by
  simp only [laws_toIntS.f, if_pos (show (0 : Int) ≤ (l.length : Int) by omega), Int.toNat_natCast, if_pos (show l.length ≤ 35184372088832 by omega)]
  have := Ev.setloop (L := fun k x i => laws_toIntS.l0 k l x i) (n := l.length) (fun i => l.getD i 0) 0 id (by
    intro i x r hi hx h
    refine Ev.step (fun k => by rw [laws_toIntS.l0, if_pos (by omega), if_pos (by omega), if_pos (by omega), rd, Int.toNat_natCast, wrap_succ hi (by omega)]) ?_
    exact h) (by
    intro x hx
    refine Ev.step (fun k => by rw [laws_toIntS.l0, if_neg (by omega)]) ?_
    exact Ev.now _)
  have e : (List.range l.length).map (fun i => l.getD i 0) = l := by
    have := range_map_getD l 0 (id : Int → Int)
    simpa using this
  rw [e] at this
  exact this

theorem laws_eqIntS_refl (l : List Int) (hl : l.length ≤ 4611686018427387904) : Ev (fun k => laws_eqIntS.f k l l) true := by
  simp only [laws_eqIntS.f, if_true]
  have := Ev.allloop (L := fun k i => laws_eqIntS.l0 k l l i) (n := l.length) (fun _ => true) false true (by
    intro i r hi _ h
    refine Ev.step (fun k => by rw [laws_eqIntS.l0, if_pos (by omega), if_pos (by omega), if_pos (by omega), if_pos rfl, wrap_succ hi hl]) ?_
    exact h) (by intro i _ h; cases h) (by
    refine Ev.step (fun k => by rw [laws_eqIntS.l0, if_neg (by omega)]) ?_
    exact Ev.now _)
  simpa using this

/-! is a number in a row? -/
theorem mem_range_getD {l : List Int} {v : Int} : (∀ i, i < l.length → (!decide (l.getD i 0 = v)) = true) ↔ v ∉ l := by
  constructor
  · intro h hv
    obtain ⟨i, hi, rfl⟩ := List.mem_iff_getElem.1 hv
    have := h i hi
    simp [List.getD_eq_getElem?_getD, List.getElem?_eq_getElem hi] at this
  · intro h i hi
    simp only [Bool.not_eq_true', decide_eq_false_iff_not]
    intro he
    apply h
    rw [← he]
    simp [List.getD_eq_getElem?_getD, List.getElem?_eq_getElem hi]
theorem all_not_mem (l : List Int) (v : Int) : (if (List.range l.length).all (fun i => !decide (l.getD i 0 = v)) then false else true) = decide (v ∈ l) := by
  by_cases h : v ∈ l
  · have : ¬ (List.range l.length).all (fun i => !decide (l.getD i 0 = v)) = true := by
      rw [List.all_eq_true]
      intro hh
      exact mem_range_getD.1 (fun i hi => hh i (List.mem_range.2 hi)) h
    rw [if_neg this, decide_eq_true h]
  · have : (List.range l.length).all (fun i => !decide (l.getD i 0 = v)) = true := by
      rw [List.all_eq_true]
      intro i hi
      exact mem_range_getD.2 h i (List.mem_range.1 hi)
    rw [if_pos this, decide_eq_false h]

theorem spec_l05In_ev (l : List Int) (v : Int) (hl : l.length ≤ 4611686018427387904) : Ev (fun k => spec_l05In.f k l v) (decide (v ∈ l)) := by
  simp only [spec_l05In.f]
  rw [← all_not_mem]
  refine Ev.allloop (L := fun k i => spec_l05In.l0 k l v i) (n := l.length) (fun i => !decide (l.getD i 0 = v)) true false ?_ ?_ ?_
  · intro i r hi hp h
    simp only [Bool.not_eq_true', decide_eq_false_iff_not] at hp
    refine Ev.step (fun k => by rw [spec_l05In.l0, if_pos (by omega), if_pos (by omega), rd, Int.toNat_natCast, if_neg hp, wrap_succ hi hl]) ?_
    exact h
  · intro i hi hp
    simp only [Bool.not_eq_false', decide_eq_true_eq] at hp
    refine Ev.step (fun k => by rw [spec_l05In.l0, if_pos (by omega), if_pos (by omega), rd, Int.toNat_natCast, if_pos hp]) ?_
    exact Ev.now _
  · refine Ev.step (fun k => by rw [spec_l05In.l0, if_neg (by omega)]) ?_
    exact Ev.now _

theorem impl_hasInt_ev (l : List Int) (v : Int) (hl : l.length ≤ 4611686018427387904) : Ev (fun k => impl_hasInt.f k l v) (decide (v ∈ l)) := by
  simp only [impl_hasInt.f]
  rw [← all_not_mem]
  refine Ev.allloop (L := fun k i => impl_hasInt.l0 k v l l.length i) (n := l.length) (fun i => !decide (l.getD i 0 = v)) true false ?_ ?_ ?_
  · intro i r hi hp h
    simp only [Bool.not_eq_true', decide_eq_false_iff_not] at hp
    refine Ev.step (fun k => by rw [impl_hasInt.l0, if_pos (by omega), if_pos (by omega), if_pos (by omega), rd, Int.toNat_natCast, if_neg hp, wrap_succ hi hl]) ?_
    exact h
  · intro i hi hp
    simp only [Bool.not_eq_false', decide_eq_true_eq] at hp
    refine Ev.step (fun k => by rw [impl_hasInt.l0, if_pos (by omega), if_pos (by omega), if_pos (by omega), rd, Int.toNat_natCast, if_pos hp]) ?_
    exact Ev.now _
  · refine Ev.step (fun k => by rw [impl_hasInt.l0, if_neg (by omega)]) ?_
    exact Ev.now _

/-! tours that are right -/
def inR (x : Int) : Bool := decide (0 ≤ x ∧ x ≤ 11)
def trun : List Int → List Int → List Int → Bool
  | [], path, _ => ((path.length : Int) == 1)
  | v :: l, path, met => if 1 < path.length ∧ path.getD (path.length - 2) 0 = v then trun l (path.take (path.length - 1)) met else (if v ∈ met then false else trun l (path ++ [v]) (met ++ [v]))
def trunI : List Int → List Int → List Int → Bool
  | [], path, _ => ((path.length : Int) == 1)
  | v :: l, path, met => if 1 < path.length ∧ path.getD (path.length - 2) 0 = v then trunI l (path.take (path.length - 1)) met else (if inR v = true then (if v ∈ met then false else trunI l (path ++ [v]) (met ++ [v])) else false)
theorem trunI_eq : ∀ (l path met : List Int), (∀ x ∈ path, inR x = true) → trunI l path met = (l.all inR && trun l path met)
  | [], path, met, h => by simp [trunI, trun]
  | v :: l, path, met, h => by
    rw [trunI, trun, List.all_cons]
    by_cases c : 1 < path.length ∧ path.getD (path.length - 2) 0 = v
    · have hv : inR v = true := by
        rw [← c.2]
        apply h
        have : path.length - 2 < path.length := by omega
        rw [List.getD_eq_getElem?_getD, List.getElem?_eq_getElem this]
        exact List.getElem_mem this
      rw [if_pos c, if_pos c, trunI_eq l _ met (fun x hx => h x (List.mem_of_mem_take hx)), hv, Bool.true_and]
    · rw [if_neg c, if_neg c]
      by_cases hv : inR v = true
      · rw [if_pos hv, hv, Bool.true_and]
        by_cases hm : v ∈ met
        · rw [if_pos hm, if_pos hm, Bool.and_false]
        · rw [if_neg hm, if_neg hm]
          refine trunI_eq l _ _ (fun x hx => ?_)
          rcases List.mem_append.mp hx with hx | hx
          · exact h x hx
          · simp at hx; rw [hx]; exact hv
      · rw [if_neg hv, Bool.eq_false_iff.2 hv]
        simp
def tourOk (l : List Int) : Bool := decide (1 ≤ (l.length : Int) ∧ (l.length : Int) ≤ 23) && (l.all inR && match l with
  | [] => false
  | r :: t => trun t [r] [r])
theorem all_range_inR (l : List Int) : (List.range l.length).all (fun i => inR (l.getD i 0)) = l.all inR := range_all_getD l 0 inR

theorem spec_l06Open_l0_ev (l : List Int) (hl : l.length ≤ 1000) : ∀ (d i : Nat) (path met : List Int), i + d = l.length → path.length ≤ i → met.length ≤ i → 1 ≤ path.length →
    Ev (fun k => spec_l06Open.l0 k l path met i) (trun (l.drop i) path met) := by
  intro d
  induction d with
  | zero =>
    intro i path met hi hp hm h3
    rw [List.drop_of_length_le (by omega), trun]
    refine Ev.step (fun k => by rw [spec_l06Open.l0, if_neg (by omega)]) ?_
    exact Ev.now _
  | succ d ih =>
    intro i path met hi hp hm h3
    have hil : i < l.length := by omega
    have hg : rd l (i : Int) = l[i] := by simp [rd, List.getD_eq_getElem?_getD, List.getElem?_eq_getElem hil]
    rw [List.drop_eq_getElem_cons hil, trun]
    have hj : ∀ b : Bool, (b = true → 1 < path.length) → Ev (fun k => spec_l06Open.j1 k l path met i b) (if b = true then trun (l.drop (i + 1)) (path.take (path.length - 1)) met else (if l[i] ∈ met then false else trun (l.drop (i + 1)) (path ++ [l[i]]) (met ++ [l[i]]))) := by
      intro b hb
      cases b with
      | true =>
        have hb := hb rfl
        have e : wrap64 ((path.length : Int) - 1) = ((path.length - 1 : Nat) : Int) := by unfold wrap64; omega
        rw [if_pos rfl]
        refine Ev.step (fun k => by rw [spec_l06Open.j1, if_pos rfl, e, if_pos (by omega), if_pos (by omega), Int.toNat_natCast, wrap_succ hil (by omega)]) ?_
        exact ih (i + 1) _ _ (by omega) (by rw [List.length_take]; omega) (by omega) (by rw [List.length_take]; omega)
      | false =>
        rw [if_neg (by simp)]
        refine Ev.step (fun k => by rw [spec_l06Open.j1, if_neg (by simp), if_pos (by omega), if_pos (by omega), hg, wrap_succ hil (by omega)]) ?_
        refine Ev.bind (spec_l05In_ev met l[i] (by omega)) ?_
        by_cases hm2 : l[i] ∈ met
        · simp only [decide_eq_true hm2, if_true, if_pos hm2]; exact Ev.now _
        · simp only [decide_eq_false hm2, Bool.false_eq_true, if_false, if_neg hm2, if_pos (show met.length < 17592186044416 by omega), if_pos (show path.length < 17592186044416 by omega)]
          exact ih (i + 1) _ _ (by omega) (by simp; omega) (by simp; omega) (by simp)
    by_cases c1 : (path.length : Int) > 1
    · have e2 : wrap64 ((path.length : Int) - 2) = ((path.length - 2 : Nat) : Int) := by unfold wrap64; omega
      refine Ev.step (fun k => by rw [spec_l06Open.l0, if_pos (by omega), if_pos c1, if_pos (by omega), e2, if_pos (by omega), if_pos (by omega), hg]) ?_
      have := hj (l[i] == rd path ((path.length - 2 : Nat) : Int)) (fun _ => by omega)
      have e3 : (if (l[i] == rd path ((path.length - 2 : Nat) : Int)) = true then trun (l.drop (i + 1)) (path.take (path.length - 1)) met else (if l[i] ∈ met then false else trun (l.drop (i + 1)) (path ++ [l[i]]) (met ++ [l[i]]))) = (if 1 < path.length ∧ path.getD (path.length - 2) 0 = l[i] then trun (l.drop (i + 1)) (path.take (path.length - 1)) met else (if l[i] ∈ met then false else trun (l.drop (i + 1)) (path ++ [l[i]]) (met ++ [l[i]]))) := by
        have e4 : rd path ((path.length - 2 : Nat) : Int) = path.getD (path.length - 2) 0 := by simp [rd]
        rw [e4]
        by_cases c : path.getD (path.length - 2) 0 = l[i]
        · rw [if_pos (by rw [c]; simp), if_pos ⟨by omega, c⟩]
        · rw [if_neg (by simp only [beq_iff_eq]; exact fun h => c h.symm), if_neg (show ¬ (1 < path.length ∧ path.getD (path.length - 2) 0 = l[i]) from fun h => c h.2)]
      rw [← e3]
      exact this
    · refine Ev.step (fun k => by rw [spec_l06Open.l0, if_pos (by omega), if_neg c1]) ?_
      rw [if_neg (show ¬ (1 < path.length ∧ path.getD (path.length - 2) 0 = l[i]) by omega)]
      have := hj false (fun h => by cases h)
      rw [if_neg (show ¬ (false = true) by simp)] at this
      exact this
theorem spec_l06Open_ev (r : Int) (t : List Int) (hl : t.length ≤ 900) : Ev (fun k => spec_l06Open.f k (r :: t)) (trun t [r] [r]) := by
  have e : rd (r :: t) 0 = r := rfl
  simp only [spec_l06Open.f, if_pos (show (0 : Int) < ((r :: t).length : Int) by rw [List.length_cons]; omega), e]
  have := spec_l06Open_l0_ev (r :: t) (by simp; omega) t.length 1 [r] [r] (by simp; omega) (by simp) (by simp) (by simp)
  simpa using this
theorem spec_TourOk_ev (l : List Int) : Ev (fun k => spec_TourOk.f k l) (tourOk l) := by
  simp only [spec_TourOk.f, spec_in_eq, Option.bind_some, tourOk]
  by_cases h : 1 ≤ (l.length : Int) ∧ (l.length : Int) ≤ 23
  · simp only [decide_eq_true h, if_true, Bool.true_and]
    cases l with
    | nil => simp at h
    | cons r t =>
      have := Ev.allloop (L := fun k i => spec_TourOk.l0 k (r :: t) i) (n := (r :: t).length) (fun i => inR ((r :: t).getD i 0)) false (trun t [r] [r]) ?_ ?_ ?_
      · rw [all_range_inR] at this
        have e : ((r :: t).all inR && trun t [r] [r]) = if (r :: t).all inR = true then trun t [r] [r] else false := by
          cases (r :: t).all inR <;> rfl
        simp only
        rw [e]
        exact this
      · intro i r1 hi hp hh
        unfold inR at hp
        refine Ev.step (fun k => by rw [spec_TourOk.l0, if_pos (by omega), if_pos (by omega), rd, Int.toNat_natCast, spec_in_eq, Option.bind_some, if_pos hp, wrap_succ hi (by omega)]) ?_
        exact hh
      · intro i hi hp
        unfold inR at hp
        refine Ev.step (fun k => by rw [spec_TourOk.l0, if_pos (by omega), if_pos (by omega), rd, Int.toNat_natCast, spec_in_eq, Option.bind_some, hp, if_neg (by simp)]) ?_
        exact Ev.now _
      · refine Ev.step (fun k => by rw [spec_TourOk.l0, if_neg (by omega)]) ?_
        exact Ev.bind (spec_l06Open_ev r t (by simp at h; omega)) (Ev.now _)
  · simp only [decide_eq_false h, Bool.false_eq_true, if_false, Bool.false_and]
    exact Ev.now _

theorem impl_TourOk_l0_ev (l : List Int) (hl : l.length ≤ 1000) : ∀ (d i : Nat) (path met : List Int), i + d = l.length → path.length ≤ i + 1 → met.length ≤ i + 1 → 1 ≤ path.length →
    Ev (fun k => impl_TourOk.l0 k path met l l.length i) (trunI (l.drop i) path met) := by
  intro d
  induction d with
  | zero =>
    intro i path met hi hp hm h3
    rw [List.drop_of_length_le (by omega), trunI]
    refine Ev.step (fun k => by rw [impl_TourOk.l0, if_neg (by omega)]) ?_
    exact Ev.now _
  | succ d ih =>
    intro i path met hi hp hm h3
    have hil : i < l.length := by omega
    have hg : rd l (i : Int) = l[i] := by simp [rd, List.getD_eq_getElem?_getD, List.getElem?_eq_getElem hil]
    rw [List.drop_eq_getElem_cons hil, trunI]
    have hj : ∀ b : Bool, (b = true → 1 < path.length) → Ev (fun k => impl_TourOk.j2 k path met l[i] path.length l l.length i b) (if b = true then trunI (l.drop (i + 1)) (path.take (path.length - 1)) met else (if inR l[i] = true then (if l[i] ∈ met then false else trunI (l.drop (i + 1)) (path ++ [l[i]]) (met ++ [l[i]])) else false)) := by
      intro b hb
      cases b with
      | true =>
        have hb := hb rfl
        have e : wrap64 ((path.length : Int) - 1) = ((path.length - 1 : Nat) : Int) := by unfold wrap64; omega
        rw [if_pos rfl]
        refine Ev.step (fun k => by rw [impl_TourOk.j2, if_pos rfl, e, if_pos (by omega), if_pos (by omega), Int.toNat_natCast, wrap_succ hil (by omega)]) ?_
        exact ih (i + 1) _ _ (by omega) (by rw [List.length_take]; omega) (by omega) (by rw [List.length_take]; omega)
      | false =>
        rw [if_neg (by simp)]
        refine Ev.step (fun k => by rw [impl_TourOk.j2, if_neg (by simp), impl_in_eq, Option.bind_some, wrap_succ hil (by omega)]) ?_
        unfold inR
        by_cases hr : 0 ≤ l[i] ∧ l[i] ≤ 11
        · simp only [decide_eq_true hr, if_true]
          refine Ev.bind (impl_hasInt_ev met l[i] (by omega)) ?_
          by_cases hm2 : l[i] ∈ met
          · simp only [decide_eq_true hm2, if_true, if_pos hm2]; exact Ev.now _
          · simp only [decide_eq_false hm2, Bool.false_eq_true, if_false, if_neg hm2, if_pos (show met.length < 17592186044416 by omega), if_pos (show path.length < 17592186044416 by omega)]
            exact ih (i + 1) _ _ (by omega) (by simp; omega) (by simp; omega) (by simp)
        · simp only [decide_eq_false hr, Bool.false_eq_true, if_false]; exact Ev.now _
    by_cases c1 : (path.length : Int) > 1
    · have e2 : wrap64 ((path.length : Int) - 2) = ((path.length - 2 : Nat) : Int) := by unfold wrap64; omega
      refine Ev.step (fun k => by rw [impl_TourOk.l0, if_pos (by omega), if_pos (by omega), if_pos (by omega), if_pos c1, e2, if_pos (by omega), if_pos (by omega), hg]) ?_
      have := hj (rd path ((path.length - 2 : Nat) : Int) == l[i]) (fun _ => by omega)
      have e3 : (if (rd path ((path.length - 2 : Nat) : Int) == l[i]) = true then trunI (l.drop (i + 1)) (path.take (path.length - 1)) met else (if inR l[i] = true then (if l[i] ∈ met then false else trunI (l.drop (i + 1)) (path ++ [l[i]]) (met ++ [l[i]])) else false)) = (if 1 < path.length ∧ path.getD (path.length - 2) 0 = l[i] then trunI (l.drop (i + 1)) (path.take (path.length - 1)) met else (if inR l[i] = true then (if l[i] ∈ met then false else trunI (l.drop (i + 1)) (path ++ [l[i]]) (met ++ [l[i]])) else false)) := by
        have e4 : rd path ((path.length - 2 : Nat) : Int) = path.getD (path.length - 2) 0 := by simp [rd]
        rw [e4]
        by_cases c : path.getD (path.length - 2) 0 = l[i]
        · rw [if_pos (by rw [c]; simp), if_pos ⟨by omega, c⟩]
        · rw [if_neg (by simp only [beq_iff_eq]; exact fun h => c h), if_neg (show ¬ (1 < path.length ∧ path.getD (path.length - 2) 0 = l[i]) from fun h => c h.2)]
      rw [← e3]
      exact this
    · refine Ev.step (fun k => by rw [impl_TourOk.l0, if_pos (by omega), if_pos (by omega), if_pos (by omega), if_neg c1, hg]) ?_
      rw [if_neg (show ¬ (1 < path.length ∧ path.getD (path.length - 2) 0 = l[i]) by omega)]
      have := hj false (fun h => by cases h)
      rw [if_neg (show ¬ (false = true) by simp)] at this
      exact this
theorem impl_TourOk_ev (l : List Int) : Ev (fun k => impl_TourOk.f k l) (tourOk l) := by
  simp only [impl_TourOk.f, impl_in_eq, Option.bind_some, tourOk]
  have hno : Ev (fun k => impl_TourOk.j0 k l true) false := by
    refine Ev.step (fun k => by rw [impl_TourOk.j0, if_pos rfl]) ?_
    exact Ev.now _
  by_cases h : 1 ≤ (l.length : Int) ∧ (l.length : Int) ≤ 23
  · simp only [decide_eq_true h, if_true, Bool.true_and]
    cases l with
    | nil => simp at h
    | cons r t =>
      have e : rd (r :: t) 0 = r := rfl
      have hlt : (0 : Int) < ((r :: t).length : Int) := by rw [List.length_cons]; omega
      simp only [if_pos hlt, e]
      by_cases hr : 0 ≤ r ∧ r ≤ 11
      · simp only [decide_eq_true hr, Bool.not_true]
        refine Ev.step (fun k => by rw [impl_TourOk.j0, if_neg (by simp), if_pos hlt, if_pos (by omega), e]) ?_
        have hr2 : inR r = true := by unfold inR; exact decide_eq_true hr
        have := impl_TourOk_l0_ev t (by simp at h; omega) t.length 0 [r] [r] (by omega) (by simp) (by simp) (by simp)
        rw [List.drop_zero, trunI_eq t [r] [r] (by simp [hr2])] at this
        simp only [List.all_cons, hr2, Bool.true_and]
        exact this
      · simp only [decide_eq_false hr, Bool.not_false]
        have hr2 : inR r = false := by unfold inR; exact decide_eq_false hr
        simp only [List.all_cons, hr2, Bool.false_and]
        exact hno
  · simp only [decide_eq_false h, Bool.false_eq_true, if_false, Bool.false_and]
    exact hno

theorem findR_range (p : Nat → Bool) : ∀ (d i : Nat), findR p (fun i => (i : Int)) (-1) d i = -1 ∨ ((i : Int) ≤ findR p (fun i => (i : Int)) (-1) d i ∧ findR p (fun i => (i : Int)) (-1) d i < ((i + d : Nat) : Int) ∧ p (findR p (fun i => (i : Int)) (-1) d i).toNat = true)
  | 0, _ => Or.inl rfl
  | d + 1, i => by
    rw [findR]
    split
    · rename_i h; right; exact ⟨Int.le_refl _, by omega, by simpa using h⟩
    · rcases findR_range p d (i + 1) with h | h
      · exact Or.inl h
      · right; exact ⟨by omega, by omega, h.2.2⟩

/-! a tour from another of its vertices on -/
def firstI (l : List Int) (a : Int) : Int := findR (fun i => decide (l.getD i 0 = a)) (fun i => (i : Int)) (-1) l.length 0
theorem firstI_range (l : List Int) (a : Int) : firstI l a = -1 ∨ (0 ≤ firstI l a ∧ firstI l a < l.length ∧ l.getD (firstI l a).toNat 0 = a) := by
  rcases findR_range (fun i => decide (l.getD i 0 = a)) l.length 0 with h | h
  · exact Or.inl h
  · right; exact ⟨by have := h.1; unfold firstI; omega, by have := h.2.1; unfold firstI; omega, of_decide_eq_true h.2.2⟩
theorem spec_l06First_ev (l : List Int) (a : Int) (hl : l.length ≤ 4611686018427387904) : Ev (fun k => spec_l06First.f k l a) (firstI l a) := by
  simp only [spec_l06First.f, firstI]
  refine Ev.findloop (L := fun k i => spec_l06First.l0 k l a i) (n := l.length) (fun i => decide (l.getD i 0 = a)) (fun i => (i : Int)) (-1) ?_ ?_ ?_
  · intro i r hi hp h
    have hp := of_decide_eq_false hp
    refine Ev.step (fun k => by rw [spec_l06First.l0, if_pos (by omega), if_pos (by omega), rd, Int.toNat_natCast, if_neg hp, wrap_succ hi hl]) ?_
    exact h
  · intro i hi hp
    have hp := of_decide_eq_true hp
    refine Ev.step (fun k => by rw [spec_l06First.l0, if_pos (by omega), if_pos (by omega), rd, Int.toNat_natCast, if_pos hp]) ?_
    exact Ev.now _
  · refine Ev.step (fun k => by rw [spec_l06First.l0, if_neg (by omega)]) ?_
    exact Ev.now _
theorem impl_placeOf_ev (l : List Int) (a : Int) (hl : l.length ≤ 4611686018427387904) : Ev (fun k => impl_placeOf.f k l a) (firstI l a) := by
  simp only [impl_placeOf.f, firstI]
  refine Ev.findloop (L := fun k i => impl_placeOf.l0 k a l l.length i) (n := l.length) (fun i => decide (l.getD i 0 = a)) (fun i => (i : Int)) (-1) ?_ ?_ ?_
  · intro i r hi hp h
    have hp := of_decide_eq_false hp
    refine Ev.step (fun k => by rw [impl_placeOf.l0, if_pos (by omega), if_pos (by omega), if_pos (by omega), rd, Int.toNat_natCast, if_neg hp, wrap_succ hi hl]) ?_
    exact h
  · intro i hi hp
    have hp := of_decide_eq_true hp
    refine Ev.step (fun k => by rw [impl_placeOf.l0, if_pos (by omega), if_pos (by omega), if_pos (by omega), rd, Int.toNat_natCast, if_pos hp]) ?_
    exact Ev.now _
  · refine Ev.step (fun k => by rw [impl_placeOf.l0, if_neg (by omega)]) ?_
    exact Ev.now _
theorem trun_last : ∀ (l path met : List Int), 1 ≤ path.length → trun l path met = true → l.getLast?.getD (path.getD (path.length - 1) 0) = path.getD 0 0
  | [], path, met, h1, h => by
    simp only [trun, beq_iff_eq] at h
    have : path.length - 1 = 0 := by omega
    rw [this]; rfl
  | v :: l, path, met, h1, h => by
    rw [trun] at h
    have hlast : (v :: l).getLast?.getD (path.getD (path.length - 1) 0) = l.getLast?.getD v := by
      rw [List.getLast?_cons]; rfl
    rw [hlast]
    split at h
    · rename_i hc
      have := trun_last l (path.take (path.length - 1)) met (by rw [List.length_take]; omega) h
      have e1 : (path.take (path.length - 1)).getD ((path.take (path.length - 1)).length - 1) 0 = v := by
        rw [← hc.2, List.length_take, List.getD_eq_getElem?_getD, List.getD_eq_getElem?_getD, List.getElem?_take_of_lt (by omega)]
        congr 2; omega
      have e2 : (path.take (path.length - 1)).getD 0 0 = path.getD 0 0 := by
        rw [List.getD_eq_getElem?_getD, List.getD_eq_getElem?_getD, List.getElem?_take_of_lt (by omega)]
      rw [e1, e2] at this
      exact this
    · split at h
      · cases h
      · have := trun_last l (path ++ [v]) (met ++ [v]) (by simp) h
        have e1 : (path ++ [v]).getD ((path ++ [v]).length - 1) 0 = v := by
          rw [List.length_append, List.getD_eq_getElem?_getD, List.getElem?_append_right (by simp)]
          simp
        have e2 : (path ++ [v]).getD 0 0 = path.getD 0 0 := by
          rw [List.getD_eq_getElem?_getD, List.getD_eq_getElem?_getD, List.getElem?_append_left (by omega)]
        rw [e1, e2] at this
        exact this
/-- A right tour ends where it begins. -/
theorem tourOk_last {l : List Int} (h : tourOk l = true) : (1 ≤ l.length ∧ l.length ≤ 23) ∧ l = l.take (l.length - 1) ++ [l.getD 0 0] := by
  simp only [tourOk, Bool.and_eq_true, decide_eq_true_eq] at h
  refine ⟨by omega, ?_⟩
  cases l with
  | nil => simp at h
  | cons r t =>
    have := trun_last t [r] [r] (by simp) h.2.2
    have e : (r :: t).getLast? = some r := by
      rw [List.getLast?_cons]
      exact congrArg some this
    have hne : (r :: t) ≠ [] := by simp
    have h3 := List.dropLast_concat_getLast hne
    have h4 : (r :: t).getLast hne = r := by
      rw [List.getLast?_eq_some_getLast hne] at e
      exact Option.some.inj e
    rw [h4, List.dropLast_eq_take] at h3
    exact h3.symm
def rerootP (l : List Int) (a : Int) : List Int × Bool :=
  if tourOk l = true ∧ 0 ≤ firstI l a then ((l.take (l.length - 1)).drop (firstI l a).toNat ++ l.take (firstI l a).toNat ++ [a], true) else ([], false)
theorem rerootP_len (l : List Int) (a : Int) : (rerootP l a).1.length ≤ 46 := by
  unfold rerootP
  split
  · rename_i h
    have := tourOk_last h.1
    simp; omega
  · simp
theorem spec_Reroot_ev (l : List Int) (a : Int) (hl : l.length ≤ 4611686018427387904) : Ev (fun k => spec_Reroot.f k l a) (rerootP l a) := by
  simp only [spec_Reroot.f]
  refine Ev.bind (spec_TourOk_ev l) ?_
  have hno : Ev (fun k => spec_Reroot.j0 k l a true) ([], false) := by
    refine Ev.step (fun k => by rw [spec_Reroot.j0, if_pos rfl]) ?_
    exact Ev.now _
  unfold rerootP
  by_cases ht : tourOk l = true
  · simp only [if_pos ht]
    have hlast := tourOk_last ht
    refine Ev.bind (spec_l06First_ev l a hl) ?_
    rcases firstI_range l a with hf | ⟨h0, h1, h2⟩
    · rw [hf, decide_eq_true (by omega), if_neg (by omega)]
      exact hno
    · rw [decide_eq_false (by omega), if_pos ⟨ht, h0⟩]
      refine Ev.step (fun k => by rw [spec_Reroot.j0, if_neg (by simp)]) ?_
      refine Ev.bind (spec_l06First_ev l a hl) ?_
      by_cases hz : firstI l a = 0
      · simp only [if_pos hz, Option.bind_some, List.length_nil, if_pos (show 0 + l.length < 17592186044416 by omega)]
        rw [hz] at h2 ⊢
        have e : (l.take (l.length - 1)).drop (0 : Int).toNat ++ l.take (0 : Int).toNat ++ [a] = [] ++ l := by
          rw [← h2]
          simp only [Int.toNat_zero, List.drop_zero, List.take_zero, List.append_nil, List.nil_append]
          exact hlast.2.symm
        rw [e]
        exact Ev.now _
      · have e1 : wrap64 ((l.length : Int) - 1) = ((l.length - 1 : Nat) : Int) := by unfold wrap64; omega
        have hz1 : (l.take (l.length - 1)).length = l.length - 1 := by rw [List.length_take]; omega
        simp only [if_neg hz, Option.bind_some, e1, if_pos h0, Int.toNat_natCast, if_pos (show firstI l a ≤ ((l.length - 1 : Nat) : Int) by omega), if_pos (show ((l.length - 1 : Nat) : Int) ≤ (l.length : Int) by omega), List.nil_append, List.length_nil, List.length_append, List.length_drop, List.length_take,
          if_pos (show 0 + (min (l.length - 1) l.length - (firstI l a).toNat) < 17592186044416 by omega), if_pos (show firstI l a ≤ (l.length : Int) by omega), if_pos (show 0 + (min (l.length - 1) l.length - (firstI l a).toNat) + min (firstI l a).toNat l.length < 17592186044416 by omega), if_pos (show min (l.length - 1) l.length - (firstI l a).toNat + min (firstI l a).toNat l.length < 17592186044416 by omega)]
        exact Ev.now _
  · simp only [if_neg ht]
    rw [if_neg (fun h => ht h.1)]
    exact hno

theorem impl_copyInts_eq (l : List Int) (hl : l.length < 17592186044416) : impl_copyInts.f l = some l := by
  simp [impl_copyInts.f, hl]
theorem impl_Reroot_ev (l : List Int) (a : Int) (hl : l.length ≤ 4611686018427387904) : Ev (fun k => impl_Reroot.f k l a) (rerootP l a) := by
  simp only [impl_Reroot.f]
  refine Ev.bind (impl_placeOf_ev l a hl) ?_
  refine Ev.bind (impl_TourOk_ev l) ?_
  unfold rerootP
  by_cases ht : tourOk l = true
  · simp only [if_pos ht]
    have hlast := tourOk_last ht
    rcases firstI_range l a with hf | ⟨h0, h1, h2⟩
    · rw [if_neg (show ¬ (tourOk l = true ∧ 0 ≤ firstI l a) by omega)]
      simp only [if_pos (show firstI l a < 0 by omega)]
      exact Ev.now _
    · rw [if_pos (show tourOk l = true ∧ 0 ≤ firstI l a from ⟨ht, h0⟩)]
      have e1 : wrap64 ((l.length : Int) - 1) = ((l.length - 1 : Nat) : Int) := by unfold wrap64; omega
      have hc : impl_copyInts.f ((l.take (l.length - 1)).drop (firstI l a).toNat) = some ((l.take (l.length - 1)).drop (firstI l a).toNat) := impl_copyInts_eq _ (by rw [List.length_drop, List.length_take]; omega)
      simp only [if_neg (show ¬ firstI l a < 0 by omega), e1, if_pos h0, Int.toNat_natCast, if_pos (show firstI l a ≤ ((l.length - 1 : Nat) : Int) by omega), if_pos (show ((l.length - 1 : Nat) : Int) ≤ (l.length : Int) by omega), hc, Option.bind_some, List.length_append, List.length_drop, List.length_take,
        if_pos (show firstI l a ≤ (l.length : Int) by omega), if_pos (show min (l.length - 1) l.length - (firstI l a).toNat + min (firstI l a).toNat l.length < 17592186044416 by omega)]
      exact Ev.now _
  · simp only [if_neg ht]
    rw [if_neg (fun h => ht h.1)]
    exact Ev.now _

/-! two tours joined -/
def lastN (l : List Int) (a : Int) : Nat → Int
  | 0 => -1
  | n + 1 => if l.getD n 0 = a then (n : Int) else lastN l a n
theorem lastN_range (l : List Int) (a : Int) : ∀ n, n ≤ l.length → lastN l a n = -1 ∨ (0 ≤ lastN l a n ∧ lastN l a n < n ∧ l.getD (lastN l a n).toNat 0 = a)
  | 0, _ => Or.inl rfl
  | n + 1, h => by
    rw [lastN]
    split
    · rename_i hc; right; exact ⟨by omega, by omega, by simpa using hc⟩
    · rcases lastN_range l a n (by omega) with h1 | h1
      · exact Or.inl h1
      · right; omega
theorem lastN_none {l : List Int} {a : Int} : ∀ n, n ≤ l.length → lastN l a n = -1 → ∀ i, i < n → l.getD i 0 ≠ a
  | 0, _, _, i, hi => by omega
  | n + 1, hn, h, i, hi => by
    rw [lastN] at h
    split at h
    · omega
    · rename_i hc
      by_cases hin : i = n
      · rw [hin]; exact hc
      · exact lastN_none n (by omega) h i (by omega)
def joinP (a : List Int) (u : Int) (b : List Int) (v : Int) : List Int × Bool :=
  if tourOk a = true ∧ tourOk b = true ∧ 0 ≤ firstI a u ∧ 0 ≤ firstI b v ∧ ∀ x ∈ b, x ∉ a then
    (a.take (lastN a u a.length + 1).toNat ++ (rerootP b v).1 ++ a.drop (lastN a u a.length).toNat, true)
  else ([], false)
theorem joinP_len (a : List Int) (u : Int) (b : List Int) (v : Int) : (joinP a u b v).1.length ≤ 100 := by
  unfold joinP
  split
  · rename_i h
    have h1 := tourOk_last h.1
    have h2 := rerootP_len b v
    simp; omega
  · simp
theorem spec_l06Last_ev (l : List Int) (a : Int) (hl : l.length ≤ 1000) : Ev (fun k => spec_l06Last.f k l a) (lastN l a l.length) := by
  simp only [spec_l06Last.f]
  have e : wrap64 ((l.length : Int) - 1) = (l.length : Int) - 1 := by unfold wrap64; omega
  rw [e]
  have key : ∀ n : Nat, n ≤ l.length → Ev (fun k => spec_l06Last.l0 k l a ((n : Int) - 1)) (lastN l a n) := by
    intro n
    induction n with
    | zero =>
      intro _
      refine Ev.step (fun k => by rw [spec_l06Last.l0, if_neg (by omega)]) ?_
      exact Ev.now _
    | succ n ih =>
      intro hn
      have e1 : (((n + 1 : Nat) : Int) - 1) = (n : Int) := by omega
      have e2 : wrap64 ((n : Int) - 1) = (n : Int) - 1 := by unfold wrap64; omega
      rw [e1, lastN]
      by_cases hc : l.getD n 0 = a
      · rw [if_pos hc]
        refine Ev.step (fun k => by rw [spec_l06Last.l0, if_pos (by omega), if_pos (by omega), if_pos (by omega), rd, Int.toNat_natCast, if_pos hc]) ?_
        exact Ev.now _
      · rw [if_neg hc]
        refine Ev.step (fun k => by rw [spec_l06Last.l0, if_pos (by omega), if_pos (by omega), if_pos (by omega), rd, Int.toNat_natCast, if_neg hc, e2]) ?_
        exact ih (by omega)
  exact key l.length (Nat.le_refl _)
theorem firstI_last {l : List Int} {a : Int} (h : 0 ≤ firstI l a) : 0 ≤ lastN l a l.length ∧ lastN l a l.length < l.length := by
  rcases firstI_range l a with hf | ⟨h0, h1, h2⟩
  · omega
  · rcases lastN_range l a l.length (Nat.le_refl _) with hl | hl
    · exact absurd h2 (lastN_none l.length (Nat.le_refl _) hl _ (by omega))
    · omega
theorem rerootP_snd (b : List Int) (v : Int) : (rerootP b v).2 = decide (tourOk b = true ∧ 0 ≤ firstI b v) := by
  unfold rerootP
  split
  · rename_i h; rw [decide_eq_true h]
  · rename_i h; rw [decide_eq_false h]
theorem spec_JoinTours_ev (a : List Int) (u : Int) (b : List Int) (v : Int) (ha : a.length ≤ 1048576) (hb : b.length ≤ 1048576) : Ev (fun k => spec_JoinTours.f k a u b v) (joinP a u b v) := by
  simp only [spec_JoinTours.f]
  have hno : Ev (fun k => spec_JoinTours.j0 k a u b v true) ([], false) := by
    refine Ev.step (fun k => by rw [spec_JoinTours.j0, if_pos rfl]) ?_
    exact Ev.now _
  refine Ev.bind (spec_TourOk_ev a) ?_
  unfold joinP
  by_cases h1 : tourOk a = true
  · simp only [if_pos h1]
    refine Ev.bind (spec_TourOk_ev b) ?_
    by_cases h2 : tourOk b = true
    · simp only [if_pos h2]
      refine Ev.bind (spec_l06First_ev a u (by omega)) ?_
      by_cases h3 : 0 ≤ firstI a u
      · simp only [if_neg (show ¬ firstI a u < 0 by omega)]
        refine Ev.bind (spec_l06First_ev b v (by omega)) ?_
        by_cases h4 : 0 ≤ firstI b v
        · rw [decide_eq_false (show ¬ firstI b v < 0 by omega)]
          refine Ev.step (fun k => by rw [spec_JoinTours.j0, if_neg (by simp)]) ?_
          have hla := tourOk_last h1
          have hlb := tourOk_last h2
          have hk := firstI_last h3
          have hrl := rerootP_len b v
          have := Ev.allloop (L := fun k i => spec_JoinTours.l0 k a u b v i) (n := b.length) (fun i => !decide (b.getD i 0 ∈ a)) ([], false) (a.take (lastN a u a.length + 1).toNat ++ (rerootP b v).1 ++ a.drop (lastN a u a.length).toNat, true) ?_ ?_ ?_
          · have e : (List.range b.length).all (fun i => !decide (b.getD i 0 ∈ a)) = b.all (fun x => !decide (x ∈ a)) := range_all_getD b 0 (fun x => !decide (x ∈ a))
            rw [e] at this
            by_cases hd : ∀ x ∈ b, x ∉ a
            · rw [if_pos (show tourOk a = true ∧ tourOk b = true ∧ 0 ≤ firstI a u ∧ 0 ≤ firstI b v ∧ ∀ x ∈ b, x ∉ a from ⟨h1, h2, h3, h4, hd⟩)]
              rw [if_pos (by rw [List.all_eq_true]; intro x hx; simp [hd x hx])] at this
              exact this
            · rw [if_neg (show ¬ (tourOk a = true ∧ tourOk b = true ∧ 0 ≤ firstI a u ∧ 0 ≤ firstI b v ∧ ∀ x ∈ b, x ∉ a) from fun h => hd h.2.2.2.2)]
              rw [if_neg (by rw [List.all_eq_true]; intro hh; exact hd (fun x hx => by simpa using hh x hx))] at this
              exact this
          · intro i r hi hp h
            simp only [Bool.not_eq_true', decide_eq_false_iff_not] at hp
            refine Ev.step (fun k => by rw [spec_JoinTours.l0, if_pos (by omega), if_pos (by omega), rd, Int.toNat_natCast, wrap_succ hi (by omega)]) ?_
            refine Ev.bind (spec_l05In_ev a _ (by omega)) ?_
            simp only [decide_eq_false hp, Bool.false_eq_true, if_false]
            exact h
          · intro i hi hp
            simp only [Bool.not_eq_false', decide_eq_true_eq] at hp
            refine Ev.step (fun k => by rw [spec_JoinTours.l0, if_pos (by omega), if_pos (by omega), rd, Int.toNat_natCast, wrap_succ hi (by omega)]) ?_
            refine Ev.bind (spec_l05In_ev a _ (by omega)) ?_
            simp only [decide_eq_true hp, if_true]
            exact Ev.now _
          · refine Ev.step (fun k => by rw [spec_JoinTours.l0, if_neg (by omega)]) ?_
            refine Ev.bind (spec_Reroot_ev b v (by omega)) ?_
            refine Ev.bind (spec_l06Last_ev a u (by omega)) ?_
            have e1 : wrap64 (lastN a u a.length + 1) = lastN a u a.length + 1 := by unfold wrap64; omega
            simp only [Option.bind_some, e1, if_pos (show 0 ≤ lastN a u a.length + 1 by omega), if_pos (show lastN a u a.length + 1 ≤ (a.length : Int) by omega), List.length_nil, List.nil_append, List.length_append, List.length_take, List.length_drop,
              if_pos (show 0 + min (lastN a u a.length + 1).toNat a.length < 17592186044416 by omega), if_pos (show 0 + min (lastN a u a.length + 1).toNat a.length + (rerootP b v).1.length < 17592186044416 by omega), if_pos (show 0 + min (lastN a u a.length + 1).toNat a.length + (rerootP b v).1.length + (a.length - (lastN a u a.length).toNat) < 17592186044416 by omega), if_pos (show min (lastN a u a.length + 1).toNat a.length + (rerootP b v).1.length < 17592186044416 by omega), if_pos hk.1, if_pos (show lastN a u a.length ≤ (a.length : Int) by omega), if_pos (show min (lastN a u a.length + 1).toNat a.length + (rerootP b v).1.length + (a.length - (lastN a u a.length).toNat) < 17592186044416 by omega)]
            exact Ev.now _
        · rw [decide_eq_true (show firstI b v < 0 by omega), if_neg (fun h => h4 h.2.2.2.1)]
          exact hno
      · simp only [if_pos (show firstI a u < 0 by omega)]
        rw [if_neg (fun h => h3 h.2.2.1)]
        exact hno
    · simp only [if_neg h2]
      rw [if_neg (fun h => h2 h.2.1)]
      exact hno
  · simp only [if_neg h1]
    rw [if_neg (fun h => h1 h.1)]
    exact hno

theorem impl_JoinTours_l1_ev (a : List Int) (u : Int) (m : List Int) (ha : a.length ≤ 1000) (hm : m.length ≤ 1000) : ∀ n : Nat, n ≤ a.length → 0 ≤ lastN a u n →
    Ev (fun k => impl_JoinTours.l1 k a u m ((n : Int) - 1)) (a.take (lastN a u n + 1).toNat ++ m ++ a.drop (lastN a u n).toNat, true) := by
  intro n
  induction n with
  | zero => intro _ h; rw [lastN] at h; omega
  | succ n ih =>
    intro hn h
    have e1 : (((n + 1 : Nat) : Int) - 1) = (n : Int) := by omega
    have e2 : wrap64 ((n : Int) - 1) = (n : Int) - 1 := by unfold wrap64; omega
    rw [lastN] at h ⊢
    rw [e1]
    by_cases hc : a.getD n 0 = u
    · rw [if_pos hc]
      have e3 : wrap64 ((n : Int) + 1) = (n : Int) + 1 := by unfold wrap64; omega
      have hcp : impl_copyInts.f (a.take ((n : Int) + 1).toNat) = some (a.take ((n : Int) + 1).toNat) := impl_copyInts_eq _ (by rw [List.length_take]; omega)
      refine Ev.step (fun k => by rw [impl_JoinTours.l1, if_pos (by omega), if_pos (by omega), rd, Int.toNat_natCast, if_pos hc, e3, if_pos (by omega), if_pos (by omega), hcp, Option.bind_some]) ?_
      simp only [Option.bind_some, List.length_append, List.length_take, List.length_drop, Int.toNat_natCast, if_pos (show min ((n : Int) + 1).toNat a.length + m.length < 17592186044416 by omega), if_pos (show (n : Int) ≤ (a.length : Int) by omega), if_pos (show min ((n : Int) + 1).toNat a.length + m.length + (a.length - n) < 17592186044416 by omega)]
      exact Ev.now _
    · rw [if_neg hc] at h ⊢
      refine Ev.step (fun k => by rw [impl_JoinTours.l1, if_pos (by omega), if_pos (by omega), rd, Int.toNat_natCast, if_neg hc, e2]) ?_
      exact ih (by omega) h
theorem impl_JoinTours_ev (a : List Int) (u : Int) (b : List Int) (v : Int) (ha : a.length ≤ 1048576) (hb : b.length ≤ 1048576) : Ev (fun k => impl_JoinTours.f k a u b v) (joinP a u b v) := by
  simp only [impl_JoinTours.f]
  have hno : ∀ m, Ev (fun k => impl_JoinTours.j0 k a u b m true) ([], false) := by
    intro m
    refine Ev.step (fun k => by rw [impl_JoinTours.j0, if_pos rfl]) ?_
    exact Ev.now _
  refine Ev.bind (impl_Reroot_ev b v (by omega)) ?_
  refine Ev.bind (impl_TourOk_ev a) ?_
  rw [rerootP_snd]
  unfold joinP
  by_cases h1 : tourOk a = true
  · simp only [if_pos h1]
    by_cases h24 : tourOk b = true ∧ 0 ≤ firstI b v
    · simp only [decide_eq_true h24, if_true]
      refine Ev.bind (impl_placeOf_ev a u (by omega)) ?_
      by_cases h3 : 0 ≤ firstI a u
      · rw [decide_eq_false (show ¬ firstI a u < 0 by omega)]
        have hla := tourOk_last h1
        have hk := firstI_last h3
        have hrl := rerootP_len b v
        refine Ev.step (fun k => by rw [impl_JoinTours.j0, if_neg (by simp)]) ?_
        have := Ev.allloop (L := fun k i => impl_JoinTours.l0 k a u b (rerootP b v).1 a a.length i) (n := a.length) (fun i => !decide (a.getD i 0 ∈ b)) ([], false) (a.take (lastN a u a.length + 1).toNat ++ (rerootP b v).1 ++ a.drop (lastN a u a.length).toNat, true) ?_ ?_ ?_
        · have e : (List.range a.length).all (fun i => !decide (a.getD i 0 ∈ b)) = a.all (fun x => !decide (x ∈ b)) := range_all_getD a 0 (fun x => !decide (x ∈ b))
          rw [e] at this
          by_cases hd : ∀ x ∈ b, x ∉ a
          · rw [if_pos (show tourOk a = true ∧ tourOk b = true ∧ 0 ≤ firstI a u ∧ 0 ≤ firstI b v ∧ ∀ x ∈ b, x ∉ a from ⟨h1, h24.1, h3, h24.2, hd⟩)]
            rw [if_pos (by rw [List.all_eq_true]; intro x hx; simpa using fun hb => hd x hb hx)] at this
            exact this
          · rw [if_neg (show ¬ (tourOk a = true ∧ tourOk b = true ∧ 0 ≤ firstI a u ∧ 0 ≤ firstI b v ∧ ∀ x ∈ b, x ∉ a) from fun h => hd h.2.2.2.2)]
            rw [if_neg (by rw [List.all_eq_true]; intro hh; exact hd (fun x hx hxa => by have := hh x hxa; simp [hx] at this))] at this
            exact this
        · intro i r hi hp h
          simp only [Bool.not_eq_true', decide_eq_false_iff_not] at hp
          refine Ev.step (fun k => by rw [impl_JoinTours.l0, if_pos (by omega), if_pos (by omega), if_pos (by omega), rd, Int.toNat_natCast, wrap_succ hi (by omega)]) ?_
          refine Ev.bind (impl_hasInt_ev b _ (by omega)) ?_
          simp only [decide_eq_false hp, Bool.false_eq_true, if_false]
          exact h
        · intro i hi hp
          simp only [Bool.not_eq_false', decide_eq_true_eq] at hp
          refine Ev.step (fun k => by rw [impl_JoinTours.l0, if_pos (by omega), if_pos (by omega), if_pos (by omega), rd, Int.toNat_natCast, wrap_succ hi (by omega)]) ?_
          refine Ev.bind (impl_hasInt_ev b _ (by omega)) ?_
          simp only [decide_eq_true hp, if_true]
          exact Ev.now _
        · have e1 : wrap64 ((a.length : Int) - 1) = (a.length : Int) - 1 := by unfold wrap64; omega
          refine Ev.step (fun k => by rw [impl_JoinTours.l0, if_neg (by omega), e1]) ?_
          exact impl_JoinTours_l1_ev a u _ (by omega) (by omega) a.length (Nat.le_refl _) hk.1
      · rw [decide_eq_true (show firstI a u < 0 by omega), if_neg (fun h => h3 h.2.2.1)]
        exact hno _
    · simp only [decide_eq_false h24, Bool.false_eq_true, if_false]
      rw [if_neg (fun h => h24 ⟨h.2.1, h.2.2.2.1⟩)]
      exact hno _
  · simp only [if_neg h1]
    rw [if_neg (fun h => h1 h.1)]
    exact hno _

/-! ascending rows -/
theorem asc_ext : ∀ {l m : List Int}, l.Pairwise (· < ·) → m.Pairwise (· < ·) → (∀ x, x ∈ l ↔ x ∈ m) → l = m
  | [], [], _, _, _ => rfl
  | [], b :: m, _, _, h => absurd ((h b).2 List.mem_cons_self) (by simp)
  | a :: l, [], _, _, h => absurd ((h a).1 List.mem_cons_self) (by simp)
  | a :: l, b :: m, hl, hm, h => by
    rw [List.pairwise_cons] at hl hm
    have hab : a = b := by
      have h1 := (h a).1 List.mem_cons_self
      have h2 := (h b).2 List.mem_cons_self
      rcases List.mem_cons.1 h1 with e | e
      · exact e
      · rcases List.mem_cons.1 h2 with e2 | e2
        · exact e2.symm
        · have := hm.1 a e; have := hl.1 b e2; omega
    subst hab
    rw [asc_ext hl.2 hm.2 (fun x => ⟨fun hx => by
      rcases List.mem_cons.1 ((h x).1 (List.mem_cons_of_mem _ hx)) with e | e
      · have := hl.1 x hx; omega
      · exact e, fun hx => by
      rcases List.mem_cons.1 ((h x).2 (List.mem_cons_of_mem _ hx)) with e | e
      · have := hm.1 x hx; omega
      · exact e⟩)]
def insS : List Int → Int → List Int
  | [], n => [n]
  | x :: l, n => if x < n then x :: insS l n else if x = n then x :: l else n :: x :: l
theorem insS_mem {n y : Int} : ∀ {l : List Int}, y ∈ insS l n ↔ y = n ∨ y ∈ l
  | [] => by simp [insS]
  | x :: l => by
    rw [insS]
    split
    · rw [List.mem_cons, insS_mem, List.mem_cons]
      constructor
      · rintro (h | h | h) <;> simp [h]
      · rintro (h | h | h) <;> simp [h]
    · split
      · rename_i h; subst h; simp
      · simp
theorem insS_asc {n : Int} : ∀ {l : List Int}, l.Pairwise (· < ·) → (insS l n).Pairwise (· < ·)
  | [], _ => by simp [insS]
  | x :: l, h => by
    rw [insS]
    have h' := List.pairwise_cons.1 h
    split
    · rename_i hx
      refine List.pairwise_cons.2 ⟨fun y hy => ?_, insS_asc h'.2⟩
      rcases insS_mem.1 hy with e | e
      · omega
      · exact h'.1 y e
    · split
      · exact h
      · refine List.pairwise_cons.2 ⟨fun y hy => ?_, h⟩
        rcases List.mem_cons.1 hy with e | e
        · omega
        · have := h'.1 y e; omega
theorem insS_len (n : Int) : ∀ (l : List Int), (insS l n).length ≤ l.length + 1
  | [] => by simp [insS]
  | x :: l => by
    rw [insS]
    have := insS_len n l
    split
    · simp; omega
    · split <;> simp

theorem impl_with_ev (l : List Int) (n : Int) (hl : l.length ≤ 1048576) : Ev (fun k => impl_with.f k l n) (insS l n) := by
  simp only [impl_with.f]
  have key : ∀ (d i : Nat), i + d = l.length → Ev (fun k => impl_with.l0 k l n i) (l.take i ++ insS (l.drop i) n) := by
    intro d
    induction d with
    | zero =>
      intro i hi
      have hcp : impl_copyInts.f (l.take ((i : Nat) : Int).toNat) = some (l.take i) := by
        rw [Int.toNat_natCast]; exact impl_copyInts_eq _ (by rw [List.length_take]; omega)
      refine Ev.step (fun k => by rw [impl_with.l0, if_neg (by omega), if_pos (by omega), if_pos (by omega), hcp]) ?_
      simp only [Option.bind_some, List.length_take, List.length_singleton, List.length_append, List.length_drop, Int.toNat_natCast]
      rw [if_pos (by omega), if_pos (by omega), List.drop_of_length_le (by omega), insS, List.append_nil]
      exact Ev.now _
    | succ d ih =>
      intro i hi
      have hil : i < l.length := by omega
      have hg : rd l (i : Int) = l[i] := by simp [rd, List.getD_eq_getElem?_getD, List.getElem?_eq_getElem hil]
      have hcp : impl_copyInts.f (l.take ((i : Nat) : Int).toNat) = some (l.take i) := by
        rw [Int.toNat_natCast]; exact impl_copyInts_eq _ (by rw [List.length_take]; omega)
      rw [List.drop_eq_getElem_cons hil, insS]
      by_cases h1 : l[i] < n
      · rw [if_pos h1]
        have := ih (i + 1) (by omega)
        rw [List.take_succ_eq_append_getElem hil, List.append_assoc] at this
        refine Ev.step (fun k => by rw [impl_with.l0, if_pos (by omega), if_pos (by omega), hg, if_pos h1, wrap_succ hil (by omega)]) ?_
        exact this
      · rw [if_neg h1]
        by_cases h2 : l[i] = n
        · rw [if_pos h2, ← List.drop_eq_getElem_cons hil, List.take_append_drop]
          refine Ev.step (fun k => by rw [impl_with.l0, if_pos (by omega), if_pos (by omega), hg, if_neg h1, if_pos h2]) ?_
          exact Ev.now _
        · rw [if_neg h2]
          refine Ev.step (fun k => by rw [impl_with.l0, if_pos (by omega), if_pos (by omega), hg, if_neg h1, if_neg h2, if_pos (by omega), hcp]) ?_
          simp only [Option.bind_some, List.length_take, List.length_singleton, List.length_append, List.length_drop, Int.toNat_natCast]
          rw [if_pos (by omega), if_pos (by omega), ← List.drop_eq_getElem_cons hil]
          have e : l.take i ++ n :: l.drop i = l.take i ++ [n] ++ l.drop i := by simp
          rw [e]
          exact Ev.now _
  have := key l.length 0 (by omega)
  simpa using this

/-! the vertices of a tour -/
def vertsP (l : List Int) : List Int := ((List.range 12).filter (fun (i : Nat) => decide ((i : Int) ∈ l))).map (fun (i : Nat) => (i : Int))
theorem range_asc (p : Nat → Bool) : ∀ n : Nat, (((List.range n).filter p).map (fun (i : Nat) => (i : Int))).Pairwise (· < ·) := by
  intro n
  rw [List.pairwise_map]
  refine List.Pairwise.filter _ ?_
  refine List.Pairwise.imp ?_ List.pairwise_lt_range
  intro a b h; omega
theorem range_flatMap_if (p : Nat → Bool) (n : Nat) : (List.range n).flatMap (fun i => if p i then [(i : Int)] else []) = ((List.range n).filter p).map (fun (i : Nat) => (i : Int)) := by
  induction n with
  | zero => rfl
  | succ n ih =>
    rw [List.range_succ, List.flatMap_append, ih, List.filter_append, List.map_append]
    congr 1
    by_cases h : p n
    · simp [h]
    · simp [h]
theorem vertsP_asc (l : List Int) : (vertsP l).Pairwise (· < ·) := range_asc _ _
theorem vertsP_mem {l : List Int} {x : Int} : x ∈ vertsP l ↔ x ∈ l ∧ 0 ≤ x ∧ x ≤ 11 := by
  unfold vertsP
  simp only [List.mem_map, List.mem_filter, List.mem_range, decide_eq_true_eq]
  constructor
  · rintro ⟨i, ⟨h1, h2⟩, rfl⟩; exact ⟨h2, by omega, by omega⟩
  · rintro ⟨h1, h2, h3⟩
    refine ⟨x.toNat, ⟨by omega, ?_⟩, by omega⟩
    rwa [Int.toNat_of_nonneg h2]
theorem vertsP_len (l : List Int) : (vertsP l).length ≤ 12 := by
  unfold vertsP
  rw [List.length_map]
  exact Nat.le_trans (List.length_filter_le _ _) (by simp)
theorem tourOk_mem {l : List Int} (h : tourOk l = true) : 1 ≤ l.length ∧ l.length ≤ 23 ∧ ∀ x ∈ l, 0 ≤ x ∧ x ≤ 11 := by
  unfold tourOk at h
  rw [Bool.and_eq_true, Bool.and_eq_true, List.all_eq_true] at h
  have h1 := of_decide_eq_true h.1
  refine ⟨by omega, by omega, fun x hx => ?_⟩
  have := h.2.1 x hx
  unfold inR at this
  exact of_decide_eq_true this
theorem tour_verts {l : List Int} (h : tourOk l = true) {x : Int} : x ∈ vertsP l ↔ x ∈ l := by
  rw [vertsP_mem]
  exact ⟨fun h => h.1, fun hx => ⟨hx, (tourOk_mem h).2.2 x hx⟩⟩
theorem tour_verts_pos {l : List Int} (h : tourOk l = true) : 1 ≤ (vertsP l).length := by
  have h1 := (tourOk_mem h).1
  cases l with
  | nil => simp at h1
  | cons a l =>
    have : a ∈ vertsP (a :: l) := (tour_verts h).2 List.mem_cons_self
    exact List.length_pos_of_mem this

theorem spec_VertsOf_ev (l : List Int) (hl : l.length ≤ 1048576) : Ev (fun k => spec_VertsOf.f k l) (vertsP l) := by
  simp only [spec_VertsOf.f]
  have := Ev.apploop (L := fun k x i => spec_VertsOf.l0 k l x i) (n := 12) (fun i => if decide ((i : Int) ∈ l) then [(i : Int)] else []) id [] ?_ ?_
  · rw [List.nil_append, range_flatMap_if] at this
    exact this
  · intro i x r hi hx h
    have hxl : x.length ≤ 12 := by
      rw [hx, List.nil_append, range_flatMap_if, List.length_map]
      exact Nat.le_trans (List.length_filter_le _ _) (by simp; omega)
    refine Ev.step (fun k => by rw [spec_VertsOf.l0, if_pos (by omega), wrap_succ hi (by omega)]) ?_
    refine Ev.bind (spec_l05In_ev l _ (by omega)) ?_
    by_cases c : (i : Int) ∈ l
    · simp only [decide_eq_true c, if_true, if_pos (show x.length < 17592186044416 by omega)] at h ⊢
      exact h
    · simp only [decide_eq_false c, Bool.false_eq_true, if_false, List.append_nil] at h ⊢
      exact h
  · intro x hx
    refine Ev.step (fun k => by rw [spec_VertsOf.l0, if_neg (by omega)]) ?_
    exact Ev.now _

theorem insF_mem {x : Int} : ∀ {l acc : List Int}, x ∈ l.foldl insS acc ↔ x ∈ acc ∨ x ∈ l
  | [], acc => by simp
  | e :: l, acc => by
    rw [List.foldl_cons, insF_mem, insS_mem, List.mem_cons]
    constructor
    · rintro ((h | h) | h) <;> simp [h]
    · rintro (h | h | h) <;> simp [h]
theorem insF_asc : ∀ {l acc : List Int}, acc.Pairwise (· < ·) → (l.foldl insS acc).Pairwise (· < ·)
  | [], _, h => h
  | e :: l, acc, h => by rw [List.foldl_cons]; exact insF_asc (insS_asc h)
theorem insF_verts {l : List Int} (h : ∀ x ∈ l, 0 ≤ x ∧ x ≤ 11) : l.foldl insS [] = vertsP l := by
  refine asc_ext (insF_asc List.Pairwise.nil) (vertsP_asc l) (fun x => ?_)
  rw [insF_mem, vertsP_mem]
  simp only [List.not_mem_nil, false_or]
  exact ⟨fun hx => ⟨hx, h x hx⟩, fun h => h.1⟩
theorem impl_VertsOf_ev (l : List Int) (hl : l.length ≤ 1000) (h : ∀ x ∈ l, 0 ≤ x ∧ x ≤ 11) : Ev (fun k => impl_VertsOf.f k l) (vertsP l) := by
  simp only [impl_VertsOf.f]
  rw [← insF_verts h]
  have := Ev.loopR (σ := List Int) (L := fun k s i => impl_VertsOf.l0 k s l (l.length : Int) i) (n := l.length) (fun i s => (l.drop i).foldl insS s) (fun i s => s.length ≤ i) ?_ ?_ l.length 0 [] (by omega) (by simp)
  · simpa using this
  · intro i s hi hs
    right
    have hg : rd l (i : Int) = l[i] := by simp [rd, List.getD_eq_getElem?_getD, List.getElem?_eq_getElem hi]
    refine ⟨insS s l[i], ?_, ?_, ?_⟩
    · have := insS_len l[i] s; omega
    · rw [List.drop_eq_getElem_cons hi, List.foldl_cons]
    · intro r hr
      refine Ev.step (fun k => by rw [impl_VertsOf.l0, if_pos (by omega), if_pos (by omega), if_pos (by omega), hg, wrap_succ hi (by omega)]) ?_
      refine Ev.bind (impl_with_ev s _ (by omega)) ?_
      exact hr
  · intro s hs
    refine Ev.step (fun k => by rw [impl_VertsOf.l0, if_neg (by omega)]) ?_
    simp only [List.drop_length, List.foldl_nil]
    exact Ev.now _

/-! forests in the law's own functions -/
theorem laws_szIntS_eq (l : List Int) (a : Int) (hl : l.length ≤ 9223372036854775807) (h0 : 0 ≤ a) (h1 : a ≤ 1048576) : laws_szIntS.f l a = some (if a - l.length < 0 then -1 else a - l.length) := by
  unfold laws_szIntS.f
  have : wrap64 (a - (l.length : Int)) = a - l.length := by unfold wrap64; omega
  rw [this]
  split <;> rfl
def szr : List (List Int) → Int → Int
  | [], a => a
  | x :: L, a => if a - x.length < 0 then -1 else szr L (a - x.length)
def szF (L : List (List Int)) (a : Int) : Int := if a - L.length < 0 then -1 else szr L (a - L.length)
theorem szr_bound : ∀ (L : List (List Int)) (a : Int), 0 ≤ szr L a → ∀ x ∈ L, (x.length : Int) ≤ a
  | [], _, _ => by simp
  | x :: L, a, h => by
    rw [szr] at h
    split at h
    · omega
    · intro y hy
      rcases List.mem_cons.1 hy with e | e
      · subst e; omega
      · have := szr_bound L _ h y e; omega
theorem szF_bound {L : List (List Int)} {a : Int} (h : ¬ szF L a < 0) : (L.length : Int) ≤ a ∧ ∀ x ∈ L, (x.length : Int) ≤ a := by
  unfold szF at h
  split at h
  · omega
  · refine ⟨by omega, fun x hx => ?_⟩
    have := szr_bound L (a - L.length) (by omega) x hx
    omega
theorem laws_szForest_ev (n : Int) (L : List (List Int)) (hl : L.length ≤ 9223372036854775807) (hL : ∀ x ∈ L, x.length ≤ 9223372036854775807) : Ev (fun k => laws_szForest.f k n L 1048576) (if szF L 1048576 < 0 then -1 else szF L 1048576) := by
  simp only [laws_szForest.f, laws_szIntSS.f]
  refine Ev.bind (a := szF L 1048576) ?_ ?_
  · unfold szF
    have e : wrap64 (1048576 - (L.length : Int)) = 1048576 - L.length := by unfold wrap64; omega
    rw [e]
    by_cases h : (1048576 : Int) - L.length < 0
    · simp only [if_pos h]; exact Ev.now _
    · simp only [if_neg h]
      have := Ev.loopR (σ := Int) (L := fun k s i => laws_szIntSS.l0 k L s i) (n := L.length) (fun i s => szr (L.drop i) s) (fun i s => 0 ≤ s ∧ s ≤ 1048576) ?_ ?_ L.length 0 (1048576 - L.length) (by omega) (by omega)
      · simpa using this
      · intro i s hi hs
        have hg : rd_L1 L (i : Int) = L[i] := by simp [rd_L1, List.getD_eq_getElem?_getD, List.getElem?_eq_getElem hi]
        have hz := laws_szIntS_eq L[i] s (hL _ (List.getElem_mem hi)) hs.1 hs.2
        by_cases c : s - (L[i].length : Int) < 0
        · left
          rw [List.drop_eq_getElem_cons hi, szr, if_pos c]
          refine Ev.step (fun k => by rw [laws_szIntSS.l0, if_pos (by omega), if_pos (by omega), hg, hz, if_pos c, Option.bind_some, if_pos (by omega)]) ?_
          exact Ev.now _
        · right
          refine ⟨s - L[i].length, by omega, ?_, ?_⟩
          · rw [List.drop_eq_getElem_cons hi, szr, if_neg c]
          · intro r hr
            refine Ev.step (fun k => by rw [laws_szIntSS.l0, if_pos (by omega), if_pos (by omega), hg, hz, if_neg c, Option.bind_some, if_neg c, wrap_succ hi (by omega)]) ?_
            exact hr
      · intro s hs
        refine Ev.step (fun k => by rw [laws_szIntSS.l0, if_neg (by omega)]) ?_
        simp only [List.drop_length, szr]
        exact Ev.now _
  · by_cases h : szF L 1048576 < 0
    · simp only [if_pos h]; exact Ev.now _
    · simp only [if_neg h]; exact Ev.now _
theorem laws_toForest_ev (n : Int) (L : List (List Int)) (hl : L.length ≤ 1048576) (hL : ∀ x ∈ L, x.length ≤ 1048576) : Ev (fun k => laws_toForest.f k n L) (n, L) := by
  simp only [laws_toForest.f]
  refine Ev.bind (a := L) ?_ (Ev.now _)
  simp only [laws_toIntSS.f, if_pos (show (0 : Int) ≤ (L.length : Int) by omega), Int.toNat_natCast, if_pos (show L.length ≤ 11728124029610 by omega)]
  have := Ev.setloop (L := fun k x i => laws_toIntSS.l0 k L x i) (n := L.length) (fun i => L.getD i []) [] id (by
    intro i x r hi hx h
    have hg : rd_L1 L (i : Int) = L.getD i [] := by simp [rd_L1]
    have hm : (L.getD i []).length ≤ 1048576 := by
      rw [List.getD_eq_getElem?_getD, List.getElem?_eq_getElem hi]; exact hL _ (List.getElem_mem hi)
    refine Ev.step (fun k => by rw [laws_toIntSS.l0, if_pos (by omega), if_pos (by omega), hg]) ?_
    refine Ev.bind (laws_toIntS_ev _ hm) ?_
    simp only [if_pos (show (i : Int) < (x.length : Int) by omega), wrap_succ hi (show L.length ≤ 4611686018427387904 by omega), Int.toNat_natCast]
    exact h) (by
    intro x hx
    refine Ev.step (fun k => by rw [laws_toIntSS.l0, if_neg (by omega)]) ?_
    exact Ev.now _)
  have e := range_map_getD L [] (fun x => x)
  simp only [List.map_id'] at e
  rw [e] at this
  exact this
theorem laws_eqForest_refl (n : Int) (L : List (List Int)) (hl : L.length ≤ 1048576) (hL : ∀ x ∈ L, x.length ≤ 1048576) : Ev (fun k => laws_eqForest.f k n L n L) true := by
  simp only [laws_eqForest.f, if_true]
  refine Ev.bind (a := true) ?_ (Ev.now _)
  simp only [laws_eqIntSS.f, if_true]
  have := Ev.allloop (L := fun k i => laws_eqIntSS.l0 k L L i) (n := L.length) (fun _ => true) false true (by
    intro i r hi _ h
    have hm : (rd_L1 L (i : Int)).length ≤ 4611686018427387904 := by
      have := hL _ (List.getElem_mem hi)
      have hg : rd_L1 L (i : Int) = L[i] := by simp [rd_L1, List.getD_eq_getElem?_getD, List.getElem?_eq_getElem hi]
      rw [hg]; omega
    refine Ev.step (fun k => by rw [laws_eqIntSS.l0, if_pos (by omega), if_pos (by omega), if_pos (by omega), wrap_succ hi (by omega)]) ?_
    refine Ev.bind (laws_eqIntS_refl _ hm) ?_
    simp only [if_true]
    exact h) (by intro i _ h; cases h) (by
    refine Ev.step (fun k => by rw [laws_eqIntSS.l0, if_neg (by omega)]) ?_
    exact Ev.now _)
  simpa using this

/-! forests that are right -/
def headV (l : List Int) : Int := (vertsP l).getD 0 0
def fokAt (n : Int) (L : List (List Int)) (i : Nat) : Bool := decide (tourOk (L.getD i []) = true ∧ (∀ x ∈ L.getD i [], x < n) ∧ (i = 0 ∨ headV (L.getD (i - 1) []) < headV (L.getD i [])) ∧ ∀ k, k < i → ∀ x ∈ L.getD i [], x ∉ L.getD k [])
def sumV (L : List (List Int)) (i : Nat) : Nat := ((L.take i).flatMap vertsP).length
def forestOk (n : Int) (L : List (List Int)) : Bool := decide (1 ≤ n ∧ n ≤ 12) && (if (List.range L.length).all (fokAt n L) then decide ((sumV L L.length : Int) = n) else false)
theorem sumV_succ {L : List (List Int)} {i : Nat} (hi : i < L.length) : sumV L (i + 1) = sumV L i + (vertsP (L.getD i [])).length := by
  unfold sumV
  rw [List.take_succ_eq_append_getElem hi, List.flatMap_append, List.length_append]
  simp [List.getD_eq_getElem?_getD, List.getElem?_eq_getElem hi]
theorem fokAt_tour {n : Int} {L : List (List Int)} {i : Nat} (h : fokAt n L i = true) : tourOk (L.getD i []) = true := (of_decide_eq_true h).1
theorem sumV_ge {n : Int} {L : List (List Int)} : ∀ i, i ≤ L.length → (∀ j, j < i → fokAt n L j = true) → i ≤ sumV L i
  | 0, _, _ => Nat.zero_le _
  | i + 1, hi, h => by
    rw [sumV_succ (by omega)]
    have := sumV_ge i (by omega) (fun j hj => h j (by omega))
    have := tour_verts_pos (fokAt_tour (h i (by omega)))
    omega
theorem sumV_le (L : List (List Int)) : ∀ i, i ≤ L.length → sumV L i ≤ 12 * i
  | 0, _ => by simp [sumV]
  | i + 1, hi => by
    rw [sumV_succ (by omega)]
    have := sumV_le L i (by omega)
    have := vertsP_len (L.getD i [])
    omega
theorem forestOk_iff {n : Int} {L : List (List Int)} : forestOk n L = true ↔ (1 ≤ n ∧ n ≤ 12) ∧ (∀ i, i < L.length → fokAt n L i = true) ∧ (sumV L L.length : Int) = n := by
  unfold forestOk
  rw [Bool.and_eq_true, decide_eq_true_eq]
  refine and_congr Iff.rfl ?_
  by_cases h : (List.range L.length).all (fokAt n L) = true
  · rw [if_pos h]
    rw [List.all_eq_true] at h
    exact ⟨fun h2 => ⟨fun i hi => h i (List.mem_range.2 hi), of_decide_eq_true h2⟩, fun h2 => decide_eq_true h2.2⟩
  · rw [if_neg h]
    constructor
    · intro h2; cases h2
    · intro h2
      refine absurd ?_ h
      rw [List.all_eq_true]
      exact fun i hi => h2.1 i (List.mem_range.1 hi)
theorem forestOk_len {n : Int} {L : List (List Int)} (h : forestOk n L = true) : L.length ≤ 12 := by
  obtain ⟨h1, h2, h3⟩ := forestOk_iff.1 h
  have := sumV_ge L.length (Nat.le_refl _) h2
  omega
theorem forestOk_tour {n : Int} {L : List (List Int)} (h : forestOk n L = true) {l : List Int} (hl : l ∈ L) : tourOk l = true := by
  obtain ⟨h1, h2, h3⟩ := forestOk_iff.1 h
  obtain ⟨i, hi, rfl⟩ := List.mem_iff_getElem.1 hl
  have := fokAt_tour (h2 i hi)
  rwa [List.getD_eq_getElem?_getD, List.getElem?_eq_getElem hi] at this
theorem asc_last {v : List Int} (h : v.Pairwise (· < ·)) {x : Int} (hx : x ∈ v) : x ≤ v.getD (v.length - 1) 0 := by
  obtain ⟨i, hi, rfl⟩ := List.mem_iff_getElem.1 hx
  rw [List.getD_eq_getElem?_getD, List.getElem?_eq_getElem (by omega), Option.getD_some]
  by_cases e : i = v.length - 1
  · subst e; exact Int.le_refl _
  · have := List.pairwise_iff_getElem.1 h i (v.length - 1) hi (by omega) (by omega)
    omega
theorem getD_last_mem {v : List Int} (h : 1 ≤ v.length) : v.getD (v.length - 1) 0 ∈ v := by
  rw [List.getD_eq_getElem?_getD, List.getElem?_eq_getElem (by omega), Option.getD_some]
  exact List.getElem_mem _
theorem getD_len {L : List (List Int)} (hL : ∀ x ∈ L, x.length ≤ 1048576) (k : Nat) : (L.getD k []).length ≤ 1048576 := by
  by_cases hk : k < L.length
  · rw [List.getD_eq_getElem?_getD, List.getElem?_eq_getElem hk, Option.getD_some]
    exact hL _ (List.getElem_mem hk)
  · rw [List.getD_eq_getElem?_getD, List.getElem?_eq_none (by omega)]; simp

theorem spec_forest_l2 (n : Int) (L : List (List Int)) (s : Int) (i : Nat) (v : List Int) (hv : v.length ≤ 12) (k : Nat) (hk : k < L.length) (hkl : L.length ≤ 1048576) (hm : (L.getD k []).length ≤ 1048576) (r : Bool)
    (h : v.all (fun x => !decide (x ∈ L.getD k [])) = true → Ev (fun k' => spec_ForestOk.l1 k' s i v ((k + 1 : Nat) : Int) n L) r) :
    Ev (fun k' => spec_ForestOk.l2 k' s i v k 0 n L) (if v.all (fun x => !decide (x ∈ L.getD k [])) = true then r else false) := by
  have hg : ∀ k : Nat, rd_L1 L (k : Int) = L.getD k [] := fun k => by simp [rd_L1]
  have e := range_all_getD v 0 (fun x => !decide (x ∈ L.getD k []))
  have := Ev.allloop3 (L := fun k' j => spec_ForestOk.l2 k' s i v k j n L) (n := v.length) (fun j => !decide (v.getD j 0 ∈ L.getD k [])) false r ?_ ?_
  · rw [e] at this
    exact this
  · intro j r2 hj _ h2
    refine Ev.step (fun k' => by rw [spec_ForestOk.l2, if_pos (by omega), if_pos (by omega), if_pos (by omega), if_pos (by omega), hg, rd, Int.toNat_natCast, wrap_succ hj (by omega)]) ?_
    refine Ev.bind (spec_l05In_ev _ _ (by omega)) ?_
    by_cases hp : v.getD j 0 ∈ L.getD k []
    · simp only [decide_eq_true hp, if_true, Bool.not_true, Bool.false_eq_true, if_false]
      exact Ev.now _
    · simp only [decide_eq_false hp, Bool.false_eq_true, if_false, Bool.not_false, if_true] at h2 ⊢
      exact h2 trivial
  · intro hp
    refine Ev.step (fun k' => by rw [spec_ForestOk.l2, if_neg (by omega), wrap_succ hk (by omega)]) ?_
    refine h ?_
    rw [← e, List.all_eq_true]
    exact fun j hj => hp j (List.mem_range.1 hj)
theorem spec_forest_inner (n : Int) (L : List (List Int)) (hl : L.length ≤ 12) (hL : ∀ k, (L.getD k []).length ≤ 1048576) (i : Nat) (hi : i < L.length) (s : Int) (hs : tourOk (L.getD i []) = true) (r : Bool)
    (h : (∀ k, k < i → ∀ x ∈ L.getD i [], x ∉ L.getD k []) → Ev (fun k => spec_ForestOk.l0 k s ((i + 1 : Nat) : Int) n L) r) :
    Ev (fun k => spec_ForestOk.j2 k s i (vertsP (L.getD i [])) false n L) (if (∀ k, k < i → ∀ x ∈ L.getD i [], x ∉ L.getD k []) then r else false) := by
  have hv := vertsP_len (L.getD i [])
  have iff1 : (List.range i).all (fun k => (vertsP (L.getD i [])).all (fun x => !decide (x ∈ L.getD k []))) = true ↔ (∀ k, k < i → ∀ x ∈ L.getD i [], x ∉ L.getD k []) := by
    rw [List.all_eq_true]
    constructor
    · intro hc k hk x hx hx2
      have := hc k (List.mem_range.2 hk)
      rw [List.all_eq_true] at this
      have := this x ((tour_verts hs).2 hx)
      simp only [decide_eq_true hx2, Bool.not_true] at this
      cases this
    · intro c k hk
      rw [List.all_eq_true]
      intro x hx
      have := c k (List.mem_range.1 hk) x ((tour_verts hs).1 hx)
      simp only [decide_eq_false this, Bool.not_false]
  refine Ev.step (fun k => by rw [spec_ForestOk.j2, if_neg (by simp)]) ?_
  have := Ev.allloop3 (L := fun k j => spec_ForestOk.l1 k s i (vertsP (L.getD i [])) j n L) (n := i) (fun k => (vertsP (L.getD i [])).all (fun x => !decide (x ∈ L.getD k []))) false r ?_ ?_
  · have e : (if (∀ k, k < i → ∀ x ∈ L.getD i [], x ∉ L.getD k []) then r else false) = (if (List.range i).all (fun k => (vertsP (L.getD i [])).all (fun x => !decide (x ∈ L.getD k []))) = true then r else false) := by
      by_cases c : ∀ k, k < i → ∀ x ∈ L.getD i [], x ∉ L.getD k []
      · rw [if_pos c, if_pos (iff1.2 c)]
      · rw [if_neg c, if_neg (fun hh => c (iff1.1 hh))]
    rw [e]
    exact this
  · intro k r' hk _ h'
    refine Ev.step (fun k' => by rw [spec_ForestOk.l1, if_pos (by omega)]) ?_
    exact spec_forest_l2 n L s i _ hv k (by omega) (by omega) (hL k) r' h'
  · intro hp
    refine Ev.step (fun k' => by rw [spec_ForestOk.l1, if_neg (by omega), wrap_succ hi (by omega)]) ?_
    refine h (iff1.1 ?_)
    rw [List.all_eq_true]
    exact fun j hj => hp j (List.mem_range.1 hj)
theorem spec_forest_step (n : Int) (L : List (List Int)) (hl : L.length ≤ 12) (hL : ∀ k, (L.getD k []).length ≤ 1048576) (i : Nat) (hi : i < L.length) (hs : ∀ j, j < i → fokAt n L j = true) (r : Bool)
    (h : fokAt n L i = true → Ev (fun k => spec_ForestOk.l0 k (sumV L (i + 1)) ((i + 1 : Nat) : Int) n L) r) :
    Ev (fun k => spec_ForestOk.l0 k (sumV L i) i n L) (if fokAt n L i = true then r else false) := by
  have hg : ∀ k : Nat, rd_L1 L (k : Int) = L.getD k [] := fun k => by simp [rd_L1]
  have hv := vertsP_len (L.getD i [])
  refine Ev.step (fun k => by rw [spec_ForestOk.l0, if_pos (by omega), if_pos (by omega), hg]) ?_
  refine Ev.bind (spec_TourOk_ev _) ?_
  by_cases ht : tourOk (L.getD i []) = true
  · simp only [if_pos ht]
    refine Ev.bind (spec_VertsOf_ev _ (hL i)) ?_
    have hp := tour_verts_pos ht
    have e1 : wrap64 (((vertsP (L.getD i [])).length : Int) - 1) = (((vertsP (L.getD i [])).length - 1 : Nat) : Int) := by unfold wrap64; omega
    have hsum := sumV_le L i (by omega)
    have e2 : wrap64 ((sumV L i : Int) + ((vertsP (L.getD i [])).length : Int)) = (sumV L (i + 1) : Int) := by rw [sumV_succ hi]; unfold wrap64; omega
    have hr : rd (vertsP (L.getD i [])) (((vertsP (L.getD i [])).length - 1 : Nat) : Int) = (vertsP (L.getD i [])).getD ((vertsP (L.getD i [])).length - 1) 0 := by simp [rd]
    simp only [e1, e2, hr, if_pos (show (0 : Int) ≤ (((vertsP (L.getD i [])).length - 1 : Nat) : Int) by omega), if_pos (show (((vertsP (L.getD i [])).length - 1 : Nat) : Int) < ((vertsP (L.getD i [])).length : Int) by omega)]
    have hno : Ev (fun k => spec_ForestOk.j2 k (sumV L (i + 1)) i (vertsP (L.getD i [])) true n L) false := by
      refine Ev.step (fun k => by rw [spec_ForestOk.j2, if_pos rfl]) ?_
      exact Ev.now _
    by_cases hn : (vertsP (L.getD i [])).getD ((vertsP (L.getD i [])).length - 1) 0 ≥ n
    · simp only [if_pos hn]
      rw [if_neg ?_]
      · exact hno
      · intro hf
        have hf := of_decide_eq_true hf
        have := hf.2.1 _ ((tour_verts ht).1 (getD_last_mem hp))
        omega
    · simp only [if_neg hn]
      have hall : ∀ x ∈ L.getD i [], x < n := by
        intro x hx
        have := asc_last (vertsP_asc _) ((tour_verts ht).2 hx)
        omega
      have hfin : (i = 0 ∨ headV (L.getD (i - 1) []) < headV (L.getD i [])) → Ev (fun k => spec_ForestOk.j2 k (sumV L (i + 1)) i (vertsP (L.getD i [])) false n L) (if fokAt n L i = true then r else false) := by
        intro hd
        have hin := spec_forest_inner n L hl hL i hi (sumV L (i + 1)) ht r (fun hq => h (decide_eq_true ⟨ht, hall, hd, hq⟩))
        have e4 : (if fokAt n L i = true then r else false) = (if (∀ k, k < i → ∀ x ∈ L.getD i [], x ∉ L.getD k []) then r else false) := by
          by_cases hq : ∀ k, k < i → ∀ x ∈ L.getD i [], x ∉ L.getD k []
          · rw [if_pos hq, if_pos (show fokAt n L i = true from decide_eq_true ⟨ht, hall, hd, hq⟩)]
          · rw [if_neg hq, if_neg (show ¬ fokAt n L i = true from fun hf => hq (of_decide_eq_true hf).2.2.2)]
        rw [e4]
        exact hin
      by_cases hi0 : (i : Int) > 0
      · have e3 : wrap64 ((i : Int) - 1) = ((i - 1 : Nat) : Int) := by unfold wrap64; omega
        have hp' := tour_verts_pos (fokAt_tour (hs (i - 1) (by omega)))
        simp only [if_pos hi0, e3, if_pos (show (0 : Int) ≤ ((i - 1 : Nat) : Int) by omega), if_pos (show ((i - 1 : Nat) : Int) < (L.length : Int) by omega), hg]
        refine Ev.bind (spec_VertsOf_ev _ (hL (i - 1))) ?_
        simp only [if_pos (show (0 : Int) < ((vertsP (L.getD (i - 1) [])).length : Int) by omega), if_pos (show (0 : Int) < ((vertsP (L.getD i [])).length : Int) by omega)]
        have h0 : ∀ l, rd (vertsP l) 0 = headV l := fun l => by simp [rd, headV]
        simp only [h0]
        by_cases hc : headV (L.getD (i - 1) []) ≥ headV (L.getD i [])
        · simp only [decide_eq_true hc]
          rw [if_neg ?_]
          · exact hno
          · intro hf
            have hf := of_decide_eq_true hf
            rcases hf.2.2.1 with h1 | h1 <;> omega
        · simp only [decide_eq_false hc]
          exact hfin (.inr (by omega))
      · simp only [if_neg hi0]
        exact hfin (.inl (by omega))
  · simp only [if_neg ht]
    rw [if_neg (fun hf => ht (fokAt_tour hf))]
    exact Ev.now _
theorem spec_ForestOk_ev (n : Int) (L : List (List Int)) (hL : ∀ x ∈ L, x.length ≤ 1048576) : Ev (fun k => spec_ForestOk.f k n L) (forestOk n L) := by
  simp only [spec_ForestOk.f, spec_in_eq, Option.bind_some, decide_eq_true_eq]
  by_cases h1 : 1 ≤ n ∧ n ≤ 12
  · simp only [if_pos h1]
    by_cases h2 : (L.length : Int) > 12
    · simp only [decide_eq_true h2]
      refine Ev.step (fun k => by rw [spec_ForestOk.j0, if_pos rfl]) ?_
      have : forestOk n L = false := by
        rw [Bool.eq_false_iff]
        intro h
        have := forestOk_len h
        omega
      rw [this]
      exact Ev.now _
    · simp only [decide_eq_false h2]
      refine Ev.step (fun k => by rw [spec_ForestOk.j0, if_neg (by simp)]) ?_
      unfold forestOk
      rw [decide_eq_true h1, Bool.true_and]
      have := Ev.allloop3 (L := fun k i => spec_ForestOk.l0 k (sumV L i.toNat) i n L) (n := L.length) (fokAt n L) false (decide ((sumV L L.length : Int) = n)) ?_ ?_
      · simpa [sumV] using this
      · intro i r hi hs hr
        simp only [Int.toNat_natCast] at hr ⊢
        exact spec_forest_step n L (by omega) (getD_len hL) i hi hs r hr
      · intro _
        refine Ev.step (fun k => by rw [spec_ForestOk.l0, if_neg (by omega)]) ?_
        have e : ((sumV L L.length : Int) == n) = decide ((sumV L L.length : Int) = n) := by rfl
        simp only [Int.toNat_natCast]
        rw [e]
        exact Ev.now _
  · simp only [if_neg h1]
    refine Ev.step (fun k => by rw [spec_ForestOk.j0, if_pos rfl]) ?_
    unfold forestOk
    rw [decide_eq_false h1, Bool.false_and]
    exact Ev.now _

theorem mem_met {n : Int} {L : List (List Int)} {i : Nat} (hi : i ≤ L.length) (hs : ∀ j, j < i → fokAt n L j = true) {x : Int} : x ∈ (L.take i).flatMap vertsP ↔ ∃ k, k < i ∧ x ∈ L.getD k [] := by
  rw [List.mem_flatMap]
  constructor
  · rintro ⟨l, hl, hx⟩
    obtain ⟨k, hk, rfl⟩ := List.mem_iff_getElem.1 hl
    rw [List.length_take] at hk
    refine ⟨k, by omega, ?_⟩
    rw [List.getElem_take] at hx
    rw [List.getD_eq_getElem?_getD, List.getElem?_eq_getElem (by omega), Option.getD_some]
    exact (vertsP_mem.1 hx).1
  · rintro ⟨k, hk, hx⟩
    refine ⟨L.getD k [], ?_, (tour_verts (fokAt_tour (hs k hk))).2 hx⟩
    rw [List.getD_eq_getElem?_getD, List.getElem?_eq_getElem (by omega), Option.getD_some]
    exact List.mem_take_iff_getElem.2 ⟨k, by omega, rfl⟩
theorem impl_forest_step (n : Int) (L : List (List Int)) (hl : L.length ≤ 1048576) (hL : ∀ k, (L.getD k []).length ≤ 1048576) (i : Nat) (hi : i < L.length) (hs : ∀ j, j < i → fokAt n L j = true) (r : Bool)
    (h : fokAt n L i = true → Ev (fun k => impl_ForestOk.l0 k ((L.take (i + 1)).flatMap vertsP) L (L.length : Int) ((i + 1 : Nat) : Int) n L) r) :
    Ev (fun k => impl_ForestOk.l0 k ((L.take i).flatMap vertsP) L (L.length : Int) i n L) (if fokAt n L i = true then r else false) := by
  have hg : ∀ k : Nat, rd_L1 L (k : Int) = L.getD k [] := fun k => by simp [rd_L1]
  have hv := vertsP_len (L.getD i [])
  have hsum := sumV_le L i (by omega)
  unfold sumV at hsum
  refine Ev.step (fun k => by rw [impl_ForestOk.l0, if_pos (by omega), if_pos (by omega), if_pos (by omega), hg]) ?_
  refine Ev.bind (impl_TourOk_ev _) ?_
  by_cases ht : tourOk (L.getD i []) = true
  · simp only [if_pos ht]
    have htm := tourOk_mem ht
    refine Ev.bind (impl_VertsOf_ev _ (by omega) htm.2.2) ?_
    have hp := tour_verts_pos ht
    have iff1 : (List.range (vertsP (L.getD i [])).length).all (fun j => !decide ((vertsP (L.getD i [])).getD j 0 ≥ n) && !decide ((vertsP (L.getD i [])).getD j 0 ∈ (L.take i).flatMap vertsP)) = true ↔ ((∀ x ∈ L.getD i [], x < n) ∧ ∀ k, k < i → ∀ x ∈ L.getD i [], x ∉ L.getD k []) := by
      rw [range_all_getD (vertsP (L.getD i [])) 0 (fun x => !decide (x ≥ n) && !decide (x ∈ (L.take i).flatMap vertsP)), List.all_eq_true]
      constructor
      · intro hc
        refine ⟨fun x hx => ?_, fun k hk x hx hx2 => ?_⟩
        · have := hc x ((tour_verts ht).2 hx)
          simp only [Bool.and_eq_true, Bool.not_eq_true', decide_eq_false_iff_not] at this
          omega
        · have := hc x ((tour_verts ht).2 hx)
          simp only [Bool.and_eq_true, Bool.not_eq_true', decide_eq_false_iff_not] at this
          exact this.2 ((mem_met (by omega) hs).2 ⟨k, hk, hx2⟩)
      · rintro ⟨c1, c2⟩ x hx
        have hx := (tour_verts ht).1 hx
        have := c1 x hx
        simp only [Bool.and_eq_true, Bool.not_eq_true', decide_eq_false_iff_not]
        refine ⟨by omega, fun hm => ?_⟩
        obtain ⟨k, hk, hx2⟩ := (mem_met (by omega) hs).1 hm
        exact c2 k hk x hx hx2
    have := Ev.allloop3 (L := fun k j => impl_ForestOk.l1 k ((L.take i).flatMap vertsP) i (vertsP (L.getD i [])) L (L.length : Int) i (vertsP (L.getD i [])) ((vertsP (L.getD i [])).length : Int) j n L) (n := (vertsP (L.getD i [])).length) (fun j => !decide ((vertsP (L.getD i [])).getD j 0 ≥ n) && !decide ((vertsP (L.getD i [])).getD j 0 ∈ (L.take i).flatMap vertsP)) false (if fokAt n L i = true then r else false) ?_ ?_
    · have e : (if fokAt n L i = true then r else false) = (if (List.range (vertsP (L.getD i [])).length).all (fun j => !decide ((vertsP (L.getD i [])).getD j 0 ≥ n) && !decide ((vertsP (L.getD i [])).getD j 0 ∈ (L.take i).flatMap vertsP)) = true then (if fokAt n L i = true then r else false) else false) := by
        by_cases c : (List.range (vertsP (L.getD i [])).length).all (fun j => !decide ((vertsP (L.getD i [])).getD j 0 ≥ n) && !decide ((vertsP (L.getD i [])).getD j 0 ∈ (L.take i).flatMap vertsP)) = true
        · rw [if_pos c]
        · rw [if_neg c, if_neg (show ¬ fokAt n L i = true from fun hf => c (iff1.2 ⟨(of_decide_eq_true hf).2.1, (of_decide_eq_true hf).2.2.2⟩))]
      rw [e]
      exact this
    · intro j r2 hj _ h2
      refine Ev.step (fun k' => by rw [impl_ForestOk.l1, if_pos (by omega), if_pos (by omega), if_pos (by omega), rd, Int.toNat_natCast, wrap_succ hj (by omega)]) ?_
      by_cases hn : (vertsP (L.getD i [])).getD j 0 ≥ n
      · simp only [if_pos hn, decide_eq_true hn, Bool.not_true, Bool.false_and, Bool.false_eq_true, if_false]
        exact Ev.now _
      · simp only [if_neg hn, decide_eq_false hn, Bool.not_false, Bool.true_and] at h2 ⊢
        refine Ev.bind (impl_hasInt_ev _ _ (by omega)) ?_
        by_cases hm : (vertsP (L.getD i [])).getD j 0 ∈ (L.take i).flatMap vertsP
        · simp only [decide_eq_true hm, if_true, Bool.not_true, Bool.false_eq_true, if_false]
          exact Ev.now _
        · simp only [decide_eq_false hm, Bool.not_false, Bool.false_eq_true, if_false, if_true] at h2 ⊢
          exact h2 trivial
    · intro hpj
      have hc := iff1.1 (by rw [List.all_eq_true]; exact fun j hj => hpj j (List.mem_range.1 hj))
      have happ : (L.take i).flatMap vertsP ++ vertsP (L.getD i []) = (L.take (i + 1)).flatMap vertsP := by
        rw [List.take_succ_eq_append_getElem hi, List.flatMap_append]
        simp [List.getD_eq_getElem?_getD, List.getElem?_eq_getElem hi]
      refine Ev.step (fun k' => by rw [impl_ForestOk.l1, if_neg (by omega), if_pos (by omega), Option.bind_some, happ, wrap_succ hi (by omega)]) ?_
      by_cases hi0 : (i : Int) > 0
      · have e3 : wrap64 ((i : Int) - 1) = ((i - 1 : Nat) : Int) := by unfold wrap64; omega
        have htp := fokAt_tour (hs (i - 1) (by omega))
        have hp' := tour_verts_pos htp
        have htm' := tourOk_mem htp
        simp only [if_pos hi0, e3, if_pos (show (0 : Int) ≤ ((i - 1 : Nat) : Int) by omega), if_pos (show ((i - 1 : Nat) : Int) < (L.length : Int) by omega), hg]
        refine Ev.bind (impl_VertsOf_ev _ (by omega) htm'.2.2) ?_
        simp only [if_pos (show (0 : Int) < ((vertsP (L.getD (i - 1) [])).length : Int) by omega), if_pos (show (0 : Int) < ((vertsP (L.getD i [])).length : Int) by omega)]
        have h0 : ∀ l, rd (vertsP l) 0 = headV l := fun l => by simp [rd, headV]
        simp only [h0]
        by_cases hcc : headV (L.getD (i - 1) []) ≥ headV (L.getD i [])
        · simp only [if_pos hcc]
          rw [if_neg ?_]
          · exact Ev.now _
          · intro hf
            have hf := of_decide_eq_true hf
            rcases hf.2.2.1 with h1 | h1 <;> omega
        · simp only [if_neg hcc]
          have hf : fokAt n L i = true := decide_eq_true ⟨ht, hc.1, .inr (by omega), hc.2⟩
          rw [if_pos hf]
          exact h hf
      · simp only [if_neg hi0]
        have hf : fokAt n L i = true := decide_eq_true ⟨ht, hc.1, .inl (by omega), hc.2⟩
        rw [if_pos hf]
        exact h hf
  · simp only [if_neg ht]
    rw [if_neg (fun hf => ht (fokAt_tour hf))]
    exact Ev.now _
theorem impl_ForestOk_ev (n : Int) (L : List (List Int)) (hl : L.length ≤ 1048576) (hL : ∀ x ∈ L, x.length ≤ 1048576) : Ev (fun k => impl_ForestOk.f k n L) (forestOk n L) := by
  simp only [impl_ForestOk.f, impl_in_eq, Option.bind_some, decide_eq_true_eq]
  unfold forestOk
  by_cases h1 : 1 ≤ n ∧ n ≤ 12
  · simp only [if_pos h1]
    rw [decide_eq_true h1, Bool.true_and]
    have := Ev.allloop3 (L := fun k i => impl_ForestOk.l0 k ((L.take i.toNat).flatMap vertsP) L (L.length : Int) i n L) (n := L.length) (fokAt n L) false (decide ((sumV L L.length : Int) = n)) ?_ ?_
    · simpa using this
    · intro i r hi hs hr
      simp only [Int.toNat_natCast] at hr ⊢
      exact impl_forest_step n L hl (getD_len hL) i hi hs r hr
    · intro _
      refine Ev.step (fun k => by rw [impl_ForestOk.l0, if_neg (by omega)]) ?_
      simp only [Int.toNat_natCast]
      have e : ((((L.take L.length).flatMap vertsP).length : Int) == n) = decide ((sumV L L.length : Int) = n) := by rfl
      rw [e]
      exact Ev.now _
  · simp only [if_neg h1]
    rw [decide_eq_false h1, Bool.false_and]
    exact Ev.now _

/-! the tree of a vertex -/
def treeIdx (L : List (List Int)) (v : Int) : Int := findR (fun i => decide (v ∈ L.getD i [])) (fun i => (i : Int)) (-1) L.length 0
def treeOfP (n : Int) (L : List (List Int)) (v : Int) : Int := if forestOk n L = true then treeIdx L v else -1
theorem treeOfP_range (n : Int) (L : List (List Int)) (v : Int) : treeOfP n L v = -1 ∨ (forestOk n L = true ∧ 0 ≤ treeOfP n L v ∧ treeOfP n L v < L.length ∧ v ∈ L.getD (treeOfP n L v).toNat []) := by
  unfold treeOfP
  split
  · rename_i h
    rcases findR_range (fun i => decide (v ∈ L.getD i [])) L.length 0 with h1 | ⟨h1, h2, h3⟩
    · exact Or.inl h1
    · right
      refine ⟨h, ?_, ?_, ?_⟩
      · unfold treeIdx; omega
      · unfold treeIdx; omega
      · unfold treeIdx; exact of_decide_eq_true h3
  · exact Or.inl rfl

theorem spec_TreeOf_ev (n : Int) (L : List (List Int)) (v : Int) (hl : L.length ≤ 1048576) (hL : ∀ x ∈ L, x.length ≤ 1048576) : Ev (fun k => spec_TreeOf.f k n L v) (treeOfP n L v) := by
  have hg : ∀ k : Nat, rd_L1 L (k : Int) = L.getD k [] := fun k => by simp [rd_L1]
  simp only [spec_TreeOf.f]
  refine Ev.bind (spec_ForestOk_ev n L hL) ?_
  unfold treeOfP
  by_cases h : forestOk n L = true
  · simp only [if_pos h]
    refine Ev.findloop (L := fun k i => spec_TreeOf.l0 k v i n L) (n := L.length) (fun i => decide (v ∈ L.getD i [])) (fun i => (i : Int)) (-1) ?_ ?_ ?_
    · intro i r hi hp hr
      refine Ev.step (fun k => by rw [spec_TreeOf.l0, if_pos (by omega), if_pos (by omega), hg, wrap_succ hi (by omega)]) ?_
      refine Ev.bind (spec_l05In_ev _ _ (by have := getD_len hL i; omega)) ?_
      simp only [hp, Bool.false_eq_true, if_false]
      exact hr
    · intro i hi hp
      refine Ev.step (fun k => by rw [spec_TreeOf.l0, if_pos (by omega), if_pos (by omega), hg, wrap_succ hi (by omega)]) ?_
      refine Ev.bind (spec_l05In_ev _ _ (by have := getD_len hL i; omega)) ?_
      simp only [hp, if_true]
      exact Ev.now _
    · refine Ev.step (fun k => by rw [spec_TreeOf.l0, if_neg (by omega)]) ?_
      exact Ev.now _
  · simp only [if_neg h]
    exact Ev.now _

theorem impl_TreeOf_ev (n : Int) (L : List (List Int)) (v : Int) (hl : L.length ≤ 1048576) (hL : ∀ x ∈ L, x.length ≤ 1048576) : Ev (fun k => impl_TreeOf.f k n L v) (treeOfP n L v) := by
  have hg : ∀ k : Nat, rd_L1 L (k : Int) = L.getD k [] := fun k => by simp [rd_L1]
  simp only [impl_TreeOf.f]
  refine Ev.bind (impl_ForestOk_ev n L hl hL) ?_
  unfold treeOfP
  by_cases h : forestOk n L = true
  · simp only [if_pos h]
    refine Ev.findloop (L := fun k i => impl_TreeOf.l0 k v L (L.length : Int) i) (n := L.length) (fun i => decide (v ∈ L.getD i [])) (fun i => (i : Int)) (-1) ?_ ?_ ?_
    · intro i r hi hp hr
      refine Ev.step (fun k => by rw [impl_TreeOf.l0, if_pos (by omega), if_pos (by omega), if_pos (by omega), hg, wrap_succ hi (by omega)]) ?_
      refine Ev.bind (impl_hasInt_ev _ _ (by have := getD_len hL i; omega)) ?_
      simp only [hp, Bool.false_eq_true, if_false]
      exact hr
    · intro i hi hp
      refine Ev.step (fun k => by rw [impl_TreeOf.l0, if_pos (by omega), if_pos (by omega), if_pos (by omega), hg, wrap_succ hi (by omega)]) ?_
      refine Ev.bind (impl_hasInt_ev _ _ (by have := getD_len hL i; omega)) ?_
      simp only [hp, if_true]
      exact Ev.now _
    · refine Ev.step (fun k => by rw [impl_TreeOf.l0, if_neg (by omega)]) ?_
      exact Ev.now _
  · simp only [if_neg h]
    exact Ev.now _

def edgeOk (n a b : Int) : Bool := decide ((1 ≤ n ∧ n ≤ 12) ∧ (0 ≤ a ∧ a ≤ n - 1) ∧ (0 ≤ b ∧ b ≤ n - 1) ∧ a < b)
theorem spec_EdgeOk_eq (n a b : Int) : spec_EdgeOk.f n a b = some (edgeOk n a b) := by
  unfold spec_EdgeOk.f edgeOk
  simp only [spec_in_eq, Option.bind_some, decide_eq_true_eq]
  by_cases h1 : 1 ≤ n ∧ n ≤ 12
  · have e : wrap64 (n - 1) = n - 1 := by unfold wrap64; omega
    rw [if_pos h1, e]
    by_cases h2 : 0 ≤ a ∧ a ≤ n - 1
    · rw [if_pos h2]
      by_cases h3 : 0 ≤ b ∧ b ≤ n - 1
      · rw [if_pos h3]; simp [h1, h2, h3]
      · rw [if_neg h3, decide_eq_false (fun h => h3 h.2.2.1)]
    · rw [if_neg h2, decide_eq_false (fun h => h2 h.2.1)]
  · rw [if_neg h1, decide_eq_false (fun h => h1 h.1)]
theorem impl_EdgeOk_eq (n a b : Int) : impl_EdgeOk.f n a b = some (edgeOk n a b) := by
  unfold impl_EdgeOk.f edgeOk
  simp only [impl_in_eq, Option.bind_some, decide_eq_true_eq]
  by_cases h1 : 1 ≤ n ∧ n ≤ 12
  · have e : wrap64 (n - 1) = n - 1 := by unfold wrap64; omega
    rw [if_pos h1, e]
    by_cases h2 : 0 ≤ a ∧ a ≤ n - 1
    · rw [if_pos h2]
      by_cases h3 : 0 ≤ b ∧ b ≤ n - 1
      · rw [if_pos h3]; simp [h1, h2, h3]
      · rw [if_neg h3, decide_eq_false (fun h => h3 h.2.2.1)]
    · rw [if_neg h2, decide_eq_false (fun h => h2 h.2.1)]
  · rw [if_neg h1, decide_eq_false (fun h => h1 h.1)]

def seqL (m : Int) (n : Nat) : List Int := (List.range n).map (fun (i : Nat) => m + i)
theorem laws_markIntS_ev (l : List Int) (m : Int) (h0 : 0 ≤ m) (hm : m ≤ 1099511627776) (hl : l.length ≤ 1099511627776) : Ev (fun k => laws_markIntS.f k l m) (m + l.length, seqL m l.length) := by
  simp only [laws_markIntS.f]
  have := Ev.setloop' (L := fun k x i => laws_markIntS.l0 k x (m + i) i) (n := l.length) (fun i => m + i) l rfl (fun x => (m + (l.length : Int), x)) (by
    intro i x r hi hx h
    have e : wrap64 (m + (i : Int) + 1) = m + ((i + 1 : Nat) : Int) := by unfold wrap64; omega
    refine Ev.step (fun k => by rw [laws_markIntS.l0, if_pos (by omega), if_pos (by omega), Int.toNat_natCast, wrap_succ hi (by omega), e]) ?_
    exact h) (by
    intro x hx
    refine Ev.step (fun k => by rw [laws_markIntS.l0, if_neg (by omega)]) ?_
    exact Ev.now _)
  simpa [seqL] using this
theorem laws_heldIntS_ev (m : Int) (n : Nat) (h0 : 0 ≤ m) (hm : m ≤ 1099511627776) (hl : n ≤ 1099511627776) : Ev (fun k => laws_heldIntS.f k (seqL m n) m) (m + n) := by
  simp only [laws_heldIntS.f]
  have hlen : (seqL m n).length = n := by simp [seqL]
  have := Ev.allloop (L := fun k i => laws_heldIntS.l0 k (seqL m n) (m + i) i) (n := n) (fun _ => true) (-1) (m + (n : Int)) (by
    intro i r hi _ h
    have e : wrap64 (m + (i : Int) + 1) = m + ((i + 1 : Nat) : Int) := by unfold wrap64; omega
    have er : rd (seqL m n) (i : Int) = m + i := by
      simp [rd, seqL, List.getD_eq_getElem?_getD, List.getElem?_map, List.getElem?_range hi]
    refine Ev.step (fun k => by rw [laws_heldIntS.l0, if_pos (by omega), if_pos (by omega), if_pos er, wrap_succ hi (by omega), e]) ?_
    exact h) (by intro i _ h; cases h) (by
    refine Ev.step (fun k => by rw [laws_heldIntS.l0, if_neg (by omega)]) ?_
    exact Ev.now _)
  simpa using this

/-! rows of rows, marked and held -/
def sumR : List (List Int) → Nat
  | [] => 0
  | r :: L => r.length + sumR L
def seqR : Int → List (List Int) → List (List Int)
  | _, [] => []
  | m, r :: L => seqL m r.length :: seqR (m + r.length) L
theorem seqR_len : ∀ (m : Int) (L : List (List Int)), (seqR m L).length = L.length
  | _, [] => rfl
  | m, r :: L => by simp [seqR, seqR_len]
theorem rd_mid (a : List (List Int)) (r : List Int) (b : List (List Int)) : rd_L1 (a ++ r :: b) (a.length : Int) = r := by simp [rd_L1, List.getD_eq_getElem?_getD]
theorem set_mid (a : List (List Int)) (r s : List Int) (b : List (List Int)) : (a ++ r :: b).set (a.length : Int).toNat s = (a ++ [s]) ++ b := by
  rw [Int.toNat_natCast, List.set_append_right _ _ (Nat.le_refl _)]
  simp
theorem mss_ev : ∀ (rest done : List (List Int)) (m : Int), 0 ≤ m → m + sumR rest ≤ 1099511627776 → done.length + rest.length ≤ 1099511627776 →
    Ev (fun k => laws_markIntSS.l0 k (done ++ rest) m (done.length : Int)) (m + sumR rest, done ++ seqR m rest)
  | [], done, m, _, _, _ => by
    simp only [List.append_nil, sumR, seqR, Int.natCast_zero, Int.add_zero]
    refine Ev.step (fun k => by rw [laws_markIntSS.l0, if_neg (by omega)]) ?_
    exact Ev.now _
  | r :: rest, done, m, h0, h1, h2 => by
    simp only [sumR] at h1
    simp only [List.length_cons] at h2
    have hd : (done.length : Int) < ((done ++ r :: rest).length : Int) := by simp; omega
    refine Ev.step (fun k => by rw [laws_markIntSS.l0, if_pos hd, if_pos (by omega), rd_mid]) ?_
    refine Ev.bind (laws_markIntS_ev r m h0 (by omega) (by omega)) ?_
    simp only [set_mid]
    have e : wrap64 ((done.length : Int) + 1) = ((done ++ [seqL m r.length]).length : Int) := by
      have : (done ++ [seqL m r.length]).length = done.length + 1 := by simp
      rw [this]; unfold wrap64; omega
    rw [e]
    have := mss_ev rest (done ++ [seqL m r.length]) (m + r.length) (by omega) (by omega) (by simp; omega)
    simp only [sumR, seqR]
    have e2 : m + ((r.length + sumR rest : Nat) : Int) = m + r.length + sumR rest := by omega
    rw [e2]
    simpa using this
theorem laws_markIntSS_ev (L : List (List Int)) (m : Int) (h0 : 0 ≤ m) (h1 : m + sumR L ≤ 1099511627776) (h2 : L.length ≤ 1099511627776) : Ev (fun k => laws_markIntSS.f k L m) (m + sumR L, seqR m L) := by
  simp only [laws_markIntSS.f]
  exact mss_ev L [] m h0 h1 (by simpa using h2)
theorem hss_ev : ∀ (rest done : List (List Int)) (m : Int), 0 ≤ m → m + sumR rest ≤ 1099511627776 → done.length + rest.length ≤ 1099511627776 →
    Ev (fun k => laws_heldIntSS.l0 k (done ++ seqR m rest) m (done.length : Int)) (m + sumR rest)
  | [], done, m, _, _, _ => by
    simp only [List.append_nil, sumR, seqR, Int.natCast_zero, Int.add_zero]
    refine Ev.step (fun k => by rw [laws_heldIntSS.l0, if_neg (by omega)]) ?_
    exact Ev.now _
  | r :: rest, done, m, h0, h1, h2 => by
    simp only [sumR] at h1
    simp only [List.length_cons] at h2
    simp only [seqR]
    have hd : (done.length : Int) < ((done ++ seqL m r.length :: seqR (m + r.length) rest).length : Int) := by simp; omega
    refine Ev.step (fun k => by rw [laws_heldIntSS.l0, if_pos hd, if_pos (by omega), rd_mid]) ?_
    refine Ev.bind (laws_heldIntS_ev m r.length h0 (by omega) (by omega)) ?_
    have e : wrap64 ((done.length : Int) + 1) = ((done ++ [seqL m r.length]).length : Int) := by
      have : (done ++ [seqL m r.length]).length = done.length + 1 := by simp
      rw [this]; unfold wrap64; omega
    rw [e]
    simp only [if_neg (show ¬ m + (r.length : Int) < 0 by omega)]
    have := hss_ev rest (done ++ [seqL m r.length]) (m + r.length) (by omega) (by omega) (by simp; omega)
    have e2 : m + ((r.length + sumR rest : Nat) : Int) = m + r.length + sumR rest := by omega
    simp only [sumR]
    rw [e2]
    simpa using this
theorem laws_heldForest_ev (n : Int) (L : List (List Int)) (m : Int) (h0 : 0 ≤ m) (h1 : m + sumR L ≤ 1099511627776) (h2 : L.length ≤ 1099511627776) : Ev (fun k => laws_heldForest.f k n (seqR m L) m) (m + sumR L) := by
  simp only [laws_heldForest.f, laws_heldIntSS.f]
  refine Ev.bind (hss_ev L [] m h0 h1 (by simpa using h2)) ?_
  simp only [if_neg (show ¬ m + (sumR L : Int) < 0 by omega)]
  exact Ev.now _
theorem sumR_szr : ∀ (L : List (List Int)) (a : Int), 0 ≤ szr L a → (sumR L : Int) ≤ a
  | [], a, h => by simpa [sumR, szr] using h
  | r :: L, a, h => by
    simp only [szr] at h
    split at h
    · omega
    · have := sumR_szr L _ h
      simp only [sumR]; omega
theorem sumR_szF {L : List (List Int)} (h : ¬ szF L 1048576 < 0) : sumR L ≤ 1048576 := by
  unfold szF at h
  split at h
  · omega
  · have := sumR_szr L (1048576 - (L.length : Int)) (by omega)
    omega

/-! forests cut and linked -/
theorem nodup_le0 {α : Type} [DecidableEq α] : ∀ {l m : List α}, l.Nodup → (∀ x ∈ l, x ∈ m) → l.length ≤ m.length
  | [], _, _, _ => by simp
  | a :: l, m, hn, h => by
    rw [List.nodup_cons] at hn
    have ha := h a List.mem_cons_self
    have := nodup_le0 (l := l) (m := m.erase a) hn.2 (fun x hx => by
      have hxm := h x (List.mem_cons_of_mem _ hx)
      have hne : x ≠ a := fun e => hn.1 (e ▸ hx)
      exact (List.mem_erase_of_ne hne).2 hxm)
    rw [List.length_erase_of_mem ha] at this
    have := List.length_pos_of_mem ha
    rw [List.length_cons]; omega
theorem key_ext {α : Type} (key : α → Int) : ∀ {l m : List α}, l.Pairwise (fun a b => key a < key b) → m.Pairwise (fun a b => key a < key b) → (∀ x, x ∈ l ↔ x ∈ m) → l = m
  | [], [], _, _, _ => rfl
  | [], b :: m, _, _, h => absurd ((h b).2 List.mem_cons_self) (by simp)
  | a :: l, [], _, _, h => absurd ((h a).1 List.mem_cons_self) (by simp)
  | a :: l, b :: m, hl, hm, h => by
    rw [List.pairwise_cons] at hl hm
    have hab : a = b := by
      rcases List.mem_cons.1 ((h a).1 List.mem_cons_self) with e | e
      · exact e
      · rcases List.mem_cons.1 ((h b).2 List.mem_cons_self) with e2 | e2
        · exact e2.symm
        · have := hm.1 a e; have := hl.1 b e2; omega
    subst hab
    rw [key_ext key hl.2 hm.2 (fun x => ⟨fun hx => by
      rcases List.mem_cons.1 ((h x).1 (List.mem_cons_of_mem _ hx)) with e | e
      · subst e; have := hl.1 x hx; omega
      · exact e, fun hx => by
      rcases List.mem_cons.1 ((h x).2 (List.mem_cons_of_mem _ hx)) with e | e
      · subst e; have := hm.1 x hx; omega
      · exact e⟩)]
structure GoodT (x : List Int) : Prop where
  ne : x ≠ []
  len : x.length ≤ 1000
  rng : ∀ y ∈ x, 0 ≤ y ∧ y ≤ 11
theorem GoodT.pos {x : List Int} (h : GoodT x) : 1 ≤ (vertsP x).length := by
  cases x with
  | nil => exact absurd rfl h.ne
  | cons a l => exact List.length_pos_of_mem (vertsP_mem.2 ⟨List.mem_cons_self, h.rng a List.mem_cons_self⟩)
theorem GoodT.head {x : List Int} (h : GoodT x) : headV x ∈ x := by
  have hp := h.pos
  have : headV x ∈ vertsP x := by
    unfold headV
    rw [List.getD_eq_getElem?_getD, List.getElem?_eq_getElem (show 0 < (vertsP x).length by omega)]
    exact List.getElem_mem _
  exact (vertsP_mem.1 this).1
theorem goodT_tour {x : List Int} (h : tourOk x = true) : GoodT x := by
  have := tourOk_mem h
  exact ⟨fun e => by rw [e] at this; simp at this, by omega, this.2.2⟩
def bucketP (n : Nat) (l : List (List Int)) : List (List Int) := (List.range n).flatMap (fun (v : Nat) => l.filter (fun t => decide (headV t = (v : Int))))
theorem bucket_mem {n : Nat} {l : List (List Int)} {x : List Int} : x ∈ bucketP n l ↔ x ∈ l ∧ 0 ≤ headV x ∧ headV x < (n : Int) := by
  unfold bucketP
  simp only [List.mem_flatMap, List.mem_range, List.mem_filter, decide_eq_true_eq]
  constructor
  · rintro ⟨v, hv, h1, h2⟩; exact ⟨h1, by omega, by omega⟩
  · rintro ⟨h1, h2, h3⟩; exact ⟨(headV x).toNat, by omega, h1, by omega⟩
theorem bucket_asc {l : List (List Int)} (h : l.Pairwise (fun a b => headV a ≠ headV b)) : ∀ n : Nat, (bucketP n l).Pairwise (fun a b => headV a < headV b)
  | 0 => by simp [bucketP]
  | n + 1 => by
    have e : bucketP (n + 1) l = bucketP n l ++ l.filter (fun t => decide (headV t = (n : Int))) := by
      unfold bucketP; rw [List.range_succ, List.flatMap_append]; simp
    rw [e, List.pairwise_append]
    refine ⟨bucket_asc h n, ?_, fun a ha b hb => ?_⟩
    · refine List.Pairwise.imp_of_mem (fun {a b} ha hb hne => ?_) (h.filter _)
      simp only [List.mem_filter, decide_eq_true_eq] at ha hb
      exact absurd (ha.2.trans hb.2.symm) hne
    · have h1 := (bucket_mem.1 ha).2.2
      simp only [List.mem_filter, decide_eq_true_eq] at hb
      omega
def putP : List (List Int) → List Int → List (List Int)
  | [], t => [t]
  | x :: l, t => if headV x < headV t then x :: putP l t else t :: x :: l
theorem putP_mem {t y : List Int} : ∀ {l : List (List Int)}, y ∈ putP l t ↔ y = t ∨ y ∈ l
  | [] => by simp [putP]
  | x :: l => by
    rw [putP]
    split
    · rw [List.mem_cons, putP_mem, List.mem_cons]
      constructor
      · rintro (h | h | h) <;> simp [h]
      · rintro (h | h | h) <;> simp [h]
    · simp
theorem putP_asc {t : List Int} : ∀ {l : List (List Int)}, l.Pairwise (fun a b => headV a < headV b) → (∀ x ∈ l, headV x ≠ headV t) → (putP l t).Pairwise (fun a b => headV a < headV b)
  | [], _, _ => by simp [putP]
  | x :: l, h, hn => by
    rw [putP]
    have h' := List.pairwise_cons.1 h
    split
    · rename_i hx
      refine List.pairwise_cons.2 ⟨fun y hy => ?_, putP_asc h'.2 (fun z hz => hn z (List.mem_cons_of_mem _ hz))⟩
      rcases putP_mem.1 hy with e | e
      · rw [e]; exact hx
      · exact h'.1 y e
    · rename_i hx
      have hne := hn x List.mem_cons_self
      refine List.pairwise_cons.2 ⟨fun y hy => ?_, h⟩
      rcases List.mem_cons.1 hy with e | e
      · rw [e]; omega
      · have := h'.1 y e; omega
theorem putP_len (t : List Int) : ∀ (l : List (List Int)), (putP l t).length = l.length + 1
  | [] => by simp [putP]
  | x :: l => by
    rw [putP]
    split
    · rw [List.length_cons, putP_len t l, List.length_cons]
    · simp
theorem rd_head (x : List Int) : rd (vertsP x) 0 = headV x := by simp [rd, headV]
theorem impl_putTour_ev (l : List (List Int)) (t : List Int) (hl : l.length ≤ 1000) (hg : ∀ x ∈ l, GoodT x) (ht : GoodT t) : Ev (fun k => impl_putTour.f k l t) (putP l t) := by
  simp only [impl_putTour.f]
  refine Ev.bind (impl_VertsOf_ev t ht.len ht.rng) ?_
  have hp := ht.pos
  simp only [if_pos (show (0 : Int) < ((vertsP t).length : Int) by omega), rd_head]
  have key : ∀ (d i : Nat), i + d = l.length → Ev (fun k => impl_putTour.l0 k l t (headV t) i) (l.take i ++ putP (l.drop i) t) := by
    intro d
    induction d with
    | zero =>
      intro i hi
      refine Ev.step (fun k => by rw [impl_putTour.l0, if_neg (by omega), if_pos (by omega), if_pos (by omega)]) ?_
      simp only [Option.bind_some, List.nil_append, List.length_nil, Nat.zero_add, List.length_take, List.length_singleton, List.length_append, List.length_drop, Int.toNat_natCast]
      rw [if_pos (by omega), if_pos (by omega), if_pos (by omega), List.drop_of_length_le (show l.length ≤ i by omega), putP, List.append_nil]
      exact Ev.now _
    | succ d ih =>
      intro i hi
      have hil : i < l.length := by omega
      have hr : rd_L1 l (i : Int) = l[i] := by simp [rd_L1, List.getD_eq_getElem?_getD, List.getElem?_eq_getElem hil]
      have hgi := hg _ (List.getElem_mem hil)
      have hpi := hgi.pos
      refine Ev.step (fun k => by rw [impl_putTour.l0, if_pos (by omega), if_pos (by omega), hr]) ?_
      refine Ev.bind (impl_VertsOf_ev _ hgi.len hgi.rng) ?_
      simp only [if_pos (show (0 : Int) < ((vertsP l[i]).length : Int) by omega), rd_head]
      rw [List.drop_eq_getElem_cons hil, putP]
      by_cases c : headV l[i] < headV t
      · simp only [if_pos c, wrap_succ hil (show l.length ≤ 4611686018427387904 by omega)]
        have := ih (i + 1) (by omega)
        rw [List.take_succ_eq_append_getElem hil, List.append_assoc] at this
        exact this
      · simp only [if_neg c, if_pos (show (i : Int) ≤ (l.length : Int) by omega), Option.bind_some, List.nil_append, List.length_nil, Nat.zero_add, List.length_take, List.length_singleton, List.length_append, List.length_drop, Int.toNat_natCast]
        rw [if_pos (by omega), if_pos (by omega), if_pos (by omega), ← List.drop_eq_getElem_cons hil, List.append_assoc]
        exact Ev.now _
  have := key l.length 0 (by omega)
  simpa using this
def restP (L : List (List Int)) (out : List Int) : List (List Int) := ((List.range L.length).filter (fun (i : Nat) => decide ((i : Int) ∉ out))).map (fun (i : Nat) => L.getD i [])
theorem rest_sub (L : List (List Int)) (out : List Int) : (restP L out).Sublist L := by
  have h : (restP L out).Sublist ((List.range L.length).map (fun i => L.getD i [])) := List.Sublist.map _ List.filter_sublist
  have e := range_map_getD L [] (fun x => x)
  simp only [List.map_id'] at e
  rwa [e] at h
theorem rest_mem {L : List (List Int)} {out : List Int} {x : List Int} : x ∈ restP L out ↔ ∃ i, i < L.length ∧ (i : Int) ∉ out ∧ L.getD i [] = x := by
  unfold restP
  simp only [List.mem_map, List.mem_filter, List.mem_range, decide_eq_true_eq]
  exact ⟨fun ⟨i, h, e⟩ => ⟨i, h.1, h.2, e⟩, fun ⟨i, h1, h2, e⟩ => ⟨i, ⟨h1, h2⟩, e⟩⟩
theorem rest_flat (L : List (List Int)) (out : List Int) : (List.range L.length).flatMap (fun (i : Nat) => if (i : Int) ∈ out then [] else [L.getD i []]) = restP L out := by
  unfold restP
  generalize List.range L.length = r
  induction r with
  | nil => rfl
  | cons a r ih =>
    rw [List.flatMap_cons, ih]
    by_cases c : (a : Int) ∈ out
    · rw [if_pos c, List.filter_cons_of_neg (by simp [c])]; rfl
    · rw [if_neg c, List.filter_cons_of_pos (by simp [c])]; rfl
theorem flat1_le {β : Type} {g : Nat → List β} (h : ∀ j, (g j).length ≤ 1) : ∀ i, ((List.range i).flatMap g).length ≤ i
  | 0 => by simp
  | i + 1 => by
    have := flat1_le h i
    have := h i
    rw [List.range_succ, List.flatMap_append, List.length_append]
    simp only [List.flatMap_cons, List.flatMap_nil, List.append_nil]; omega
theorem impl_without_ev (n : Int) (L : List (List Int)) (a b : Int) (hl : L.length ≤ 1000) (hL : ∀ x ∈ L, x.length ≤ 1048576) : Ev (fun k => impl_without.f k n L a b) (n, restP L [a, b]) := by
  simp only [impl_without.f]
  have h := Ev.apploop (L := fun k x i => impl_without.l0 k a b L (L.length : Int) i n x) (n := L.length) (fun i => if (i : Int) ∈ [a, b] then [] else [L.getD i []]) (fun x => (n, x)) [] ?_ ?_
  · rw [rest_flat, List.nil_append] at h; exact h
  · intro i x r hi hx hr
    have hxl : x.length ≤ i := by rw [hx, List.nil_append]; exact flat1_le (fun j => by split <;> simp) i
    have hrd : rd_L1 L (i : Int) = L.getD i [] := by simp [rd_L1]
    have hm : (L.getD i []).length ≤ 1048576 := by
      rw [List.getD_eq_getElem?_getD, List.getElem?_eq_getElem hi]; exact hL _ (List.getElem_mem hi)
    by_cases c1 : (i : Int) = a
    · rw [if_pos (by simp [c1]), List.append_nil] at hr
      refine Ev.step (fun k => by rw [impl_without.l0, if_pos (by omega), if_pos (by omega), if_pos (by omega), if_pos c1, wrap_succ hi (by omega)]) ?_
      exact hr
    · by_cases c2 : (i : Int) = b
      · rw [if_pos (by simp [c2]), List.append_nil] at hr
        refine Ev.step (fun k => by rw [impl_without.l0, if_pos (by omega), if_pos (by omega), if_pos (by omega), if_neg c1, if_pos c2, wrap_succ hi (by omega)]) ?_
        exact hr
      · rw [if_neg (by simp [c1, c2])] at hr
        refine Ev.step (fun k => by rw [impl_without.l0, if_pos (by omega), if_pos (by omega), if_pos (by omega), if_neg c1, if_neg c2, hrd, impl_copyInts_eq _ (by omega), Option.bind_some, if_pos (by omega), wrap_succ hi (by omega)]) ?_
        exact hr
  · intro x hx
    refine Ev.step (fun k => by rw [impl_without.l0, if_neg (by omega)]) ?_
    exact Ev.now _
theorem filter_flat (p : List Int → Bool) (l : List (List Int)) : (List.range l.length).flatMap (fun i => if p (l.getD i []) = true then [l.getD i []] else []) = l.filter p := by
  have e := range_flatMap_getD l [] (fun x => if p x = true then [x] else [])
  rw [e]
  induction l with
  | nil => rfl
  | cons a l ih =>
    have := range_flatMap_getD l [] (fun x => if p x = true then [x] else [])
    rw [List.flatMap_cons, ih this]
    by_cases c : p a = true
    · rw [if_pos c, List.filter_cons_of_pos c]; rfl
    · rw [if_neg c, List.filter_cons_of_neg c]; rfl
theorem bucket_len (n : Nat) (l : List (List Int)) (hn : n ≤ 12) (hl : l.length ≤ 1000) : (bucketP n l).length ≤ 12000 := by
  have : ∀ m : Nat, m ≤ 12 → (bucketP m l).length ≤ 1000 * m := by
    intro m
    induction m with
    | zero => simp [bucketP]
    | succ m ih =>
      intro hm
      have h1 := ih (by omega)
      have h2 := List.length_filter_le (fun t => decide (headV t = (m : Int))) l
      have e : bucketP (m + 1) l = bucketP m l ++ l.filter (fun t => decide (headV t = (m : Int))) := by
        unfold bucketP; rw [List.range_succ, List.flatMap_append]; simp
      rw [e, List.length_append]; omega
  have := this n hn
  omega
theorem spec_l07With_ev (n : Nat) (hn : n ≤ 12) (L : List (List Int)) (out : List Int) (ins : List (List Int)) (hl : L.length ≤ 500) (ho : out.length ≤ 10) (hi : ins.length ≤ 10) (hL : ∀ x ∈ L, x.length ≤ 1048576) (hg : ∀ x ∈ restP L out ++ ins, GoodT x) :
    Ev (fun k => spec_l07With.f k (n : Int) L out ins) ((n : Int), bucketP n (restP L out ++ ins)) := by
  simp only [spec_l07With.f]
  have hrl : (restP L out).length ≤ 500 := Nat.le_trans (rest_sub L out).length_le hl
  have h := Ev.apploop (L := fun k x i => spec_l07With.l0 k out ins x i (n : Int) L) (n := L.length) (fun i => if (i : Int) ∈ out then [] else [L.getD i []]) (fun x => ((n : Int), bucketP n (x ++ ins))) [] ?_ ?_
  · rw [rest_flat, List.nil_append] at h; exact h
  · intro i x r hi hx hr
    have hxl : x.length ≤ i := by rw [hx, List.nil_append]; exact flat1_le (fun j => by split <;> simp) i
    have hrd : rd_L1 L (i : Int) = L.getD i [] := by simp [rd_L1]
    have hm : (L.getD i []).length ≤ 1048576 := by
      rw [List.getD_eq_getElem?_getD, List.getElem?_eq_getElem hi]; exact hL _ (List.getElem_mem hi)
    refine Ev.step (fun k => by rw [spec_l07With.l0, if_pos (by omega)]) ?_
    refine Ev.bind (spec_l05In_ev out (i : Int) (by omega)) ?_
    by_cases c : (i : Int) ∈ out
    · rw [if_pos c, List.append_nil] at hr
      simp only [decide_eq_true c, if_true, wrap_succ hi (show L.length ≤ 4611686018427387904 by omega)]
      exact hr
    · rw [if_neg c] at hr
      simp only [decide_eq_false c, Bool.false_eq_true, if_false, Option.bind_some, List.length_nil, Nat.zero_add, List.nil_append, hrd, if_pos (show (0 : Int) ≤ (i : Int) by omega), if_pos (show (L.getD i []).length < 17592186044416 by omega), if_pos (show x.length < 5864062014805 by omega), wrap_succ hi (show L.length ≤ 4611686018427387904 by omega)]
      exact hr
  · intro x hx
    rw [rest_flat, List.nil_append] at hx
    subst hx
    refine Ev.step (fun k => by rw [spec_l07With.l0, if_neg (by omega), if_pos (by omega)]) ?_
    generalize hl2 : restP L out ++ ins = l at hg
    have hll : l.length ≤ 600 := by rw [← hl2, List.length_append]; omega
    clear hl2
    have h2 := Ev.apploop (L := fun k y v => spec_l07With.l1 k l v (n : Int) L (n : Int) y) (n := n) (fun v => l.filter (fun t => decide (headV t = (v : Int)))) (fun y => ((n : Int), y)) [] ?_ ?_
    · rw [List.nil_append] at h2; exact h2
    · intro v y r hv hy hr
      have hyl : y.length ≤ 12000 := by
        rw [hy, List.nil_append]; exact bucket_len v l (by omega) (by omega)
      refine Ev.step (fun k => by rw [spec_l07With.l1, if_pos (by omega)]) ?_
      have h3 := Ev.apploop (L := fun k z i => spec_l07With.l2 k l (v : Int) i (n : Int) L (n : Int) z) (n := l.length) (fun i => if decide (headV (l.getD i []) = (v : Int)) = true then [l.getD i []] else []) (fun _ => r) y ?_ ?_
      · exact h3
      · intro i z r2 hi hz hr2
        have hzl : z.length ≤ 12000 + i := by
          rw [hz, List.length_append]
          have := flat1_le (g := fun i => if decide (headV (l.getD i []) = (v : Int)) = true then [l.getD i []] else []) (fun j => by split <;> simp) i
          omega
        have hrd : rd_L1 l (i : Int) = l.getD i [] := by simp [rd_L1]
        have hgi : GoodT (l.getD i []) := by
          rw [List.getD_eq_getElem?_getD, List.getElem?_eq_getElem hi]; exact hg _ (List.getElem_mem hi)
        have hp := hgi.pos
        have hlen := hgi.len
        refine Ev.step (fun k => by rw [spec_l07With.l2, if_pos (by omega), if_pos (by omega), hrd]) ?_
        refine Ev.bind (spec_VertsOf_ev _ (by omega)) ?_
        simp only [if_pos (show (0 : Int) < ((vertsP (l.getD i [])).length : Int) by omega), rd_head]
        by_cases c : headV (l.getD i []) = (v : Int)
        · simp only [decide_eq_true c, if_true] at hr2
          simp only [if_pos c, if_pos (show z.length < 5864062014805 by omega), wrap_succ hi (show l.length ≤ 4611686018427387904 by omega)]
          exact hr2
        · simp only [decide_eq_false c, Bool.false_eq_true, if_false, List.append_nil] at hr2
          simp only [if_neg c, wrap_succ hi (show l.length ≤ 4611686018427387904 by omega)]
          exact hr2
      · intro z hz
        rw [filter_flat (fun t => decide (headV t = (v : Int)))] at hz
        subst hz
        refine Ev.step (fun k => by rw [spec_l07With.l2, if_neg (by omega), wrap_succ hv (by omega)]) ?_
        exact hr
    · intro y hy
      refine Ev.step (fun k => by rw [spec_l07With.l1, if_neg (by omega)]) ?_
      exact Ev.now _
/-! what is known of a right forest -/
theorem forest_at {n : Int} {L : List (List Int)} (h : forestOk n L = true) {i : Nat} (hi : i < L.length) : tourOk (L.getD i []) = true ∧ (∀ x ∈ L.getD i [], x < n) ∧ (i = 0 ∨ headV (L.getD (i - 1) []) < headV (L.getD i [])) ∧ ∀ k, k < i → ∀ x ∈ L.getD i [], x ∉ L.getD k [] :=
  of_decide_eq_true ((forestOk_iff.1 h).2.1 i hi)
theorem getD_at {L : List (List Int)} {i : Nat} (hi : i < L.length) : L.getD i [] = L[i] := by simp [List.getD_eq_getElem?_getD, List.getElem?_eq_getElem hi]
theorem forest_disj {n : Int} {L : List (List Int)} (h : forestOk n L = true) {i j : Nat} (hi : i < L.length) (hj : j < L.length) (hij : i ≠ j) : ∀ x ∈ L.getD i [], x ∉ L.getD j [] := by
  intro x hx hx2
  rcases Nat.lt_or_gt_of_ne hij with c | c
  · exact (forest_at h hj).2.2.2 i c x hx2 hx
  · exact (forest_at h hi).2.2.2 j c x hx hx2
theorem forest_asc {n : Int} {L : List (List Int)} (h : forestOk n L = true) : L.Pairwise (fun a b => headV a < headV b) := by
  rw [List.pairwise_iff_getElem]
  have key : ∀ (d i : Nat) (_ : i < L.length) (_ : i + d + 1 < L.length), headV (L.getD i []) < headV (L.getD (i + d + 1) []) := by
    intro d
    induction d with
    | zero =>
      intro i hi hj
      rcases (forest_at h hj).2.2.1 with e | e
      · omega
      · simpa using e
    | succ d ih =>
      intro i hi hj
      have h1 := ih i hi (by omega)
      rcases (forest_at h hj).2.2.1 with e | e
      · omega
      · rw [show i + (d + 1) + 1 - 1 = i + d + 1 by omega] at e
        omega
  intro i j hi hj hij
  have := key (j - i - 1) i hi (by omega)
  rw [show i + (j - i - 1) + 1 = j by omega, getD_at hi, getD_at hj] at this
  exact this
theorem forest_all {n : Int} {L : List (List Int)} (h : forestOk n L = true) {v : Int} (h0 : 0 ≤ v) (h1 : v < n) : ∃ i, i < L.length ∧ v ∈ L.getD i [] := by
  refine Classical.byContradiction (fun hno => ?_)
  have hn := (forestOk_iff.1 h).1
  have hs := (forestOk_iff.1 h).2.2
  have hmem : ∀ x ∈ L.flatMap vertsP, ∃ i, i < L.length ∧ x ∈ L.getD i [] ∧ 0 ≤ x := by
    intro x hx
    obtain ⟨t, ht, hxt⟩ := List.mem_flatMap.1 hx
    obtain ⟨i, hi, rfl⟩ := List.mem_iff_getElem.1 ht
    have := vertsP_mem.1 hxt
    exact ⟨i, hi, by rw [getD_at hi]; exact this.1, this.2.1⟩
  have hnd : (v :: L.flatMap vertsP).Nodup := by
    rw [List.nodup_cons]
    refine ⟨fun hv => ?_, ?_⟩
    · obtain ⟨i, hi, hx, _⟩ := hmem v hv
      exact hno ⟨i, hi, hx⟩
    · unfold List.Nodup
      rw [List.pairwise_flatMap]
      refine ⟨fun t _ => List.Pairwise.imp (fun h => by omega) (vertsP_asc t), ?_⟩
      rw [List.pairwise_iff_getElem]
      intro i j hi hj hij x hx y hy e
      subst e
      have h3 := forest_disj h hi hj (by omega) x (by rw [getD_at hi]; exact (vertsP_mem.1 hx).1)
      rw [getD_at hj] at h3
      exact h3 (vertsP_mem.1 hy).1
  have := nodup_le0 (m := (List.range n.toNat).map (fun (i : Nat) => (i : Int))) hnd (fun x hx => by
    simp only [List.mem_map, List.mem_range]
    rcases List.mem_cons.1 hx with e | e
    · subst e; exact ⟨x.toNat, by omega, by omega⟩
    · obtain ⟨i, hi, h3, h4⟩ := hmem x e
      have := (forest_at h hi).2.1 x h3
      exact ⟨x.toNat, by omega, by omega⟩)
  unfold sumV at hs
  rw [List.take_length] at hs
  simp only [List.length_cons, List.length_map, List.length_range] at this
  omega
theorem forest_idx {n : Int} {L : List (List Int)} (h : forestOk n L = true) {v : Int} (h0 : 0 ≤ v) (h1 : v < n) : ∃ i : Nat, treeOfP n L v = (i : Int) ∧ i < L.length ∧ v ∈ L.getD i [] := by
  rcases treeOfP_range n L v with e | ⟨_, h2, h3, h4⟩
  · exfalso
    obtain ⟨i, hi, hv⟩ := forest_all h h0 h1
    unfold treeOfP at e
    rw [if_pos h] at e
    unfold treeIdx at e
    have hmiss : ∀ (d i : Nat), findR (fun i => decide (v ∈ L.getD i [])) (fun i => (i : Int)) (-1) d i = -1 → ∀ k, i ≤ k → k < i + d → v ∉ L.getD k [] := by
      intro d
      induction d with
      | zero => intro i _ k h1 h2; omega
      | succ d ih =>
        intro i he k h1 h2
        rw [findR] at he
        by_cases c : v ∈ L.getD i []
        · rw [if_pos (decide_eq_true c)] at he; omega
        · rw [if_neg (by rw [decide_eq_true_eq]; exact c)] at he
          by_cases hk : k = i
          · rw [hk]; exact c
          · exact ih (i + 1) he k (by omega) (by omega)
    exact hmiss L.length 0 e i (by omega) (by omega) hv
  · exact ⟨(treeOfP n L v).toNat, by omega, by omega, h4⟩
theorem rest_facts {n : Int} {L : List (List Int)} (h : forestOk n L = true) (out : List Int) : (restP L out).Pairwise (fun a b => headV a < headV b) ∧ ∀ x ∈ restP L out, GoodT x ∧ (∀ y ∈ x, y < n) ∧ ∀ k : Nat, (k : Int) ∈ out → k < L.length → ∀ y ∈ x, y ∉ L.getD k [] := by
  refine ⟨List.Pairwise.sublist (rest_sub L out) (forest_asc h), fun x hx => ?_⟩
  obtain ⟨i, hi, ho, rfl⟩ := rest_mem.1 hx
  have hf := forest_at h hi
  refine ⟨goodT_tour hf.1, hf.2.1, fun k hk hkl y hy => forest_disj h hi hkl (fun e => ho (by rw [e]; exact hk)) y hy⟩

/-! forests linked -/
theorem findR_none {p : Nat → Bool} : ∀ (d i : Nat), findR p (fun i => (i : Int)) (-1) d i = -1 → ∀ k, i ≤ k → k < i + d → p k = false
  | 0, i, _, k, h1, h2 => by omega
  | d + 1, i, he, k, h1, h2 => by
    rw [findR] at he
    cases c : p i with
    | true => rw [c, if_pos rfl] at he; omega
    | false =>
      rw [c, if_neg (by simp)] at he
      by_cases hk : k = i
      · rw [hk]; exact c
      · exact findR_none d (i + 1) he k (by omega) (by omega)
theorem firstI_mem {l : List Int} {a : Int} (h : a ∈ l) : 0 ≤ firstI l a := by
  rcases firstI_range l a with e | e
  · exfalso
    obtain ⟨i, hi, rfl⟩ := List.mem_iff_getElem.1 h
    have := findR_none l.length 0 e i (by omega) (by omega)
    simp [List.getD_eq_getElem?_getD, List.getElem?_eq_getElem hi] at this
  · exact e.1
theorem reroot_mem {l : List Int} {v x : Int} (hv : v ∈ l) (h : x ∈ (rerootP l v).1) : x ∈ l := by
  unfold rerootP at h
  split at h
  · simp only [List.mem_append, List.mem_singleton] at h
    rcases h with (h | h) | h
    · exact List.mem_of_mem_take (List.mem_of_mem_drop h)
    · exact List.mem_of_mem_take h
    · rw [h]; exact hv
  · cases h
theorem join_facts {s t : List Int} {u v : Int} (hs : tourOk s = true) (ht : tourOk t = true) (hu : u ∈ s) (hv : v ∈ t) (hd : ∀ x ∈ t, x ∉ s) : (joinP s u t v).2 = true ∧ (joinP s u t v).1 ≠ [] ∧ ∀ x ∈ (joinP s u t v).1, x ∈ s ∨ x ∈ t := by
  have hc : tourOk s = true ∧ tourOk t = true ∧ 0 ≤ firstI s u ∧ 0 ≤ firstI t v ∧ ∀ x ∈ t, x ∉ s := ⟨hs, ht, firstI_mem hu, firstI_mem hv, hd⟩
  have hl := firstI_last (firstI_mem hu)
  unfold joinP
  rw [if_pos hc]
  refine ⟨rfl, fun e => ?_, fun x hx => ?_⟩
  · have := congrArg List.length e
    simp only [List.length_append, List.length_drop, List.length_nil] at this
    omega
  · simp only [List.mem_append] at hx
    rcases hx with (hx | hx) | hx
    · exact .inl (List.mem_of_mem_take hx)
    · exact .inr (reroot_mem hv hx)
    · exact .inl (List.mem_of_mem_drop hx)
theorem bucket_put1 {m : Nat} {rest : List (List Int)} {r1 : List Int} (ha : rest.Pairwise (fun a b => headV a < headV b)) (hg : ∀ x ∈ rest, (0 ≤ headV x ∧ headV x < (m : Int)) ∧ headV x ≠ headV r1) (h1 : 0 ≤ headV r1 ∧ headV r1 < (m : Int)) : bucketP m (rest ++ [r1]) = putP rest r1 := by
  refine key_ext headV (bucket_asc ?_ m) (putP_asc ha (fun x hx => (hg x hx).2)) (fun x => ?_)
  · rw [List.pairwise_append]
    refine ⟨List.Pairwise.imp (fun h => by omega) ha, by simp, fun a ha b hb => ?_⟩
    rw [List.mem_singleton] at hb
    rw [hb]; exact (hg a ha).2
  · rw [bucket_mem, putP_mem]
    simp only [List.mem_append, List.mem_singleton]
    constructor
    · rintro ⟨h | h, _⟩
      · exact .inr h
      · exact .inl h
    · rintro (h | h)
      · subst h; exact ⟨.inr rfl, h1⟩
      · exact ⟨.inl h, (hg x h).1⟩
theorem link_both (n : Int) (L : List (List Int)) (a b : Int) (hl : L.length ≤ 1048576) (hL : ∀ x ∈ L, x.length ≤ 1048576) : ∃ R : Int × List (List Int) × Bool, Ev (fun k => spec_Link.f k n L a b) R ∧ Ev (fun k => impl_Link.f k n L a b) R ∧ R.2.1.length ≤ 14 ∧ ∀ x ∈ R.2.1, x.length ≤ 100 := by
  have sno : ∀ t s : Int, Ev (fun k => spec_Link.j0 k t s true n L a b) (0, ([] : List (List Int)), false) := fun t s => by
    refine Ev.step (fun k => by rw [spec_Link.j0, if_pos rfl]) ?_
    exact Ev.now _
  have ino : Ev (fun k => impl_Link.j0 k true n L a b) (0, ([] : List (List Int)), false) := by
    refine Ev.step (fun k => by rw [impl_Link.j0, if_pos rfl]) ?_
    exact Ev.now _
  by_cases hF : forestOk n L = true
  · by_cases hE : edgeOk n a b = true
    · have hE' := of_decide_eq_true hE
      obtain ⟨i, hk, hi, hai⟩ := forest_idx hF (v := a) (by omega) (by omega)
      obtain ⟨j, hkj, hj, hbj⟩ := forest_idx hF (v := b) (by omega) (by omega)
      have h12 := forestOk_len hF
      have hn := (forestOk_iff.1 hF).1
      have hrd : rd_L1 L (i : Int) = L.getD i [] := by simp [rd_L1]
      have hrdj : rd_L1 L (j : Int) = L.getD j [] := by simp [rd_L1]
      have hf := forest_at hF hi
      have hfj := forest_at hF hj
      have hgt := goodT_tour hf.1
      have hgtj := goodT_tour hfj.1
      obtain ⟨m, rfl⟩ : ∃ m : Nat, n = m := ⟨n.toNat, by omega⟩
      by_cases hij : i = j
      · subst hij
        refine ⟨(0, [], false), ?_, ?_, by simp, by simp⟩
        · simp only [spec_Link.f, spec_EdgeOk_eq, Option.bind_some]
          refine Ev.bind (spec_TreeOf_ev m L a hl hL) ?_
          refine Ev.bind (spec_TreeOf_ev m L b hl hL) ?_
          simp only [hE, if_true, hk, hkj, if_neg (show ¬ (i : Int) < 0 by omega), beq_self_eq_true]
          exact sno _ _
        · simp only [impl_Link.f, impl_EdgeOk_eq, Option.bind_some]
          refine Ev.bind (impl_ForestOk_ev m L hl hL) ?_
          simp only [hF, if_true, hE, Bool.not_true]
          refine Ev.step (fun k => by rw [impl_Link.j0, if_neg (by simp)]) ?_
          refine Ev.bind (impl_TreeOf_ev m L a hl hL) ?_
          refine Ev.bind (impl_TreeOf_ev m L b hl hL) ?_
          simp only [hk, hkj, if_true]
          exact Ev.now _
      · obtain ⟨f1, f2, f3⟩ := join_facts hf.1 hfj.1 hai hbj (forest_disj hF hj hi (fun e => hij e.symm))
        have hjl := joinP_len (L.getD i []) a (L.getD j []) b
        have hJs := spec_JoinTours_ev (L.getD i []) a (L.getD j []) b (by have := hgt.len; omega) (by have := hgtj.len; omega)
        have hJi := impl_JoinTours_ev (L.getD i []) a (L.getD j []) b (by have := hgt.len; omega) (by have := hgtj.len; omega)
        obtain ⟨⟨r, ok⟩, hr⟩ : ∃ r, r = joinP (L.getD i []) a (L.getD j []) b := ⟨_, rfl⟩
        rw [← hr] at f1 f2 f3 hjl hJs hJi
        simp only at f1 f2 f3 hjl
        subst f1
        have g1 : GoodT r := ⟨f2, by omega, fun y hy => by
          rcases f3 y hy with h | h
          · exact hgt.rng y h
          · exact hgtj.rng y h⟩
        have hfr := rest_facts hF [(i : Int), (j : Int)]
        have q1 : 0 ≤ headV r ∧ headV r < (m : Int) := ⟨(g1.rng _ g1.head).1, by
          rcases f3 _ g1.head with h | h
          · exact hf.2.1 _ h
          · exact hfj.2.1 _ h⟩
        have hrs : (restP L [(i : Int), (j : Int)]).length ≤ 12 := Nat.le_trans (rest_sub L _).length_le h12
        have hR : bucketP m (restP L [(i : Int), (j : Int)] ++ [r]) = putP (restP L [(i : Int), (j : Int)]) r := by
          refine bucket_put1 hfr.1 (fun x hx => ?_) q1
          obtain ⟨k1, k2, k3⟩ := hfr.2 x hx
          have k4 := k3 i (by simp) hi _ k1.head
          have k5 := k3 j (by simp) hj _ k1.head
          refine ⟨⟨(k1.rng _ k1.head).1, k2 _ k1.head⟩, fun e => ?_⟩
          rw [e] at k4 k5
          rcases f3 _ g1.head with h | h
          · exact k4 h
          · exact k5 h
        refine ⟨((m : Int), putP (restP L [(i : Int), (j : Int)]) r, true), ?_, ?_, by simp only [putP_len]; omega, fun x hx => ?_⟩
        · simp only [spec_Link.f, spec_EdgeOk_eq, Option.bind_some]
          refine Ev.bind (spec_TreeOf_ev m L a hl hL) ?_
          refine Ev.bind (spec_TreeOf_ev m L b hl hL) ?_
          have hne : ((i : Int) == (j : Int)) = false := by simp only [beq_eq_false_iff_ne]; omega
          simp only [hE, if_true, hk, hkj, if_neg (show ¬ (i : Int) < 0 by omega), if_neg (show ¬ (j : Int) < 0 by omega), hne]
          refine Ev.step (fun k => by rw [spec_Link.j0, if_neg (by simp), if_pos (by omega), if_pos (by omega), if_pos (by omega), if_pos (by omega), hrd, hrdj]) ?_
          refine Ev.bind hJs ?_
          have hw := spec_l07With_ev m (by omega) L [(i : Int), (j : Int)] [r] (by omega) (by simp) (by simp) hL (fun x hx => by
            simp only [List.mem_append, List.mem_singleton] at hx
            rcases hx with hx | rfl
            · exact (hfr.2 x hx).1
            · exact g1)
          rw [hR] at hw
          refine Ev.bind hw ?_
          exact Ev.now _
        · simp only [impl_Link.f, impl_EdgeOk_eq, Option.bind_some]
          refine Ev.bind (impl_ForestOk_ev m L hl hL) ?_
          simp only [hF, if_true, hE, Bool.not_true]
          refine Ev.step (fun k => by rw [impl_Link.j0, if_neg (by simp)]) ?_
          refine Ev.bind (impl_TreeOf_ev m L a hl hL) ?_
          refine Ev.bind (impl_TreeOf_ev m L b hl hL) ?_
          simp only [hk, hkj, if_neg (show ¬ (i : Int) = (j : Int) by omega), if_pos (show (0 : Int) ≤ (i : Int) by omega), if_pos (show (i : Int) < (L.length : Int) by omega), if_pos (show (0 : Int) ≤ (j : Int) by omega), if_pos (show (j : Int) < (L.length : Int) by omega), hrd, hrdj]
          refine Ev.bind hJi ?_
          refine Ev.bind (impl_without_ev (m : Int) L (i : Int) (j : Int) (by omega) hL) ?_
          refine Ev.bind (impl_putTour_ev (restP L [(i : Int), (j : Int)]) r (by omega) (fun x hx => (hfr.2 x hx).1) g1) ?_
          exact Ev.now _
        · rcases putP_mem.1 hx with rfl | hx
          · exact hjl
          · have := (tourOk_mem (forestOk_tour hF ((rest_sub L _).subset hx))).2.1
            omega
    · refine ⟨(0, [], false), ?_, ?_, by simp, by simp⟩
      · simp only [spec_Link.f, spec_EdgeOk_eq, Option.bind_some, Bool.eq_false_iff.2 hE, Bool.false_eq_true, if_false]
        exact Ev.bind (spec_TreeOf_ev n L a hl hL) (Ev.bind (spec_TreeOf_ev n L b hl hL) (sno _ _))
      · simp only [impl_Link.f, impl_EdgeOk_eq, Option.bind_some, Bool.eq_false_iff.2 hE, Bool.not_false]
        refine Ev.bind (impl_ForestOk_ev n L hl hL) ?_
        simp only [hF, if_true]
        exact ino
  · refine ⟨(0, [], false), ?_, ?_, by simp, by simp⟩
    · simp only [spec_Link.f, spec_EdgeOk_eq, Option.bind_some]
      have ht : treeOfP n L a = -1 := by unfold treeOfP; rw [if_neg hF]
      refine Ev.bind (spec_TreeOf_ev n L a hl hL) ?_
      refine Ev.bind (spec_TreeOf_ev n L b hl hL) ?_
      rw [ht]
      by_cases hE : edgeOk n a b = true
      · simp only [hE, if_true, if_pos (show (-1 : Int) < 0 by omega)]
        exact sno _ _
      · simp only [Bool.eq_false_iff.2 hE, Bool.false_eq_true, if_false]
        exact sno _ _
    · simp only [impl_Link.f]
      refine Ev.bind (impl_ForestOk_ev n L hl hL) ?_
      simp only [if_neg hF]
      exact ino

theorem sumR_le {m : Nat} : ∀ {L : List (List Int)}, (∀ x ∈ L, x.length ≤ m) → sumR L ≤ m * L.length
  | [], _ => by simp [sumR]
  | r :: L, h => by
    have h1 := h r List.mem_cons_self
    have h2 := sumR_le (L := L) (fun x hx => h x (List.mem_cons_of_mem _ hx))
    simp only [sumR, List.length_cons, Nat.mul_succ]; omega
theorem FnExactLink_pure (n : Int) (L : List (List Int)) (a b : Int) (q0 : (Go.Lit.int .i64 n).wf = true) (q1 : L.length ≤ 9223372036854775807 ∧ ∀ a ∈ L, a.length ≤ 9223372036854775807 ∧ ∀ b ∈ a, (Go.Lit.int .i64 b).wf = true) (q2 : (Go.Lit.int .i64 a).wf = true) (q3 : (Go.Lit.int .i64 b).wf = true) : ∃ k, laws_FnExactLink.Ok k n L a b := by
  obtain ⟨k0, h0⟩ := laws_szForest_ev n L q1.1 (fun x hx => (q1.2 x hx).1)
  by_cases h : szF L 1048576 < 0
  · rw [if_pos h] at h0
    exact ⟨k0, -1, h0 k0 (Nat.le_refl _), .inl (by decide)⟩
  · rw [if_neg h] at h0
    obtain ⟨hl0, hL0⟩ := szF_bound h
    have hl : L.length ≤ 1048576 := by omega
    have hL : ∀ x ∈ L, x.length ≤ 1048576 := fun x hx => by have := hL0 x hx; omega
    have hsum : sumR L ≤ 1048576 := sumR_szF h
    obtain ⟨⟨m0, R, c⟩, hs, hi, hR1, hR2⟩ := link_both n L a b hl hL
    simp only at hR1 hR2
    have hsR := sumR_le hR2
    have hsR2 : sumR R ≤ 1400 := Nat.le_trans hsR (by omega)
    obtain ⟨k1, h1⟩ := laws_toForest_ev n L hl hL
    obtain ⟨k2, h2⟩ := hs
    obtain ⟨k3, h3⟩ := hi
    obtain ⟨k4, h4⟩ := laws_eqForest_refl m0 R (by omega) (fun x hx => by have := hR2 x hx; omega)
    obtain ⟨k5, h5⟩ := laws_eqForest_refl n L hl hL
    obtain ⟨k6, h6⟩ := laws_markIntSS_ev L 1 (by omega) (by omega) (by omega)
    obtain ⟨k7, h7⟩ := laws_markIntSS_ev R 1 (by omega) (by omega) (by omega)
    obtain ⟨k8, h8⟩ := laws_heldForest_ev m0 R 1 (by omega) (by omega) (by omega)
    exact ⟨k0 + k1 + k2 + k3 + k4 + k5 + k6 + k7 + k8, _, h0 _ (by omega), .inr ⟨decide_eq_false h, seqR 1 L, R, seqR 1 R, m0, 1 + sumR L, 1 + sumR R, c, h1 _ (by omega), rfl, h2 _ (by omega), h3 _ (by omega), h4 _ (by omega), h5 _ (by omega), h6 _ (by omega), decide_eq_false (by omega), h7 _ (by omega), seqR_len _ _, h8 _ (by omega), decide_eq_false (by omega)⟩⟩

end Go.Proofs.Ytbkklafkoegdpaa.Pure
