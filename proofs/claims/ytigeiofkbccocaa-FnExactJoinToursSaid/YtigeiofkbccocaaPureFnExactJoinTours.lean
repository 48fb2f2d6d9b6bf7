/- For every two rows of numbers and two numbers JoinTours of the program and of the reference tell the same, in memory of its own. No condition is laid beside the statement. -/
import Derived.Test.YtigeiofkbccocaaQFnExactJoinToursx6
import Derived.Laws.BitsLemmas
import Derived.Lib.Bytes
import Derived.OpenShut
namespace Go.Proofs.Ytigeiofkbccocaa.Pure
open Go.RowKit Go.Proofs.Ytigeiofkbccocaa.QFnExactJoinTours Go.Proofs.YtigeiofkbccocaaW.PrintWords Go.Proofs.YtigeiofkbccocaaW.PrintLast
set_option linter.unusedVariables false
set_option linter.unusedSimpArgs false


/-! loops in general -/
theorem wrap_succ {i n : Nat} (h : i < n) (hn : n ≤ 4611686018427387904) : wrap64 ((i : Int) + 1) = ((i + 1 : Nat) : Int) := by unfold wrap64; omega
theorem Ev.loopR {σ β : Type} {L : Nat → σ → Int → Option β} {n : Nat} (R : Nat → σ → β) (I : Nat → σ → Prop)
    (hstep : ∀ (i : Nat) s, i < n → I i s → Ev (fun k => L k s i) (R i s) ∨ ∃ s', I (i + 1) s' ∧ R i s = R (i + 1) s' ∧ ∀ r, Ev (fun k => L k s' ((i + 1 : Nat) : Int)) r → Ev (fun k => L k s i) r)
    (hend : ∀ s, I n s → Ev (fun k => L k s n) (R n s)) : ∀ (d i : Nat) (s : σ), i + d = n → I i s → Ev (fun k => L k s i) (R i s) := by
  intro d
  induction d with
  | zero =>
    intro i s hi hI
    have : i = n := by omega
    subst this
    exact hend s hI
  | succ d ih =>
    intro i s hi hI
    rcases hstep i s (by omega) hI with h | ⟨s', h1, h2, h3⟩
    · exact h
    · rw [h2]
      exact h3 _ (ih (i + 1) s' (by omega) h1)
/-- A loop that builds by appending. -/
theorem Ev.apploop {β γ : Type} {L : Nat → List γ → Int → Option β} {n : Nat} (g : Nat → List γ) (fin : List γ → β) (a0 : List γ)
    (hstep : ∀ (i : Nat) x r, i < n → x = a0 ++ (List.range i).flatMap g → Ev (fun k => L k (x ++ g i) ((i + 1 : Nat) : Int)) r → Ev (fun k => L k x i) r)
    (hend : ∀ x, x = a0 ++ (List.range n).flatMap g → Ev (fun k => L k x n) (fin x)) : Ev (fun k => L k a0 0) (fin (a0 ++ (List.range n).flatMap g)) := by
  have key := Ev.loopR (L := L) (n := n) (fun _ _ => fin (a0 ++ (List.range n).flatMap g)) (fun i x => x = a0 ++ (List.range i).flatMap g) (by
    intro i x hi hx
    right
    refine ⟨x ++ g i, by rw [hx, List.range_succ, List.flatMap_append]; simp, rfl, fun r hr => hstep i x r hi hx hr⟩) (by
    intro x hx
    have := hend x hx
    rw [hx] at this ⊢
    exact this)
  exact key n 0 a0 (by omega) (by simp)
/-- A loop that writes every element of a row. -/
theorem Ev.setloop' {β γ : Type} {L : Nat → List γ → Int → Option β} {n : Nat} (g : Nat → γ) (x0 : List γ) (h0 : x0.length = n) (fin : List γ → β)
    (hstep : ∀ (i : Nat) x r, i < n → x.length = n → Ev (fun k => L k (x.set i (g i)) ((i + 1 : Nat) : Int)) r → Ev (fun k => L k x i) r)
    (hend : ∀ x, x.length = n → Ev (fun k => L k x n) (fin x)) : Ev (fun k => L k x0 0) (fin ((List.range n).map g)) := by
  have key := Ev.loopR (L := L) (n := n) (fun _ _ => fin ((List.range n).map g)) (fun i x => x.length = n ∧ ∀ j, j < i → x[j]? = some (g j)) (by
    intro i x hi hx
    right
    refine ⟨x.set i (g i), ⟨by rw [List.length_set]; exact hx.1, fun j hj => ?_⟩, rfl, fun r hr => hstep i x r hi hx.1 hr⟩
    by_cases hji : j = i
    · subst hji
      rw [List.getElem?_set_self (by omega)]
    · rw [List.getElem?_set_ne (by omega)]
      exact hx.2 j (by omega)) (by
    intro x hx
    have hxe : x = (List.range n).map g := by
      apply List.ext_getElem?
      intro j
      by_cases hj : j < n
      · rw [hx.2 j hj]; simp [hj]
      · rw [List.getElem?_eq_none (by omega), List.getElem?_eq_none (by simp; omega)]
    rw [← hxe]
    exact hend x hx.1)
  exact key n 0 _ (by omega) ⟨h0, fun j hj => by omega⟩
/-- A loop that fills what was made. -/
theorem Ev.setloop {β γ : Type} {L : Nat → List γ → Int → Option β} {n : Nat} (g : Nat → γ) (z : γ) (fin : List γ → β)
    (hstep : ∀ (i : Nat) x r, i < n → x.length = n → Ev (fun k => L k (x.set i (g i)) ((i + 1 : Nat) : Int)) r → Ev (fun k => L k x i) r)
    (hend : ∀ x, x.length = n → Ev (fun k => L k x n) (fin x)) : Ev (fun k => L k (List.replicate n z) 0) (fin ((List.range n).map g)) :=
  Ev.setloop' g _ (by simp) fin hstep hend
/-- A loop that asks something of each index. -/
theorem Ev.allloop {β : Type} {L : Nat → Int → Option β} {n : Nat} (p : Nat → Bool) (c fin : β)
    (hstep : ∀ (i : Nat) r, i < n → p i = true → Ev (fun k => L k ((i + 1 : Nat) : Int)) r → Ev (fun k => L k i) r)
    (hno : ∀ (i : Nat), i < n → p i = false → Ev (fun k => L k i) c)
    (hend : Ev (fun k => L k n) fin) : Ev (fun k => L k 0) (if (List.range n).all p then fin else c) := by
  have key := Ev.loopR (σ := Unit) (L := fun k _ i => L k i) (n := n) (fun i _ => if (List.range' i (n - i)).all p then fin else c) (fun _ _ => True) (by
    intro i _ hi _
    have e : List.range' i (n - i) = i :: List.range' (i + 1) (n - (i + 1)) := by
      have : n - i = (n - (i + 1)) + 1 := by omega
      rw [this, List.range'_succ]
    cases hp : p i with
    | true => right; exact ⟨(), trivial, by rw [e, List.all_cons, hp, Bool.true_and], fun r hr => hstep i r hi hp hr⟩
    | false => left; rw [e, List.all_cons, hp, Bool.false_and]; exact hno i hi hp) (by
    intro _ _
    simpa using hend)
  have := key n 0 () (by omega) trivial
  rw [List.range_eq_range']
  simpa using this
theorem range_map_getD {α β : Type} (l : List α) (d : α) (h : α → β) : (List.range l.length).map (fun i => h (l.getD i d)) = l.map h := by
  apply List.ext_getElem
  · simp
  · intro i h1 h2
    simp at h1 h2
    simp [List.getD_eq_getElem?_getD, List.getElem?_eq_getElem h2]
theorem range_flatMap_getD {α β : Type} (l : List α) (d : α) (h : α → List β) : (List.range l.length).flatMap (fun i => h (l.getD i d)) = l.flatMap h := by
  have := congrArg List.flatten (range_map_getD l d h)
  rw [List.flatMap_def, List.flatMap_def]; exact this
theorem range_all_getD {α : Type} (l : List α) (d : α) (h : α → Bool) : (List.range l.length).all (fun i => h (l.getD i d)) = l.all h := by
  have := congrArg (fun l => l.all id) (range_map_getD l d h)
  simpa [List.all_map] using this
theorem flatMap_single {α β : Type} (l : List α) (g : α → β) : l.flatMap (fun x => [g x]) = l.map g := by
  induction l with
  | nil => rfl
  | cons a l ih => simp [ih]
/-- A loop that looks for the first index. -/
def findR {β : Type} (p : Nat → Bool) (c : Nat → β) (fin : β) : Nat → Nat → β
  | 0, _ => fin
  | d + 1, i => if p i then c i else findR p c fin d (i + 1)
theorem Ev.findloop {β : Type} {L : Nat → Int → Option β} {n : Nat} (p : Nat → Bool) (c : Nat → β) (fin : β)
    (hstep : ∀ (i : Nat) r, i < n → p i = false → Ev (fun k => L k ((i + 1 : Nat) : Int)) r → Ev (fun k => L k i) r)
    (hhit : ∀ (i : Nat), i < n → p i = true → Ev (fun k => L k i) (c i))
    (hend : Ev (fun k => L k n) fin) : Ev (fun k => L k 0) (findR p c fin n 0) := by
  have key := Ev.loopR (σ := Unit) (L := fun k _ i => L k i) (n := n) (fun i _ => findR p c fin (n - i) i) (fun _ _ => True) (by
    intro i _ hi _
    have e : findR p c fin (n - i) i = if p i then c i else findR p c fin (n - (i + 1)) (i + 1) := by
      have : n - i = (n - (i + 1)) + 1 := by omega
      rw [this, findR]
    cases hp : p i with
    | false => right; exact ⟨(), trivial, by rw [e, hp]; rfl, fun r hr => hstep i r hi hp hr⟩
    | true => left; rw [e, hp]; exact hhit i hi hp) (by
    intro _ _
    simpa [findR] using hend)
  have := key n 0 () (by omega) trivial
  simpa using this

theorem spec_in_eq (a b c : Int) : spec_l01In.f a b c = some (decide (b ≤ a ∧ a ≤ c)) := by
  unfold spec_l01In.f
  by_cases h : a ≥ b
  · have h' : b ≤ a := h
    simp [h']
  · have h' : ¬ b ≤ a := h
    simp [h']
theorem impl_in_eq (a b c : Int) : impl_in.f a b c = some (decide (b ≤ a ∧ a ≤ c)) := by
  unfold impl_in.f
  by_cases h : a ≥ b
  · have h' : b ≤ a := h
    simp [h']
  · have h' : ¬ b ≤ a := h
    simp [h']

/-! the law's own functions over rows of numbers -/
theorem laws_toIntS_ev (l : List Int) (hl : l.length ≤ 1048576) : Ev (fun k => laws_toIntS.f k l) l := by
  simp only [laws_toIntS.f, if_pos (show (0 : Int) ≤ (l.length : Int) by omega), Int.toNat_natCast, if_pos (show l.length ≤ 35184372088832 by omega)]
  have := Ev.setloop (L := fun k x i => laws_toIntS.l0 k l x i) (n := l.length) (fun i => l.getD i 0) 0 id (by
    intro i x r hi hx h
    refine Ev.step (fun k => by rw [laws_toIntS.l0, if_pos (by omega), if_pos (by omega), if_pos (by omega), rd, Int.toNat_natCast, wrap_succ hi (by omega)]) ?_
    exact h) (by
    intro x hx
    refine Ev.step (fun k => by rw [laws_toIntS.l0, if_neg (by omega)]) ?_
    exact Ev.now _)
  have e : (List.range l.length).map (fun i => l.getD i 0) = l := by
    have := range_map_getD l 0 (id : Int → Int)
    simpa using this
  rw [e] at this
  exact this

theorem laws_eqIntS_refl (l : List Int) (hl : l.length ≤ 4611686018427387904) : Ev (fun k => laws_eqIntS.f k l l) true := by
  simp only [laws_eqIntS.f, if_true]
  have := Ev.allloop (L := fun k i => laws_eqIntS.l0 k l l i) (n := l.length) (fun _ => true) false true (by
    intro i r hi _ h
    refine Ev.step (fun k => by rw [laws_eqIntS.l0, if_pos (by omega), if_pos (by omega), if_pos (by omega), if_pos rfl, wrap_succ hi hl]) ?_
    exact h) (by intro i _ h; cases h) (by
    refine Ev.step (fun k => by rw [laws_eqIntS.l0, if_neg (by omega)]) ?_
    exact Ev.now _)
  simpa using this

def seqL (m : Int) (n : Nat) : List Int := (List.range n).map (fun (i : Nat) => m + i)
theorem laws_markIntS_ev (l : List Int) (m : Int) (h0 : 0 ≤ m) (hm : m ≤ 1099511627776) (hl : l.length ≤ 1099511627776) : Ev (fun k => laws_markIntS.f k l m) (m + l.length, seqL m l.length) := by
  simp only [laws_markIntS.f]
  have := Ev.setloop' (L := fun k x i => laws_markIntS.l0 k x (m + i) i) (n := l.length) (fun i => m + i) l rfl (fun x => (m + (l.length : Int), x)) (by
    intro i x r hi hx h
    have e : wrap64 (m + (i : Int) + 1) = m + ((i + 1 : Nat) : Int) := by unfold wrap64; omega
    refine Ev.step (fun k => by rw [laws_markIntS.l0, if_pos (by omega), if_pos (by omega), Int.toNat_natCast, wrap_succ hi (by omega), e]) ?_
    exact h) (by
    intro x hx
    refine Ev.step (fun k => by rw [laws_markIntS.l0, if_neg (by omega)]) ?_
    exact Ev.now _)
  simpa [seqL] using this
theorem laws_heldIntS_ev (m : Int) (n : Nat) (h0 : 0 ≤ m) (hm : m ≤ 1099511627776) (hl : n ≤ 1099511627776) : Ev (fun k => laws_heldIntS.f k (seqL m n) m) (m + n) := by
  simp only [laws_heldIntS.f]
  have hlen : (seqL m n).length = n := by simp [seqL]
  have := Ev.allloop (L := fun k i => laws_heldIntS.l0 k (seqL m n) (m + i) i) (n := n) (fun _ => true) (-1) (m + (n : Int)) (by
    intro i r hi _ h
    have e : wrap64 (m + (i : Int) + 1) = m + ((i + 1 : Nat) : Int) := by unfold wrap64; omega
    have er : rd (seqL m n) (i : Int) = m + i := by
      simp [rd, seqL, List.getD_eq_getElem?_getD, List.getElem?_map, List.getElem?_range hi]
    refine Ev.step (fun k => by rw [laws_heldIntS.l0, if_pos (by omega), if_pos (by omega), if_pos er, wrap_succ hi (by omega), e]) ?_
    exact h) (by intro i _ h; cases h) (by
    refine Ev.step (fun k => by rw [laws_heldIntS.l0, if_neg (by omega)]) ?_
    exact Ev.now _)
  simpa using this

/-! is a number in a row? -/
theorem mem_range_getD {l : List Int} {v : Int} : (∀ i, i < l.length → (!decide (l.getD i 0 = v)) = true) ↔ v ∉ l := by
  constructor
  · intro h hv
    obtain ⟨i, hi, rfl⟩ := List.mem_iff_getElem.1 hv
    have := h i hi
    simp [List.getD_eq_getElem?_getD, List.getElem?_eq_getElem hi] at this
  · intro h i hi
    simp only [Bool.not_eq_true', decide_eq_false_iff_not]
    intro he
    apply h
    rw [← he]
    simp [List.getD_eq_getElem?_getD, List.getElem?_eq_getElem hi]
theorem all_not_mem (l : List Int) (v : Int) : (if (List.range l.length).all (fun i => !decide (l.getD i 0 = v)) then false else true) = decide (v ∈ l) := by
  by_cases h : v ∈ l
  · have : ¬ (List.range l.length).all (fun i => !decide (l.getD i 0 = v)) = true := by
      rw [List.all_eq_true]
      intro hh
      exact mem_range_getD.1 (fun i hi => hh i (List.mem_range.2 hi)) h
    rw [if_neg this, decide_eq_true h]
  · have : (List.range l.length).all (fun i => !decide (l.getD i 0 = v)) = true := by
      rw [List.all_eq_true]
      intro i hi
      exact mem_range_getD.2 h i (List.mem_range.1 hi)
    rw [if_pos this, decide_eq_false h]

theorem spec_l05In_ev (l : List Int) (v : Int) (hl : l.length ≤ 4611686018427387904) : Ev (fun k => spec_l05In.f k l v) (decide (v ∈ l)) := by
  simp only [spec_l05In.f]
  rw [← all_not_mem]
  refine Ev.allloop (L := fun k i => spec_l05In.l0 k l v i) (n := l.length) (fun i => !decide (l.getD i 0 = v)) true false ?_ ?_ ?_
  · intro i r hi hp h
    simp only [Bool.not_eq_true', decide_eq_false_iff_not] at hp
    refine Ev.step (fun k => by rw [spec_l05In.l0, if_pos (by omega), if_pos (by omega), rd, Int.toNat_natCast, if_neg hp, wrap_succ hi hl]) ?_
    exact h
  · intro i hi hp
    simp only [Bool.not_eq_false', decide_eq_true_eq] at hp
    refine Ev.step (fun k => by rw [spec_l05In.l0, if_pos (by omega), if_pos (by omega), rd, Int.toNat_natCast, if_pos hp]) ?_
    exact Ev.now _
  · refine Ev.step (fun k => by rw [spec_l05In.l0, if_neg (by omega)]) ?_
    exact Ev.now _
theorem impl_hasInt_ev (l : List Int) (v : Int) (hl : l.length ≤ 4611686018427387904) : Ev (fun k => impl_hasInt.f k l v) (decide (v ∈ l)) := by
  simp only [impl_hasInt.f]
  rw [← all_not_mem]
  refine Ev.allloop (L := fun k i => impl_hasInt.l0 k v l l.length i) (n := l.length) (fun i => !decide (l.getD i 0 = v)) true false ?_ ?_ ?_
  · intro i r hi hp h
    simp only [Bool.not_eq_true', decide_eq_false_iff_not] at hp
    refine Ev.step (fun k => by rw [impl_hasInt.l0, if_pos (by omega), if_pos (by omega), if_pos (by omega), rd, Int.toNat_natCast, if_neg hp, wrap_succ hi hl]) ?_
    exact h
  · intro i hi hp
    simp only [Bool.not_eq_false', decide_eq_true_eq] at hp
    refine Ev.step (fun k => by rw [impl_hasInt.l0, if_pos (by omega), if_pos (by omega), if_pos (by omega), rd, Int.toNat_natCast, if_pos hp]) ?_
    exact Ev.now _
  · refine Ev.step (fun k => by rw [impl_hasInt.l0, if_neg (by omega)]) ?_
    exact Ev.now _

/-! tours that are right -/
def inR (x : Int) : Bool := decide (0 ≤ x ∧ x ≤ 11)
def trun : List Int → List Int → List Int → Bool
  | [], path, _ => ((path.length : Int) == 1)
  | v :: l, path, met => if 1 < path.length ∧ path.getD (path.length - 2) 0 = v then trun l (path.take (path.length - 1)) met else (if v ∈ met then false else trun l (path ++ [v]) (met ++ [v]))
def trunI : List Int → List Int → List Int → Bool
  | [], path, _ => ((path.length : Int) == 1)
  | v :: l, path, met => if 1 < path.length ∧ path.getD (path.length - 2) 0 = v then trunI l (path.take (path.length - 1)) met else (if inR v = true then (if v ∈ met then false else trunI l (path ++ [v]) (met ++ [v])) else false)
theorem trunI_eq : ∀ (l path met : List Int), (∀ x ∈ path, inR x = true) → trunI l path met = (l.all inR && trun l path met)
  | [], path, met, h => by simp [trunI, trun]
  | v :: l, path, met, h => by
    rw [trunI, trun, List.all_cons]
    by_cases c : 1 < path.length ∧ path.getD (path.length - 2) 0 = v
    · have hv : inR v = true := by
        rw [← c.2]
        apply h
        have : path.length - 2 < path.length := by omega
        rw [List.getD_eq_getElem?_getD, List.getElem?_eq_getElem this]
        exact List.getElem_mem this
      rw [if_pos c, if_pos c, trunI_eq l _ met (fun x hx => h x (List.mem_of_mem_take hx)), hv, Bool.true_and]
    · rw [if_neg c, if_neg c]
      by_cases hv : inR v = true
      · rw [if_pos hv, hv, Bool.true_and]
        by_cases hm : v ∈ met
        · rw [if_pos hm, if_pos hm, Bool.and_false]
        · rw [if_neg hm, if_neg hm]
          refine trunI_eq l _ _ (fun x hx => ?_)
          rcases List.mem_append.mp hx with hx | hx
          · exact h x hx
          · simp at hx; rw [hx]; exact hv
      · rw [if_neg hv, Bool.eq_false_iff.2 hv]
        simp
theorem spec_l06Open_l0_ev (l : List Int) (hl : l.length ≤ 1000) : ∀ (d i : Nat) (path met : List Int), i + d = l.length → path.length ≤ i → met.length ≤ i → 1 ≤ path.length →
    Ev (fun k => spec_l06Open.l0 k l path met i) (trun (l.drop i) path met) := by
  intro d
  induction d with
  | zero =>
    intro i path met hi hp hm h3
    rw [List.drop_of_length_le (by omega), trun]
    refine Ev.step (fun k => by rw [spec_l06Open.l0, if_neg (by omega)]) ?_
    exact Ev.now _
  | succ d ih =>
    intro i path met hi hp hm h3
    have hil : i < l.length := by omega
    have hg : rd l (i : Int) = l[i] := by simp [rd, List.getD_eq_getElem?_getD, List.getElem?_eq_getElem hil]
    rw [List.drop_eq_getElem_cons hil, trun]
    have hj : ∀ b : Bool, (b = true → 1 < path.length) → Ev (fun k => spec_l06Open.j1 k l path met i b) (if b = true then trun (l.drop (i + 1)) (path.take (path.length - 1)) met else (if l[i] ∈ met then false else trun (l.drop (i + 1)) (path ++ [l[i]]) (met ++ [l[i]]))) := by
      intro b hb
      cases b with
      | true =>
        have hb := hb rfl
        have e : wrap64 ((path.length : Int) - 1) = ((path.length - 1 : Nat) : Int) := by unfold wrap64; omega
        rw [if_pos rfl]
        refine Ev.step (fun k => by rw [spec_l06Open.j1, if_pos rfl, e, if_pos (by omega), if_pos (by omega), Int.toNat_natCast, wrap_succ hil (by omega)]) ?_
        exact ih (i + 1) _ _ (by omega) (by rw [List.length_take]; omega) (by omega) (by rw [List.length_take]; omega)
      | false =>
        rw [if_neg (by simp)]
        refine Ev.step (fun k => by rw [spec_l06Open.j1, if_neg (by simp), if_pos (by omega), if_pos (by omega), hg, wrap_succ hil (by omega)]) ?_
        refine Ev.bind (spec_l05In_ev met l[i] (by omega)) ?_
        by_cases hm2 : l[i] ∈ met
        · simp only [decide_eq_true hm2, if_true, if_pos hm2]; exact Ev.now _
        · simp only [decide_eq_false hm2, Bool.false_eq_true, if_false, if_neg hm2, if_pos (show met.length < 17592186044416 by omega), if_pos (show path.length < 17592186044416 by omega)]
          exact ih (i + 1) _ _ (by omega) (by simp; omega) (by simp; omega) (by simp)
    by_cases c1 : (path.length : Int) > 1
    · have e2 : wrap64 ((path.length : Int) - 2) = ((path.length - 2 : Nat) : Int) := by unfold wrap64; omega
      refine Ev.step (fun k => by rw [spec_l06Open.l0, if_pos (by omega), if_pos c1, if_pos (by omega), e2, if_pos (by omega), if_pos (by omega), hg]) ?_
      have := hj (l[i] == rd path ((path.length - 2 : Nat) : Int)) (fun _ => by omega)
      have e3 : (if (l[i] == rd path ((path.length - 2 : Nat) : Int)) = true then trun (l.drop (i + 1)) (path.take (path.length - 1)) met else (if l[i] ∈ met then false else trun (l.drop (i + 1)) (path ++ [l[i]]) (met ++ [l[i]]))) = (if 1 < path.length ∧ path.getD (path.length - 2) 0 = l[i] then trun (l.drop (i + 1)) (path.take (path.length - 1)) met else (if l[i] ∈ met then false else trun (l.drop (i + 1)) (path ++ [l[i]]) (met ++ [l[i]]))) := by
        have e4 : rd path ((path.length - 2 : Nat) : Int) = path.getD (path.length - 2) 0 := by simp [rd]
        rw [e4]
        by_cases c : path.getD (path.length - 2) 0 = l[i]
        · rw [if_pos (by rw [c]; simp), if_pos ⟨by omega, c⟩]
        · rw [if_neg (by simp only [beq_iff_eq]; exact fun h => c h.symm), if_neg (show ¬ (1 < path.length ∧ path.getD (path.length - 2) 0 = l[i]) from fun h => c h.2)]
      rw [← e3]
      exact this
    · refine Ev.step (fun k => by rw [spec_l06Open.l0, if_pos (by omega), if_neg c1]) ?_
      rw [if_neg (show ¬ (1 < path.length ∧ path.getD (path.length - 2) 0 = l[i]) by omega)]
      have := hj false (fun h => by cases h)
      rw [if_neg (show ¬ (false = true) by simp)] at this
      exact this
def tourOk (l : List Int) : Bool := decide (1 ≤ (l.length : Int) ∧ (l.length : Int) ≤ 23) && (l.all inR && match l with
  | [] => false
  | r :: t => trun t [r] [r])
theorem all_range_inR (l : List Int) : (List.range l.length).all (fun i => inR (l.getD i 0)) = l.all inR := range_all_getD l 0 inR
theorem spec_l06Open_ev (r : Int) (t : List Int) (hl : t.length ≤ 900) : Ev (fun k => spec_l06Open.f k (r :: t)) (trun t [r] [r]) := by
  have e : rd (r :: t) 0 = r := rfl
  simp only [spec_l06Open.f, if_pos (show (0 : Int) < ((r :: t).length : Int) by rw [List.length_cons]; omega), e]
  have := spec_l06Open_l0_ev (r :: t) (by simp; omega) t.length 1 [r] [r] (by simp; omega) (by simp) (by simp) (by simp)
  simpa using this
theorem spec_TourOk_ev (l : List Int) : Ev (fun k => spec_TourOk.f k l) (tourOk l) := by
  simp only [spec_TourOk.f, spec_in_eq, Option.bind_some, tourOk]
  by_cases h : 1 ≤ (l.length : Int) ∧ (l.length : Int) ≤ 23
  · simp only [decide_eq_true h, if_true, Bool.true_and]
    cases l with
    | nil => simp at h
    | cons r t =>
      have := Ev.allloop (L := fun k i => spec_TourOk.l0 k (r :: t) i) (n := (r :: t).length) (fun i => inR ((r :: t).getD i 0)) false (trun t [r] [r]) ?_ ?_ ?_
      · rw [all_range_inR] at this
        have e : ((r :: t).all inR && trun t [r] [r]) = if (r :: t).all inR = true then trun t [r] [r] else false := by
          cases (r :: t).all inR <;> rfl
        simp only
        rw [e]
        exact this
      · intro i r1 hi hp hh
        unfold inR at hp
        refine Ev.step (fun k => by rw [spec_TourOk.l0, if_pos (by omega), if_pos (by omega), rd, Int.toNat_natCast, spec_in_eq, Option.bind_some, if_pos hp, wrap_succ hi (by omega)]) ?_
        exact hh
      · intro i hi hp
        unfold inR at hp
        refine Ev.step (fun k => by rw [spec_TourOk.l0, if_pos (by omega), if_pos (by omega), rd, Int.toNat_natCast, spec_in_eq, Option.bind_some, hp, if_neg (by simp)]) ?_
        exact Ev.now _
      · refine Ev.step (fun k => by rw [spec_TourOk.l0, if_neg (by omega)]) ?_
        exact Ev.bind (spec_l06Open_ev r t (by simp at h; omega)) (Ev.now _)
  · simp only [decide_eq_false h, Bool.false_eq_true, if_false, Bool.false_and]
    exact Ev.now _

theorem impl_TourOk_l0_ev (l : List Int) (hl : l.length ≤ 1000) : ∀ (d i : Nat) (path met : List Int), i + d = l.length → path.length ≤ i + 1 → met.length ≤ i + 1 → 1 ≤ path.length →
    Ev (fun k => impl_TourOk.l0 k path met l l.length i) (trunI (l.drop i) path met) := by
  intro d
  induction d with
  | zero =>
    intro i path met hi hp hm h3
    rw [List.drop_of_length_le (by omega), trunI]
    refine Ev.step (fun k => by rw [impl_TourOk.l0, if_neg (by omega)]) ?_
    exact Ev.now _
  | succ d ih =>
    intro i path met hi hp hm h3
    have hil : i < l.length := by omega
    have hg : rd l (i : Int) = l[i] := by simp [rd, List.getD_eq_getElem?_getD, List.getElem?_eq_getElem hil]
    rw [List.drop_eq_getElem_cons hil, trunI]
    have hj : ∀ b : Bool, (b = true → 1 < path.length) → Ev (fun k => impl_TourOk.j2 k path met l[i] path.length l l.length i b) (if b = true then trunI (l.drop (i + 1)) (path.take (path.length - 1)) met else (if inR l[i] = true then (if l[i] ∈ met then false else trunI (l.drop (i + 1)) (path ++ [l[i]]) (met ++ [l[i]])) else false)) := by
      intro b hb
      cases b with
      | true =>
        have hb := hb rfl
        have e : wrap64 ((path.length : Int) - 1) = ((path.length - 1 : Nat) : Int) := by unfold wrap64; omega
        rw [if_pos rfl]
        refine Ev.step (fun k => by rw [impl_TourOk.j2, if_pos rfl, e, if_pos (by omega), if_pos (by omega), Int.toNat_natCast, wrap_succ hil (by omega)]) ?_
        exact ih (i + 1) _ _ (by omega) (by rw [List.length_take]; omega) (by omega) (by rw [List.length_take]; omega)
      | false =>
        rw [if_neg (by simp)]
        refine Ev.step (fun k => by rw [impl_TourOk.j2, if_neg (by simp), impl_in_eq, Option.bind_some, wrap_succ hil (by omega)]) ?_
        unfold inR
        by_cases hr : 0 ≤ l[i] ∧ l[i] ≤ 11
        · simp only [decide_eq_true hr, if_true]
          refine Ev.bind (impl_hasInt_ev met l[i] (by omega)) ?_
          by_cases hm2 : l[i] ∈ met
          · simp only [decide_eq_true hm2, if_true, if_pos hm2]; exact Ev.now _
          · simp only [decide_eq_false hm2, Bool.false_eq_true, if_false, if_neg hm2, if_pos (show met.length < 17592186044416 by omega), if_pos (show path.length < 17592186044416 by omega)]
            exact ih (i + 1) _ _ (by omega) (by simp; omega) (by simp; omega) (by simp)
        · simp only [decide_eq_false hr, Bool.false_eq_true, if_false]; exact Ev.now _
    by_cases c1 : (path.length : Int) > 1
    · have e2 : wrap64 ((path.length : Int) - 2) = ((path.length - 2 : Nat) : Int) := by unfold wrap64; omega
      refine Ev.step (fun k => by rw [impl_TourOk.l0, if_pos (by omega), if_pos (by omega), if_pos (by omega), if_pos c1, e2, if_pos (by omega), if_pos (by omega), hg]) ?_
      have := hj (rd path ((path.length - 2 : Nat) : Int) == l[i]) (fun _ => by omega)
      have e3 : (if (rd path ((path.length - 2 : Nat) : Int) == l[i]) = true then trunI (l.drop (i + 1)) (path.take (path.length - 1)) met else (if inR l[i] = true then (if l[i] ∈ met then false else trunI (l.drop (i + 1)) (path ++ [l[i]]) (met ++ [l[i]])) else false)) = (if 1 < path.length ∧ path.getD (path.length - 2) 0 = l[i] then trunI (l.drop (i + 1)) (path.take (path.length - 1)) met else (if inR l[i] = true then (if l[i] ∈ met then false else trunI (l.drop (i + 1)) (path ++ [l[i]]) (met ++ [l[i]])) else false)) := by
        have e4 : rd path ((path.length - 2 : Nat) : Int) = path.getD (path.length - 2) 0 := by simp [rd]
        rw [e4]
        by_cases c : path.getD (path.length - 2) 0 = l[i]
        · rw [if_pos (by rw [c]; simp), if_pos ⟨by omega, c⟩]
        · rw [if_neg (by simp only [beq_iff_eq]; exact fun h => c h), if_neg (show ¬ (1 < path.length ∧ path.getD (path.length - 2) 0 = l[i]) from fun h => c h.2)]
      rw [← e3]
      exact this
    · refine Ev.step (fun k => by rw [impl_TourOk.l0, if_pos (by omega), if_pos (by omega), if_pos (by omega), if_neg c1, hg]) ?_
      rw [if_neg (show ¬ (1 < path.length ∧ path.getD (path.length - 2) 0 = l[i]) by omega)]
      have := hj false (fun h => by cases h)
      rw [if_neg (show ¬ (false = true) by simp)] at this
      exact this
theorem impl_TourOk_ev (l : List Int) : Ev (fun k => impl_TourOk.f k l) (tourOk l) := by
  simp only [impl_TourOk.f, impl_in_eq, Option.bind_some, tourOk]
  have hno : Ev (fun k => impl_TourOk.j0 k l true) false := by
    refine Ev.step (fun k => by rw [impl_TourOk.j0, if_pos rfl]) ?_
    exact Ev.now _
  by_cases h : 1 ≤ (l.length : Int) ∧ (l.length : Int) ≤ 23
  · simp only [decide_eq_true h, if_true, Bool.true_and]
    cases l with
    | nil => simp at h
    | cons r t =>
      have e : rd (r :: t) 0 = r := rfl
      have hlt : (0 : Int) < ((r :: t).length : Int) := by rw [List.length_cons]; omega
      simp only [if_pos hlt, e]
      by_cases hr : 0 ≤ r ∧ r ≤ 11
      · simp only [decide_eq_true hr, Bool.not_true]
        refine Ev.step (fun k => by rw [impl_TourOk.j0, if_neg (by simp), if_pos hlt, if_pos (by omega), e]) ?_
        have hr2 : inR r = true := by unfold inR; exact decide_eq_true hr
        have := impl_TourOk_l0_ev t (by simp at h; omega) t.length 0 [r] [r] (by omega) (by simp) (by simp) (by simp)
        rw [List.drop_zero, trunI_eq t [r] [r] (by simp [hr2])] at this
        simp only [List.all_cons, hr2, Bool.true_and]
        exact this
      · simp only [decide_eq_false hr, Bool.not_false]
        have hr2 : inR r = false := by unfold inR; exact decide_eq_false hr
        simp only [List.all_cons, hr2, Bool.false_and]
        exact hno
  · simp only [decide_eq_false h, Bool.false_eq_true, if_false, Bool.false_and]
    exact hno

theorem findR_range (p : Nat → Bool) : ∀ (d i : Nat), findR p (fun i => (i : Int)) (-1) d i = -1 ∨ ((i : Int) ≤ findR p (fun i => (i : Int)) (-1) d i ∧ findR p (fun i => (i : Int)) (-1) d i < ((i + d : Nat) : Int) ∧ p (findR p (fun i => (i : Int)) (-1) d i).toNat = true)
  | 0, _ => Or.inl rfl
  | d + 1, i => by
    rw [findR]
    split
    · rename_i h; right; exact ⟨Int.le_refl _, by omega, by simpa using h⟩
    · rcases findR_range p d (i + 1) with h | h
      · exact Or.inl h
      · right; exact ⟨by omega, by omega, h.2.2⟩

/-! a tour from another of its vertices on -/
def firstI (l : List Int) (a : Int) : Int := findR (fun i => decide (l.getD i 0 = a)) (fun i => (i : Int)) (-1) l.length 0
theorem firstI_range (l : List Int) (a : Int) : firstI l a = -1 ∨ (0 ≤ firstI l a ∧ firstI l a < l.length ∧ l.getD (firstI l a).toNat 0 = a) := by
  rcases findR_range (fun i => decide (l.getD i 0 = a)) l.length 0 with h | h
  · exact Or.inl h
  · right; exact ⟨by have := h.1; unfold firstI; omega, by have := h.2.1; unfold firstI; omega, of_decide_eq_true h.2.2⟩
theorem spec_l06First_ev (l : List Int) (a : Int) (hl : l.length ≤ 4611686018427387904) : Ev (fun k => spec_l06First.f k l a) (firstI l a) := by
  simp only [spec_l06First.f, firstI]
  refine Ev.findloop (L := fun k i => spec_l06First.l0 k l a i) (n := l.length) (fun i => decide (l.getD i 0 = a)) (fun i => (i : Int)) (-1) ?_ ?_ ?_
  · intro i r hi hp h
    have hp := of_decide_eq_false hp
    refine Ev.step (fun k => by rw [spec_l06First.l0, if_pos (by omega), if_pos (by omega), rd, Int.toNat_natCast, if_neg hp, wrap_succ hi hl]) ?_
    exact h
  · intro i hi hp
    have hp := of_decide_eq_true hp
    refine Ev.step (fun k => by rw [spec_l06First.l0, if_pos (by omega), if_pos (by omega), rd, Int.toNat_natCast, if_pos hp]) ?_
    exact Ev.now _
  · refine Ev.step (fun k => by rw [spec_l06First.l0, if_neg (by omega)]) ?_
    exact Ev.now _
theorem impl_placeOf_ev (l : List Int) (a : Int) (hl : l.length ≤ 4611686018427387904) : Ev (fun k => impl_placeOf.f k l a) (firstI l a) := by
  simp only [impl_placeOf.f, firstI]
  refine Ev.findloop (L := fun k i => impl_placeOf.l0 k a l l.length i) (n := l.length) (fun i => decide (l.getD i 0 = a)) (fun i => (i : Int)) (-1) ?_ ?_ ?_
  · intro i r hi hp h
    have hp := of_decide_eq_false hp
    refine Ev.step (fun k => by rw [impl_placeOf.l0, if_pos (by omega), if_pos (by omega), if_pos (by omega), rd, Int.toNat_natCast, if_neg hp, wrap_succ hi hl]) ?_
    exact h
  · intro i hi hp
    have hp := of_decide_eq_true hp
    refine Ev.step (fun k => by rw [impl_placeOf.l0, if_pos (by omega), if_pos (by omega), if_pos (by omega), rd, Int.toNat_natCast, if_pos hp]) ?_
    exact Ev.now _
  · refine Ev.step (fun k => by rw [impl_placeOf.l0, if_neg (by omega)]) ?_
    exact Ev.now _
theorem trun_last : ∀ (l path met : List Int), 1 ≤ path.length → trun l path met = true → l.getLast?.getD (path.getD (path.length - 1) 0) = path.getD 0 0
  | [], path, met, h1, h => by
    simp only [trun, beq_iff_eq] at h
    have : path.length - 1 = 0 := by omega
    rw [this]; rfl
  | v :: l, path, met, h1, h => by
    rw [trun] at h
    have hlast : (v :: l).getLast?.getD (path.getD (path.length - 1) 0) = l.getLast?.getD v := by
      rw [List.getLast?_cons]; rfl
    rw [hlast]
    split at h
    · rename_i hc
      have := trun_last l (path.take (path.length - 1)) met (by rw [List.length_take]; omega) h
      have e1 : (path.take (path.length - 1)).getD ((path.take (path.length - 1)).length - 1) 0 = v := by
        rw [← hc.2, List.length_take, List.getD_eq_getElem?_getD, List.getD_eq_getElem?_getD, List.getElem?_take_of_lt (by omega)]
        congr 2; omega
      have e2 : (path.take (path.length - 1)).getD 0 0 = path.getD 0 0 := by
        rw [List.getD_eq_getElem?_getD, List.getD_eq_getElem?_getD, List.getElem?_take_of_lt (by omega)]
      rw [e1, e2] at this
      exact this
    · split at h
      · cases h
      · have := trun_last l (path ++ [v]) (met ++ [v]) (by simp) h
        have e1 : (path ++ [v]).getD ((path ++ [v]).length - 1) 0 = v := by
          rw [List.length_append, List.getD_eq_getElem?_getD, List.getElem?_append_right (by simp)]
          simp
        have e2 : (path ++ [v]).getD 0 0 = path.getD 0 0 := by
          rw [List.getD_eq_getElem?_getD, List.getD_eq_getElem?_getD, List.getElem?_append_left (by omega)]
        rw [e1, e2] at this
        exact this
/-- A right tour ends where it begins. -/
theorem tourOk_last {l : List Int} (h : tourOk l = true) : (1 ≤ l.length ∧ l.length ≤ 23) ∧ l = l.take (l.length - 1) ++ [l.getD 0 0] := by
  simp only [tourOk, Bool.and_eq_true, decide_eq_true_eq] at h
  refine ⟨by omega, ?_⟩
  cases l with
  | nil => simp at h
  | cons r t =>
    have := trun_last t [r] [r] (by simp) h.2.2
    have e : (r :: t).getLast? = some r := by
      rw [List.getLast?_cons]
      exact congrArg some this
    have hne : (r :: t) ≠ [] := by simp
    have h3 := List.dropLast_concat_getLast hne
    have h4 : (r :: t).getLast hne = r := by
      rw [List.getLast?_eq_some_getLast hne] at e
      exact Option.some.inj e
    rw [h4, List.dropLast_eq_take] at h3
    exact h3.symm
def rerootP (l : List Int) (a : Int) : List Int × Bool :=
  if tourOk l = true ∧ 0 ≤ firstI l a then ((l.take (l.length - 1)).drop (firstI l a).toNat ++ l.take (firstI l a).toNat ++ [a], true) else ([], false)
theorem rerootP_len (l : List Int) (a : Int) : (rerootP l a).1.length ≤ 46 := by
  unfold rerootP
  split
  · rename_i h
    have := tourOk_last h.1
    simp; omega
  · simp
theorem spec_Reroot_ev (l : List Int) (a : Int) (hl : l.length ≤ 4611686018427387904) : Ev (fun k => spec_Reroot.f k l a) (rerootP l a) := by
  simp only [spec_Reroot.f]
  refine Ev.bind (spec_TourOk_ev l) ?_
  have hno : Ev (fun k => spec_Reroot.j0 k l a true) ([], false) := by
    refine Ev.step (fun k => by rw [spec_Reroot.j0, if_pos rfl]) ?_
    exact Ev.now _
  unfold rerootP
  by_cases ht : tourOk l = true
  · simp only [if_pos ht]
    have hlast := tourOk_last ht
    refine Ev.bind (spec_l06First_ev l a hl) ?_
    rcases firstI_range l a with hf | ⟨h0, h1, h2⟩
    · rw [hf, decide_eq_true (by omega), if_neg (by omega)]
      exact hno
    · rw [decide_eq_false (by omega), if_pos ⟨ht, h0⟩]
      refine Ev.step (fun k => by rw [spec_Reroot.j0, if_neg (by simp)]) ?_
      refine Ev.bind (spec_l06First_ev l a hl) ?_
      by_cases hz : firstI l a = 0
      · simp only [if_pos hz, Option.bind_some, List.length_nil, if_pos (show 0 + l.length < 17592186044416 by omega)]
        rw [hz] at h2 ⊢
        have e : (l.take (l.length - 1)).drop (0 : Int).toNat ++ l.take (0 : Int).toNat ++ [a] = [] ++ l := by
          rw [← h2]
          simp only [Int.toNat_zero, List.drop_zero, List.take_zero, List.append_nil, List.nil_append]
          exact hlast.2.symm
        rw [e]
        exact Ev.now _
      · have e1 : wrap64 ((l.length : Int) - 1) = ((l.length - 1 : Nat) : Int) := by unfold wrap64; omega
        have hz1 : (l.take (l.length - 1)).length = l.length - 1 := by rw [List.length_take]; omega
        simp only [if_neg hz, Option.bind_some, e1, if_pos h0, Int.toNat_natCast, if_pos (show firstI l a ≤ ((l.length - 1 : Nat) : Int) by omega), if_pos (show ((l.length - 1 : Nat) : Int) ≤ (l.length : Int) by omega), List.nil_append, List.length_nil, List.length_append, List.length_drop, List.length_take,
          if_pos (show 0 + (min (l.length - 1) l.length - (firstI l a).toNat) < 17592186044416 by omega), if_pos (show firstI l a ≤ (l.length : Int) by omega), if_pos (show 0 + (min (l.length - 1) l.length - (firstI l a).toNat) + min (firstI l a).toNat l.length < 17592186044416 by omega), if_pos (show min (l.length - 1) l.length - (firstI l a).toNat + min (firstI l a).toNat l.length < 17592186044416 by omega)]
        exact Ev.now _
  · simp only [if_neg ht]
    rw [if_neg (fun h => ht h.1)]
    exact hno

theorem impl_copyInts_eq (l : List Int) (hl : l.length < 17592186044416) : impl_copyInts.f l = some l := by
  simp [impl_copyInts.f, hl]
theorem impl_Reroot_ev (l : List Int) (a : Int) (hl : l.length ≤ 4611686018427387904) : Ev (fun k => impl_Reroot.f k l a) (rerootP l a) := by
  simp only [impl_Reroot.f]
  refine Ev.bind (impl_placeOf_ev l a hl) ?_
  refine Ev.bind (impl_TourOk_ev l) ?_
  unfold rerootP
  by_cases ht : tourOk l = true
  · simp only [if_pos ht]
    have hlast := tourOk_last ht
    rcases firstI_range l a with hf | ⟨h0, h1, h2⟩
    · rw [if_neg (show ¬ (tourOk l = true ∧ 0 ≤ firstI l a) by omega)]
      simp only [if_pos (show firstI l a < 0 by omega)]
      exact Ev.now _
    · rw [if_pos (show tourOk l = true ∧ 0 ≤ firstI l a from ⟨ht, h0⟩)]
      have e1 : wrap64 ((l.length : Int) - 1) = ((l.length - 1 : Nat) : Int) := by unfold wrap64; omega
      have hc : impl_copyInts.f ((l.take (l.length - 1)).drop (firstI l a).toNat) = some ((l.take (l.length - 1)).drop (firstI l a).toNat) := impl_copyInts_eq _ (by rw [List.length_drop, List.length_take]; omega)
      simp only [if_neg (show ¬ firstI l a < 0 by omega), e1, if_pos h0, Int.toNat_natCast, if_pos (show firstI l a ≤ ((l.length - 1 : Nat) : Int) by omega), if_pos (show ((l.length - 1 : Nat) : Int) ≤ (l.length : Int) by omega), hc, Option.bind_some, List.length_append, List.length_drop, List.length_take,
        if_pos (show firstI l a ≤ (l.length : Int) by omega), if_pos (show min (l.length - 1) l.length - (firstI l a).toNat + min (firstI l a).toNat l.length < 17592186044416 by omega)]
      exact Ev.now _
  · simp only [if_neg ht]
    rw [if_neg (fun h => ht h.1)]
    exact Ev.now _

/-! two tours joined -/
def lastN (l : List Int) (a : Int) : Nat → Int
  | 0 => -1
  | n + 1 => if l.getD n 0 = a then (n : Int) else lastN l a n
theorem lastN_range (l : List Int) (a : Int) : ∀ n, n ≤ l.length → lastN l a n = -1 ∨ (0 ≤ lastN l a n ∧ lastN l a n < n ∧ l.getD (lastN l a n).toNat 0 = a)
  | 0, _ => Or.inl rfl
  | n + 1, h => by
    rw [lastN]
    split
    · rename_i hc; right; exact ⟨by omega, by omega, by simpa using hc⟩
    · rcases lastN_range l a n (by omega) with h1 | h1
      · exact Or.inl h1
      · right; omega
theorem lastN_none {l : List Int} {a : Int} : ∀ n, n ≤ l.length → lastN l a n = -1 → ∀ i, i < n → l.getD i 0 ≠ a
  | 0, _, _, i, hi => by omega
  | n + 1, hn, h, i, hi => by
    rw [lastN] at h
    split at h
    · omega
    · rename_i hc
      by_cases hin : i = n
      · rw [hin]; exact hc
      · exact lastN_none n (by omega) h i (by omega)
def joinP (a : List Int) (u : Int) (b : List Int) (v : Int) : List Int × Bool :=
  if tourOk a = true ∧ tourOk b = true ∧ 0 ≤ firstI a u ∧ 0 ≤ firstI b v ∧ ∀ x ∈ b, x ∉ a then
    (a.take (lastN a u a.length + 1).toNat ++ (rerootP b v).1 ++ a.drop (lastN a u a.length).toNat, true)
  else ([], false)
theorem joinP_len (a : List Int) (u : Int) (b : List Int) (v : Int) : (joinP a u b v).1.length ≤ 100 := by
  unfold joinP
  split
  · rename_i h
    have h1 := tourOk_last h.1
    have h2 := rerootP_len b v
    simp; omega
  · simp
theorem spec_l06Last_ev (l : List Int) (a : Int) (hl : l.length ≤ 1000) : Ev (fun k => spec_l06Last.f k l a) (lastN l a l.length) := by
  simp only [spec_l06Last.f]
  have e : wrap64 ((l.length : Int) - 1) = (l.length : Int) - 1 := by unfold wrap64; omega
  rw [e]
  have key : ∀ n : Nat, n ≤ l.length → Ev (fun k => spec_l06Last.l0 k l a ((n : Int) - 1)) (lastN l a n) := by
    intro n
    induction n with
    | zero =>
      intro _
      refine Ev.step (fun k => by rw [spec_l06Last.l0, if_neg (by omega)]) ?_
      exact Ev.now _
    | succ n ih =>
      intro hn
      have e1 : (((n + 1 : Nat) : Int) - 1) = (n : Int) := by omega
      have e2 : wrap64 ((n : Int) - 1) = (n : Int) - 1 := by unfold wrap64; omega
      rw [e1, lastN]
      by_cases hc : l.getD n 0 = a
      · rw [if_pos hc]
        refine Ev.step (fun k => by rw [spec_l06Last.l0, if_pos (by omega), if_pos (by omega), if_pos (by omega), rd, Int.toNat_natCast, if_pos hc]) ?_
        exact Ev.now _
      · rw [if_neg hc]
        refine Ev.step (fun k => by rw [spec_l06Last.l0, if_pos (by omega), if_pos (by omega), if_pos (by omega), rd, Int.toNat_natCast, if_neg hc, e2]) ?_
        exact ih (by omega)
  exact key l.length (Nat.le_refl _)
theorem firstI_last {l : List Int} {a : Int} (h : 0 ≤ firstI l a) : 0 ≤ lastN l a l.length ∧ lastN l a l.length < l.length := by
  rcases firstI_range l a with hf | ⟨h0, h1, h2⟩
  · omega
  · rcases lastN_range l a l.length (Nat.le_refl _) with hl | hl
    · exact absurd h2 (lastN_none l.length (Nat.le_refl _) hl _ (by omega))
    · omega
theorem rerootP_snd (b : List Int) (v : Int) : (rerootP b v).2 = decide (tourOk b = true ∧ 0 ≤ firstI b v) := by
  unfold rerootP
  split
  · rename_i h; rw [decide_eq_true h]
  · rename_i h; rw [decide_eq_false h]
theorem spec_JoinTours_ev (a : List Int) (u : Int) (b : List Int) (v : Int) (ha : a.length ≤ 1048576) (hb : b.length ≤ 1048576) : Ev (fun k => spec_JoinTours.f k a u b v) (joinP a u b v) := by
  simp only [spec_JoinTours.f]
  have hno : Ev (fun k => spec_JoinTours.j0 k a u b v true) ([], false) := by
    refine Ev.step (fun k => by rw [spec_JoinTours.j0, if_pos rfl]) ?_
    exact Ev.now _
  refine Ev.bind (spec_TourOk_ev a) ?_
  unfold joinP
  by_cases h1 : tourOk a = true
  · simp only [if_pos h1]
    refine Ev.bind (spec_TourOk_ev b) ?_
    by_cases h2 : tourOk b = true
    · simp only [if_pos h2]
      refine Ev.bind (spec_l06First_ev a u (by omega)) ?_
      by_cases h3 : 0 ≤ firstI a u
      · simp only [if_neg (show ¬ firstI a u < 0 by omega)]
        refine Ev.bind (spec_l06First_ev b v (by omega)) ?_
        by_cases h4 : 0 ≤ firstI b v
        · rw [decide_eq_false (show ¬ firstI b v < 0 by omega)]
          refine Ev.step (fun k => by rw [spec_JoinTours.j0, if_neg (by simp)]) ?_
          have hla := tourOk_last h1
          have hlb := tourOk_last h2
          have hk := firstI_last h3
          have hrl := rerootP_len b v
          have := Ev.allloop (L := fun k i => spec_JoinTours.l0 k a u b v i) (n := b.length) (fun i => !decide (b.getD i 0 ∈ a)) ([], false) (a.take (lastN a u a.length + 1).toNat ++ (rerootP b v).1 ++ a.drop (lastN a u a.length).toNat, true) ?_ ?_ ?_
          · have e : (List.range b.length).all (fun i => !decide (b.getD i 0 ∈ a)) = b.all (fun x => !decide (x ∈ a)) := range_all_getD b 0 (fun x => !decide (x ∈ a))
            rw [e] at this
            by_cases hd : ∀ x ∈ b, x ∉ a
            · rw [if_pos (show tourOk a = true ∧ tourOk b = true ∧ 0 ≤ firstI a u ∧ 0 ≤ firstI b v ∧ ∀ x ∈ b, x ∉ a from ⟨h1, h2, h3, h4, hd⟩)]
              rw [if_pos (by rw [List.all_eq_true]; intro x hx; simp [hd x hx])] at this
              exact this
            · rw [if_neg (show ¬ (tourOk a = true ∧ tourOk b = true ∧ 0 ≤ firstI a u ∧ 0 ≤ firstI b v ∧ ∀ x ∈ b, x ∉ a) from fun h => hd h.2.2.2.2)]
              rw [if_neg (by rw [List.all_eq_true]; intro hh; exact hd (fun x hx => by simpa using hh x hx))] at this
              exact this
          · intro i r hi hp h
            simp only [Bool.not_eq_true', decide_eq_false_iff_not] at hp
            refine Ev.step (fun k => by rw [spec_JoinTours.l0, if_pos (by omega), if_pos (by omega), rd, Int.toNat_natCast, wrap_succ hi (by omega)]) ?_
            refine Ev.bind (spec_l05In_ev a _ (by omega)) ?_
            simp only [decide_eq_false hp, Bool.false_eq_true, if_false]
            exact h
          · intro i hi hp
            simp only [Bool.not_eq_false', decide_eq_true_eq] at hp
            refine Ev.step (fun k => by rw [spec_JoinTours.l0, if_pos (by omega), if_pos (by omega), rd, Int.toNat_natCast, wrap_succ hi (by omega)]) ?_
            refine Ev.bind (spec_l05In_ev a _ (by omega)) ?_
            simp only [decide_eq_true hp, if_true]
            exact Ev.now _
          · refine Ev.step (fun k => by rw [spec_JoinTours.l0, if_neg (by omega)]) ?_
            refine Ev.bind (spec_Reroot_ev b v (by omega)) ?_
            refine Ev.bind (spec_l06Last_ev a u (by omega)) ?_
            have e1 : wrap64 (lastN a u a.length + 1) = lastN a u a.length + 1 := by unfold wrap64; omega
            simp only [Option.bind_some, e1, if_pos (show 0 ≤ lastN a u a.length + 1 by omega), if_pos (show lastN a u a.length + 1 ≤ (a.length : Int) by omega), List.length_nil, List.nil_append, List.length_append, List.length_take, List.length_drop,
              if_pos (show 0 + min (lastN a u a.length + 1).toNat a.length < 17592186044416 by omega), if_pos (show 0 + min (lastN a u a.length + 1).toNat a.length + (rerootP b v).1.length < 17592186044416 by omega), if_pos (show 0 + min (lastN a u a.length + 1).toNat a.length + (rerootP b v).1.length + (a.length - (lastN a u a.length).toNat) < 17592186044416 by omega), if_pos (show min (lastN a u a.length + 1).toNat a.length + (rerootP b v).1.length < 17592186044416 by omega), if_pos hk.1, if_pos (show lastN a u a.length ≤ (a.length : Int) by omega), if_pos (show min (lastN a u a.length + 1).toNat a.length + (rerootP b v).1.length + (a.length - (lastN a u a.length).toNat) < 17592186044416 by omega)]
            exact Ev.now _
        · rw [decide_eq_true (show firstI b v < 0 by omega), if_neg (fun h => h4 h.2.2.2.1)]
          exact hno
      · simp only [if_pos (show firstI a u < 0 by omega)]
        rw [if_neg (fun h => h3 h.2.2.1)]
        exact hno
    · simp only [if_neg h2]
      rw [if_neg (fun h => h2 h.2.1)]
      exact hno
  · simp only [if_neg h1]
    rw [if_neg (fun h => h1 h.1)]
    exact hno

theorem impl_JoinTours_l1_ev (a : List Int) (u : Int) (m : List Int) (ha : a.length ≤ 1000) (hm : m.length ≤ 1000) : ∀ n : Nat, n ≤ a.length → 0 ≤ lastN a u n →
    Ev (fun k => impl_JoinTours.l1 k a u m ((n : Int) - 1)) (a.take (lastN a u n + 1).toNat ++ m ++ a.drop (lastN a u n).toNat, true) := by
  intro n
  induction n with
  | zero => intro _ h; rw [lastN] at h; omega
  | succ n ih =>
    intro hn h
    have e1 : (((n + 1 : Nat) : Int) - 1) = (n : Int) := by omega
    have e2 : wrap64 ((n : Int) - 1) = (n : Int) - 1 := by unfold wrap64; omega
    rw [lastN] at h ⊢
    rw [e1]
    by_cases hc : a.getD n 0 = u
    · rw [if_pos hc]
      have e3 : wrap64 ((n : Int) + 1) = (n : Int) + 1 := by unfold wrap64; omega
      have hcp : impl_copyInts.f (a.take ((n : Int) + 1).toNat) = some (a.take ((n : Int) + 1).toNat) := impl_copyInts_eq _ (by rw [List.length_take]; omega)
      refine Ev.step (fun k => by rw [impl_JoinTours.l1, if_pos (by omega), if_pos (by omega), rd, Int.toNat_natCast, if_pos hc, e3, if_pos (by omega), if_pos (by omega), hcp, Option.bind_some]) ?_
      simp only [Option.bind_some, List.length_append, List.length_take, List.length_drop, Int.toNat_natCast, if_pos (show min ((n : Int) + 1).toNat a.length + m.length < 17592186044416 by omega), if_pos (show (n : Int) ≤ (a.length : Int) by omega), if_pos (show min ((n : Int) + 1).toNat a.length + m.length + (a.length - n) < 17592186044416 by omega)]
      exact Ev.now _
    · rw [if_neg hc] at h ⊢
      refine Ev.step (fun k => by rw [impl_JoinTours.l1, if_pos (by omega), if_pos (by omega), rd, Int.toNat_natCast, if_neg hc, e2]) ?_
      exact ih (by omega) h
theorem impl_JoinTours_ev (a : List Int) (u : Int) (b : List Int) (v : Int) (ha : a.length ≤ 1048576) (hb : b.length ≤ 1048576) : Ev (fun k => impl_JoinTours.f k a u b v) (joinP a u b v) := by
  simp only [impl_JoinTours.f]
  have hno : ∀ m, Ev (fun k => impl_JoinTours.j0 k a u b m true) ([], false) := by
    intro m
    refine Ev.step (fun k => by rw [impl_JoinTours.j0, if_pos rfl]) ?_
    exact Ev.now _
  refine Ev.bind (impl_Reroot_ev b v (by omega)) ?_
  refine Ev.bind (impl_TourOk_ev a) ?_
  rw [rerootP_snd]
  unfold joinP
  by_cases h1 : tourOk a = true
  · simp only [if_pos h1]
    by_cases h24 : tourOk b = true ∧ 0 ≤ firstI b v
    · simp only [decide_eq_true h24, if_true]
      refine Ev.bind (impl_placeOf_ev a u (by omega)) ?_
      by_cases h3 : 0 ≤ firstI a u
      · rw [decide_eq_false (show ¬ firstI a u < 0 by omega)]
        have hla := tourOk_last h1
        have hk := firstI_last h3
        have hrl := rerootP_len b v
        refine Ev.step (fun k => by rw [impl_JoinTours.j0, if_neg (by simp)]) ?_
        have := Ev.allloop (L := fun k i => impl_JoinTours.l0 k a u b (rerootP b v).1 a a.length i) (n := a.length) (fun i => !decide (a.getD i 0 ∈ b)) ([], false) (a.take (lastN a u a.length + 1).toNat ++ (rerootP b v).1 ++ a.drop (lastN a u a.length).toNat, true) ?_ ?_ ?_
        · have e : (List.range a.length).all (fun i => !decide (a.getD i 0 ∈ b)) = a.all (fun x => !decide (x ∈ b)) := range_all_getD a 0 (fun x => !decide (x ∈ b))
          rw [e] at this
          by_cases hd : ∀ x ∈ b, x ∉ a
          · rw [if_pos (show tourOk a = true ∧ tourOk b = true ∧ 0 ≤ firstI a u ∧ 0 ≤ firstI b v ∧ ∀ x ∈ b, x ∉ a from ⟨h1, h24.1, h3, h24.2, hd⟩)]
            rw [if_pos (by rw [List.all_eq_true]; intro x hx; simpa using fun hb => hd x hb hx)] at this
            exact this
          · rw [if_neg (show ¬ (tourOk a = true ∧ tourOk b = true ∧ 0 ≤ firstI a u ∧ 0 ≤ firstI b v ∧ ∀ x ∈ b, x ∉ a) from fun h => hd h.2.2.2.2)]
            rw [if_neg (by rw [List.all_eq_true]; intro hh; exact hd (fun x hx hxa => by have := hh x hxa; simp [hx] at this))] at this
            exact this
        · intro i r hi hp h
          simp only [Bool.not_eq_true', decide_eq_false_iff_not] at hp
          refine Ev.step (fun k => by rw [impl_JoinTours.l0, if_pos (by omega), if_pos (by omega), if_pos (by omega), rd, Int.toNat_natCast, wrap_succ hi (by omega)]) ?_
          refine Ev.bind (impl_hasInt_ev b _ (by omega)) ?_
          simp only [decide_eq_false hp, Bool.false_eq_true, if_false]
          exact h
        · intro i hi hp
          simp only [Bool.not_eq_false', decide_eq_true_eq] at hp
          refine Ev.step (fun k => by rw [impl_JoinTours.l0, if_pos (by omega), if_pos (by omega), if_pos (by omega), rd, Int.toNat_natCast, wrap_succ hi (by omega)]) ?_
          refine Ev.bind (impl_hasInt_ev b _ (by omega)) ?_
          simp only [decide_eq_true hp, if_true]
          exact Ev.now _
        · have e1 : wrap64 ((a.length : Int) - 1) = (a.length : Int) - 1 := by unfold wrap64; omega
          refine Ev.step (fun k => by rw [impl_JoinTours.l0, if_neg (by omega), e1]) ?_
          exact impl_JoinTours_l1_ev a u _ (by omega) (by omega) a.length (Nat.le_refl _) hk.1
      · rw [decide_eq_true (show firstI a u < 0 by omega), if_neg (fun h => h3 h.2.2.1)]
        exact hno _
    · simp only [decide_eq_false h24, Bool.false_eq_true, if_false]
      rw [if_neg (fun h => h24 ⟨h.2.1, h.2.2.2.1⟩)]
      exact hno _
  · simp only [if_neg h1]
    rw [if_neg (fun h => h1 h.1)]
    exact hno _

theorem FnExactJoinTours : laws_FnExactJoinTours.Pure := by
  intro a u b v ha ha2 hwa hu hb hb2 hwb hv
  refine Ev.rounds (g := fun k => laws_FnExactJoinTours.f k a u b v) ?_
  simp only [laws_FnExactJoinTours.f]
  by_cases h : (a.length : Int) > 1048576
  · simp only [if_pos h]; exact Ev.now _
  · simp only [if_neg h]
    by_cases h' : (b.length : Int) > 1048576
    · simp only [if_pos h']; exact Ev.now _
    · have hl3 : a.length ≤ 1048576 := by omega
      have hl4 : b.length ≤ 1048576 := by omega
      have hr := joinP_len a u b v
      simp only [if_neg h']
      refine Ev.bind (laws_toIntS_ev a hl3) ?_
      refine Ev.bind (laws_toIntS_ev b hl4) ?_
      refine Ev.bind (spec_JoinTours_ev a u b v hl3 hl4) ?_
      refine Ev.bind (laws_toIntS_ev a hl3) ?_
      refine Ev.bind (laws_toIntS_ev b hl4) ?_
      refine Ev.bind (impl_JoinTours_ev a u b v hl3 hl4) ?_
      refine Ev.bind (laws_eqIntS_refl _ (by omega)) ?_
      simp only [if_true, bne_self_eq_false]
      refine Ev.step (fun k => by rw [laws_FnExactJoinTours.j0, if_neg (by simp)]) ?_
      refine Ev.bind (laws_toIntS_ev a hl3) ?_
      refine Ev.bind (laws_eqIntS_refl a (by omega)) ?_
      simp only [if_true]
      refine Ev.bind (laws_toIntS_ev b hl4) ?_
      refine Ev.bind (laws_eqIntS_refl b (by omega)) ?_
      simp only [if_true]
      refine Ev.bind (laws_markIntS_ev a 1 (by omega) (by omega) (by omega)) ?_
      refine Ev.bind (laws_markIntS_ev b _ (by omega) (by omega) (by omega)) ?_
      simp only [if_neg (show ¬ (1 + (a.length : Int) + (b.length : Int) < 0) by omega)]
      refine Ev.bind (laws_eqIntS_refl _ (by omega)) ?_
      simp only [if_true, bne_self_eq_false]
      refine Ev.step (fun k => by rw [laws_FnExactJoinTours.j1, if_neg (by simp)]) ?_
      refine Ev.bind (laws_markIntS_ev _ 1 (by omega) (by omega) (by omega)) ?_
      refine Ev.bind (laws_heldIntS_ev 1 _ (by omega) (by omega) (by omega)) ?_
      simp only [if_neg (show ¬ (1 + ((joinP a u b v).1.length : Int) < 0) by omega), if_true]
      refine Ev.bind (laws_toIntS_ev a hl3) ?_
      refine Ev.bind (laws_toIntS_ev b hl4) ?_
      refine Ev.bind (impl_JoinTours_ev a u b v hl3 hl4) ?_
      refine Ev.bind (laws_eqIntS_refl _ (by omega)) ?_
      simp only [if_true, bne_self_eq_false]
      refine Ev.step (fun k => by rw [laws_FnExactJoinTours.j2, if_neg (by simp)]) ?_
      refine Ev.bind (laws_heldIntS_ev 1 _ (by omega) (by omega) (by omega)) ?_
      simp only [if_neg (show ¬ (1 + ((joinP a u b v).1.length : Int) < 0) by omega), if_true]
      exact Ev.now _

end Go.Proofs.Ytigeiofkbccocaa.Pure
