/- For every tour and two vertices SplitTour of the program and of the reference tell the same, in memory of its own. No condition is laid beside the statement. -/
import Derived.Test.YtigeiofkbccocaaQFnExactSplitTourx6
import Derived.Laws.BitsLemmas
import Derived.Lib.Bytes
import Derived.OpenShut
namespace Go.Proofs.Ytigeiofkbccocaa.Pure
open Go.RowKit Go.Proofs.Ytigeiofkbccocaa.QFnExactSplitTour Go.Proofs.YtigeiofkbccocaaW.PrintWords Go.Proofs.YtigeiofkbccocaaW.PrintLast
set_option linter.unusedVariables false
set_option linter.unusedSimpArgs false


/-! loops in general -/
theorem wrap_succ {i n : Nat} (h : i < n) (hn : n ≤ 4611686018427387904) : wrap64 ((i : Int) + 1) = ((i + 1 : Nat) : Int) := by unfold wrap64; omega
theorem Ev.loopR {σ β : Type} {L : Nat → σ → Int → Option β} {n : Nat} (R : Nat → σ → β) (I : Nat → σ → Prop)
    (hstep : ∀ (i : Nat) s, i < n → I i s → Ev (fun k => L k s i) (R i s) ∨ ∃ s', I (i + 1) s' ∧ R i s = R (i + 1) s' ∧ ∀ r, Ev (fun k => L k s' ((i + 1 : Nat) : Int)) r → Ev (fun k => L k s i) r)
    (hend : ∀ s, I n s → Ev (fun k => L k s n) (R n s)) : ∀ (d i : Nat) (s : σ), i + d = n → I i s → Ev (fun k => L k s i) (R i s) := by
  intro d
  induction d with
  | zero =>
    intro i s hi hI
    have : i = n := by omega
    subst this
    exact hend s hI
  | succ d ih =>
    intro i s hi hI
    rcases hstep i s (by omega) hI with h | ⟨s', h1, h2, h3⟩
    · exact h
    · rw [h2]
      exact h3 _ (ih (i + 1) s' (by omega) h1)
/-- A loop that builds by appending. -/
theorem Ev.apploop {β γ : Type} {L : Nat → List γ → Int → Option β} {n : Nat} (g : Nat → List γ) (fin : List γ → β) (a0 : List γ)
    (hstep : ∀ (i : Nat) x r, i < n → x = a0 ++ (List.range i).flatMap g → Ev (fun k => L k (x ++ g i) ((i + 1 : Nat) : Int)) r → Ev (fun k => L k x i) r)
    (hend : ∀ x, x = a0 ++ (List.range n).flatMap g → Ev (fun k => L k x n) (fin x)) : Ev (fun k => L k a0 0) (fin (a0 ++ (List.range n).flatMap g)) := by
  have key := Ev.loopR (L := L) (n := n) (fun _ _ => fin (a0 ++ (List.range n).flatMap g)) (fun i x => x = a0 ++ (List.range i).flatMap g) (by
    intro i x hi hx
    right
    refine ⟨x ++ g i, by rw [hx, List.range_succ, List.flatMap_append]; simp, rfl, fun r hr => hstep i x r hi hx hr⟩) (by
    intro x hx
    have := hend x hx
    rw [hx] at this ⊢
    exact this)
  exact key n 0 a0 (by omega) (by simp)
/-- A loop that writes every element of a row. -/
theorem Ev.setloop' {β γ : Type} {L : Nat → List γ → Int → Option β} {n : Nat} (g : Nat → γ) (x0 : List γ) (h0 : x0.length = n) (fin : List γ → β)
    (hstep : ∀ (i : Nat) x r, i < n → x.length = n → Ev (fun k => L k (x.set i (g i)) ((i + 1 : Nat) : Int)) r → Ev (fun k => L k x i) r)
    (hend : ∀ x, x.length = n → Ev (fun k => L k x n) (fin x)) : Ev (fun k => L k x0 0) (fin ((List.range n).map g)) := by
  have key := Ev.loopR (L := L) (n := n) (fun _ _ => fin ((List.range n).map g)) (fun i x => x.length = n ∧ ∀ j, j < i → x[j]? = some (g j)) (by
    intro i x hi hx
    right
    refine ⟨x.set i (g i), ⟨by rw [List.length_set]; exact hx.1, fun j hj => ?_⟩, rfl, fun r hr => hstep i x r hi hx.1 hr⟩
    by_cases hji : j = i
    · subst hji
      rw [List.getElem?_set_self (by omega)]
    · rw [List.getElem?_set_ne (by omega)]
      exact hx.2 j (by omega)) (by
    intro x hx
    have hxe : x = (List.range n).map g := by
      apply List.ext_getElem?
      intro j
      by_cases hj : j < n
      · rw [hx.2 j hj]; simp [hj]
      · rw [List.getElem?_eq_none (by omega), List.getElem?_eq_none (by simp; omega)]
    rw [← hxe]
    exact hend x hx.1)
  exact key n 0 _ (by omega) ⟨h0, fun j hj => by omega⟩
/-- A loop that fills what was made. -/
theorem Ev.setloop {β γ : Type} {L : Nat → List γ → Int → Option β} {n : Nat} (g : Nat → γ) (z : γ) (fin : List γ → β)
    (hstep : ∀ (i : Nat) x r, i < n → x.length = n → Ev (fun k => L k (x.set i (g i)) ((i + 1 : Nat) : Int)) r → Ev (fun k => L k x i) r)
    (hend : ∀ x, x.length = n → Ev (fun k => L k x n) (fin x)) : Ev (fun k => L k (List.replicate n z) 0) (fin ((List.range n).map g)) :=
  Ev.setloop' g _ (by simp) fin hstep hend
/-- A loop that asks something of each index. -/
theorem Ev.allloop {β : Type} {L : Nat → Int → Option β} {n : Nat} (p : Nat → Bool) (c fin : β)
    (hstep : ∀ (i : Nat) r, i < n → p i = true → Ev (fun k => L k ((i + 1 : Nat) : Int)) r → Ev (fun k => L k i) r)
    (hno : ∀ (i : Nat), i < n → p i = false → Ev (fun k => L k i) c)
    (hend : Ev (fun k => L k n) fin) : Ev (fun k => L k 0) (if (List.range n).all p then fin else c) := by
  have key := Ev.loopR (σ := Unit) (L := fun k _ i => L k i) (n := n) (fun i _ => if (List.range' i (n - i)).all p then fin else c) (fun _ _ => True) (by
    intro i _ hi _
    have e : List.range' i (n - i) = i :: List.range' (i + 1) (n - (i + 1)) := by
      have : n - i = (n - (i + 1)) + 1 := by omega
      rw [this, List.range'_succ]
    cases hp : p i with
    | true => right; exact ⟨(), trivial, by rw [e, List.all_cons, hp, Bool.true_and], fun r hr => hstep i r hi hp hr⟩
    | false => left; rw [e, List.all_cons, hp, Bool.false_and]; exact hno i hi hp) (by
    intro _ _
    simpa using hend)
  have := key n 0 () (by omega) trivial
  rw [List.range_eq_range']
  simpa using this
theorem range_map_getD {α β : Type} (l : List α) (d : α) (h : α → β) : (List.range l.length).map (fun i => h (l.getD i d)) = l.map h := by
  apply List.ext_getElem
  · simp
  · intro i h1 h2
    simp at h1 h2
    simp [List.getD_eq_getElem?_getD, List.getElem?_eq_getElem h2]
theorem range_flatMap_getD {α β : Type} (l : List α) (d : α) (h : α → List β) : (List.range l.length).flatMap (fun i => h (l.getD i d)) = l.flatMap h := by
  have := congrArg List.flatten (range_map_getD l d h)
  rw [List.flatMap_def, List.flatMap_def]; exact this
theorem range_all_getD {α : Type} (l : List α) (d : α) (h : α → Bool) : (List.range l.length).all (fun i => h (l.getD i d)) = l.all h := by
  have := congrArg (fun l => l.all id) (range_map_getD l d h)
  simpa [List.all_map] using this
theorem flatMap_single {α β : Type} (l : List α) (g : α → β) : l.flatMap (fun x => [g x]) = l.map g := by
  induction l with
  | nil => rfl
  | cons a l ih => simp [ih]
/-- A loop that looks for the first index. -/
def findR {β : Type} (p : Nat → Bool) (c : Nat → β) (fin : β) : Nat → Nat → β
  | 0, _ => fin
  | d + 1, i => if p i then c i else findR p c fin d (i + 1)
theorem Ev.findloop {β : Type} {L : Nat → Int → Option β} {n : Nat} (p : Nat → Bool) (c : Nat → β) (fin : β)
    (hstep : ∀ (i : Nat) r, i < n → p i = false → Ev (fun k => L k ((i + 1 : Nat) : Int)) r → Ev (fun k => L k i) r)
    (hhit : ∀ (i : Nat), i < n → p i = true → Ev (fun k => L k i) (c i))
    (hend : Ev (fun k => L k n) fin) : Ev (fun k => L k 0) (findR p c fin n 0) := by
  have key := Ev.loopR (σ := Unit) (L := fun k _ i => L k i) (n := n) (fun i _ => findR p c fin (n - i) i) (fun _ _ => True) (by
    intro i _ hi _
    have e : findR p c fin (n - i) i = if p i then c i else findR p c fin (n - (i + 1)) (i + 1) := by
      have : n - i = (n - (i + 1)) + 1 := by omega
      rw [this, findR]
    cases hp : p i with
    | false => right; exact ⟨(), trivial, by rw [e, hp]; rfl, fun r hr => hstep i r hi hp hr⟩
    | true => left; rw [e, hp]; exact hhit i hi hp) (by
    intro _ _
    simpa [findR] using hend)
  have := key n 0 () (by omega) trivial
  simpa using this

theorem spec_in_eq (a b c : Int) : spec_l01In.f a b c = some (decide (b ≤ a ∧ a ≤ c)) := by
  unfold spec_l01In.f
  by_cases h : a ≥ b
  · have h' : b ≤ a := h
    simp [h']
  · have h' : ¬ b ≤ a := h
    simp [h']
theorem impl_in_eq (a b c : Int) : impl_in.f a b c = some (decide (b ≤ a ∧ a ≤ c)) := by
  unfold impl_in.f
  by_cases h : a ≥ b
  · have h' : b ≤ a := h
    simp [h']
  · have h' : ¬ b ≤ a := h
    simp [h']

/-! the law's own functions over rows of numbers -/
theorem laws_toIntS_ev (l : List Int) (hl : l.length ≤ 1048576) : Ev (fun k => laws_toIntS.f k l) l := by
  simp only [laws_toIntS.f, if_pos (show (0 : Int) ≤ (l.length : Int) by omega), Int.toNat_natCast, if_pos (show l.length ≤ 35184372088832 by omega)]
  have := Ev.setloop (L := fun k x i => laws_toIntS.l0 k l x i) (n := l.length) (fun i => l.getD i 0) 0 id (by
    intro i x r hi hx h
    refine Ev.step (fun k => by rw [laws_toIntS.l0, if_pos (by omega), if_pos (by omega), if_pos (by omega), rd, Int.toNat_natCast, wrap_succ hi (by omega)]) ?_
    exact h) (by
    intro x hx
    refine Ev.step (fun k => by rw [laws_toIntS.l0, if_neg (by omega)]) ?_
    exact Ev.now _)
  have e : (List.range l.length).map (fun i => l.getD i 0) = l := by
    have := range_map_getD l 0 (id : Int → Int)
    simpa using this
  rw [e] at this
  exact this

theorem laws_eqIntS_refl (l : List Int) (hl : l.length ≤ 4611686018427387904) : Ev (fun k => laws_eqIntS.f k l l) true := by
  simp only [laws_eqIntS.f, if_true]
  have := Ev.allloop (L := fun k i => laws_eqIntS.l0 k l l i) (n := l.length) (fun _ => true) false true (by
    intro i r hi _ h
    refine Ev.step (fun k => by rw [laws_eqIntS.l0, if_pos (by omega), if_pos (by omega), if_pos (by omega), if_pos rfl, wrap_succ hi hl]) ?_
    exact h) (by intro i _ h; cases h) (by
    refine Ev.step (fun k => by rw [laws_eqIntS.l0, if_neg (by omega)]) ?_
    exact Ev.now _)
  simpa using this

def seqL (m : Int) (n : Nat) : List Int := (List.range n).map (fun (i : Nat) => m + i)
theorem laws_markIntS_ev (l : List Int) (m : Int) (h0 : 0 ≤ m) (hm : m ≤ 1099511627776) (hl : l.length ≤ 1099511627776) : Ev (fun k => laws_markIntS.f k l m) (m + l.length, seqL m l.length) := by
  simp only [laws_markIntS.f]
  have := Ev.setloop' (L := fun k x i => laws_markIntS.l0 k x (m + i) i) (n := l.length) (fun i => m + i) l rfl (fun x => (m + (l.length : Int), x)) (by
    intro i x r hi hx h
    have e : wrap64 (m + (i : Int) + 1) = m + ((i + 1 : Nat) : Int) := by unfold wrap64; omega
    refine Ev.step (fun k => by rw [laws_markIntS.l0, if_pos (by omega), if_pos (by omega), Int.toNat_natCast, wrap_succ hi (by omega), e]) ?_
    exact h) (by
    intro x hx
    refine Ev.step (fun k => by rw [laws_markIntS.l0, if_neg (by omega)]) ?_
    exact Ev.now _)
  simpa [seqL] using this
theorem laws_heldIntS_ev (m : Int) (n : Nat) (h0 : 0 ≤ m) (hm : m ≤ 1099511627776) (hl : n ≤ 1099511627776) : Ev (fun k => laws_heldIntS.f k (seqL m n) m) (m + n) := by
  simp only [laws_heldIntS.f]
  have hlen : (seqL m n).length = n := by simp [seqL]
  have := Ev.allloop (L := fun k i => laws_heldIntS.l0 k (seqL m n) (m + i) i) (n := n) (fun _ => true) (-1) (m + (n : Int)) (by
    intro i r hi _ h
    have e : wrap64 (m + (i : Int) + 1) = m + ((i + 1 : Nat) : Int) := by unfold wrap64; omega
    have er : rd (seqL m n) (i : Int) = m + i := by
      simp [rd, seqL, List.getD_eq_getElem?_getD, List.getElem?_map, List.getElem?_range hi]
    refine Ev.step (fun k => by rw [laws_heldIntS.l0, if_pos (by omega), if_pos (by omega), if_pos er, wrap_succ hi (by omega), e]) ?_
    exact h) (by intro i _ h; cases h) (by
    refine Ev.step (fun k => by rw [laws_heldIntS.l0, if_neg (by omega)]) ?_
    exact Ev.now _)
  simpa using this

/-! is a number in a row? -/
theorem mem_range_getD {l : List Int} {v : Int} : (∀ i, i < l.length → (!decide (l.getD i 0 = v)) = true) ↔ v ∉ l := by
  constructor
  · intro h hv
    obtain ⟨i, hi, rfl⟩ := List.mem_iff_getElem.1 hv
    have := h i hi
    simp [List.getD_eq_getElem?_getD, List.getElem?_eq_getElem hi] at this
  · intro h i hi
    simp only [Bool.not_eq_true', decide_eq_false_iff_not]
    intro he
    apply h
    rw [← he]
    simp [List.getD_eq_getElem?_getD, List.getElem?_eq_getElem hi]
theorem all_not_mem (l : List Int) (v : Int) : (if (List.range l.length).all (fun i => !decide (l.getD i 0 = v)) then false else true) = decide (v ∈ l) := by
  by_cases h : v ∈ l
  · have : ¬ (List.range l.length).all (fun i => !decide (l.getD i 0 = v)) = true := by
      rw [List.all_eq_true]
      intro hh
      exact mem_range_getD.1 (fun i hi => hh i (List.mem_range.2 hi)) h
    rw [if_neg this, decide_eq_true h]
  · have : (List.range l.length).all (fun i => !decide (l.getD i 0 = v)) = true := by
      rw [List.all_eq_true]
      intro i hi
      exact mem_range_getD.2 h i (List.mem_range.1 hi)
    rw [if_pos this, decide_eq_false h]

theorem spec_l05In_ev (l : List Int) (v : Int) (hl : l.length ≤ 4611686018427387904) : Ev (fun k => spec_l05In.f k l v) (decide (v ∈ l)) := by
  simp only [spec_l05In.f]
  rw [← all_not_mem]
  refine Ev.allloop (L := fun k i => spec_l05In.l0 k l v i) (n := l.length) (fun i => !decide (l.getD i 0 = v)) true false ?_ ?_ ?_
  · intro i r hi hp h
    simp only [Bool.not_eq_true', decide_eq_false_iff_not] at hp
    refine Ev.step (fun k => by rw [spec_l05In.l0, if_pos (by omega), if_pos (by omega), rd, Int.toNat_natCast, if_neg hp, wrap_succ hi hl]) ?_
    exact h
  · intro i hi hp
    simp only [Bool.not_eq_false', decide_eq_true_eq] at hp
    refine Ev.step (fun k => by rw [spec_l05In.l0, if_pos (by omega), if_pos (by omega), rd, Int.toNat_natCast, if_pos hp]) ?_
    exact Ev.now _
  · refine Ev.step (fun k => by rw [spec_l05In.l0, if_neg (by omega)]) ?_
    exact Ev.now _

theorem impl_hasInt_ev (l : List Int) (v : Int) (hl : l.length ≤ 4611686018427387904) : Ev (fun k => impl_hasInt.f k l v) (decide (v ∈ l)) := by
  simp only [impl_hasInt.f]
  rw [← all_not_mem]
  refine Ev.allloop (L := fun k i => impl_hasInt.l0 k v l l.length i) (n := l.length) (fun i => !decide (l.getD i 0 = v)) true false ?_ ?_ ?_
  · intro i r hi hp h
    simp only [Bool.not_eq_true', decide_eq_false_iff_not] at hp
    refine Ev.step (fun k => by rw [impl_hasInt.l0, if_pos (by omega), if_pos (by omega), if_pos (by omega), rd, Int.toNat_natCast, if_neg hp, wrap_succ hi hl]) ?_
    exact h
  · intro i hi hp
    simp only [Bool.not_eq_false', decide_eq_true_eq] at hp
    refine Ev.step (fun k => by rw [impl_hasInt.l0, if_pos (by omega), if_pos (by omega), if_pos (by omega), rd, Int.toNat_natCast, if_pos hp]) ?_
    exact Ev.now _
  · refine Ev.step (fun k => by rw [impl_hasInt.l0, if_neg (by omega)]) ?_
    exact Ev.now _

/-! tours that are right -/
def inR (x : Int) : Bool := decide (0 ≤ x ∧ x ≤ 11)
def trun : List Int → List Int → List Int → Bool
  | [], path, _ => ((path.length : Int) == 1)
  | v :: l, path, met => if 1 < path.length ∧ path.getD (path.length - 2) 0 = v then trun l (path.take (path.length - 1)) met else (if v ∈ met then false else trun l (path ++ [v]) (met ++ [v]))
def trunI : List Int → List Int → List Int → Bool
  | [], path, _ => ((path.length : Int) == 1)
  | v :: l, path, met => if 1 < path.length ∧ path.getD (path.length - 2) 0 = v then trunI l (path.take (path.length - 1)) met else (if inR v = true then (if v ∈ met then false else trunI l (path ++ [v]) (met ++ [v])) else false)
theorem trunI_eq : ∀ (l path met : List Int), (∀ x ∈ path, inR x = true) → trunI l path met = (l.all inR && trun l path met)
  | [], path, met, h => by simp [trunI, trun]
  | v :: l, path, met, h => by
    rw [trunI, trun, List.all_cons]
    by_cases c : 1 < path.length ∧ path.getD (path.length - 2) 0 = v
    · have hv : inR v = true := by
        rw [← c.2]
        apply h
        have : path.length - 2 < path.length := by omega
        rw [List.getD_eq_getElem?_getD, List.getElem?_eq_getElem this]
        exact List.getElem_mem this
      rw [if_pos c, if_pos c, trunI_eq l _ met (fun x hx => h x (List.mem_of_mem_take hx)), hv, Bool.true_and]
    · rw [if_neg c, if_neg c]
      by_cases hv : inR v = true
      · rw [if_pos hv, hv, Bool.true_and]
        by_cases hm : v ∈ met
        · rw [if_pos hm, if_pos hm, Bool.and_false]
        · rw [if_neg hm, if_neg hm]
          refine trunI_eq l _ _ (fun x hx => ?_)
          rcases List.mem_append.mp hx with hx | hx
          · exact h x hx
          · simp at hx; rw [hx]; exact hv
      · rw [if_neg hv, Bool.eq_false_iff.2 hv]
        simp
def tourOk (l : List Int) : Bool := decide (1 ≤ (l.length : Int) ∧ (l.length : Int) ≤ 23) && (l.all inR && match l with
  | [] => false
  | r :: t => trun t [r] [r])
theorem all_range_inR (l : List Int) : (List.range l.length).all (fun i => inR (l.getD i 0)) = l.all inR := range_all_getD l 0 inR

theorem spec_l06Open_l0_ev (l : List Int) (hl : l.length ≤ 1000) : ∀ (d i : Nat) (path met : List Int), i + d = l.length → path.length ≤ i → met.length ≤ i → 1 ≤ path.length →
    Ev (fun k => spec_l06Open.l0 k l path met i) (trun (l.drop i) path met) := by
  intro d
  induction d with
  | zero =>
    intro i path met hi hp hm h3
    rw [List.drop_of_length_le (by omega), trun]
    refine Ev.step (fun k => by rw [spec_l06Open.l0, if_neg (by omega)]) ?_
    exact Ev.now _
  | succ d ih =>
    intro i path met hi hp hm h3
    have hil : i < l.length := by omega
    have hg : rd l (i : Int) = l[i] := by simp [rd, List.getD_eq_getElem?_getD, List.getElem?_eq_getElem hil]
    rw [List.drop_eq_getElem_cons hil, trun]
    have hj : ∀ b : Bool, (b = true → 1 < path.length) → Ev (fun k => spec_l06Open.j1 k l path met i b) (if b = true then trun (l.drop (i + 1)) (path.take (path.length - 1)) met else (if l[i] ∈ met then false else trun (l.drop (i + 1)) (path ++ [l[i]]) (met ++ [l[i]]))) := by
      intro b hb
      cases b with
      | true =>
        have hb := hb rfl
        have e : wrap64 ((path.length : Int) - 1) = ((path.length - 1 : Nat) : Int) := by unfold wrap64; omega
        rw [if_pos rfl]
        refine Ev.step (fun k => by rw [spec_l06Open.j1, if_pos rfl, e, if_pos (by omega), if_pos (by omega), Int.toNat_natCast, wrap_succ hil (by omega)]) ?_
        exact ih (i + 1) _ _ (by omega) (by rw [List.length_take]; omega) (by omega) (by rw [List.length_take]; omega)
      | false =>
        rw [if_neg (by simp)]
        refine Ev.step (fun k => by rw [spec_l06Open.j1, if_neg (by simp), if_pos (by omega), if_pos (by omega), hg, wrap_succ hil (by omega)]) ?_
        refine Ev.bind (spec_l05In_ev met l[i] (by omega)) ?_
        by_cases hm2 : l[i] ∈ met
        · simp only [decide_eq_true hm2, if_true, if_pos hm2]; exact Ev.now _
        · simp only [decide_eq_false hm2, Bool.false_eq_true, if_false, if_neg hm2, if_pos (show met.length < 17592186044416 by omega), if_pos (show path.length < 17592186044416 by omega)]
          exact ih (i + 1) _ _ (by omega) (by simp; omega) (by simp; omega) (by simp)
    by_cases c1 : (path.length : Int) > 1
    · have e2 : wrap64 ((path.length : Int) - 2) = ((path.length - 2 : Nat) : Int) := by unfold wrap64; omega
      refine Ev.step (fun k => by rw [spec_l06Open.l0, if_pos (by omega), if_pos c1, if_pos (by omega), e2, if_pos (by omega), if_pos (by omega), hg]) ?_
      have := hj (l[i] == rd path ((path.length - 2 : Nat) : Int)) (fun _ => by omega)
      have e3 : (if (l[i] == rd path ((path.length - 2 : Nat) : Int)) = true then trun (l.drop (i + 1)) (path.take (path.length - 1)) met else (if l[i] ∈ met then false else trun (l.drop (i + 1)) (path ++ [l[i]]) (met ++ [l[i]]))) = (if 1 < path.length ∧ path.getD (path.length - 2) 0 = l[i] then trun (l.drop (i + 1)) (path.take (path.length - 1)) met else (if l[i] ∈ met then false else trun (l.drop (i + 1)) (path ++ [l[i]]) (met ++ [l[i]]))) := by
        have e4 : rd path ((path.length - 2 : Nat) : Int) = path.getD (path.length - 2) 0 := by simp [rd]
        rw [e4]
        by_cases c : path.getD (path.length - 2) 0 = l[i]
        · rw [if_pos (by rw [c]; simp), if_pos ⟨by omega, c⟩]
        · rw [if_neg (by simp only [beq_iff_eq]; exact fun h => c h.symm), if_neg (show ¬ (1 < path.length ∧ path.getD (path.length - 2) 0 = l[i]) from fun h => c h.2)]
      rw [← e3]
      exact this
    · refine Ev.step (fun k => by rw [spec_l06Open.l0, if_pos (by omega), if_neg c1]) ?_
      rw [if_neg (show ¬ (1 < path.length ∧ path.getD (path.length - 2) 0 = l[i]) by omega)]
      have := hj false (fun h => by cases h)
      rw [if_neg (show ¬ (false = true) by simp)] at this
      exact this
theorem spec_l06Open_ev (r : Int) (t : List Int) (hl : t.length ≤ 900) : Ev (fun k => spec_l06Open.f k (r :: t)) (trun t [r] [r]) := by
  have e : rd (r :: t) 0 = r := rfl
  simp only [spec_l06Open.f, if_pos (show (0 : Int) < ((r :: t).length : Int) by rw [List.length_cons]; omega), e]
  have := spec_l06Open_l0_ev (r :: t) (by simp; omega) t.length 1 [r] [r] (by simp; omega) (by simp) (by simp) (by simp)
  simpa using this
theorem spec_TourOk_ev (l : List Int) : Ev (fun k => spec_TourOk.f k l) (tourOk l) := by
  simp only [spec_TourOk.f, spec_in_eq, Option.bind_some, tourOk]
  by_cases h : 1 ≤ (l.length : Int) ∧ (l.length : Int) ≤ 23
  · simp only [decide_eq_true h, if_true, Bool.true_and]
    cases l with
    | nil => simp at h
    | cons r t =>
      have := Ev.allloop (L := fun k i => spec_TourOk.l0 k (r :: t) i) (n := (r :: t).length) (fun i => inR ((r :: t).getD i 0)) false (trun t [r] [r]) ?_ ?_ ?_
      · rw [all_range_inR] at this
        have e : ((r :: t).all inR && trun t [r] [r]) = if (r :: t).all inR = true then trun t [r] [r] else false := by
          cases (r :: t).all inR <;> rfl
        simp only
        rw [e]
        exact this
      · intro i r1 hi hp hh
        unfold inR at hp
        refine Ev.step (fun k => by rw [spec_TourOk.l0, if_pos (by omega), if_pos (by omega), rd, Int.toNat_natCast, spec_in_eq, Option.bind_some, if_pos hp, wrap_succ hi (by omega)]) ?_
        exact hh
      · intro i hi hp
        unfold inR at hp
        refine Ev.step (fun k => by rw [spec_TourOk.l0, if_pos (by omega), if_pos (by omega), rd, Int.toNat_natCast, spec_in_eq, Option.bind_some, hp, if_neg (by simp)]) ?_
        exact Ev.now _
      · refine Ev.step (fun k => by rw [spec_TourOk.l0, if_neg (by omega)]) ?_
        exact Ev.bind (spec_l06Open_ev r t (by simp at h; omega)) (Ev.now _)
  · simp only [decide_eq_false h, Bool.false_eq_true, if_false, Bool.false_and]
    exact Ev.now _

theorem impl_TourOk_l0_ev (l : List Int) (hl : l.length ≤ 1000) : ∀ (d i : Nat) (path met : List Int), i + d = l.length → path.length ≤ i + 1 → met.length ≤ i + 1 → 1 ≤ path.length →
    Ev (fun k => impl_TourOk.l0 k path met l l.length i) (trunI (l.drop i) path met) := by
  intro d
  induction d with
  | zero =>
    intro i path met hi hp hm h3
    rw [List.drop_of_length_le (by omega), trunI]
    refine Ev.step (fun k => by rw [impl_TourOk.l0, if_neg (by omega)]) ?_
    exact Ev.now _
  | succ d ih =>
    intro i path met hi hp hm h3
    have hil : i < l.length := by omega
    have hg : rd l (i : Int) = l[i] := by simp [rd, List.getD_eq_getElem?_getD, List.getElem?_eq_getElem hil]
    rw [List.drop_eq_getElem_cons hil, trunI]
    have hj : ∀ b : Bool, (b = true → 1 < path.length) → Ev (fun k => impl_TourOk.j2 k path met l[i] path.length l l.length i b) (if b = true then trunI (l.drop (i + 1)) (path.take (path.length - 1)) met else (if inR l[i] = true then (if l[i] ∈ met then false else trunI (l.drop (i + 1)) (path ++ [l[i]]) (met ++ [l[i]])) else false)) := by
      intro b hb
      cases b with
      | true =>
        have hb := hb rfl
        have e : wrap64 ((path.length : Int) - 1) = ((path.length - 1 : Nat) : Int) := by unfold wrap64; omega
        rw [if_pos rfl]
        refine Ev.step (fun k => by rw [impl_TourOk.j2, if_pos rfl, e, if_pos (by omega), if_pos (by omega), Int.toNat_natCast, wrap_succ hil (by omega)]) ?_
        exact ih (i + 1) _ _ (by omega) (by rw [List.length_take]; omega) (by omega) (by rw [List.length_take]; omega)
      | false =>
        rw [if_neg (by simp)]
        refine Ev.step (fun k => by rw [impl_TourOk.j2, if_neg (by simp), impl_in_eq, Option.bind_some, wrap_succ hil (by omega)]) ?_
        unfold inR
        by_cases hr : 0 ≤ l[i] ∧ l[i] ≤ 11
        · simp only [decide_eq_true hr, if_true]
          refine Ev.bind (impl_hasInt_ev met l[i] (by omega)) ?_
          by_cases hm2 : l[i] ∈ met
          · simp only [decide_eq_true hm2, if_true, if_pos hm2]; exact Ev.now _
          · simp only [decide_eq_false hm2, Bool.false_eq_true, if_false, if_neg hm2, if_pos (show met.length < 17592186044416 by omega), if_pos (show path.length < 17592186044416 by omega)]
            exact ih (i + 1) _ _ (by omega) (by simp; omega) (by simp; omega) (by simp)
        · simp only [decide_eq_false hr, Bool.false_eq_true, if_false]; exact Ev.now _
    by_cases c1 : (path.length : Int) > 1
    · have e2 : wrap64 ((path.length : Int) - 2) = ((path.length - 2 : Nat) : Int) := by unfold wrap64; omega
      refine Ev.step (fun k => by rw [impl_TourOk.l0, if_pos (by omega), if_pos (by omega), if_pos (by omega), if_pos c1, e2, if_pos (by omega), if_pos (by omega), hg]) ?_
      have := hj (rd path ((path.length - 2 : Nat) : Int) == l[i]) (fun _ => by omega)
      have e3 : (if (rd path ((path.length - 2 : Nat) : Int) == l[i]) = true then trunI (l.drop (i + 1)) (path.take (path.length - 1)) met else (if inR l[i] = true then (if l[i] ∈ met then false else trunI (l.drop (i + 1)) (path ++ [l[i]]) (met ++ [l[i]])) else false)) = (if 1 < path.length ∧ path.getD (path.length - 2) 0 = l[i] then trunI (l.drop (i + 1)) (path.take (path.length - 1)) met else (if inR l[i] = true then (if l[i] ∈ met then false else trunI (l.drop (i + 1)) (path ++ [l[i]]) (met ++ [l[i]])) else false)) := by
        have e4 : rd path ((path.length - 2 : Nat) : Int) = path.getD (path.length - 2) 0 := by simp [rd]
        rw [e4]
        by_cases c : path.getD (path.length - 2) 0 = l[i]
        · rw [if_pos (by rw [c]; simp), if_pos ⟨by omega, c⟩]
        · rw [if_neg (by simp only [beq_iff_eq]; exact fun h => c h), if_neg (show ¬ (1 < path.length ∧ path.getD (path.length - 2) 0 = l[i]) from fun h => c h.2)]
      rw [← e3]
      exact this
    · refine Ev.step (fun k => by rw [impl_TourOk.l0, if_pos (by omega), if_pos (by omega), if_pos (by omega), if_neg c1, hg]) ?_
      rw [if_neg (show ¬ (1 < path.length ∧ path.getD (path.length - 2) 0 = l[i]) by omega)]
      have := hj false (fun h => by cases h)
      rw [if_neg (show ¬ (false = true) by simp)] at this
      exact this
theorem impl_TourOk_ev (l : List Int) : Ev (fun k => impl_TourOk.f k l) (tourOk l) := by
  simp only [impl_TourOk.f, impl_in_eq, Option.bind_some, tourOk]
  have hno : Ev (fun k => impl_TourOk.j0 k l true) false := by
    refine Ev.step (fun k => by rw [impl_TourOk.j0, if_pos rfl]) ?_
    exact Ev.now _
  by_cases h : 1 ≤ (l.length : Int) ∧ (l.length : Int) ≤ 23
  · simp only [decide_eq_true h, if_true, Bool.true_and]
    cases l with
    | nil => simp at h
    | cons r t =>
      have e : rd (r :: t) 0 = r := rfl
      have hlt : (0 : Int) < ((r :: t).length : Int) := by rw [List.length_cons]; omega
      simp only [if_pos hlt, e]
      by_cases hr : 0 ≤ r ∧ r ≤ 11
      · simp only [decide_eq_true hr, Bool.not_true]
        refine Ev.step (fun k => by rw [impl_TourOk.j0, if_neg (by simp), if_pos hlt, if_pos (by omega), e]) ?_
        have hr2 : inR r = true := by unfold inR; exact decide_eq_true hr
        have := impl_TourOk_l0_ev t (by simp at h; omega) t.length 0 [r] [r] (by omega) (by simp) (by simp) (by simp)
        rw [List.drop_zero, trunI_eq t [r] [r] (by simp [hr2])] at this
        simp only [List.all_cons, hr2, Bool.true_and]
        exact this
      · simp only [decide_eq_false hr, Bool.not_false]
        have hr2 : inR r = false := by unfold inR; exact decide_eq_false hr
        simp only [List.all_cons, hr2, Bool.false_and]
        exact hno
  · simp only [decide_eq_false h, Bool.false_eq_true, if_false, Bool.false_and]
    exact hno

/-! tours: a walk on a stack (the top first) -/
def stepT : List Int → List Int → Int → Option (List Int × List Int)
  | a :: b :: r, met, x => if b = x then some (b :: r, met) else (if x ∈ met then none else some (x :: a :: b :: r, met ++ [x]))
  | st, met, x => if x ∈ met then none else some (x :: st, met ++ [x])
def runT : List Int → List Int → List Int → Option (List Int × List Int)
  | [], st, met => some (st, met)
  | x :: l, st, met => (stepT st met x).bind fun p => runT l p.1 p.2
theorem runT_append : ∀ (l1 l2 st met : List Int), runT (l1 ++ l2) st met = (runT l1 st met).bind fun p => runT l2 p.1 p.2
  | [], _, _, _ => rfl
  | x :: l1, l2, st, met => by
    simp only [List.cons_append, runT]
    cases stepT st met x with
    | none => rfl
    | some p => exact runT_append l1 l2 p.1 p.2
/-- What a step may be. -/
theorem stepT_cases {st met : List Int} {x : Int} {p : List Int × List Int} (h : stepT st met x = some p) :
    (∃ a r, st = a :: x :: r ∧ p = (x :: r, met)) ∨ (x ∉ met ∧ p = (x :: st, met ++ [x])) := by
  cases st with
  | nil =>
    simp only [stepT] at h
    split at h
    · cases h
    · rename_i hm; right; exact ⟨hm, (Option.some.inj h).symm⟩
  | cons a st =>
    cases st with
    | nil =>
      simp only [stepT] at h
      split at h
      · cases h
      · rename_i hm; right; exact ⟨hm, (Option.some.inj h).symm⟩
    | cons b r =>
      simp only [stepT] at h
      split at h
      · rename_i hb; subst hb; left; exact ⟨a, r, rfl, (Option.some.inj h).symm⟩
      · split at h
        · cases h
        · rename_i hm; right; exact ⟨hm, (Option.some.inj h).symm⟩
theorem run_cons {x : Int} {l st met : List Int} {r : List Int × List Int} (h : runT (x :: l) st met = some r) : ∃ p, stepT st met x = some p ∧ runT l p.1 p.2 = some r := by
  simp only [runT] at h
  exact Option.bind_eq_some_iff.1 h
theorem no_return {v : Int} : ∀ (l st met : List Int) {r : List Int × List Int}, runT l st met = some r → v ∈ met → v ∉ st → v ∉ r.1
  | [], st, met, r, h, hm, hs => by
    simp only [runT] at h
    rw [← Option.some.inj h]; exact hs
  | x :: l, st, met, r, h, hm, hs => by
    obtain ⟨p, h1, h2⟩ := run_cons h
    rcases stepT_cases h1 with ⟨a, q, rfl, rfl⟩ | ⟨hx, rfl⟩
    · exact no_return l _ _ h2 hm (fun hh => hs (List.mem_cons_of_mem _ hh))
    · refine no_return l _ _ h2 (List.mem_append_left _ hm) (fun hh => ?_)
      rcases List.mem_cons.mp hh with rfl | hh
      · exact hx hm
      · exact hs hh
theorem first_return {c v : Int} {P : List Int} {r : List Int} : ∀ (l A M : List Int), runT l (A ++ c :: v :: P) M = some (v :: P, r) →
    ∃ l1 l2 M1, l = l1 ++ v :: l2 ∧ runT l1 (A ++ c :: v :: P) M = some (c :: v :: P, M1) ∧ runT l2 (v :: P) M1 = some (v :: P, r)
  | [], A, M, h => by
    simp only [runT] at h
    have := congrArg (fun p => p.1.length) (Option.some.inj h)
    simp at this
    omega
  | x :: l, A, M, h => by
    obtain ⟨p, h1, h2⟩ := run_cons h
    rcases stepT_cases h1 with ⟨a, q, hst, rfl⟩ | ⟨hx, rfl⟩
    · cases A with
      | nil =>
        simp at hst
        obtain ⟨rfl, rfl, rfl⟩ := hst
        exact ⟨[], l, M, rfl, rfl, h2⟩
      | cons a' A' =>
        simp at hst
        obtain ⟨rfl, hst⟩ := hst
        have h2' : runT l (A' ++ c :: v :: P) M = some (v :: P, r) := by rw [hst]; exact h2
        obtain ⟨l1, l2, M1, rfl, g1, g2⟩ := first_return l A' M h2'
        refine ⟨x :: l1, l2, M1, rfl, ?_, g2⟩
        simp only [runT, List.cons_append] at h1 ⊢
        rw [h1]
        simp only [Option.bind_some]
        rw [← hst]; exact g1
    · obtain ⟨l1, l2, M1, rfl, g1, g2⟩ := first_return l (x :: A) (M ++ [x]) h2
      refine ⟨x :: l1, l2, M1, rfl, ?_, g2⟩
      simp only [runT]
      rw [h1]
      exact g1
theorem run_grammar {l P M M' : List Int} {v : Int} (h : runT l (v :: P) M = some (v :: P, M')) (hv : v ∈ M) (hvP : v ∉ P) :
    l = [] ∨ ∃ c l1 l2 M1, l = c :: l1 ++ v :: l2 ∧ c ∉ M ∧ runT l1 (c :: v :: P) (M ++ [c]) = some (c :: v :: P, M1) ∧ runT l2 (v :: P) M1 = some (v :: P, M') := by
  cases l with
  | nil => exact Or.inl rfl
  | cons c l =>
    right
    obtain ⟨p, h1, h2⟩ := run_cons h
    rcases stepT_cases h1 with ⟨a, q, hst, rfl⟩ | ⟨hx, rfl⟩
    · exfalso
      simp at hst
      obtain ⟨rfl, rfl⟩ := hst
      have := no_return (v := v) l _ _ h2 hv hvP
      simp at this
    · obtain ⟨l1, l2, M1, rfl, g1, g2⟩ := first_return (c := c) (v := v) (P := P) l [] (M ++ [c]) h2
      exact ⟨c, l1, l2, M1, rfl, hx, g1, g2⟩
/-- What a walk that comes back has met. -/
theorem run_met (n : Nat) : ∀ (l P M M' : List Int) (v : Int), l.length ≤ n → runT l (v :: P) M = some (v :: P, M') → (∀ x ∈ v :: P, x ∈ M) → (v :: P).Nodup →
    ∃ N, M' = M ++ N ∧ (∀ x ∈ N, x ∉ M) ∧ N.Nodup ∧ (∀ x ∈ l, x = v ∨ x ∈ N) ∧ (∀ x ∈ N, x ∈ l) := by
  induction n with
  | zero =>
    intro l P M M' v hn h hm hd
    have : l = [] := List.length_eq_zero_iff.1 (by omega)
    subst this
    simp only [runT] at h
    have := (Prod.mk.inj (Option.some.inj h)).2
    exact ⟨[], by simp [this], by simp, by simp, by simp, by simp⟩
  | succ n ih =>
    intro l P M M' v hn h hm hd
    rw [List.nodup_cons] at hd
    rcases run_grammar h (hm v (by simp)) hd.1 with rfl | ⟨c, l1, l2, M1, rfl, hc, g1, g2⟩
    · simp only [runT] at h
      have := (Prod.mk.inj (Option.some.inj h)).2
      exact ⟨[], by simp [this], by simp, by simp, by simp, by simp⟩
    · simp at hn
      have hcv : c ∉ v :: P := fun hh => hc (hm c hh)
      obtain ⟨N1, rfl, a2, a3, a4, a5⟩ := ih l1 (v :: P) (M ++ [c]) M1 c (by omega) g1 (by
        intro x hx
        rcases List.mem_cons.mp hx with rfl | hx
        · simp
        · exact List.mem_append_left _ (hm x hx)) (by rw [List.nodup_cons, List.nodup_cons]; exact ⟨hcv, hd⟩)
      obtain ⟨N2, rfl, b2, b3, b4, b5⟩ := ih l2 P (M ++ [c] ++ N1) M' v (by omega) g2 (fun x hx => by simp [hm x hx]) (by rw [List.nodup_cons]; exact hd)
      refine ⟨c :: N1 ++ N2, by simp, ?_, ?_, ?_, ?_⟩
      · intro x hx
        simp at hx
        rcases hx with rfl | hx | hx
        · exact hc
        · exact fun hh => a2 x hx (by simp [hh])
        · exact fun hh => b2 x hx (by simp [hh])
      · rw [List.nodup_append]
        refine ⟨?_, b3, ?_⟩
        · rw [List.nodup_cons]
          exact ⟨fun hh => a2 c hh (by simp), a3⟩
        · intro x hx y hy hxy
          subst hxy
          apply b2 x hy
          simp at hx ⊢
          rcases hx with rfl | hx
          · simp
          · simp [hx]
      · intro x hx
        simp at hx ⊢
        rcases hx with rfl | hx | rfl | hx
        · simp
        · rcases a4 x hx with rfl | h4
          · simp
          · simp [h4]
        · simp
        · rcases b4 x hx with rfl | h4
          · simp
          · simp [h4]
      · intro x hx
        simp at hx ⊢
        rcases hx with rfl | hx | hx
        · simp
        · simp [a5 x hx]
        · simp [b5 x hx]
/-! pairs of neighbours in a tour -/
def NoPair (x y : Int) : List Int → Prop
  | a :: b :: r => (¬ (a = x ∧ b = y) ∧ ¬ (a = y ∧ b = x)) ∧ NoPair x y (b :: r)
  | _ => True
theorem noPair_of_not {x y : Int} : ∀ {l : List Int}, x ∉ l → NoPair x y l
  | [], _ => trivial
  | [_], _ => trivial
  | a :: b :: r, h => by
    simp at h
    refine ⟨⟨fun hh => h.1 hh.1.symm, fun hh => h.2.1 hh.2.symm⟩, noPair_of_not (l := b :: r) (by simp; exact h.2)⟩
theorem noPair_symm {x y : Int} : ∀ {l : List Int}, NoPair x y l → NoPair y x l
  | [], _ => trivial
  | [_], _ => trivial
  | a :: b :: r, h => ⟨⟨h.1.2, h.1.1⟩, noPair_symm (l := b :: r) h.2⟩
theorem noPair_join {x y p : Int} : ∀ {A D : List Int}, NoPair x y (A ++ [p]) → NoPair x y (p :: D) → NoPair x y (A ++ p :: D)
  | [], _, _, h => h
  | [a], _, h1, h2 => ⟨h1.1, h2⟩
  | a :: b :: A, D, h1, h2 => ⟨h1.1, noPair_join (A := b :: A) h1.2 h2⟩
/-- How a pair stands in a tour: nowhere, or once down and once up, and what lies between lies nowhere else. -/
def Occ (x y : Int) (t : List Int) : Prop :=
  NoPair x y t ∨ ∃ A C D p c, t = A ++ p :: C ++ p :: D ∧ (∃ B, C = c :: B) ∧ (∃ B, C = B ++ [c]) ∧ ((p = x ∧ c = y) ∨ (p = y ∧ c = x)) ∧ NoPair x y (A ++ [p]) ∧ NoPair x y C ∧ NoPair x y (p :: D) ∧ (∀ z ∈ C, z ∉ A ++ p :: D)
theorem run_last (n : Nat) : ∀ (l P M M' : List Int) (v : Int), l.length ≤ n → runT l (v :: P) M = some (v :: P, M') → v ∈ M → v ∉ P → ∃ B, v :: l = B ++ [v] := by
  induction n with
  | zero =>
    intro l P M M' v hn h hm hd
    have : l = [] := List.length_eq_zero_iff.1 (by omega)
    subst this
    exact ⟨[], rfl⟩
  | succ n ih =>
    intro l P M M' v hn h hm hd
    rcases run_grammar h hm hd with rfl | ⟨c, l1, l2, M1, rfl, hc, g1, g2⟩
    · exact ⟨[], rfl⟩
    · simp at hn
      have : v ∈ M1 := by
        apply Classical.byContradiction
        intro hh
        have hmono : ∀ (l st met : List Int) (r : List Int × List Int), runT l st met = some r → ∀ z ∈ met, z ∈ r.2 := by
          intro l
          induction l with
          | nil => intro st met r h z hz; simp only [runT] at h; rw [← Option.some.inj h]; exact hz
          | cons x l ih2 =>
            intro st met r h z hz
            obtain ⟨p, h1, h2⟩ := run_cons h
            rcases stepT_cases h1 with ⟨a, q, rfl, rfl⟩ | ⟨hx, rfl⟩
            · exact ih2 _ _ _ h2 z hz
            · exact ih2 _ _ _ h2 z (List.mem_append_left _ hz)
        exact hh (hmono _ _ _ _ g1 v (List.mem_append_left _ hm))
      obtain ⟨B, hB⟩ := ih l2 P M1 M' v (by omega) g2 this hd
      exact ⟨v :: c :: l1 ++ B, by rw [List.append_assoc, ← hB]; simp⟩
theorem occ_lift {x y : Int} {t A0 D0 : List Int} (h : Occ x y t) {v w : Int} (hA : ∀ z ∈ t, z ∈ A0 → z = v) (hD : ∀ z ∈ t, z ∉ D0) (ht : ∃ B, t = v :: B) (ht2 : ∃ B, t = B ++ [w])
    (h1 : NoPair x y (A0 ++ [v])) (h2 : NoPair x y (w :: D0)) : Occ x y (A0 ++ t ++ D0) := by
  rcases h with h | ⟨A, C, D, p, c, rfl, hc1, hc2, hpc, n1, n2, n3, hz⟩
  · left
    obtain ⟨B, hB⟩ := ht2
    have e : A0 ++ t ++ D0 = (A0 ++ B) ++ w :: D0 := by rw [hB]; simp
    rw [e]
    refine noPair_join ?_ h2
    obtain ⟨B', hB'⟩ := ht
    have e2 : A0 ++ B ++ [w] = A0 ++ v :: B' := by rw [List.append_assoc, ← hB, hB']
    rw [e2]
    exact noPair_join h1 (hB' ▸ h)
  · right
    refine ⟨A0 ++ A, C, D ++ D0, p, c, by simp, hc1, hc2, hpc, ?_, n2, ?_, ?_⟩
    · obtain ⟨B', hB'⟩ := ht
      cases A with
      | nil =>
        simp at hB'
        simp
        rw [hB'.1]; exact h1
      | cons a A =>
        simp at hB'
        have : A0 ++ a :: A ++ [p] = A0 ++ v :: (A ++ [p]) := by rw [hB'.1]; simp
        rw [this]
        refine noPair_join h1 ?_
        rw [← hB'.1]; exact n1
    · obtain ⟨B, hB⟩ := ht2
      have hl : (A ++ p :: C ++ p :: D).getLast? = (B ++ [w]).getLast? := by rw [hB]
      have hl2 : (p :: D).getLast? = some w := by
        have e1 : (A ++ p :: C ++ p :: D).getLast? = (p :: D).getLast?.or (A ++ p :: C).getLast? := List.getLast?_append
        have e2 : (B ++ [w]).getLast? = some w := by simp
        rw [e1, e2] at hl
        cases hq : (p :: D).getLast? with
        | none => simp at hq
        | some q => rw [hq] at hl; simpa using hl
      obtain ⟨D', hD'⟩ := List.getLast?_eq_some_iff.1 hl2
      have e : p :: (D ++ D0) = D' ++ w :: D0 := by
        have : p :: (D ++ D0) = (p :: D) ++ D0 := rfl
        rw [this, hD']; simp
      rw [e]
      refine noPair_join ?_ h2
      rw [← hD']; exact n3
    · intro z hzC hh
      have hzt : z ∈ A ++ p :: C ++ p :: D := by simp [hzC]
      have := hz z hzC
      simp at this hh
      rcases hh with hh | hh | hh | hh | hh
      · have hzv := hA z hzt hh
        obtain ⟨B', hB'⟩ := ht
        cases A with
        | nil =>
          simp at hB'
          exact this.2.1 (by rw [hzv, hB'.1])
        | cons a A =>
          simp at hB'
          exact this.1 (by rw [hzv, ← hB'.1]; simp)
      · exact this.1 hh
      · exact this.2.1 hh
      · exact this.2.2 hh
      · exact hD z hzt hh
theorem noPair_mem {x y : Int} {A C D : List Int} {p c : Int} (hc : ∃ B, C = c :: B) (hpc : (p = x ∧ c = y) ∨ (p = y ∧ c = x)) : x ∈ A ++ p :: C ++ p :: D ∧ y ∈ A ++ p :: C ++ p :: D := by
  obtain ⟨B, rfl⟩ := hc
  rcases hpc with ⟨rfl, rfl⟩ | ⟨rfl, rfl⟩ <;> simp
theorem occ_all (n : Nat) : ∀ (l P M M' : List Int) (v x y : Int), l.length ≤ n → runT l (v :: P) M = some (v :: P, M') → (∀ z ∈ v :: P, z ∈ M) → (v :: P).Nodup → Occ x y (v :: l) := by
  induction n with
  | zero =>
    intro l P M M' v x y hn h hm hd
    have : l = [] := List.length_eq_zero_iff.1 (by omega)
    subst this
    exact Or.inl trivial
  | succ n ih =>
    intro l P M M' v x y hn h hm hd
    have hd' := hd
    rw [List.nodup_cons] at hd
    have hvM := hm v (by simp)
    rcases run_grammar h hvM hd.1 with rfl | ⟨c, l1, l2, M1, rfl, hc, g1, g2⟩
    · exact Or.inl trivial
    · simp at hn
      have hcv : c ∉ v :: P := fun hh => hc (hm c hh)
      have hm1 : ∀ z ∈ c :: v :: P, z ∈ M ++ [c] := by
        intro z hz
        rcases List.mem_cons.mp hz with rfl | hz
        · simp
        · exact List.mem_append_left _ (hm z hz)
      have hd1 : (c :: v :: P).Nodup := by rw [List.nodup_cons]; exact ⟨hcv, hd'⟩
      obtain ⟨N1, rfl, a2, a3, a4, a5⟩ := run_met n l1 (v :: P) (M ++ [c]) M1 c (by omega) g1 hm1 hd1
      have hm2 : ∀ z ∈ v :: P, z ∈ M ++ [c] ++ N1 := fun z hz => by simp [hm z hz]
      obtain ⟨N2, rfl, b2, b3, b4, b5⟩ := run_met n l2 P (M ++ [c] ++ N1) M' v (by omega) g2 hm2 hd'
      have i1 := ih l1 (v :: P) _ _ c x y (by omega) g1 hm1 hd1
      have i2 := ih l2 P _ _ v x y (by omega) g2 hm2 hd'
      have hvc : v ≠ c := fun hh => hc (hh ▸ hvM)
      have ht1 : ∀ z ∈ c :: l1, z ∉ M ∧ z ∈ M ++ [c] ++ N1 := by
        intro z hz
        rcases List.mem_cons.mp hz with rfl | hz
        · exact ⟨hc, by simp⟩
        · rcases a4 z hz with rfl | h4
          · exact ⟨hc, by simp⟩
          · exact ⟨fun hh => a2 z h4 (by simp [hh]), by simp [h4]⟩
      have ht2 : ∀ z ∈ l2, z = v ∨ z ∉ M ++ [c] ++ N1 := by
        intro z hz
        rcases b4 z hz with rfl | h4
        · exact Or.inl rfl
        · exact Or.inr (b2 z h4)
      have hv1 : v ∉ c :: l1 := fun hh => (ht1 v hh).1 hvM
      have hdis : ∀ z ∈ c :: l1, z ∉ v :: l2 := by
        intro z hz hh
        rcases List.mem_cons.mp hh with rfl | hh
        · exact hv1 hz
        · rcases ht2 z hh with rfl | h2
          · exact hv1 hz
          · exact h2 (ht1 z hz).2
      have hlast1 := run_last n l1 (v :: P) (M ++ [c]) _ c (by omega) g1 (by simp) (by rw [List.nodup_cons] at hd1; exact hd1.1)
      have hlast2 := run_last n l2 P (M ++ [c] ++ N1) _ v (by omega) g2 (by simp [hvM]) hd.1
      by_cases hxy : (v = x ∧ c = y) ∨ (v = y ∧ c = x)
      · right
        refine ⟨[], c :: l1, l2, v, c, by simp, ⟨l1, rfl⟩, hlast1, hxy, trivial, ?_, ?_, ?_⟩
        · rcases hxy with ⟨rfl, _⟩ | ⟨rfl, _⟩
          · exact noPair_of_not hv1
          · exact noPair_symm (noPair_of_not hv1)
        · have hc2 := hdis c (by simp)
          rcases hxy with ⟨_, rfl⟩ | ⟨_, rfl⟩
          · exact noPair_symm (noPair_of_not hc2)
          · exact noPair_of_not hc2
        · intro z hz; simpa using hdis z hz
      · have hvcp : NoPair x y ([v] ++ [c]) := ⟨⟨fun hh => hxy (Or.inl hh), fun hh => hxy (Or.inr hh)⟩, trivial⟩
        have hcvp : NoPair x y (c :: [v]) := ⟨⟨fun hh => hxy (Or.inr ⟨hh.2, hh.1⟩), fun hh => hxy (Or.inl ⟨hh.2, hh.1⟩)⟩, trivial⟩
        rcases i1 with i1 | i1
        · have e : v :: (c :: l1 ++ v :: l2) = (v :: c :: l1) ++ (v :: l2) ++ [] := by simp
          rw [e]
          refine occ_lift (v := v) (w := v) i2 ?_ (by simp) ⟨l2, rfl⟩ hlast2 ?_ trivial
          · intro z hz hh
            rcases List.mem_cons.mp hh with rfl | hh
            · rfl
            · exact absurd hz (hdis z hh)
          · obtain ⟨B, hB⟩ := hlast1
            have e1 : v :: c :: l1 ++ [v] = (v :: B) ++ c :: [v] := by
              have : v :: c :: l1 ++ [v] = v :: (c :: l1) ++ [v] := rfl
              rw [this, hB]; simp
            rw [e1]
            refine noPair_join ?_ hcvp
            have e2 : v :: B ++ [c] = [v] ++ c :: l1 := by rw [hB]; simp
            rw [e2]
            exact noPair_join hvcp i1
        · have e : v :: (c :: l1 ++ v :: l2) = [v] ++ (c :: l1) ++ (v :: l2) := by simp
          rw [e]
          have hm12 : x ∈ c :: l1 ∧ y ∈ c :: l1 := by
            obtain ⟨A, C, D, p, d, he, q1, q2, q3, _⟩ := i1
            rw [he]; exact noPair_mem q1 q3
          refine occ_lift (v := c) (w := c) (Or.inr i1) ?_ hdis ⟨l1, rfl⟩ hlast1 hvcp ?_
          · intro z hz hh
            simp at hh
            subst hh
            exact absurd hz hv1
          · exact noPair_join (A := [c]) hcvp (noPair_of_not (hdis x hm12.1))

/-! a tour split at a pair -/
theorem findR_hit {β : Type} {p : Nat → Bool} {c : Nat → β} {fin : β} {i0 : Nat} : ∀ (d i : Nat), i ≤ i0 → i0 < i + d → p i0 = true → (∀ k, i ≤ k → k < i0 → p k = false) → findR p c fin d i = c i0
  | 0, i, h1, h2, _, _ => by omega
  | d + 1, i, h1, h2, h3, h4 => by
    rw [findR]
    by_cases e : i = i0
    · subst e; rw [if_pos h3]
    · rw [if_neg (by rw [h4 i (Nat.le_refl _) (by omega)]; simp)]
      exact findR_hit d (i + 1) (by omega) (by omega) h3 (fun k hk hk2 => h4 k (by omega) hk2)
theorem findR_miss {β : Type} {p : Nat → Bool} {c : Nat → β} {fin : β} : ∀ (d i : Nat), (∀ k, i ≤ k → k < i + d → p k = false) → findR p c fin d i = fin
  | 0, i, _ => rfl
  | d + 1, i, h => by
    rw [findR, if_neg (by rw [h i (Nat.le_refl _) (by omega)]; simp)]
    exact findR_miss d (i + 1) (fun k hk hk2 => h k (by omega) (by omega))
def prAt (t : List Int) (u v : Int) (k : Nat) : Prop := (t.getD k 0 = u ∧ t.getD (k + 1) 0 = v) ∨ (t.getD k 0 = v ∧ t.getD (k + 1) 0 = u)
theorem noPair_at {u v : Int} : ∀ {t : List Int}, NoPair u v t → ∀ k, k + 1 < t.length → ¬ prAt t u v k
  | [], _, k, hk => by simp at hk
  | [_], _, k, hk => by simp at hk
  | a :: b :: r, h, k, hk => by
    cases k with
    | zero =>
      rintro (⟨h1, h2⟩ | ⟨h1, h2⟩)
      · exact h.1.1 ⟨by simpa using h1, by simpa using h2⟩
      · exact h.1.2 ⟨by simpa using h1, by simpa using h2⟩
    | succ k =>
      have := noPair_at h.2 k (by simpa using hk)
      simpa [prAt] using this
theorem getD_left {A B : List Int} {k : Nat} (h : k < A.length) : (A ++ B).getD k 0 = A.getD k 0 := by
  simp [List.getD_eq_getElem?_getD, List.getElem?_append_left h]
theorem getD_right {A B : List Int} {k : Nat} (h : A.length ≤ k) : (A ++ B).getD k 0 = B.getD (k - A.length) 0 := by
  simp [List.getD_eq_getElem?_getD, List.getElem?_append_right h]
structure Cutp (t : List Int) (u v : Int) (A C D : List Int) (p c : Int) : Prop where
  ht : t = A ++ [p] ++ C ++ (p :: D)
  ho : (p = u ∧ c = v) ∨ (p = v ∧ c = u)
  hne : p ≠ c
  hC : 1 ≤ C.length
  hi : t.getD A.length 0 = p ∧ t.getD (A.length + 1) 0 = c
  hj : t.getD (A.length + C.length) 0 = c ∧ t.getD (A.length + C.length + 1) 0 = p
  hon : ∀ k, k + 1 < t.length → prAt t u v k → k = A.length ∨ k = A.length + C.length
theorem occ_cut {u v : Int} {t : List Int} (h : Occ u v t) : (∀ k, k + 1 < t.length → ¬ prAt t u v k) ∨ ∃ A C D p c, Cutp t u v A C D p c := by
  rcases h with h | ⟨A, C, D, p, c, ht, ⟨B1, hB1⟩, ⟨B2, hB2⟩, ho, h1, h2, h3, h4⟩
  · exact .inl (noPair_at h)
  · right
    have ht' : t = A ++ [p] ++ C ++ (p :: D) := by rw [ht]; simp
    have hcC : c ∈ C := by rw [hB1]; exact List.mem_cons_self
    have hpc : p ≠ c := fun e => h4 c hcC (by rw [← e]; simp)
    have hC : 1 ≤ C.length := List.length_pos_of_mem hcC
    have hlen : t.length = A.length + 1 + C.length + 1 + D.length := by rw [ht']; simp; omega
    have g1 : ∀ k, k ≤ A.length → t.getD k 0 = (A ++ [p]).getD k 0 := by
      intro k hk
      rw [ht', getD_left (by simp; omega), getD_left (by simp; omega)]
    have g2 : ∀ k, A.length + 1 ≤ k → k < A.length + 1 + C.length → t.getD k 0 = C.getD (k - (A.length + 1)) 0 := by
      intro k hk hk2
      rw [ht', getD_left (by simp; omega), getD_right (by simp; omega)]
      simp
    have g3 : ∀ k, A.length + 1 + C.length ≤ k → t.getD k 0 = (p :: D).getD (k - (A.length + 1 + C.length)) 0 := by
      intro k hk
      rw [ht', getD_right (by simp; omega)]
      simp; congr 2; omega
    have e1 : t.getD A.length 0 = p := by
      rw [g1 _ (Nat.le_refl _), getD_right (Nat.le_refl _)]; simp
    have e2 : t.getD (A.length + 1) 0 = c := by
      rw [g2 _ (Nat.le_refl _) (by omega), Nat.sub_self, hB1]; rfl
    have e3 : t.getD (A.length + C.length) 0 = c := by
      rw [g2 _ (by omega) (by omega), hB2, getD_right (by simp; omega)]
      have : A.length + (B2 ++ [c]).length - (A.length + 1) - B2.length = 0 := by simp; omega
      rw [this]; rfl
    have e4 : t.getD (A.length + C.length + 1) 0 = p := by
      rw [g3 _ (by omega)]
      have : A.length + C.length + 1 - (A.length + 1 + C.length) = 0 := by omega
      rw [this]; rfl
    refine ⟨A, C, D, p, c, ⟨ht', ho, hpc, hC, ⟨e1, e2⟩, ⟨e3, e4⟩, ?_⟩⟩
    intro k hk hp
    by_cases c1 : k + 1 ≤ A.length
    · exfalso
      refine noPair_at h1 k (by simp; omega) ?_
      unfold prAt at hp ⊢
      rw [← g1 k (by omega), ← g1 (k + 1) (by omega)]; exact hp
    · by_cases c2 : k = A.length
      · exact .inl c2
      · by_cases c3 : k = A.length + C.length
        · exact .inr c3
        · exfalso
          by_cases c4 : k < A.length + C.length
          · refine noPair_at h2 (k - (A.length + 1)) (by omega) ?_
            unfold prAt at hp ⊢
            have e : k + 1 - (A.length + 1) = k - (A.length + 1) + 1 := by omega
            rw [← e, ← g2 k (by omega) (by omega), ← g2 (k + 1) (by omega) (by omega)]; exact hp
          · refine noPair_at h3 (k - (A.length + 1 + C.length)) (by simp; omega) ?_
            unfold prAt at hp ⊢
            have e : k + 1 - (A.length + 1 + C.length) = k - (A.length + 1 + C.length) + 1 := by omega
            rw [← e, ← g3 k (by omega), ← g3 (k + 1) (by omega)]; exact hp
theorem runT_bottom {r : Int} : ∀ (l A M : List Int) {st M' : List Int}, runT l (A ++ [r]) M = some (st, M') → ∃ A', st = A' ++ [r]
  | [], A, M, st, M', h => by
    simp only [runT, Option.some.injEq, Prod.mk.injEq] at h
    exact ⟨A, h.1.symm⟩
  | x :: l, A, M, st, M', h => by
    obtain ⟨p, h1, h2⟩ := run_cons h
    rcases stepT_cases h1 with ⟨a, q, e, rfl⟩ | ⟨hx, rfl⟩
    · cases A with
      | nil => simp at e
      | cons b A =>
        simp only [List.cons_append, List.cons.injEq] at e
        rw [← e.2] at h2
        exact runT_bottom l A M h2
    · exact runT_bottom l (x :: A) _ h2
theorem trun_runT : ∀ (l path met : List Int), 1 ≤ path.length → trun l path met = true → ∃ st M', runT l path.reverse met = some (st, M') ∧ st.length = 1
  | [], path, met, hp, h => by
    simp only [trun, beq_iff_eq] at h
    exact ⟨path.reverse, met, rfl, by rw [List.length_reverse]; omega⟩
  | v :: l, path, met, hp, h => by
    rw [trun] at h
    by_cases c : 1 < path.length ∧ path.getD (path.length - 2) 0 = v
    · rw [if_pos c] at h
      obtain ⟨Q, a, b, rfl⟩ : ∃ Q a b, path = Q ++ [a, b] := by
        refine ⟨path.take (path.length - 2), path.getD (path.length - 2) 0, path.getD (path.length - 1) 0, ?_⟩
        have e1 : path.drop (path.length - 2) = [path.getD (path.length - 2) 0, path.getD (path.length - 1) 0] := by
          rw [List.drop_eq_getElem_cons (by omega), List.drop_eq_getElem_cons (by omega), List.drop_of_length_le (by omega)]
          have e : path.length - 2 + 1 = path.length - 1 := by omega
          simp only [e, List.getD_eq_getElem?_getD, List.getElem?_eq_getElem (show path.length - 2 < path.length by omega), List.getElem?_eq_getElem (show path.length - 1 < path.length by omega), Option.getD_some]
        rw [← e1, List.take_append_drop]
      have ha : a = v := by
        have := c.2
        have e : (Q ++ [a, b]).length - 2 = Q.length := by simp
        rw [e, getD_right (Nat.le_refl _)] at this
        simpa using this
      have e2 : (Q ++ [a, b]).take ((Q ++ [a, b]).length - 1) = Q ++ [a] := by
        have : (Q ++ [a, b]).length - 1 = (Q ++ [a]).length := by simp
        rw [this, show Q ++ [a, b] = (Q ++ [a]) ++ [b] by simp, List.take_left']
        rfl
      rw [e2] at h
      obtain ⟨st, M', h1, h2⟩ := trun_runT l (Q ++ [a]) met (by simp) h
      refine ⟨st, M', ?_, h2⟩
      have e3 : (Q ++ [a, b]).reverse = b :: a :: Q.reverse := by simp
      have e4 : (Q ++ [a]).reverse = a :: Q.reverse := by simp
      rw [e4] at h1
      rw [e3, runT, stepT, if_pos ha]
      exact h1
    · rw [if_neg c] at h
      by_cases hm : v ∈ met
      · rw [if_pos hm] at h; cases h
      · rw [if_neg hm] at h
        obtain ⟨st, M', h1, h2⟩ := trun_runT l (path ++ [v]) (met ++ [v]) (by simp) h
        refine ⟨st, M', ?_, h2⟩
        have e3 : (path ++ [v]).reverse = v :: path.reverse := by simp
        rw [e3] at h1
        rw [runT]
        have hs : stepT path.reverse met v = some (v :: path.reverse, met ++ [v]) := by
          cases hr : path.reverse with
          | nil => simp [stepT, hm]
          | cons x q =>
            cases q with
            | nil => simp [stepT, hm]
            | cons y q =>
              have hpath : path = q.reverse ++ [y, x] := by
                have := congrArg List.reverse hr
                simpa using this
              have hy : ¬ y = v := by
                intro e
                refine c ⟨by rw [hpath]; simp, ?_⟩
                have e5 : path.length - 2 = q.reverse.length := by rw [hpath]; simp
                rw [e5, hpath, getD_right (Nat.le_refl _), Nat.sub_self]
                exact e
              simp [stepT, hy, hm]
        rw [hs]
        exact h1
theorem tourOk_occ {t : List Int} (h : tourOk t = true) (x y : Int) : Occ x y t := by
  unfold tourOk at h
  rw [Bool.and_eq_true, Bool.and_eq_true] at h
  cases t with
  | nil => cases h.2.2
  | cons r l =>
    obtain ⟨st, M', h1, h2⟩ := trun_runT l [r] [r] (by simp) h.2.2
    obtain ⟨A', hA⟩ := runT_bottom l [] [r] h1
    have : A' = [] := by
      rw [hA] at h2
      simp at h2
      exact h2
    subst this
    rw [hA] at h1
    exact occ_all l.length l [] [r] M' r x y (Nat.le_refl _) (by simpa using h1) (by simp) (by simp)

theorem spec_l06Going_ev (t : List Int) (u v : Int) (h1 : 1 ≤ t.length) (hl : t.length ≤ 1000) : Ev (fun k => spec_l06Going.f k t u v) (findR (fun k => decide (t.getD k 0 = u ∧ t.getD (k + 1) 0 = v)) (fun k => (k : Int)) (-1) (t.length - 1) 0) := by
  simp only [spec_l06Going.f]
  have hg : ∀ k : Nat, rd t (k : Int) = t.getD k 0 := fun k => by simp [rd]
  have hw : ∀ i : Nat, i < t.length - 1 → wrap64 ((i : Int) + 1) = ((i + 1 : Nat) : Int) := fun i hi => wrap_succ hi (by omega)
  refine Ev.findloop (L := fun k i => spec_l06Going.l0 k t u v i) (n := t.length - 1) _ (fun k => (k : Int)) (-1) ?_ ?_ ?_
  · intro i r hi hp hr
    have hp := of_decide_eq_false hp
    by_cases c : t.getD i 0 = u
    · refine Ev.step (fun k => by rw [spec_l06Going.l0, hw i hi, if_pos (by omega), if_pos (by omega), if_pos (by omega), hg, if_pos c, if_pos (by omega), hg, if_neg (fun e => hp ⟨c, e⟩)]) ?_
      exact hr
    · refine Ev.step (fun k => by rw [spec_l06Going.l0, hw i hi, if_pos (by omega), if_pos (by omega), if_pos (by omega), hg, if_neg c]) ?_
      exact hr
  · intro i hi hp
    have hp := of_decide_eq_true hp
    refine Ev.step (fun k => by rw [spec_l06Going.l0, hw i hi, if_pos (by omega), if_pos (by omega), if_pos (by omega), hg, if_pos hp.1, if_pos (by omega), hg, if_pos hp.2]) ?_
    exact Ev.now _
  · have : wrap64 (((t.length - 1 : Nat) : Int) + 1) = t.length := by unfold wrap64; omega
    refine Ev.step (fun k => by rw [spec_l06Going.l0, this, if_neg (by omega)]) ?_
    exact Ev.now _
theorem impl_split_j (t : List Int) (u v : Int) (hl : t.length ≤ 1000) (i j : Int) (k : Nat) (hk : k + 1 < t.length) {r : List Int × List Int × Bool}
    (h : ∀ b : Bool, (b = true ↔ prAt t u v k) → Ev (fun n => impl_SplitTour.j1 n t u v i j k b) r) : Ev (fun n => impl_SplitTour.l0 n t u v i j k) r := by
  have hg : ∀ k : Nat, rd t (k : Int) = t.getD k 0 := fun k => by simp [rd]
  have hw : wrap64 ((k : Int) + 1) = ((k + 1 : Nat) : Int) := wrap_succ (show k < t.length by omega) (by omega)
  by_cases c1 : t.getD k 0 = u
  · by_cases c2 : t.getD (k + 1) 0 = v
    · refine Ev.step (fun n => by rw [impl_SplitTour.l0, hw, if_pos (by omega), if_pos (by omega), if_pos (by omega), hg, hg, if_pos c1, if_pos (by omega), if_pos c2]) ?_
      exact h true ⟨fun _ => .inl ⟨c1, c2⟩, fun _ => rfl⟩
    · by_cases c3 : t.getD k 0 = v
      · refine Ev.step (fun n => by rw [impl_SplitTour.l0, hw, if_pos (by omega), if_pos (by omega), if_pos (by omega), hg, hg, if_pos c1, if_pos (by omega), if_neg c2, if_pos c3]) ?_
        refine h _ ⟨fun e => .inr ⟨c3, by simpa using e⟩, ?_⟩
        rintro (⟨_, e⟩ | ⟨_, e⟩)
        · exact absurd e c2
        · simpa using e
      · refine Ev.step (fun n => by rw [impl_SplitTour.l0, hw, if_pos (by omega), if_pos (by omega), if_pos (by omega), hg, hg, if_pos c1, if_pos (by omega), if_neg c2, if_neg c3]) ?_
        refine h false ⟨(fun e => by cases e), ?_⟩
        rintro (⟨_, e⟩ | ⟨e, _⟩)
        · exact absurd e c2
        · exact absurd e c3
  · by_cases c3 : t.getD k 0 = v
    · refine Ev.step (fun n => by rw [impl_SplitTour.l0, hw, if_pos (by omega), if_pos (by omega), if_pos (by omega), hg, hg, if_neg c1, if_pos c3, if_pos (by omega)]) ?_
      refine h _ ⟨fun e => .inr ⟨c3, by simpa using e⟩, ?_⟩
      rintro (⟨e, _⟩ | ⟨_, e⟩)
      · exact absurd e c1
      · simpa using e
    · refine Ev.step (fun n => by rw [impl_SplitTour.l0, hw, if_pos (by omega), if_pos (by omega), if_pos (by omega), hg, if_neg c1, if_neg c3]) ?_
      refine h false ⟨(fun e => by cases e), ?_⟩
      rintro (⟨e, _⟩ | ⟨e, _⟩)
      · exact absurd e c1
      · exact absurd e c3
theorem impl_split_no (t : List Int) (u v : Int) (hl : t.length ≤ 1000) (i j : Int) (k : Nat) (hk : k + 1 < t.length) {r : List Int × List Int × Bool} (hp : ¬ prAt t u v k)
    (h : Ev (fun n => impl_SplitTour.l0 n t u v i j ((k + 1 : Nat) : Int)) r) : Ev (fun n => impl_SplitTour.l0 n t u v i j k) r := by
  refine impl_split_j t u v hl i j k hk (fun b hb => ?_)
  have : b = false := by
    cases b with
    | true => exact absurd (hb.1 rfl) hp
    | false => rfl
  subst this
  refine Ev.step (fun n => by rw [impl_SplitTour.j1, if_neg (by simp), wrap_succ (show k < t.length by omega) (by omega)]) ?_
  exact h
theorem impl_split_yes (t : List Int) (u v : Int) (hl : t.length ≤ 1000) (i j : Int) (k : Nat) (hk : k + 1 < t.length) {r : List Int × List Int × Bool} (hp : prAt t u v k)
    (h : Ev (fun n => impl_SplitTour.l0 n t u v (if i < 0 then (k : Int) else i) k ((k + 1 : Nat) : Int)) r) : Ev (fun n => impl_SplitTour.l0 n t u v i j k) r := by
  refine impl_split_j t u v hl i j k hk (fun b hb => ?_)
  have : b = true := hb.2 hp
  subst this
  by_cases c : i < 0
  · rw [if_pos c] at h
    refine Ev.step (fun n => by rw [impl_SplitTour.j1, if_pos rfl, if_pos c, wrap_succ (show k < t.length by omega) (by omega)]) ?_
    exact h
  · rw [if_neg c] at h
    refine Ev.step (fun n => by rw [impl_SplitTour.j1, if_pos rfl, if_neg c, wrap_succ (show k < t.length by omega) (by omega)]) ?_
    exact h
theorem tourOk_lenB {t : List Int} (h : tourOk t = true) : 1 ≤ (t.length : Int) ∧ (t.length : Int) ≤ 23 := by
  unfold tourOk at h
  rw [Bool.and_eq_true] at h
  exact of_decide_eq_true h.1
theorem wrap_p1 (a : Nat) (h : a ≤ 1000) : wrap64 ((a : Int) + 1) = ((a + 1 : Nat) : Int) := by unfold wrap64; omega
theorem wrap_p2 (a : Nat) (h : a ≤ 1000) : wrap64 ((a : Int) + 2) = ((a + 2 : Nat) : Int) := by unfold wrap64; omega
def cutR (t : List Int) (i j : Nat) : List Int × List Int × Bool := (t.take (i + 1) ++ t.drop (j + 2), (t.take (j + 1)).drop (i + 1), true)
theorem spec_split_j0_le (t : List Int) (i j : Nat) (hij : i < j) (hj : j + 1 < t.length) (hl : t.length ≤ 100) : Ev (fun k => spec_SplitTour.j0 k t [] i j false) (cutR t i j) := by
  have a1 : (t.take (i + 1)).length ≤ 100 := by rw [List.length_take]; omega
  have a2 : (t.drop (j + 2)).length ≤ 100 := by rw [List.length_drop]; omega
  have a3 : ((t.take (j + 1)).drop (i + 1)).length ≤ 100 := by rw [List.length_drop, List.length_take]; omega
  refine Ev.step (fun k => by rw [spec_SplitTour.j0, if_neg (by simp), if_neg (by omega), wrap_p1 i (by omega), wrap_p1 j (by omega), wrap_p2 j (by omega)]) ?_
  simp only [Option.bind_some, List.nil_append, Int.toNat_natCast, List.length_nil, Nat.zero_add]
  unfold cutR
  generalize t.take (i + 1) = X at a1 ⊢
  generalize t.drop (j + 2) = Y at a2 ⊢
  generalize (t.take (j + 1)).drop (i + 1) = Z at a3 ⊢
  simp only [if_pos (show (0 : Int) ≤ ((i + 1 : Nat) : Int) by omega), if_pos (show ((i + 1 : Nat) : Int) ≤ (t.length : Int) by omega), if_pos (show X.length < 17592186044416 by omega), if_pos (show (0 : Int) ≤ ((j + 2 : Nat) : Int) by omega), if_pos (show ((j + 2 : Nat) : Int) ≤ (t.length : Int) by omega), if_pos (show X.length + Y.length < 17592186044416 by omega), if_pos (show ((i + 1 : Nat) : Int) ≤ ((j + 1 : Nat) : Int) by omega), if_pos (show ((j + 1 : Nat) : Int) ≤ (t.length : Int) by omega), if_pos (show Z.length < 17592186044416 by omega)]
  exact Ev.now _
theorem spec_split_j0_gt (t : List Int) (i j : Nat) (hij : i < j) (hj : j + 1 < t.length) (hl : t.length ≤ 100) : Ev (fun k => spec_SplitTour.j0 k t [] j i false) (cutR t i j) := by
  have a1 : (t.take (i + 1)).length ≤ 100 := by rw [List.length_take]; omega
  have a2 : (t.drop (j + 2)).length ≤ 100 := by rw [List.length_drop]; omega
  have a3 : ((t.take (j + 1)).drop (i + 1)).length ≤ 100 := by rw [List.length_drop, List.length_take]; omega
  refine Ev.step (fun k => by rw [spec_SplitTour.j0, if_neg (by simp), if_pos (by omega), wrap_p1 i (by omega), wrap_p1 j (by omega), wrap_p2 j (by omega)]) ?_
  simp only [Option.bind_some, List.nil_append, Int.toNat_natCast, List.length_nil, Nat.zero_add]
  unfold cutR
  generalize t.take (i + 1) = X at a1 ⊢
  generalize t.drop (j + 2) = Y at a2 ⊢
  generalize (t.take (j + 1)).drop (i + 1) = Z at a3 ⊢
  simp only [if_pos (show (0 : Int) ≤ ((i + 1 : Nat) : Int) by omega), if_pos (show ((i + 1 : Nat) : Int) ≤ (t.length : Int) by omega), if_pos (show X.length < 17592186044416 by omega), if_pos (show (0 : Int) ≤ ((j + 2 : Nat) : Int) by omega), if_pos (show ((j + 2 : Nat) : Int) ≤ (t.length : Int) by omega), if_pos (show X.length + Y.length < 17592186044416 by omega), if_pos (show ((i + 1 : Nat) : Int) ≤ ((j + 1 : Nat) : Int) by omega), if_pos (show ((j + 1 : Nat) : Int) ≤ (t.length : Int) by omega), if_pos (show Z.length < 17592186044416 by omega)]
  exact Ev.now _
theorem impl_split_end (t : List Int) (u v : Int) (i j : Nat) (hij : i < j) (hj : j + 1 < t.length) (hl : t.length ≤ 100) : Ev (fun k => impl_SplitTour.l0 k t u v i j ((t.length - 1 : Nat) : Int)) (cutR t i j) := by
  have a1 : (t.take (i + 1)).length ≤ 100 := by rw [List.length_take]; omega
  have a2 : (t.drop (j + 2)).length ≤ 100 := by rw [List.length_drop]; omega
  have a3 : ((t.take (j + 1)).drop (i + 1)).length ≤ 100 := by rw [List.length_drop, List.length_take]; omega
  have w0 : wrap64 (((t.length - 1 : Nat) : Int) + 1) = (t.length : Int) := by rw [wrap_p1 _ (by omega)]; omega
  refine Ev.step (fun k => by rw [impl_SplitTour.l0, w0, if_neg (by omega), if_neg (by omega), wrap_p1 i (by omega), wrap_p1 j (by omega), wrap_p2 j (by omega)]) ?_
  simp only [Int.toNat_natCast]
  unfold cutR
  generalize t.take (i + 1) = X at a1 ⊢
  generalize t.drop (j + 2) = Y at a2 ⊢
  generalize (t.take (j + 1)).drop (i + 1) = Z at a3 ⊢
  have c1 : impl_copyInts.f X = some X := by simp [impl_copyInts.f]; omega
  have c2 : impl_copyInts.f Z = some Z := by simp [impl_copyInts.f]; omega
  simp only [c1, c2, Option.bind_some, if_pos (show (0 : Int) ≤ ((i + 1 : Nat) : Int) by omega), if_pos (show ((i + 1 : Nat) : Int) ≤ (t.length : Int) by omega), if_pos (show (0 : Int) ≤ ((j + 2 : Nat) : Int) by omega), if_pos (show ((j + 2 : Nat) : Int) ≤ (t.length : Int) by omega), if_pos (show X.length + Y.length < 17592186044416 by omega), if_pos (show ((i + 1 : Nat) : Int) ≤ ((j + 1 : Nat) : Int) by omega), if_pos (show ((j + 1 : Nat) : Int) ≤ (t.length : Int) by omega)]
  exact Ev.now _
theorem cut_range {t : List Int} {u v : Int} {A C D : List Int} {p c : Int} (h : Cutp t u v A C D p c) : A.length < A.length + C.length ∧ A.length + C.length + 1 < t.length := by
  have h1 := h.ht
  have h2 := h.hC
  have : t.length = A.length + 1 + C.length + 1 + D.length := by rw [h1]; simp; omega
  omega
theorem spec_split_yes {t : List Int} {u v : Int} {A C D : List Int} {p c : Int} (hto : tourOk t = true) (htl : 1 ≤ t.length ∧ t.length ≤ 23) (h : Cutp t u v A C D p c) : Ev (fun k => spec_SplitTour.f k t u v) (cutR t A.length (A.length + C.length)) := by
  obtain ⟨r1, r2⟩ := cut_range h
  have goP : ∀ a b, (a = p ∧ b = c ∧ ((a = u ∧ b = v) ∨ (a = v ∧ b = u))) → findR (fun k => decide (t.getD k 0 = a ∧ t.getD (k + 1) 0 = b)) (fun k => (k : Int)) (-1) (t.length - 1) 0 = (A.length : Int) := by
    rintro a b ⟨rfl, rfl, ho⟩
    refine findR_hit _ _ (Nat.zero_le _) (by omega) (decide_eq_true h.hi) (fun k _ hk => decide_eq_false (fun e => ?_))
    have : prAt t u v k := by
      rcases ho with ⟨e1, e2⟩ | ⟨e1, e2⟩
      · exact .inl ⟨by rw [e.1, e1], by rw [e.2, e2]⟩
      · exact .inr ⟨by rw [e.1, e1], by rw [e.2, e2]⟩
    rcases h.hon k (by omega) this with q | q <;> omega
  have goC : ∀ a b, (a = c ∧ b = p ∧ ((a = u ∧ b = v) ∨ (a = v ∧ b = u))) → findR (fun k => decide (t.getD k 0 = a ∧ t.getD (k + 1) 0 = b)) (fun k => (k : Int)) (-1) (t.length - 1) 0 = ((A.length + C.length : Nat) : Int) := by
    rintro a b ⟨rfl, rfl, ho⟩
    refine findR_hit _ _ (Nat.zero_le _) (by omega) (decide_eq_true h.hj) (fun k _ hk => decide_eq_false (fun e => ?_))
    have : prAt t u v k := by
      rcases ho with ⟨e1, e2⟩ | ⟨e1, e2⟩
      · exact .inl ⟨by rw [e.1, e1], by rw [e.2, e2]⟩
      · exact .inr ⟨by rw [e.1, e1], by rw [e.2, e2]⟩
    rcases h.hon k (by omega) this with q | q
    · rw [q, h.hi.1] at e
      exact h.hne e.1
    · omega
  have hho := h.ho
  clear h
  simp only [spec_SplitTour.f, Option.bind_some]
  refine Ev.bind (spec_TourOk_ev t) ?_
  simp only [if_pos hto]
  refine Ev.bind (spec_l06Going_ev t u v htl.1 (by omega)) ?_
  refine Ev.bind (spec_l06Going_ev t v u htl.1 (by omega)) ?_
  rcases hho with ⟨e1, e2⟩ | ⟨e1, e2⟩
  · rw [goP u v ⟨e1.symm, e2.symm, .inl ⟨rfl, rfl⟩⟩, goC v u ⟨e2.symm, e1.symm, .inr ⟨rfl, rfl⟩⟩]
    simp only [if_neg (show ¬ (A.length : Int) < 0 by omega), decide_eq_false (show ¬ ((A.length + C.length : Nat) : Int) < 0 by omega)]
    exact spec_split_j0_le t A.length (A.length + C.length) r1 r2 (by omega)
  · rw [goC u v ⟨e2.symm, e1.symm, .inl ⟨rfl, rfl⟩⟩, goP v u ⟨e1.symm, e2.symm, .inr ⟨rfl, rfl⟩⟩]
    simp only [if_neg (show ¬ ((A.length + C.length : Nat) : Int) < 0 by omega), decide_eq_false (show ¬ (A.length : Int) < 0 by omega)]
    exact spec_split_j0_gt t A.length (A.length + C.length) r1 r2 (by omega)
def splitSt (a c k : Nat) : Int × Int := if k ≤ a then (-1, -1) else if k ≤ c then ((a : Int), (a : Int)) else ((a : Int), (c : Int))
theorem impl_split_go {t : List Int} {u v : Int} {A C D : List Int} {p c : Int} (hto : tourOk t = true) (htl : 1 ≤ t.length ∧ t.length ≤ 23) (h : Cutp t u v A C D p c) : Ev (fun k => impl_SplitTour.f k t u v) (cutR t A.length (A.length + C.length)) := by
  obtain ⟨r1, r2⟩ := cut_range h
  have hpi : prAt t u v A.length := by
    rcases h.ho with ⟨e1, e2⟩ | ⟨e1, e2⟩
    · exact .inl ⟨by rw [h.hi.1, e1], by rw [h.hi.2, e2]⟩
    · exact .inr ⟨by rw [h.hi.1, e1], by rw [h.hi.2, e2]⟩
  have hpj : prAt t u v (A.length + C.length) := by
    rcases h.ho with ⟨e1, e2⟩ | ⟨e1, e2⟩
    · exact .inr ⟨by rw [h.hj.1, e2], by rw [h.hj.2, e1]⟩
    · exact .inl ⟨by rw [h.hj.1, e2], by rw [h.hj.2, e1]⟩
  have hon := h.hon
  clear h
  simp only [impl_SplitTour.f]
  refine Ev.bind (impl_TourOk_ev t) ?_
  simp only [if_pos hto]
  generalize A.length = a at r1 r2 hpi hpj hon ⊢
  generalize a + C.length = c at r1 r2 hpi hpj hon ⊢
  have := Ev.loopR (σ := Int × Int) (L := fun k s x => impl_SplitTour.l0 k t u v s.1 s.2 x) (n := t.length - 1) (fun _ _ => cutR t a c) (fun k s => s = splitSt a c k) ?_ ?_ (t.length - 1) 0 (-1, -1) (by omega) (by unfold splitSt; rw [if_pos (Nat.zero_le _)])
  · exact this
  · intro k s hk hs
    right
    by_cases c1 : k = a
    · subst c1
      unfold splitSt at hs
      rw [if_pos (Nat.le_refl _)] at hs
      subst hs
      refine ⟨((k : Int), (k : Int)), by unfold splitSt; rw [if_neg (by omega), if_pos (by omega)], rfl, fun r hr => ?_⟩
      refine impl_split_yes t u v (by omega) _ _ _ (by omega) hpi ?_
      rw [if_pos (by omega)]
      exact hr
    · by_cases c2 : k = c
      · subst c2
        unfold splitSt at hs
        rw [if_neg (by omega), if_pos (Nat.le_refl _)] at hs
        subst hs
        refine ⟨((a : Int), (k : Int)), by unfold splitSt; rw [if_neg (by omega), if_neg (by omega)], rfl, fun r hr => ?_⟩
        refine impl_split_yes t u v (by omega) _ _ _ (by omega) hpj ?_
        rw [if_neg (by omega)]
        exact hr
      · refine ⟨s, ?_, rfl, fun r hr => ?_⟩
        · rw [hs]
          unfold splitSt
          by_cases q1 : k ≤ a
          · rw [if_pos q1, if_pos (by omega)]
          · by_cases q2 : k ≤ c
            · rw [if_neg q1, if_pos q2, if_neg (by omega), if_pos (by omega)]
            · rw [if_neg q1, if_neg q2, if_neg (by omega), if_neg (by omega)]
        · refine impl_split_no t u v (by omega) _ _ k (by omega) (fun hp => ?_) hr
          rcases hon k (by omega) hp with q | q <;> omega
  · intro s hs
    unfold splitSt at hs
    rw [if_neg (by omega), if_neg (by omega)] at hs
    subst hs
    exact impl_split_end t u v a c r1 r2 (by omega)
theorem cutR_len (t : List Int) (i j : Nat) (h : t.length ≤ 23) : (cutR t i j).1.length ≤ 100 ∧ (cutR t i j).2.1.length ≤ 100 := by
  simp only [cutR, List.length_append, List.length_take, List.length_drop]
  omega
theorem split_both (t : List Int) (u v : Int) : ∃ r : List Int × List Int × Bool, Ev (fun k => spec_SplitTour.f k t u v) r ∧ Ev (fun k => impl_SplitTour.f k t u v) r ∧ r.1.length ≤ 100 ∧ r.2.1.length ≤ 100 := by
  by_cases hto : tourOk t = true
  · have htl : 1 ≤ t.length ∧ t.length ≤ 23 := by
      have := tourOk_lenB hto
      omega
    rcases occ_cut (tourOk_occ hto u v) with hno | ⟨A, C, D, p, c, hc⟩
    · refine ⟨([], [], false), ?_, ?_, by simp, by simp⟩
      · simp only [spec_SplitTour.f, Option.bind_some]
        refine Ev.bind (spec_TourOk_ev t) ?_
        simp only [if_pos hto]
        refine Ev.bind (spec_l06Going_ev t u v htl.1 (by omega)) ?_
        rw [findR_miss _ _ (fun k _ hk => decide_eq_false (fun e => hno k (by omega) (.inl e)))]
        refine Ev.bind (spec_l06Going_ev t v u htl.1 (by omega)) ?_
        rw [findR_miss _ _ (fun k _ hk => decide_eq_false (fun e => hno k (by omega) (.inr e)))]
        simp only [if_pos (show (-1 : Int) < 0 by omega)]
        refine Ev.step (fun k => by rw [spec_SplitTour.j0, if_pos rfl]) ?_
        exact Ev.now _
      · simp only [impl_SplitTour.f]
        refine Ev.bind (impl_TourOk_ev t) ?_
        simp only [if_pos hto]
        have := Ev.loopR (σ := Int × Int) (L := fun k s x => impl_SplitTour.l0 k t u v s.1 s.2 x) (n := t.length - 1) (fun _ _ => ([], [], false)) (fun _ s => s = (-1, -1)) ?_ ?_ (t.length - 1) 0 (-1, -1) (by omega) rfl
        · exact this
        · intro k s hk hs
          right
          refine ⟨s, hs, rfl, fun r hr => ?_⟩
          exact impl_split_no t u v (by omega) _ _ k (by omega) (hno k (by omega)) hr
        · intro s hs
          subst hs
          have w0 : wrap64 (((t.length - 1 : Nat) : Int) + 1) = (t.length : Int) := by rw [wrap_p1 _ (by omega)]; omega
          refine Ev.step (fun k => by rw [impl_SplitTour.l0, w0, if_neg (by omega), if_pos (by omega)]) ?_
          exact Ev.now _
    · have hl := cutR_len t A.length (A.length + C.length) htl.2
      exact ⟨cutR t A.length (A.length + C.length), spec_split_yes hto htl hc, impl_split_go hto htl hc, hl.1, hl.2⟩
  · refine ⟨([], [], false), ?_, ?_, by simp, by simp⟩
    · simp only [spec_SplitTour.f, Option.bind_some]
      refine Ev.bind (spec_TourOk_ev t) ?_
      simp only [if_neg hto]
      exact Ev.now _
    · simp only [impl_SplitTour.f]
      refine Ev.bind (impl_TourOk_ev t) ?_
      simp only [if_neg hto]
      exact Ev.now _

theorem FnExactSplitTour : laws_FnExactSplitTour.Pure := by
  intro t u v hl hl2 hw hu hv
  refine Ev.rounds (g := fun k => laws_FnExactSplitTour.f k t u v) ?_
  simp only [laws_FnExactSplitTour.f]
  by_cases h : (t.length : Int) > 1048576
  · simp only [if_pos h]; exact Ev.now _
  · have hl3 : t.length ≤ 1048576 := by omega
    obtain ⟨⟨r1, r2, r3⟩, hs, hi, hr1, hr2⟩ := split_both t u v
    simp only at hr1 hr2
    simp only [if_neg h]
    refine Ev.bind (laws_toIntS_ev t hl3) ?_
    refine Ev.bind hs ?_
    refine Ev.bind (laws_toIntS_ev t hl3) ?_
    refine Ev.bind hi ?_
    refine Ev.bind (laws_eqIntS_refl r1 (by omega)) ?_
    simp only [if_true]
    refine Ev.bind (laws_eqIntS_refl r2 (by omega)) ?_
    simp only [if_true, bne_self_eq_false]
    refine Ev.step (fun k => by rw [laws_FnExactSplitTour.j0, if_neg (by simp)]) ?_
    refine Ev.bind (laws_toIntS_ev t hl3) ?_
    refine Ev.bind (laws_eqIntS_refl t (by omega)) ?_
    simp only [if_true]
    refine Ev.bind (laws_markIntS_ev t 1 (by omega) (by omega) (by omega)) ?_
    simp only [if_neg (show ¬ (1 + (t.length : Int) < 0) by omega)]
    refine Ev.bind (laws_eqIntS_refl r1 (by omega)) ?_
    simp only [if_true]
    refine Ev.bind (laws_eqIntS_refl r2 (by omega)) ?_
    simp only [if_true, bne_self_eq_false]
    refine Ev.step (fun k => by rw [laws_FnExactSplitTour.j1, if_neg (by simp)]) ?_
    refine Ev.bind (laws_markIntS_ev r1 1 (by omega) (by omega) (by omega)) ?_
    refine Ev.bind (laws_markIntS_ev r2 (1 + (r1.length : Int)) (by omega) (by omega) (by omega)) ?_
    refine Ev.bind (laws_heldIntS_ev 1 r1.length (by omega) (by omega) (by omega)) ?_
    simp only [if_neg (show ¬ (1 + (r1.length : Int) < 0) by omega)]
    refine Ev.bind (laws_heldIntS_ev (1 + (r1.length : Int)) r2.length (by omega) (by omega) (by omega)) ?_
    simp only [if_neg (show ¬ (1 + (r1.length : Int) + (r2.length : Int) < 0) by omega), if_true]
    refine Ev.bind (laws_toIntS_ev t hl3) ?_
    refine Ev.bind hi ?_
    refine Ev.bind (laws_eqIntS_refl r1 (by omega)) ?_
    simp only [if_true]
    refine Ev.bind (laws_eqIntS_refl r2 (by omega)) ?_
    simp only [if_true, bne_self_eq_false]
    refine Ev.step (fun k => by rw [laws_FnExactSplitTour.j2, if_neg (by simp)]) ?_
    refine Ev.bind (laws_heldIntS_ev 1 r1.length (by omega) (by omega) (by omega)) ?_
    simp only [if_neg (show ¬ (1 + (r1.length : Int) < 0) by omega)]
    refine Ev.bind (laws_heldIntS_ev (1 + (r1.length : Int)) r2.length (by omega) (by omega) (by omega)) ?_
    simp only [if_neg (show ¬ (1 + (r1.length : Int) + (r2.length : Int) < 0) by omega), if_true]
    exact Ev.now _

end Go.Proofs.Ytigeiofkbccocaa.Pure
