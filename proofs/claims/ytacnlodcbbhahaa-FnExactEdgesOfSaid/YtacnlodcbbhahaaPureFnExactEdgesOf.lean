/- For every forest EdgesOf of the program and of the reference tell the same, in memory of its own. No condition is laid beside the statement. -/
import Derived.Test.YtacnlodcbbhahaaHFnExactEdgesOf
import Derived.Test.YtacnlodcbbhahaaQFnExactEdgesOfx14
import Derived.Laws.BitsLemmas
import Derived.Lib.Bytes
import Derived.OpenShut
namespace Go.Proofs.Ytacnlodcbbhahaa.Pure
open Go.RowKit Go.Proofs.Ytacnlodcbbhahaa.QFnExactEdgesOf Go.Proofs.YtacnlodcbbhahaaW.PrintWords Go.Proofs.YtacnlodcbbhahaaW.PrintLast
set_option linter.unusedVariables false
set_option linter.unusedSimpArgs false


/-! loops in general -/
theorem wrap_succ {i n : Nat} (h : i < n) (hn : n ≤ 4611686018427387904) : wrap64 ((i : Int) + 1) = ((i + 1 : Nat) : Int) := by unfold wrap64; omega
theorem Ev.loopR {σ β : Type} {L : Nat → σ → Int → Option β} {n : Nat} (R : Nat → σ → β) (I : Nat → σ → Prop)
    (hstep : ∀ (i : Nat) s, i < n → I i s → Ev (fun k => L k s i) (R i s) ∨ ∃ s', I (i + 1) s' ∧ R i s = R (i + 1) s' ∧ ∀ r, Ev (fun k => L k s' ((i + 1 : Nat) : Int)) r → Ev (fun k => L k s i) r)
    (hend : ∀ s, I n s → Ev (fun k => L k s n) (R n s)) : ∀ (d i : Nat) (s : σ), i + d = n → I i s → Ev (fun k => L k s i) (R i s) := by
  intro d
  induction d with
  | zero =>
    intro i s hi hI
    have : i = n := by omega
    subst this
    exact hend s hI
  | succ d ih =>
    intro i s hi hI
    rcases hstep i s (by omega) hI with h | ⟨s', h1, h2, h3⟩
    · exact h
    · rw [h2]
      exact h3 _ (ih (i + 1) s' (by omega) h1)
/-- A loop that builds by appending. -/
theorem Ev.apploop {β γ : Type} {L : Nat → List γ → Int → Option β} {n : Nat} (g : Nat → List γ) (fin : List γ → β) (a0 : List γ)
    (hstep : ∀ (i : Nat) x r, i < n → x = a0 ++ (List.range i).flatMap g → Ev (fun k => L k (x ++ g i) ((i + 1 : Nat) : Int)) r → Ev (fun k => L k x i) r)
    (hend : ∀ x, x = a0 ++ (List.range n).flatMap g → Ev (fun k => L k x n) (fin x)) : Ev (fun k => L k a0 0) (fin (a0 ++ (List.range n).flatMap g)) := by
  have key := Ev.loopR (L := L) (n := n) (fun _ _ => fin (a0 ++ (List.range n).flatMap g)) (fun i x => x = a0 ++ (List.range i).flatMap g) (by
    intro i x hi hx
    right
    refine ⟨x ++ g i, by rw [hx, List.range_succ, List.flatMap_append]; simp, rfl, fun r hr => hstep i x r hi hx hr⟩) (by
    intro x hx
    have := hend x hx
    rw [hx] at this ⊢
    exact this)
  exact key n 0 a0 (by omega) (by simp)
/-- A loop that writes every element of a row. -/
theorem Ev.setloop' {β γ : Type} {L : Nat → List γ → Int → Option β} {n : Nat} (g : Nat → γ) (x0 : List γ) (h0 : x0.length = n) (fin : List γ → β)
    (hstep : ∀ (i : Nat) x r, i < n → x.length = n → Ev (fun k => L k (x.set i (g i)) ((i + 1 : Nat) : Int)) r → Ev (fun k => L k x i) r)
    (hend : ∀ x, x.length = n → Ev (fun k => L k x n) (fin x)) : Ev (fun k => L k x0 0) (fin ((List.range n).map g)) := by
  have key := Ev.loopR (L := L) (n := n) (fun _ _ => fin ((List.range n).map g)) (fun i x => x.length = n ∧ ∀ j, j < i → x[j]? = some (g j)) (by
    intro i x hi hx
    right
    refine ⟨x.set i (g i), ⟨by rw [List.length_set]; exact hx.1, fun j hj => ?_⟩, rfl, fun r hr => hstep i x r hi hx.1 hr⟩
    by_cases hji : j = i
    · subst hji
      rw [List.getElem?_set_self (by omega)]
    · rw [List.getElem?_set_ne (by omega)]
      exact hx.2 j (by omega)) (by
    intro x hx
    have hxe : x = (List.range n).map g := by
      apply List.ext_getElem?
      intro j
      by_cases hj : j < n
      · rw [hx.2 j hj]; simp [hj]
      · rw [List.getElem?_eq_none (by omega), List.getElem?_eq_none (by simp; omega)]
    rw [← hxe]
    exact hend x hx.1)
  exact key n 0 _ (by omega) ⟨h0, fun j hj => by omega⟩
/-- A loop that fills what was made. -/
theorem Ev.setloop {β γ : Type} {L : Nat → List γ → Int → Option β} {n : Nat} (g : Nat → γ) (z : γ) (fin : List γ → β)
    (hstep : ∀ (i : Nat) x r, i < n → x.length = n → Ev (fun k => L k (x.set i (g i)) ((i + 1 : Nat) : Int)) r → Ev (fun k => L k x i) r)
    (hend : ∀ x, x.length = n → Ev (fun k => L k x n) (fin x)) : Ev (fun k => L k (List.replicate n z) 0) (fin ((List.range n).map g)) :=
  Ev.setloop' g _ (by simp) fin hstep hend
/-- A loop that asks something of each index. -/
theorem Ev.allloop {β : Type} {L : Nat → Int → Option β} {n : Nat} (p : Nat → Bool) (c fin : β)
    (hstep : ∀ (i : Nat) r, i < n → p i = true → Ev (fun k => L k ((i + 1 : Nat) : Int)) r → Ev (fun k => L k i) r)
    (hno : ∀ (i : Nat), i < n → p i = false → Ev (fun k => L k i) c)
    (hend : Ev (fun k => L k n) fin) : Ev (fun k => L k 0) (if (List.range n).all p then fin else c) := by
  have key := Ev.loopR (σ := Unit) (L := fun k _ i => L k i) (n := n) (fun i _ => if (List.range' i (n - i)).all p then fin else c) (fun _ _ => True) (by
    intro i _ hi _
    have e : List.range' i (n - i) = i :: List.range' (i + 1) (n - (i + 1)) := by
      have : n - i = (n - (i + 1)) + 1 := by omega
      rw [this, List.range'_succ]
    cases hp : p i with
    | true => right; exact ⟨(), trivial, by rw [e, List.all_cons, hp, Bool.true_and], fun r hr => hstep i r hi hp hr⟩
    | false => left; rw [e, List.all_cons, hp, Bool.false_and]; exact hno i hi hp) (by
    intro _ _
    simpa using hend)
  have := key n 0 () (by omega) trivial
  rw [List.range_eq_range']
  simpa using this
theorem range_map_getD {α β : Type} (l : List α) (d : α) (h : α → β) : (List.range l.length).map (fun i => h (l.getD i d)) = l.map h := by
  apply List.ext_getElem
  · simp
  · intro i h1 h2
    simp at h1 h2
    simp [List.getD_eq_getElem?_getD, List.getElem?_eq_getElem h2]
theorem range_flatMap_getD {α β : Type} (l : List α) (d : α) (h : α → List β) : (List.range l.length).flatMap (fun i => h (l.getD i d)) = l.flatMap h := by
  have := congrArg List.flatten (range_map_getD l d h)
  rw [List.flatMap_def, List.flatMap_def]; exact this
theorem range_all_getD {α : Type} (l : List α) (d : α) (h : α → Bool) : (List.range l.length).all (fun i => h (l.getD i d)) = l.all h := by
  have := congrArg (fun l => l.all id) (range_map_getD l d h)
  simpa [List.all_map] using this
/-- A loop that asks something of each index; what comes behind it is known where the answer is yes. -/
theorem Ev.allloop3 {β : Type} {L : Nat → Int → Option β} {n : Nat} (p : Nat → Bool) (c fin : β)
    (hstep : ∀ (i : Nat) r, i < n → (∀ j, j < i → p j = true) → (p i = true → Ev (fun k => L k ((i + 1 : Nat) : Int)) r) → Ev (fun k => L k i) (if p i = true then r else c))
    (hend : (∀ j, j < n → p j = true) → Ev (fun k => L k n) fin) : Ev (fun k => L k 0) (if (List.range n).all p = true then fin else c) := by
  have key : ∀ (d i : Nat), i + d = n → (∀ j, j < i → p j = true) → Ev (fun k => L k i) (if (List.range' i d).all p = true then fin else c) := by
    intro d
    induction d with
    | zero => intro i hi hp; have : i = n := by omega
              subst this; simpa using hend hp
    | succ d ih =>
      intro i hi hp
      rw [List.range'_succ, List.all_cons]
      by_cases hpi : p i = true
      · have := hstep i _ (by omega) hp (fun _ => ih (i + 1) (by omega) (fun j hj => by
          by_cases hji : j = i
          · rw [hji]; exact hpi
          · exact hp j (by omega)))
        rw [if_pos hpi] at this
        rw [hpi, Bool.true_and]; exact this
      · have := hstep i c (by omega) hp (fun h => absurd h hpi)
        rw [if_neg hpi] at this
        rw [Bool.eq_false_iff.2 hpi, Bool.false_and]; exact this
  have := key n 0 (by omega) (fun j hj => by omega)
  rw [List.range_eq_range']
  exact this

theorem spec_in_eq (a b c : Int) : spec_l01In.f a b c = some (decide (b ≤ a ∧ a ≤ c)) := by
  unfold spec_l01In.f
  by_cases h : a ≥ b
  · have h' : b ≤ a := h
    simp [h']
  · have h' : ¬ b ≤ a := h
    simp [h']
theorem impl_in_eq (a b c : Int) : impl_in.f a b c = some (decide (b ≤ a ∧ a ≤ c)) := by
  unfold impl_in.f
  by_cases h : a ≥ b
  · have h' : b ≤ a := h
    simp [h']
  · have h' : ¬ b ≤ a := h
    simp [h']

/-! the law's own functions over rows of numbers -/
theorem laws_toIntS_ev (l : List Int) (hl : l.length ≤ 1048576) : Ev (fun k => laws_toIntS.f k l) l := by
  simp only [laws_toIntS.f, if_pos (show (0 : Int) ≤ (l.length : Int) by omega), Int.toNat_natCast, if_pos (show l.length ≤ 35184372088832 by omega)]
  have := Ev.setloop (L := fun k x i => laws_toIntS.l0 k l x i) (n := l.length) (fun i => l.getD i 0) 0 id (by
    intro i x r hi hx h
    refine Ev.step (fun k => by rw [laws_toIntS.l0, if_pos (by omega), if_pos (by omega), if_pos (by omega), rd, Int.toNat_natCast, wrap_succ hi (by omega)]) ?_
    exact h) (by
    intro x hx
    refine Ev.step (fun k => by rw [laws_toIntS.l0, if_neg (by omega)]) ?_
    exact Ev.now _)
  have e : (List.range l.length).map (fun i => l.getD i 0) = l := by
    have := range_map_getD l 0 (id : Int → Int)
    simpa using this
  rw [e] at this
  exact this

theorem laws_eqIntS_refl (l : List Int) (hl : l.length ≤ 4611686018427387904) : Ev (fun k => laws_eqIntS.f k l l) true := by
  simp only [laws_eqIntS.f, if_true]
  have := Ev.allloop (L := fun k i => laws_eqIntS.l0 k l l i) (n := l.length) (fun _ => true) false true (by
    intro i r hi _ h
    refine Ev.step (fun k => by rw [laws_eqIntS.l0, if_pos (by omega), if_pos (by omega), if_pos (by omega), if_pos rfl, wrap_succ hi hl]) ?_
    exact h) (by intro i _ h; cases h) (by
    refine Ev.step (fun k => by rw [laws_eqIntS.l0, if_neg (by omega)]) ?_
    exact Ev.now _)
  simpa using this

/-! is a number in a row? -/
theorem mem_range_getD {l : List Int} {v : Int} : (∀ i, i < l.length → (!decide (l.getD i 0 = v)) = true) ↔ v ∉ l := by
  constructor
  · intro h hv
    obtain ⟨i, hi, rfl⟩ := List.mem_iff_getElem.1 hv
    have := h i hi
    simp [List.getD_eq_getElem?_getD, List.getElem?_eq_getElem hi] at this
  · intro h i hi
    simp only [Bool.not_eq_true', decide_eq_false_iff_not]
    intro he
    apply h
    rw [← he]
    simp [List.getD_eq_getElem?_getD, List.getElem?_eq_getElem hi]
theorem all_not_mem (l : List Int) (v : Int) : (if (List.range l.length).all (fun i => !decide (l.getD i 0 = v)) then false else true) = decide (v ∈ l) := by
  by_cases h : v ∈ l
  · have : ¬ (List.range l.length).all (fun i => !decide (l.getD i 0 = v)) = true := by
      rw [List.all_eq_true]
      intro hh
      exact mem_range_getD.1 (fun i hi => hh i (List.mem_range.2 hi)) h
    rw [if_neg this, decide_eq_true h]
  · have : (List.range l.length).all (fun i => !decide (l.getD i 0 = v)) = true := by
      rw [List.all_eq_true]
      intro i hi
      exact mem_range_getD.2 h i (List.mem_range.1 hi)
    rw [if_pos this, decide_eq_false h]

theorem spec_l05In_ev (l : List Int) (v : Int) (hl : l.length ≤ 4611686018427387904) : Ev (fun k => spec_l05In.f k l v) (decide (v ∈ l)) := by
  simp only [spec_l05In.f]
  rw [← all_not_mem]
  refine Ev.allloop (L := fun k i => spec_l05In.l0 k l v i) (n := l.length) (fun i => !decide (l.getD i 0 = v)) true false ?_ ?_ ?_
  · intro i r hi hp h
    simp only [Bool.not_eq_true', decide_eq_false_iff_not] at hp
    refine Ev.step (fun k => by rw [spec_l05In.l0, if_pos (by omega), if_pos (by omega), rd, Int.toNat_natCast, if_neg hp, wrap_succ hi hl]) ?_
    exact h
  · intro i hi hp
    simp only [Bool.not_eq_false', decide_eq_true_eq] at hp
    refine Ev.step (fun k => by rw [spec_l05In.l0, if_pos (by omega), if_pos (by omega), rd, Int.toNat_natCast, if_pos hp]) ?_
    exact Ev.now _
  · refine Ev.step (fun k => by rw [spec_l05In.l0, if_neg (by omega)]) ?_
    exact Ev.now _

theorem impl_hasInt_ev (l : List Int) (v : Int) (hl : l.length ≤ 4611686018427387904) : Ev (fun k => impl_hasInt.f k l v) (decide (v ∈ l)) := by
  simp only [impl_hasInt.f]
  rw [← all_not_mem]
  refine Ev.allloop (L := fun k i => impl_hasInt.l0 k v l l.length i) (n := l.length) (fun i => !decide (l.getD i 0 = v)) true false ?_ ?_ ?_
  · intro i r hi hp h
    simp only [Bool.not_eq_true', decide_eq_false_iff_not] at hp
    refine Ev.step (fun k => by rw [impl_hasInt.l0, if_pos (by omega), if_pos (by omega), if_pos (by omega), rd, Int.toNat_natCast, if_neg hp, wrap_succ hi hl]) ?_
    exact h
  · intro i hi hp
    simp only [Bool.not_eq_false', decide_eq_true_eq] at hp
    refine Ev.step (fun k => by rw [impl_hasInt.l0, if_pos (by omega), if_pos (by omega), if_pos (by omega), rd, Int.toNat_natCast, if_pos hp]) ?_
    exact Ev.now _
  · refine Ev.step (fun k => by rw [impl_hasInt.l0, if_neg (by omega)]) ?_
    exact Ev.now _

/-! tours that are right -/
def inR (x : Int) : Bool := decide (0 ≤ x ∧ x ≤ 11)
def trun : List Int → List Int → List Int → Bool
  | [], path, _ => ((path.length : Int) == 1)
  | v :: l, path, met => if 1 < path.length ∧ path.getD (path.length - 2) 0 = v then trun l (path.take (path.length - 1)) met else (if v ∈ met then false else trun l (path ++ [v]) (met ++ [v]))
def trunI : List Int → List Int → List Int → Bool
  | [], path, _ => ((path.length : Int) == 1)
  | v :: l, path, met => if 1 < path.length ∧ path.getD (path.length - 2) 0 = v then trunI l (path.take (path.length - 1)) met else (if inR v = true then (if v ∈ met then false else trunI l (path ++ [v]) (met ++ [v])) else false)
theorem trunI_eq : ∀ (l path met : List Int), (∀ x ∈ path, inR x = true) → trunI l path met = (l.all inR && trun l path met)
  | [], path, met, h => by simp [trunI, trun]
  | v :: l, path, met, h => by
    rw [trunI, trun, List.all_cons]
    by_cases c : 1 < path.length ∧ path.getD (path.length - 2) 0 = v
    · have hv : inR v = true := by
        rw [← c.2]
        apply h
        have : path.length - 2 < path.length := by omega
        rw [List.getD_eq_getElem?_getD, List.getElem?_eq_getElem this]
        exact List.getElem_mem this
      rw [if_pos c, if_pos c, trunI_eq l _ met (fun x hx => h x (List.mem_of_mem_take hx)), hv, Bool.true_and]
    · rw [if_neg c, if_neg c]
      by_cases hv : inR v = true
      · rw [if_pos hv, hv, Bool.true_and]
        by_cases hm : v ∈ met
        · rw [if_pos hm, if_pos hm, Bool.and_false]
        · rw [if_neg hm, if_neg hm]
          refine trunI_eq l _ _ (fun x hx => ?_)
          rcases List.mem_append.mp hx with hx | hx
          · exact h x hx
          · simp at hx; rw [hx]; exact hv
      · rw [if_neg hv, Bool.eq_false_iff.2 hv]
        simp
def tourOk (l : List Int) : Bool := decide (1 ≤ (l.length : Int) ∧ (l.length : Int) ≤ 23) && (l.all inR && match l with
  | [] => false
  | r :: t => trun t [r] [r])
theorem all_range_inR (l : List Int) : (List.range l.length).all (fun i => inR (l.getD i 0)) = l.all inR := range_all_getD l 0 inR

theorem spec_l06Open_l0_ev (l : List Int) (hl : l.length ≤ 1000) : ∀ (d i : Nat) (path met : List Int), i + d = l.length → path.length ≤ i → met.length ≤ i → 1 ≤ path.length →
    Ev (fun k => spec_l06Open.l0 k l path met i) (trun (l.drop i) path met) := by
  intro d
  induction d with
  | zero =>
    intro i path met hi hp hm h3
    rw [List.drop_of_length_le (by omega), trun]
    refine Ev.step (fun k => by rw [spec_l06Open.l0, if_neg (by omega)]) ?_
    exact Ev.now _
  | succ d ih =>
    intro i path met hi hp hm h3
    have hil : i < l.length := by omega
    have hg : rd l (i : Int) = l[i] := by simp [rd, List.getD_eq_getElem?_getD, List.getElem?_eq_getElem hil]
    rw [List.drop_eq_getElem_cons hil, trun]
    have hj : ∀ b : Bool, (b = true → 1 < path.length) → Ev (fun k => spec_l06Open.j1 k l path met i b) (if b = true then trun (l.drop (i + 1)) (path.take (path.length - 1)) met else (if l[i] ∈ met then false else trun (l.drop (i + 1)) (path ++ [l[i]]) (met ++ [l[i]]))) := by
      intro b hb
      cases b with
      | true =>
        have hb := hb rfl
        have e : wrap64 ((path.length : Int) - 1) = ((path.length - 1 : Nat) : Int) := by unfold wrap64; omega
        rw [if_pos rfl]
        refine Ev.step (fun k => by rw [spec_l06Open.j1, if_pos rfl, e, if_pos (by omega), if_pos (by omega), Int.toNat_natCast, wrap_succ hil (by omega)]) ?_
        exact ih (i + 1) _ _ (by omega) (by rw [List.length_take]; omega) (by omega) (by rw [List.length_take]; omega)
      | false =>
        rw [if_neg (by simp)]
        refine Ev.step (fun k => by rw [spec_l06Open.j1, if_neg (by simp), if_pos (by omega), if_pos (by omega), hg, wrap_succ hil (by omega)]) ?_
        refine Ev.bind (spec_l05In_ev met l[i] (by omega)) ?_
        by_cases hm2 : l[i] ∈ met
        · simp only [decide_eq_true hm2, if_true, if_pos hm2]; exact Ev.now _
        · simp only [decide_eq_false hm2, Bool.false_eq_true, if_false, if_neg hm2, if_pos (show met.length < 17592186044416 by omega), if_pos (show path.length < 17592186044416 by omega)]
          exact ih (i + 1) _ _ (by omega) (by simp; omega) (by simp; omega) (by simp)
    by_cases c1 : (path.length : Int) > 1
    · have e2 : wrap64 ((path.length : Int) - 2) = ((path.length - 2 : Nat) : Int) := by unfold wrap64; omega
      refine Ev.step (fun k => by rw [spec_l06Open.l0, if_pos (by omega), if_pos c1, if_pos (by omega), e2, if_pos (by omega), if_pos (by omega), hg]) ?_
      have := hj (l[i] == rd path ((path.length - 2 : Nat) : Int)) (fun _ => by omega)
      have e3 : (if (l[i] == rd path ((path.length - 2 : Nat) : Int)) = true then trun (l.drop (i + 1)) (path.take (path.length - 1)) met else (if l[i] ∈ met then false else trun (l.drop (i + 1)) (path ++ [l[i]]) (met ++ [l[i]]))) = (if 1 < path.length ∧ path.getD (path.length - 2) 0 = l[i] then trun (l.drop (i + 1)) (path.take (path.length - 1)) met else (if l[i] ∈ met then false else trun (l.drop (i + 1)) (path ++ [l[i]]) (met ++ [l[i]]))) := by
        have e4 : rd path ((path.length - 2 : Nat) : Int) = path.getD (path.length - 2) 0 := by simp [rd]
        rw [e4]
        by_cases c : path.getD (path.length - 2) 0 = l[i]
        · rw [if_pos (by rw [c]; simp), if_pos ⟨by omega, c⟩]
        · rw [if_neg (by simp only [beq_iff_eq]; exact fun h => c h.symm), if_neg (show ¬ (1 < path.length ∧ path.getD (path.length - 2) 0 = l[i]) from fun h => c h.2)]
      rw [← e3]
      exact this
    · refine Ev.step (fun k => by rw [spec_l06Open.l0, if_pos (by omega), if_neg c1]) ?_
      rw [if_neg (show ¬ (1 < path.length ∧ path.getD (path.length - 2) 0 = l[i]) by omega)]
      have := hj false (fun h => by cases h)
      rw [if_neg (show ¬ (false = true) by simp)] at this
      exact this
theorem spec_l06Open_ev (r : Int) (t : List Int) (hl : t.length ≤ 900) : Ev (fun k => spec_l06Open.f k (r :: t)) (trun t [r] [r]) := by
  have e : rd (r :: t) 0 = r := rfl
  simp only [spec_l06Open.f, if_pos (show (0 : Int) < ((r :: t).length : Int) by rw [List.length_cons]; omega), e]
  have := spec_l06Open_l0_ev (r :: t) (by simp; omega) t.length 1 [r] [r] (by simp; omega) (by simp) (by simp) (by simp)
  simpa using this
theorem spec_TourOk_ev (l : List Int) : Ev (fun k => spec_TourOk.f k l) (tourOk l) := by
  simp only [spec_TourOk.f, spec_in_eq, Option.bind_some, tourOk]
  by_cases h : 1 ≤ (l.length : Int) ∧ (l.length : Int) ≤ 23
  · simp only [decide_eq_true h, if_true, Bool.true_and]
    cases l with
    | nil => simp at h
    | cons r t =>
      have := Ev.allloop (L := fun k i => spec_TourOk.l0 k (r :: t) i) (n := (r :: t).length) (fun i => inR ((r :: t).getD i 0)) false (trun t [r] [r]) ?_ ?_ ?_
      · rw [all_range_inR] at this
        have e : ((r :: t).all inR && trun t [r] [r]) = if (r :: t).all inR = true then trun t [r] [r] else false := by
          cases (r :: t).all inR <;> rfl
        simp only
        rw [e]
        exact this
      · intro i r1 hi hp hh
        unfold inR at hp
        refine Ev.step (fun k => by rw [spec_TourOk.l0, if_pos (by omega), if_pos (by omega), rd, Int.toNat_natCast, spec_in_eq, Option.bind_some, if_pos hp, wrap_succ hi (by omega)]) ?_
        exact hh
      · intro i hi hp
        unfold inR at hp
        refine Ev.step (fun k => by rw [spec_TourOk.l0, if_pos (by omega), if_pos (by omega), rd, Int.toNat_natCast, spec_in_eq, Option.bind_some, hp, if_neg (by simp)]) ?_
        exact Ev.now _
      · refine Ev.step (fun k => by rw [spec_TourOk.l0, if_neg (by omega)]) ?_
        exact Ev.bind (spec_l06Open_ev r t (by simp at h; omega)) (Ev.now _)
  · simp only [decide_eq_false h, Bool.false_eq_true, if_false, Bool.false_and]
    exact Ev.now _

theorem impl_TourOk_l0_ev (l : List Int) (hl : l.length ≤ 1000) : ∀ (d i : Nat) (path met : List Int), i + d = l.length → path.length ≤ i + 1 → met.length ≤ i + 1 → 1 ≤ path.length →
    Ev (fun k => impl_TourOk.l0 k path met l l.length i) (trunI (l.drop i) path met) := by
  intro d
  induction d with
  | zero =>
    intro i path met hi hp hm h3
    rw [List.drop_of_length_le (by omega), trunI]
    refine Ev.step (fun k => by rw [impl_TourOk.l0, if_neg (by omega)]) ?_
    exact Ev.now _
  | succ d ih =>
    intro i path met hi hp hm h3
    have hil : i < l.length := by omega
    have hg : rd l (i : Int) = l[i] := by simp [rd, List.getD_eq_getElem?_getD, List.getElem?_eq_getElem hil]
    rw [List.drop_eq_getElem_cons hil, trunI]
    have hj : ∀ b : Bool, (b = true → 1 < path.length) → Ev (fun k => impl_TourOk.j2 k path met l[i] path.length l l.length i b) (if b = true then trunI (l.drop (i + 1)) (path.take (path.length - 1)) met else (if inR l[i] = true then (if l[i] ∈ met then false else trunI (l.drop (i + 1)) (path ++ [l[i]]) (met ++ [l[i]])) else false)) := by
      intro b hb
      cases b with
      | true =>
        have hb := hb rfl
        have e : wrap64 ((path.length : Int) - 1) = ((path.length - 1 : Nat) : Int) := by unfold wrap64; omega
        rw [if_pos rfl]
        refine Ev.step (fun k => by rw [impl_TourOk.j2, if_pos rfl, e, if_pos (by omega), if_pos (by omega), Int.toNat_natCast, wrap_succ hil (by omega)]) ?_
        exact ih (i + 1) _ _ (by omega) (by rw [List.length_take]; omega) (by omega) (by rw [List.length_take]; omega)
      | false =>
        rw [if_neg (by simp)]
        refine Ev.step (fun k => by rw [impl_TourOk.j2, if_neg (by simp), impl_in_eq, Option.bind_some, wrap_succ hil (by omega)]) ?_
        unfold inR
        by_cases hr : 0 ≤ l[i] ∧ l[i] ≤ 11
        · simp only [decide_eq_true hr, if_true]
          refine Ev.bind (impl_hasInt_ev met l[i] (by omega)) ?_
          by_cases hm2 : l[i] ∈ met
          · simp only [decide_eq_true hm2, if_true, if_pos hm2]; exact Ev.now _
          · simp only [decide_eq_false hm2, Bool.false_eq_true, if_false, if_neg hm2, if_pos (show met.length < 17592186044416 by omega), if_pos (show path.length < 17592186044416 by omega)]
            exact ih (i + 1) _ _ (by omega) (by simp; omega) (by simp; omega) (by simp)
        · simp only [decide_eq_false hr, Bool.false_eq_true, if_false]; exact Ev.now _
    by_cases c1 : (path.length : Int) > 1
    · have e2 : wrap64 ((path.length : Int) - 2) = ((path.length - 2 : Nat) : Int) := by unfold wrap64; omega
      refine Ev.step (fun k => by rw [impl_TourOk.l0, if_pos (by omega), if_pos (by omega), if_pos (by omega), if_pos c1, e2, if_pos (by omega), if_pos (by omega), hg]) ?_
      have := hj (rd path ((path.length - 2 : Nat) : Int) == l[i]) (fun _ => by omega)
      have e3 : (if (rd path ((path.length - 2 : Nat) : Int) == l[i]) = true then trunI (l.drop (i + 1)) (path.take (path.length - 1)) met else (if inR l[i] = true then (if l[i] ∈ met then false else trunI (l.drop (i + 1)) (path ++ [l[i]]) (met ++ [l[i]])) else false)) = (if 1 < path.length ∧ path.getD (path.length - 2) 0 = l[i] then trunI (l.drop (i + 1)) (path.take (path.length - 1)) met else (if inR l[i] = true then (if l[i] ∈ met then false else trunI (l.drop (i + 1)) (path ++ [l[i]]) (met ++ [l[i]])) else false)) := by
        have e4 : rd path ((path.length - 2 : Nat) : Int) = path.getD (path.length - 2) 0 := by simp [rd]
        rw [e4]
        by_cases c : path.getD (path.length - 2) 0 = l[i]
        · rw [if_pos (by rw [c]; simp), if_pos ⟨by omega, c⟩]
        · rw [if_neg (by simp only [beq_iff_eq]; exact fun h => c h), if_neg (show ¬ (1 < path.length ∧ path.getD (path.length - 2) 0 = l[i]) from fun h => c h.2)]
      rw [← e3]
      exact this
    · refine Ev.step (fun k => by rw [impl_TourOk.l0, if_pos (by omega), if_pos (by omega), if_pos (by omega), if_neg c1, hg]) ?_
      rw [if_neg (show ¬ (1 < path.length ∧ path.getD (path.length - 2) 0 = l[i]) by omega)]
      have := hj false (fun h => by cases h)
      rw [if_neg (show ¬ (false = true) by simp)] at this
      exact this
theorem impl_TourOk_ev (l : List Int) : Ev (fun k => impl_TourOk.f k l) (tourOk l) := by
  simp only [impl_TourOk.f, impl_in_eq, Option.bind_some, tourOk]
  have hno : Ev (fun k => impl_TourOk.j0 k l true) false := by
    refine Ev.step (fun k => by rw [impl_TourOk.j0, if_pos rfl]) ?_
    exact Ev.now _
  by_cases h : 1 ≤ (l.length : Int) ∧ (l.length : Int) ≤ 23
  · simp only [decide_eq_true h, if_true, Bool.true_and]
    cases l with
    | nil => simp at h
    | cons r t =>
      have e : rd (r :: t) 0 = r := rfl
      have hlt : (0 : Int) < ((r :: t).length : Int) := by rw [List.length_cons]; omega
      simp only [if_pos hlt, e]
      by_cases hr : 0 ≤ r ∧ r ≤ 11
      · simp only [decide_eq_true hr, Bool.not_true]
        refine Ev.step (fun k => by rw [impl_TourOk.j0, if_neg (by simp), if_pos hlt, if_pos (by omega), e]) ?_
        have hr2 : inR r = true := by unfold inR; exact decide_eq_true hr
        have := impl_TourOk_l0_ev t (by simp at h; omega) t.length 0 [r] [r] (by omega) (by simp) (by simp) (by simp)
        rw [List.drop_zero, trunI_eq t [r] [r] (by simp [hr2])] at this
        simp only [List.all_cons, hr2, Bool.true_and]
        exact this
      · simp only [decide_eq_false hr, Bool.not_false]
        have hr2 : inR r = false := by unfold inR; exact decide_eq_false hr
        simp only [List.all_cons, hr2, Bool.false_and]
        exact hno
  · simp only [decide_eq_false h, Bool.false_eq_true, if_false, Bool.false_and]
    exact hno

/-! ascending rows -/
theorem asc_ext : ∀ {l m : List Int}, l.Pairwise (· < ·) → m.Pairwise (· < ·) → (∀ x, x ∈ l ↔ x ∈ m) → l = m
  | [], [], _, _, _ => rfl
  | [], b :: m, _, _, h => absurd ((h b).2 List.mem_cons_self) (by simp)
  | a :: l, [], _, _, h => absurd ((h a).1 List.mem_cons_self) (by simp)
  | a :: l, b :: m, hl, hm, h => by
    rw [List.pairwise_cons] at hl hm
    have hab : a = b := by
      have h1 := (h a).1 List.mem_cons_self
      have h2 := (h b).2 List.mem_cons_self
      rcases List.mem_cons.1 h1 with e | e
      · exact e
      · rcases List.mem_cons.1 h2 with e2 | e2
        · exact e2.symm
        · have := hm.1 a e; have := hl.1 b e2; omega
    subst hab
    rw [asc_ext hl.2 hm.2 (fun x => ⟨fun hx => by
      rcases List.mem_cons.1 ((h x).1 (List.mem_cons_of_mem _ hx)) with e | e
      · have := hl.1 x hx; omega
      · exact e, fun hx => by
      rcases List.mem_cons.1 ((h x).2 (List.mem_cons_of_mem _ hx)) with e | e
      · have := hm.1 x hx; omega
      · exact e⟩)]
def insS : List Int → Int → List Int
  | [], n => [n]
  | x :: l, n => if x < n then x :: insS l n else if x = n then x :: l else n :: x :: l
theorem insS_mem {n y : Int} : ∀ {l : List Int}, y ∈ insS l n ↔ y = n ∨ y ∈ l
  | [] => by simp [insS]
  | x :: l => by
    rw [insS]
    split
    · rw [List.mem_cons, insS_mem, List.mem_cons]
      constructor
      · rintro (h | h | h) <;> simp [h]
      · rintro (h | h | h) <;> simp [h]
    · split
      · rename_i h; subst h; simp
      · simp
theorem insS_asc {n : Int} : ∀ {l : List Int}, l.Pairwise (· < ·) → (insS l n).Pairwise (· < ·)
  | [], _ => by simp [insS]
  | x :: l, h => by
    rw [insS]
    have h' := List.pairwise_cons.1 h
    split
    · rename_i hx
      refine List.pairwise_cons.2 ⟨fun y hy => ?_, insS_asc h'.2⟩
      rcases insS_mem.1 hy with e | e
      · omega
      · exact h'.1 y e
    · split
      · exact h
      · refine List.pairwise_cons.2 ⟨fun y hy => ?_, h⟩
        rcases List.mem_cons.1 hy with e | e
        · omega
        · have := h'.1 y e; omega
theorem insS_len (n : Int) : ∀ (l : List Int), (insS l n).length ≤ l.length + 1
  | [] => by simp [insS]
  | x :: l => by
    rw [insS]
    have := insS_len n l
    split
    · simp; omega
    · split <;> simp

theorem impl_copyInts_eq (l : List Int) (hl : l.length < 17592186044416) : impl_copyInts.f l = some l := by
  simp [impl_copyInts.f, hl]
theorem impl_with_ev (l : List Int) (n : Int) (hl : l.length ≤ 1048576) : Ev (fun k => impl_with.f k l n) (insS l n) := by
  simp only [impl_with.f]
  have key : ∀ (d i : Nat), i + d = l.length → Ev (fun k => impl_with.l0 k l n i) (l.take i ++ insS (l.drop i) n) := by
    intro d
    induction d with
    | zero =>
      intro i hi
      have hcp : impl_copyInts.f (l.take ((i : Nat) : Int).toNat) = some (l.take i) := by
        rw [Int.toNat_natCast]; exact impl_copyInts_eq _ (by rw [List.length_take]; omega)
      refine Ev.step (fun k => by rw [impl_with.l0, if_neg (by omega), if_pos (by omega), if_pos (by omega), hcp]) ?_
      simp only [Option.bind_some, List.length_take, List.length_singleton, List.length_append, List.length_drop, Int.toNat_natCast]
      rw [if_pos (by omega), if_pos (by omega), List.drop_of_length_le (by omega), insS, List.append_nil]
      exact Ev.now _
    | succ d ih =>
      intro i hi
      have hil : i < l.length := by omega
      have hg : rd l (i : Int) = l[i] := by simp [rd, List.getD_eq_getElem?_getD, List.getElem?_eq_getElem hil]
      have hcp : impl_copyInts.f (l.take ((i : Nat) : Int).toNat) = some (l.take i) := by
        rw [Int.toNat_natCast]; exact impl_copyInts_eq _ (by rw [List.length_take]; omega)
      rw [List.drop_eq_getElem_cons hil, insS]
      by_cases h1 : l[i] < n
      · rw [if_pos h1]
        have := ih (i + 1) (by omega)
        rw [List.take_succ_eq_append_getElem hil, List.append_assoc] at this
        refine Ev.step (fun k => by rw [impl_with.l0, if_pos (by omega), if_pos (by omega), hg, if_pos h1, wrap_succ hil (by omega)]) ?_
        exact this
      · rw [if_neg h1]
        by_cases h2 : l[i] = n
        · rw [if_pos h2, ← List.drop_eq_getElem_cons hil, List.take_append_drop]
          refine Ev.step (fun k => by rw [impl_with.l0, if_pos (by omega), if_pos (by omega), hg, if_neg h1, if_pos h2]) ?_
          exact Ev.now _
        · rw [if_neg h2]
          refine Ev.step (fun k => by rw [impl_with.l0, if_pos (by omega), if_pos (by omega), hg, if_neg h1, if_neg h2, if_pos (by omega), hcp]) ?_
          simp only [Option.bind_some, List.length_take, List.length_singleton, List.length_append, List.length_drop, Int.toNat_natCast]
          rw [if_pos (by omega), if_pos (by omega), ← List.drop_eq_getElem_cons hil]
          have e : l.take i ++ n :: l.drop i = l.take i ++ [n] ++ l.drop i := by simp
          rw [e]
          exact Ev.now _
  have := key l.length 0 (by omega)
  simpa using this

/-! the vertices of a tour -/
def vertsP (l : List Int) : List Int := ((List.range 12).filter (fun (i : Nat) => decide ((i : Int) ∈ l))).map (fun (i : Nat) => (i : Int))
theorem range_asc (p : Nat → Bool) : ∀ n : Nat, (((List.range n).filter p).map (fun (i : Nat) => (i : Int))).Pairwise (· < ·) := by
  intro n
  rw [List.pairwise_map]
  refine List.Pairwise.filter _ ?_
  refine List.Pairwise.imp ?_ List.pairwise_lt_range
  intro a b h; omega
theorem range_flatMap_if (p : Nat → Bool) (n : Nat) : (List.range n).flatMap (fun i => if p i then [(i : Int)] else []) = ((List.range n).filter p).map (fun (i : Nat) => (i : Int)) := by
  induction n with
  | zero => rfl
  | succ n ih =>
    rw [List.range_succ, List.flatMap_append, ih, List.filter_append, List.map_append]
    congr 1
    by_cases h : p n
    · simp [h]
    · simp [h]
theorem vertsP_asc (l : List Int) : (vertsP l).Pairwise (· < ·) := range_asc _ _
theorem vertsP_mem {l : List Int} {x : Int} : x ∈ vertsP l ↔ x ∈ l ∧ 0 ≤ x ∧ x ≤ 11 := by
  unfold vertsP
  simp only [List.mem_map, List.mem_filter, List.mem_range, decide_eq_true_eq]
  constructor
  · rintro ⟨i, ⟨h1, h2⟩, rfl⟩; exact ⟨h2, by omega, by omega⟩
  · rintro ⟨h1, h2, h3⟩
    refine ⟨x.toNat, ⟨by omega, ?_⟩, by omega⟩
    rwa [Int.toNat_of_nonneg h2]
theorem vertsP_len (l : List Int) : (vertsP l).length ≤ 12 := by
  unfold vertsP
  rw [List.length_map]
  exact Nat.le_trans (List.length_filter_le _ _) (by simp)
theorem tourOk_mem {l : List Int} (h : tourOk l = true) : 1 ≤ l.length ∧ l.length ≤ 23 ∧ ∀ x ∈ l, 0 ≤ x ∧ x ≤ 11 := by
  unfold tourOk at h
  rw [Bool.and_eq_true, Bool.and_eq_true, List.all_eq_true] at h
  have h1 := of_decide_eq_true h.1
  refine ⟨by omega, by omega, fun x hx => ?_⟩
  have := h.2.1 x hx
  unfold inR at this
  exact of_decide_eq_true this
theorem tour_verts {l : List Int} (h : tourOk l = true) {x : Int} : x ∈ vertsP l ↔ x ∈ l := by
  rw [vertsP_mem]
  exact ⟨fun h => h.1, fun hx => ⟨hx, (tourOk_mem h).2.2 x hx⟩⟩
theorem tour_verts_pos {l : List Int} (h : tourOk l = true) : 1 ≤ (vertsP l).length := by
  have h1 := (tourOk_mem h).1
  cases l with
  | nil => simp at h1
  | cons a l =>
    have : a ∈ vertsP (a :: l) := (tour_verts h).2 List.mem_cons_self
    exact List.length_pos_of_mem this

theorem spec_VertsOf_ev (l : List Int) (hl : l.length ≤ 1048576) : Ev (fun k => spec_VertsOf.f k l) (vertsP l) := by
  simp only [spec_VertsOf.f]
  have := Ev.apploop (L := fun k x i => spec_VertsOf.l0 k l x i) (n := 12) (fun i => if decide ((i : Int) ∈ l) then [(i : Int)] else []) id [] ?_ ?_
  · rw [List.nil_append, range_flatMap_if] at this
    exact this
  · intro i x r hi hx h
    have hxl : x.length ≤ 12 := by
      rw [hx, List.nil_append, range_flatMap_if, List.length_map]
      exact Nat.le_trans (List.length_filter_le _ _) (by simp; omega)
    refine Ev.step (fun k => by rw [spec_VertsOf.l0, if_pos (by omega), wrap_succ hi (by omega)]) ?_
    refine Ev.bind (spec_l05In_ev l _ (by omega)) ?_
    by_cases c : (i : Int) ∈ l
    · simp only [decide_eq_true c, if_true, if_pos (show x.length < 17592186044416 by omega)] at h ⊢
      exact h
    · simp only [decide_eq_false c, Bool.false_eq_true, if_false, List.append_nil] at h ⊢
      exact h
  · intro x hx
    refine Ev.step (fun k => by rw [spec_VertsOf.l0, if_neg (by omega)]) ?_
    exact Ev.now _

theorem insF_mem {x : Int} : ∀ {l acc : List Int}, x ∈ l.foldl insS acc ↔ x ∈ acc ∨ x ∈ l
  | [], acc => by simp
  | e :: l, acc => by
    rw [List.foldl_cons, insF_mem, insS_mem, List.mem_cons]
    constructor
    · rintro ((h | h) | h) <;> simp [h]
    · rintro (h | h | h) <;> simp [h]
theorem insF_asc : ∀ {l acc : List Int}, acc.Pairwise (· < ·) → (l.foldl insS acc).Pairwise (· < ·)
  | [], _, h => h
  | e :: l, acc, h => by rw [List.foldl_cons]; exact insF_asc (insS_asc h)
theorem insF_verts {l : List Int} (h : ∀ x ∈ l, 0 ≤ x ∧ x ≤ 11) : l.foldl insS [] = vertsP l := by
  refine asc_ext (insF_asc List.Pairwise.nil) (vertsP_asc l) (fun x => ?_)
  rw [insF_mem, vertsP_mem]
  simp only [List.not_mem_nil, false_or]
  exact ⟨fun hx => ⟨hx, h x hx⟩, fun h => h.1⟩
theorem impl_VertsOf_ev (l : List Int) (hl : l.length ≤ 1000) (h : ∀ x ∈ l, 0 ≤ x ∧ x ≤ 11) : Ev (fun k => impl_VertsOf.f k l) (vertsP l) := by
  simp only [impl_VertsOf.f]
  rw [← insF_verts h]
  have := Ev.loopR (σ := List Int) (L := fun k s i => impl_VertsOf.l0 k s l (l.length : Int) i) (n := l.length) (fun i s => (l.drop i).foldl insS s) (fun i s => s.length ≤ i) ?_ ?_ l.length 0 [] (by omega) (by simp)
  · simpa using this
  · intro i s hi hs
    right
    have hg : rd l (i : Int) = l[i] := by simp [rd, List.getD_eq_getElem?_getD, List.getElem?_eq_getElem hi]
    refine ⟨insS s l[i], ?_, ?_, ?_⟩
    · have := insS_len l[i] s; omega
    · rw [List.drop_eq_getElem_cons hi, List.foldl_cons]
    · intro r hr
      refine Ev.step (fun k => by rw [impl_VertsOf.l0, if_pos (by omega), if_pos (by omega), if_pos (by omega), hg, wrap_succ hi (by omega)]) ?_
      refine Ev.bind (impl_with_ev s _ (by omega)) ?_
      exact hr
  · intro s hs
    refine Ev.step (fun k => by rw [impl_VertsOf.l0, if_neg (by omega)]) ?_
    simp only [List.drop_length, List.foldl_nil]
    exact Ev.now _

/-! forests in the law's own functions -/
theorem laws_szIntS_eq (l : List Int) (a : Int) (hl : l.length ≤ 9223372036854775807) (h0 : 0 ≤ a) (h1 : a ≤ 1048576) : laws_szIntS.f l a = some (if a - l.length < 0 then -1 else a - l.length) := by
  unfold laws_szIntS.f
  have : wrap64 (a - (l.length : Int)) = a - l.length := by unfold wrap64; omega
  rw [this]
  split <;> rfl
def szr : List (List Int) → Int → Int
  | [], a => a
  | x :: L, a => if a - x.length < 0 then -1 else szr L (a - x.length)
def szF (L : List (List Int)) (a : Int) : Int := if a - L.length < 0 then -1 else szr L (a - L.length)
theorem szr_bound : ∀ (L : List (List Int)) (a : Int), 0 ≤ szr L a → ∀ x ∈ L, (x.length : Int) ≤ a
  | [], _, _ => by simp
  | x :: L, a, h => by
    rw [szr] at h
    split at h
    · omega
    · intro y hy
      rcases List.mem_cons.1 hy with e | e
      · subst e; omega
      · have := szr_bound L _ h y e; omega
theorem szF_bound {L : List (List Int)} {a : Int} (h : ¬ szF L a < 0) : (L.length : Int) ≤ a ∧ ∀ x ∈ L, (x.length : Int) ≤ a := by
  unfold szF at h
  split at h
  · omega
  · refine ⟨by omega, fun x hx => ?_⟩
    have := szr_bound L (a - L.length) (by omega) x hx
    omega
theorem laws_szForest_ev (n : Int) (L : List (List Int)) (hl : L.length ≤ 9223372036854775807) (hL : ∀ x ∈ L, x.length ≤ 9223372036854775807) : Ev (fun k => laws_szForest.f k n L 1048576) (if szF L 1048576 < 0 then -1 else szF L 1048576) := by
  simp only [laws_szForest.f, laws_szIntSS.f]
  refine Ev.bind (a := szF L 1048576) ?_ ?_
  · unfold szF
    have e : wrap64 (1048576 - (L.length : Int)) = 1048576 - L.length := by unfold wrap64; omega
    rw [e]
    by_cases h : (1048576 : Int) - L.length < 0
    · simp only [if_pos h]; exact Ev.now _
    · simp only [if_neg h]
      have := Ev.loopR (σ := Int) (L := fun k s i => laws_szIntSS.l0 k L s i) (n := L.length) (fun i s => szr (L.drop i) s) (fun i s => 0 ≤ s ∧ s ≤ 1048576) ?_ ?_ L.length 0 (1048576 - L.length) (by omega) (by omega)
      · simpa using this
      · intro i s hi hs
        have hg : rd_L1 L (i : Int) = L[i] := by simp [rd_L1, List.getD_eq_getElem?_getD, List.getElem?_eq_getElem hi]
        have hz := laws_szIntS_eq L[i] s (hL _ (List.getElem_mem hi)) hs.1 hs.2
        by_cases c : s - (L[i].length : Int) < 0
        · left
          rw [List.drop_eq_getElem_cons hi, szr, if_pos c]
          refine Ev.step (fun k => by rw [laws_szIntSS.l0, if_pos (by omega), if_pos (by omega), hg, hz, if_pos c, Option.bind_some, if_pos (by omega)]) ?_
          exact Ev.now _
        · right
          refine ⟨s - L[i].length, by omega, ?_, ?_⟩
          · rw [List.drop_eq_getElem_cons hi, szr, if_neg c]
          · intro r hr
            refine Ev.step (fun k => by rw [laws_szIntSS.l0, if_pos (by omega), if_pos (by omega), hg, hz, if_neg c, Option.bind_some, if_neg c, wrap_succ hi (by omega)]) ?_
            exact hr
      · intro s hs
        refine Ev.step (fun k => by rw [laws_szIntSS.l0, if_neg (by omega)]) ?_
        simp only [List.drop_length, szr]
        exact Ev.now _
  · by_cases h : szF L 1048576 < 0
    · simp only [if_pos h]; exact Ev.now _
    · simp only [if_neg h]; exact Ev.now _
theorem laws_toForest_ev (n : Int) (L : List (List Int)) (hl : L.length ≤ 1048576) (hL : ∀ x ∈ L, x.length ≤ 1048576) : Ev (fun k => laws_toForest.f k n L) (n, L) := by
  simp only [laws_toForest.f]
  refine Ev.bind (a := L) ?_ (Ev.now _)
  simp only [laws_toIntSS.f, if_pos (show (0 : Int) ≤ (L.length : Int) by omega), Int.toNat_natCast, if_pos (show L.length ≤ 11728124029610 by omega)]
  have := Ev.setloop (L := fun k x i => laws_toIntSS.l0 k L x i) (n := L.length) (fun i => L.getD i []) [] id (by
    intro i x r hi hx h
    have hg : rd_L1 L (i : Int) = L.getD i [] := by simp [rd_L1]
    have hm : (L.getD i []).length ≤ 1048576 := by
      rw [List.getD_eq_getElem?_getD, List.getElem?_eq_getElem hi]; exact hL _ (List.getElem_mem hi)
    refine Ev.step (fun k => by rw [laws_toIntSS.l0, if_pos (by omega), if_pos (by omega), hg]) ?_
    refine Ev.bind (laws_toIntS_ev _ hm) ?_
    simp only [if_pos (show (i : Int) < (x.length : Int) by omega), wrap_succ hi (show L.length ≤ 4611686018427387904 by omega), Int.toNat_natCast]
    exact h) (by
    intro x hx
    refine Ev.step (fun k => by rw [laws_toIntSS.l0, if_neg (by omega)]) ?_
    exact Ev.now _)
  have e := range_map_getD L [] (fun x => x)
  simp only [List.map_id'] at e
  rw [e] at this
  exact this
theorem laws_eqForest_refl (n : Int) (L : List (List Int)) (hl : L.length ≤ 1048576) (hL : ∀ x ∈ L, x.length ≤ 1048576) : Ev (fun k => laws_eqForest.f k n L n L) true := by
  simp only [laws_eqForest.f, if_true]
  refine Ev.bind (a := true) ?_ (Ev.now _)
  simp only [laws_eqIntSS.f, if_true]
  have := Ev.allloop (L := fun k i => laws_eqIntSS.l0 k L L i) (n := L.length) (fun _ => true) false true (by
    intro i r hi _ h
    have hm : (rd_L1 L (i : Int)).length ≤ 4611686018427387904 := by
      have := hL _ (List.getElem_mem hi)
      have hg : rd_L1 L (i : Int) = L[i] := by simp [rd_L1, List.getD_eq_getElem?_getD, List.getElem?_eq_getElem hi]
      rw [hg]; omega
    refine Ev.step (fun k => by rw [laws_eqIntSS.l0, if_pos (by omega), if_pos (by omega), if_pos (by omega), wrap_succ hi (by omega)]) ?_
    refine Ev.bind (laws_eqIntS_refl _ hm) ?_
    simp only [if_true]
    exact h) (by intro i _ h; cases h) (by
    refine Ev.step (fun k => by rw [laws_eqIntSS.l0, if_neg (by omega)]) ?_
    exact Ev.now _)
  simpa using this

/-! forests that are right -/
def headV (l : List Int) : Int := (vertsP l).getD 0 0
def fokAt (n : Int) (L : List (List Int)) (i : Nat) : Bool := decide (tourOk (L.getD i []) = true ∧ (∀ x ∈ L.getD i [], x < n) ∧ (i = 0 ∨ headV (L.getD (i - 1) []) < headV (L.getD i [])) ∧ ∀ k, k < i → ∀ x ∈ L.getD i [], x ∉ L.getD k [])
def sumV (L : List (List Int)) (i : Nat) : Nat := ((L.take i).flatMap vertsP).length
def forestOk (n : Int) (L : List (List Int)) : Bool := decide (1 ≤ n ∧ n ≤ 12) && (if (List.range L.length).all (fokAt n L) then decide ((sumV L L.length : Int) = n) else false)
theorem sumV_succ {L : List (List Int)} {i : Nat} (hi : i < L.length) : sumV L (i + 1) = sumV L i + (vertsP (L.getD i [])).length := by
  unfold sumV
  rw [List.take_succ_eq_append_getElem hi, List.flatMap_append, List.length_append]
  simp [List.getD_eq_getElem?_getD, List.getElem?_eq_getElem hi]
theorem fokAt_tour {n : Int} {L : List (List Int)} {i : Nat} (h : fokAt n L i = true) : tourOk (L.getD i []) = true := (of_decide_eq_true h).1
theorem sumV_ge {n : Int} {L : List (List Int)} : ∀ i, i ≤ L.length → (∀ j, j < i → fokAt n L j = true) → i ≤ sumV L i
  | 0, _, _ => Nat.zero_le _
  | i + 1, hi, h => by
    rw [sumV_succ (by omega)]
    have := sumV_ge i (by omega) (fun j hj => h j (by omega))
    have := tour_verts_pos (fokAt_tour (h i (by omega)))
    omega
theorem sumV_le (L : List (List Int)) : ∀ i, i ≤ L.length → sumV L i ≤ 12 * i
  | 0, _ => by simp [sumV]
  | i + 1, hi => by
    rw [sumV_succ (by omega)]
    have := sumV_le L i (by omega)
    have := vertsP_len (L.getD i [])
    omega
theorem forestOk_iff {n : Int} {L : List (List Int)} : forestOk n L = true ↔ (1 ≤ n ∧ n ≤ 12) ∧ (∀ i, i < L.length → fokAt n L i = true) ∧ (sumV L L.length : Int) = n := by
  unfold forestOk
  rw [Bool.and_eq_true, decide_eq_true_eq]
  refine and_congr Iff.rfl ?_
  by_cases h : (List.range L.length).all (fokAt n L) = true
  · rw [if_pos h]
    rw [List.all_eq_true] at h
    exact ⟨fun h2 => ⟨fun i hi => h i (List.mem_range.2 hi), of_decide_eq_true h2⟩, fun h2 => decide_eq_true h2.2⟩
  · rw [if_neg h]
    constructor
    · intro h2; cases h2
    · intro h2
      refine absurd ?_ h
      rw [List.all_eq_true]
      exact fun i hi => h2.1 i (List.mem_range.1 hi)
theorem forestOk_len {n : Int} {L : List (List Int)} (h : forestOk n L = true) : L.length ≤ 12 := by
  obtain ⟨h1, h2, h3⟩ := forestOk_iff.1 h
  have := sumV_ge L.length (Nat.le_refl _) h2
  omega
theorem forestOk_tour {n : Int} {L : List (List Int)} (h : forestOk n L = true) {l : List Int} (hl : l ∈ L) : tourOk l = true := by
  obtain ⟨h1, h2, h3⟩ := forestOk_iff.1 h
  obtain ⟨i, hi, rfl⟩ := List.mem_iff_getElem.1 hl
  have := fokAt_tour (h2 i hi)
  rwa [List.getD_eq_getElem?_getD, List.getElem?_eq_getElem hi] at this
theorem asc_last {v : List Int} (h : v.Pairwise (· < ·)) {x : Int} (hx : x ∈ v) : x ≤ v.getD (v.length - 1) 0 := by
  obtain ⟨i, hi, rfl⟩ := List.mem_iff_getElem.1 hx
  rw [List.getD_eq_getElem?_getD, List.getElem?_eq_getElem (by omega), Option.getD_some]
  by_cases e : i = v.length - 1
  · subst e; exact Int.le_refl _
  · have := List.pairwise_iff_getElem.1 h i (v.length - 1) hi (by omega) (by omega)
    omega
theorem getD_last_mem {v : List Int} (h : 1 ≤ v.length) : v.getD (v.length - 1) 0 ∈ v := by
  rw [List.getD_eq_getElem?_getD, List.getElem?_eq_getElem (by omega), Option.getD_some]
  exact List.getElem_mem _
theorem getD_len {L : List (List Int)} (hL : ∀ x ∈ L, x.length ≤ 1048576) (k : Nat) : (L.getD k []).length ≤ 1048576 := by
  by_cases hk : k < L.length
  · rw [List.getD_eq_getElem?_getD, List.getElem?_eq_getElem hk, Option.getD_some]
    exact hL _ (List.getElem_mem hk)
  · rw [List.getD_eq_getElem?_getD, List.getElem?_eq_none (by omega)]; simp

theorem spec_forest_l2 (n : Int) (L : List (List Int)) (s : Int) (i : Nat) (v : List Int) (hv : v.length ≤ 12) (k : Nat) (hk : k < L.length) (hkl : L.length ≤ 1048576) (hm : (L.getD k []).length ≤ 1048576) (r : Bool)
    (h : v.all (fun x => !decide (x ∈ L.getD k [])) = true → Ev (fun k' => spec_ForestOk.l1 k' s i v ((k + 1 : Nat) : Int) n L) r) :
    Ev (fun k' => spec_ForestOk.l2 k' s i v k 0 n L) (if v.all (fun x => !decide (x ∈ L.getD k [])) = true then r else false) := by
  have hg : ∀ k : Nat, rd_L1 L (k : Int) = L.getD k [] := fun k => by simp [rd_L1]
  have e := range_all_getD v 0 (fun x => !decide (x ∈ L.getD k []))
  have := Ev.allloop3 (L := fun k' j => spec_ForestOk.l2 k' s i v k j n L) (n := v.length) (fun j => !decide (v.getD j 0 ∈ L.getD k [])) false r ?_ ?_
  · rw [e] at this
    exact this
  · intro j r2 hj _ h2
    refine Ev.step (fun k' => by rw [spec_ForestOk.l2, if_pos (by omega), if_pos (by omega), if_pos (by omega), if_pos (by omega), hg, rd, Int.toNat_natCast, wrap_succ hj (by omega)]) ?_
    refine Ev.bind (spec_l05In_ev _ _ (by omega)) ?_
    by_cases hp : v.getD j 0 ∈ L.getD k []
    · simp only [decide_eq_true hp, if_true, Bool.not_true, Bool.false_eq_true, if_false]
      exact Ev.now _
    · simp only [decide_eq_false hp, Bool.false_eq_true, if_false, Bool.not_false, if_true] at h2 ⊢
      exact h2 trivial
  · intro hp
    refine Ev.step (fun k' => by rw [spec_ForestOk.l2, if_neg (by omega), wrap_succ hk (by omega)]) ?_
    refine h ?_
    rw [← e, List.all_eq_true]
    exact fun j hj => hp j (List.mem_range.1 hj)
theorem spec_forest_inner (n : Int) (L : List (List Int)) (hl : L.length ≤ 12) (hL : ∀ k, (L.getD k []).length ≤ 1048576) (i : Nat) (hi : i < L.length) (s : Int) (hs : tourOk (L.getD i []) = true) (r : Bool)
    (h : (∀ k, k < i → ∀ x ∈ L.getD i [], x ∉ L.getD k []) → Ev (fun k => spec_ForestOk.l0 k s ((i + 1 : Nat) : Int) n L) r) :
    Ev (fun k => spec_ForestOk.j2 k s i (vertsP (L.getD i [])) false n L) (if (∀ k, k < i → ∀ x ∈ L.getD i [], x ∉ L.getD k []) then r else false) := by
  have hv := vertsP_len (L.getD i [])
  have iff1 : (List.range i).all (fun k => (vertsP (L.getD i [])).all (fun x => !decide (x ∈ L.getD k []))) = true ↔ (∀ k, k < i → ∀ x ∈ L.getD i [], x ∉ L.getD k []) := by
    rw [List.all_eq_true]
    constructor
    · intro hc k hk x hx hx2
      have := hc k (List.mem_range.2 hk)
      rw [List.all_eq_true] at this
      have := this x ((tour_verts hs).2 hx)
      simp only [decide_eq_true hx2, Bool.not_true] at this
      cases this
    · intro c k hk
      rw [List.all_eq_true]
      intro x hx
      have := c k (List.mem_range.1 hk) x ((tour_verts hs).1 hx)
      simp only [decide_eq_false this, Bool.not_false]
  refine Ev.step (fun k => by rw [spec_ForestOk.j2, if_neg (by simp)]) ?_
  have := Ev.allloop3 (L := fun k j => spec_ForestOk.l1 k s i (vertsP (L.getD i [])) j n L) (n := i) (fun k => (vertsP (L.getD i [])).all (fun x => !decide (x ∈ L.getD k []))) false r ?_ ?_
  · have e : (if (∀ k, k < i → ∀ x ∈ L.getD i [], x ∉ L.getD k []) then r else false) = (if (List.range i).all (fun k => (vertsP (L.getD i [])).all (fun x => !decide (x ∈ L.getD k []))) = true then r else false) := by
      by_cases c : ∀ k, k < i → ∀ x ∈ L.getD i [], x ∉ L.getD k []
      · rw [if_pos c, if_pos (iff1.2 c)]
      · rw [if_neg c, if_neg (fun hh => c (iff1.1 hh))]
    rw [e]
    exact this
  · intro k r' hk _ h'
    refine Ev.step (fun k' => by rw [spec_ForestOk.l1, if_pos (by omega)]) ?_
    exact spec_forest_l2 n L s i _ hv k (by omega) (by omega) (hL k) r' h'
  · intro hp
    refine Ev.step (fun k' => by rw [spec_ForestOk.l1, if_neg (by omega), wrap_succ hi (by omega)]) ?_
    refine h (iff1.1 ?_)
    rw [List.all_eq_true]
    exact fun j hj => hp j (List.mem_range.1 hj)
theorem spec_forest_step (n : Int) (L : List (List Int)) (hl : L.length ≤ 12) (hL : ∀ k, (L.getD k []).length ≤ 1048576) (i : Nat) (hi : i < L.length) (hs : ∀ j, j < i → fokAt n L j = true) (r : Bool)
    (h : fokAt n L i = true → Ev (fun k => spec_ForestOk.l0 k (sumV L (i + 1)) ((i + 1 : Nat) : Int) n L) r) :
    Ev (fun k => spec_ForestOk.l0 k (sumV L i) i n L) (if fokAt n L i = true then r else false) := by
  have hg : ∀ k : Nat, rd_L1 L (k : Int) = L.getD k [] := fun k => by simp [rd_L1]
  have hv := vertsP_len (L.getD i [])
  refine Ev.step (fun k => by rw [spec_ForestOk.l0, if_pos (by omega), if_pos (by omega), hg]) ?_
  refine Ev.bind (spec_TourOk_ev _) ?_
  by_cases ht : tourOk (L.getD i []) = true
  · simp only [if_pos ht]
    refine Ev.bind (spec_VertsOf_ev _ (hL i)) ?_
    have hp := tour_verts_pos ht
    have e1 : wrap64 (((vertsP (L.getD i [])).length : Int) - 1) = (((vertsP (L.getD i [])).length - 1 : Nat) : Int) := by unfold wrap64; omega
    have hsum := sumV_le L i (by omega)
    have e2 : wrap64 ((sumV L i : Int) + ((vertsP (L.getD i [])).length : Int)) = (sumV L (i + 1) : Int) := by rw [sumV_succ hi]; unfold wrap64; omega
    have hr : rd (vertsP (L.getD i [])) (((vertsP (L.getD i [])).length - 1 : Nat) : Int) = (vertsP (L.getD i [])).getD ((vertsP (L.getD i [])).length - 1) 0 := by simp [rd]
    simp only [e1, e2, hr, if_pos (show (0 : Int) ≤ (((vertsP (L.getD i [])).length - 1 : Nat) : Int) by omega), if_pos (show (((vertsP (L.getD i [])).length - 1 : Nat) : Int) < ((vertsP (L.getD i [])).length : Int) by omega)]
    have hno : Ev (fun k => spec_ForestOk.j2 k (sumV L (i + 1)) i (vertsP (L.getD i [])) true n L) false := by
      refine Ev.step (fun k => by rw [spec_ForestOk.j2, if_pos rfl]) ?_
      exact Ev.now _
    by_cases hn : (vertsP (L.getD i [])).getD ((vertsP (L.getD i [])).length - 1) 0 ≥ n
    · simp only [if_pos hn]
      rw [if_neg ?_]
      · exact hno
      · intro hf
        have hf := of_decide_eq_true hf
        have := hf.2.1 _ ((tour_verts ht).1 (getD_last_mem hp))
        omega
    · simp only [if_neg hn]
      have hall : ∀ x ∈ L.getD i [], x < n := by
        intro x hx
        have := asc_last (vertsP_asc _) ((tour_verts ht).2 hx)
        omega
      have hfin : (i = 0 ∨ headV (L.getD (i - 1) []) < headV (L.getD i [])) → Ev (fun k => spec_ForestOk.j2 k (sumV L (i + 1)) i (vertsP (L.getD i [])) false n L) (if fokAt n L i = true then r else false) := by
        intro hd
        have hin := spec_forest_inner n L hl hL i hi (sumV L (i + 1)) ht r (fun hq => h (decide_eq_true ⟨ht, hall, hd, hq⟩))
        have e4 : (if fokAt n L i = true then r else false) = (if (∀ k, k < i → ∀ x ∈ L.getD i [], x ∉ L.getD k []) then r else false) := by
          by_cases hq : ∀ k, k < i → ∀ x ∈ L.getD i [], x ∉ L.getD k []
          · rw [if_pos hq, if_pos (show fokAt n L i = true from decide_eq_true ⟨ht, hall, hd, hq⟩)]
          · rw [if_neg hq, if_neg (show ¬ fokAt n L i = true from fun hf => hq (of_decide_eq_true hf).2.2.2)]
        rw [e4]
        exact hin
      by_cases hi0 : (i : Int) > 0
      · have e3 : wrap64 ((i : Int) - 1) = ((i - 1 : Nat) : Int) := by unfold wrap64; omega
        have hp' := tour_verts_pos (fokAt_tour (hs (i - 1) (by omega)))
        simp only [if_pos hi0, e3, if_pos (show (0 : Int) ≤ ((i - 1 : Nat) : Int) by omega), if_pos (show ((i - 1 : Nat) : Int) < (L.length : Int) by omega), hg]
        refine Ev.bind (spec_VertsOf_ev _ (hL (i - 1))) ?_
        simp only [if_pos (show (0 : Int) < ((vertsP (L.getD (i - 1) [])).length : Int) by omega), if_pos (show (0 : Int) < ((vertsP (L.getD i [])).length : Int) by omega)]
        have h0 : ∀ l, rd (vertsP l) 0 = headV l := fun l => by simp [rd, headV]
        simp only [h0]
        by_cases hc : headV (L.getD (i - 1) []) ≥ headV (L.getD i [])
        · simp only [decide_eq_true hc]
          rw [if_neg ?_]
          · exact hno
          · intro hf
            have hf := of_decide_eq_true hf
            rcases hf.2.2.1 with h1 | h1 <;> omega
        · simp only [decide_eq_false hc]
          exact hfin (.inr (by omega))
      · simp only [if_neg hi0]
        exact hfin (.inl (by omega))
  · simp only [if_neg ht]
    rw [if_neg (fun hf => ht (fokAt_tour hf))]
    exact Ev.now _
theorem spec_ForestOk_ev (n : Int) (L : List (List Int)) (hL : ∀ x ∈ L, x.length ≤ 1048576) : Ev (fun k => spec_ForestOk.f k n L) (forestOk n L) := by
  simp only [spec_ForestOk.f, spec_in_eq, Option.bind_some, decide_eq_true_eq]
  by_cases h1 : 1 ≤ n ∧ n ≤ 12
  · simp only [if_pos h1]
    by_cases h2 : (L.length : Int) > 12
    · simp only [decide_eq_true h2]
      refine Ev.step (fun k => by rw [spec_ForestOk.j0, if_pos rfl]) ?_
      have : forestOk n L = false := by
        rw [Bool.eq_false_iff]
        intro h
        have := forestOk_len h
        omega
      rw [this]
      exact Ev.now _
    · simp only [decide_eq_false h2]
      refine Ev.step (fun k => by rw [spec_ForestOk.j0, if_neg (by simp)]) ?_
      unfold forestOk
      rw [decide_eq_true h1, Bool.true_and]
      have := Ev.allloop3 (L := fun k i => spec_ForestOk.l0 k (sumV L i.toNat) i n L) (n := L.length) (fokAt n L) false (decide ((sumV L L.length : Int) = n)) ?_ ?_
      · simpa [sumV] using this
      · intro i r hi hs hr
        simp only [Int.toNat_natCast] at hr ⊢
        exact spec_forest_step n L (by omega) (getD_len hL) i hi hs r hr
      · intro _
        refine Ev.step (fun k => by rw [spec_ForestOk.l0, if_neg (by omega)]) ?_
        have e : ((sumV L L.length : Int) == n) = decide ((sumV L L.length : Int) = n) := by rfl
        simp only [Int.toNat_natCast]
        rw [e]
        exact Ev.now _
  · simp only [if_neg h1]
    refine Ev.step (fun k => by rw [spec_ForestOk.j0, if_pos rfl]) ?_
    unfold forestOk
    rw [decide_eq_false h1, Bool.false_and]
    exact Ev.now _

theorem mem_met {n : Int} {L : List (List Int)} {i : Nat} (hi : i ≤ L.length) (hs : ∀ j, j < i → fokAt n L j = true) {x : Int} : x ∈ (L.take i).flatMap vertsP ↔ ∃ k, k < i ∧ x ∈ L.getD k [] := by
  rw [List.mem_flatMap]
  constructor
  · rintro ⟨l, hl, hx⟩
    obtain ⟨k, hk, rfl⟩ := List.mem_iff_getElem.1 hl
    rw [List.length_take] at hk
    refine ⟨k, by omega, ?_⟩
    rw [List.getElem_take] at hx
    rw [List.getD_eq_getElem?_getD, List.getElem?_eq_getElem (by omega), Option.getD_some]
    exact (vertsP_mem.1 hx).1
  · rintro ⟨k, hk, hx⟩
    refine ⟨L.getD k [], ?_, (tour_verts (fokAt_tour (hs k hk))).2 hx⟩
    rw [List.getD_eq_getElem?_getD, List.getElem?_eq_getElem (by omega), Option.getD_some]
    exact List.mem_take_iff_getElem.2 ⟨k, by omega, rfl⟩
theorem impl_forest_step (n : Int) (L : List (List Int)) (hl : L.length ≤ 1048576) (hL : ∀ k, (L.getD k []).length ≤ 1048576) (i : Nat) (hi : i < L.length) (hs : ∀ j, j < i → fokAt n L j = true) (r : Bool)
    (h : fokAt n L i = true → Ev (fun k => impl_ForestOk.l0 k ((L.take (i + 1)).flatMap vertsP) L (L.length : Int) ((i + 1 : Nat) : Int) n L) r) :
    Ev (fun k => impl_ForestOk.l0 k ((L.take i).flatMap vertsP) L (L.length : Int) i n L) (if fokAt n L i = true then r else false) := by
  have hg : ∀ k : Nat, rd_L1 L (k : Int) = L.getD k [] := fun k => by simp [rd_L1]
  have hv := vertsP_len (L.getD i [])
  have hsum := sumV_le L i (by omega)
  unfold sumV at hsum
  refine Ev.step (fun k => by rw [impl_ForestOk.l0, if_pos (by omega), if_pos (by omega), if_pos (by omega), hg]) ?_
  refine Ev.bind (impl_TourOk_ev _) ?_
  by_cases ht : tourOk (L.getD i []) = true
  · simp only [if_pos ht]
    have htm := tourOk_mem ht
    refine Ev.bind (impl_VertsOf_ev _ (by omega) htm.2.2) ?_
    have hp := tour_verts_pos ht
    have iff1 : (List.range (vertsP (L.getD i [])).length).all (fun j => !decide ((vertsP (L.getD i [])).getD j 0 ≥ n) && !decide ((vertsP (L.getD i [])).getD j 0 ∈ (L.take i).flatMap vertsP)) = true ↔ ((∀ x ∈ L.getD i [], x < n) ∧ ∀ k, k < i → ∀ x ∈ L.getD i [], x ∉ L.getD k []) := by
      rw [range_all_getD (vertsP (L.getD i [])) 0 (fun x => !decide (x ≥ n) && !decide (x ∈ (L.take i).flatMap vertsP)), List.all_eq_true]
      constructor
      · intro hc
        refine ⟨fun x hx => ?_, fun k hk x hx hx2 => ?_⟩
        · have := hc x ((tour_verts ht).2 hx)
          simp only [Bool.and_eq_true, Bool.not_eq_true', decide_eq_false_iff_not] at this
          omega
        · have := hc x ((tour_verts ht).2 hx)
          simp only [Bool.and_eq_true, Bool.not_eq_true', decide_eq_false_iff_not] at this
          exact this.2 ((mem_met (by omega) hs).2 ⟨k, hk, hx2⟩)
      · rintro ⟨c1, c2⟩ x hx
        have hx := (tour_verts ht).1 hx
        have := c1 x hx
        simp only [Bool.and_eq_true, Bool.not_eq_true', decide_eq_false_iff_not]
        refine ⟨by omega, fun hm => ?_⟩
        obtain ⟨k, hk, hx2⟩ := (mem_met (by omega) hs).1 hm
        exact c2 k hk x hx hx2
    have := Ev.allloop3 (L := fun k j => impl_ForestOk.l1 k ((L.take i).flatMap vertsP) i (vertsP (L.getD i [])) L (L.length : Int) i (vertsP (L.getD i [])) ((vertsP (L.getD i [])).length : Int) j n L) (n := (vertsP (L.getD i [])).length) (fun j => !decide ((vertsP (L.getD i [])).getD j 0 ≥ n) && !decide ((vertsP (L.getD i [])).getD j 0 ∈ (L.take i).flatMap vertsP)) false (if fokAt n L i = true then r else false) ?_ ?_
    · have e : (if fokAt n L i = true then r else false) = (if (List.range (vertsP (L.getD i [])).length).all (fun j => !decide ((vertsP (L.getD i [])).getD j 0 ≥ n) && !decide ((vertsP (L.getD i [])).getD j 0 ∈ (L.take i).flatMap vertsP)) = true then (if fokAt n L i = true then r else false) else false) := by
        by_cases c : (List.range (vertsP (L.getD i [])).length).all (fun j => !decide ((vertsP (L.getD i [])).getD j 0 ≥ n) && !decide ((vertsP (L.getD i [])).getD j 0 ∈ (L.take i).flatMap vertsP)) = true
        · rw [if_pos c]
        · rw [if_neg c, if_neg (show ¬ fokAt n L i = true from fun hf => c (iff1.2 ⟨(of_decide_eq_true hf).2.1, (of_decide_eq_true hf).2.2.2⟩))]
      rw [e]
      exact this
    · intro j r2 hj _ h2
      refine Ev.step (fun k' => by rw [impl_ForestOk.l1, if_pos (by omega), if_pos (by omega), if_pos (by omega), rd, Int.toNat_natCast, wrap_succ hj (by omega)]) ?_
      by_cases hn : (vertsP (L.getD i [])).getD j 0 ≥ n
      · simp only [if_pos hn, decide_eq_true hn, Bool.not_true, Bool.false_and, Bool.false_eq_true, if_false]
        exact Ev.now _
      · simp only [if_neg hn, decide_eq_false hn, Bool.not_false, Bool.true_and] at h2 ⊢
        refine Ev.bind (impl_hasInt_ev _ _ (by omega)) ?_
        by_cases hm : (vertsP (L.getD i [])).getD j 0 ∈ (L.take i).flatMap vertsP
        · simp only [decide_eq_true hm, if_true, Bool.not_true, Bool.false_eq_true, if_false]
          exact Ev.now _
        · simp only [decide_eq_false hm, Bool.not_false, Bool.false_eq_true, if_false, if_true] at h2 ⊢
          exact h2 trivial
    · intro hpj
      have hc := iff1.1 (by rw [List.all_eq_true]; exact fun j hj => hpj j (List.mem_range.1 hj))
      have happ : (L.take i).flatMap vertsP ++ vertsP (L.getD i []) = (L.take (i + 1)).flatMap vertsP := by
        rw [List.take_succ_eq_append_getElem hi, List.flatMap_append]
        simp [List.getD_eq_getElem?_getD, List.getElem?_eq_getElem hi]
      refine Ev.step (fun k' => by rw [impl_ForestOk.l1, if_neg (by omega), if_pos (by omega), Option.bind_some, happ, wrap_succ hi (by omega)]) ?_
      by_cases hi0 : (i : Int) > 0
      · have e3 : wrap64 ((i : Int) - 1) = ((i - 1 : Nat) : Int) := by unfold wrap64; omega
        have htp := fokAt_tour (hs (i - 1) (by omega))
        have hp' := tour_verts_pos htp
        have htm' := tourOk_mem htp
        simp only [if_pos hi0, e3, if_pos (show (0 : Int) ≤ ((i - 1 : Nat) : Int) by omega), if_pos (show ((i - 1 : Nat) : Int) < (L.length : Int) by omega), hg]
        refine Ev.bind (impl_VertsOf_ev _ (by omega) htm'.2.2) ?_
        simp only [if_pos (show (0 : Int) < ((vertsP (L.getD (i - 1) [])).length : Int) by omega), if_pos (show (0 : Int) < ((vertsP (L.getD i [])).length : Int) by omega)]
        have h0 : ∀ l, rd (vertsP l) 0 = headV l := fun l => by simp [rd, headV]
        simp only [h0]
        by_cases hcc : headV (L.getD (i - 1) []) ≥ headV (L.getD i [])
        · simp only [if_pos hcc]
          rw [if_neg ?_]
          · exact Ev.now _
          · intro hf
            have hf := of_decide_eq_true hf
            rcases hf.2.2.1 with h1 | h1 <;> omega
        · simp only [if_neg hcc]
          have hf : fokAt n L i = true := decide_eq_true ⟨ht, hc.1, .inr (by omega), hc.2⟩
          rw [if_pos hf]
          exact h hf
      · simp only [if_neg hi0]
        have hf : fokAt n L i = true := decide_eq_true ⟨ht, hc.1, .inl (by omega), hc.2⟩
        rw [if_pos hf]
        exact h hf
  · simp only [if_neg ht]
    rw [if_neg (fun hf => ht (fokAt_tour hf))]
    exact Ev.now _
theorem impl_ForestOk_ev (n : Int) (L : List (List Int)) (hl : L.length ≤ 1048576) (hL : ∀ x ∈ L, x.length ≤ 1048576) : Ev (fun k => impl_ForestOk.f k n L) (forestOk n L) := by
  simp only [impl_ForestOk.f, impl_in_eq, Option.bind_some, decide_eq_true_eq]
  unfold forestOk
  by_cases h1 : 1 ≤ n ∧ n ≤ 12
  · simp only [if_pos h1]
    rw [decide_eq_true h1, Bool.true_and]
    have := Ev.allloop3 (L := fun k i => impl_ForestOk.l0 k ((L.take i.toNat).flatMap vertsP) L (L.length : Int) i n L) (n := L.length) (fokAt n L) false (decide ((sumV L L.length : Int) = n)) ?_ ?_
    · simpa using this
    · intro i r hi hs hr
      simp only [Int.toNat_natCast] at hr ⊢
      exact impl_forest_step n L hl (getD_len hL) i hi hs r hr
    · intro _
      refine Ev.step (fun k => by rw [impl_ForestOk.l0, if_neg (by omega)]) ?_
      simp only [Int.toNat_natCast]
      have e : ((((L.take L.length).flatMap vertsP).length : Int) == n) = decide ((sumV L L.length : Int) = n) := by rfl
      rw [e]
      exact Ev.now _
  · simp only [if_neg h1]
    rw [decide_eq_false h1, Bool.false_and]
    exact Ev.now _

/-! tours: a walk on a stack (the top first) -/
def stepT : List Int → List Int → Int → Option (List Int × List Int)
  | a :: b :: r, met, x => if b = x then some (b :: r, met) else (if x ∈ met then none else some (x :: a :: b :: r, met ++ [x]))
  | st, met, x => if x ∈ met then none else some (x :: st, met ++ [x])
def runT : List Int → List Int → List Int → Option (List Int × List Int)
  | [], st, met => some (st, met)
  | x :: l, st, met => (stepT st met x).bind fun p => runT l p.1 p.2
/-- What a step may be. -/
theorem stepT_cases {st met : List Int} {x : Int} {p : List Int × List Int} (h : stepT st met x = some p) :
    (∃ a r, st = a :: x :: r ∧ p = (x :: r, met)) ∨ (x ∉ met ∧ p = (x :: st, met ++ [x])) := by
  cases st with
  | nil =>
    simp only [stepT] at h
    split at h
    · cases h
    · rename_i hm; right; exact ⟨hm, (Option.some.inj h).symm⟩
  | cons a st =>
    cases st with
    | nil =>
      simp only [stepT] at h
      split at h
      · cases h
      · rename_i hm; right; exact ⟨hm, (Option.some.inj h).symm⟩
    | cons b r =>
      simp only [stepT] at h
      split at h
      · rename_i hb; subst hb; left; exact ⟨a, r, rfl, (Option.some.inj h).symm⟩
      · split at h
        · cases h
        · rename_i hm; right; exact ⟨hm, (Option.some.inj h).symm⟩
theorem run_cons {x : Int} {l st met : List Int} {r : List Int × List Int} (h : runT (x :: l) st met = some r) : ∃ p, stepT st met x = some p ∧ runT l p.1 p.2 = some r := by
  simp only [runT] at h
  exact Option.bind_eq_some_iff.1 h
theorem no_return {v : Int} : ∀ (l st met : List Int) {r : List Int × List Int}, runT l st met = some r → v ∈ met → v ∉ st → v ∉ r.1
  | [], st, met, r, h, hm, hs => by
    simp only [runT] at h
    rw [← Option.some.inj h]; exact hs
  | x :: l, st, met, r, h, hm, hs => by
    obtain ⟨p, h1, h2⟩ := run_cons h
    rcases stepT_cases h1 with ⟨a, q, rfl, rfl⟩ | ⟨hx, rfl⟩
    · exact no_return l _ _ h2 hm (fun hh => hs (List.mem_cons_of_mem _ hh))
    · refine no_return l _ _ h2 (List.mem_append_left _ hm) (fun hh => ?_)
      rcases List.mem_cons.mp hh with rfl | hh
      · exact hx hm
      · exact hs hh
theorem first_return {c v : Int} {P : List Int} {r : List Int} : ∀ (l A M : List Int), runT l (A ++ c :: v :: P) M = some (v :: P, r) →
    ∃ l1 l2 M1, l = l1 ++ v :: l2 ∧ runT l1 (A ++ c :: v :: P) M = some (c :: v :: P, M1) ∧ runT l2 (v :: P) M1 = some (v :: P, r)
  | [], A, M, h => by
    simp only [runT] at h
    have := congrArg (fun p => p.1.length) (Option.some.inj h)
    simp at this
    omega
  | x :: l, A, M, h => by
    obtain ⟨p, h1, h2⟩ := run_cons h
    rcases stepT_cases h1 with ⟨a, q, hst, rfl⟩ | ⟨hx, rfl⟩
    · cases A with
      | nil =>
        simp at hst
        obtain ⟨rfl, rfl, rfl⟩ := hst
        exact ⟨[], l, M, rfl, rfl, h2⟩
      | cons a' A' =>
        simp at hst
        obtain ⟨rfl, hst⟩ := hst
        have h2' : runT l (A' ++ c :: v :: P) M = some (v :: P, r) := by rw [hst]; exact h2
        obtain ⟨l1, l2, M1, rfl, g1, g2⟩ := first_return l A' M h2'
        refine ⟨x :: l1, l2, M1, rfl, ?_, g2⟩
        simp only [runT, List.cons_append] at h1 ⊢
        rw [h1]
        simp only [Option.bind_some]
        rw [← hst]; exact g1
    · obtain ⟨l1, l2, M1, rfl, g1, g2⟩ := first_return l (x :: A) (M ++ [x]) h2
      refine ⟨x :: l1, l2, M1, rfl, ?_, g2⟩
      simp only [runT]
      rw [h1]
      exact g1
theorem run_grammar {l P M M' : List Int} {v : Int} (h : runT l (v :: P) M = some (v :: P, M')) (hv : v ∈ M) (hvP : v ∉ P) :
    l = [] ∨ ∃ c l1 l2 M1, l = c :: l1 ++ v :: l2 ∧ c ∉ M ∧ runT l1 (c :: v :: P) (M ++ [c]) = some (c :: v :: P, M1) ∧ runT l2 (v :: P) M1 = some (v :: P, M') := by
  cases l with
  | nil => exact Or.inl rfl
  | cons c l =>
    right
    obtain ⟨p, h1, h2⟩ := run_cons h
    rcases stepT_cases h1 with ⟨a, q, hst, rfl⟩ | ⟨hx, rfl⟩
    · exfalso
      simp at hst
      obtain ⟨rfl, rfl⟩ := hst
      have := no_return (v := v) l _ _ h2 hv hvP
      simp at this
    · obtain ⟨l1, l2, M1, rfl, g1, g2⟩ := first_return (c := c) (v := v) (P := P) l [] (M ++ [c]) h2
      exact ⟨c, l1, l2, M1, rfl, hx, g1, g2⟩
/-- What a walk that comes back has met. -/
theorem run_met (n : Nat) : ∀ (l P M M' : List Int) (v : Int), l.length ≤ n → runT l (v :: P) M = some (v :: P, M') → (∀ x ∈ v :: P, x ∈ M) → (v :: P).Nodup →
    ∃ N, M' = M ++ N ∧ (∀ x ∈ N, x ∉ M) ∧ N.Nodup ∧ (∀ x ∈ l, x = v ∨ x ∈ N) ∧ (∀ x ∈ N, x ∈ l) := by
  induction n with
  | zero =>
    intro l P M M' v hn h hm hd
    have : l = [] := List.length_eq_zero_iff.1 (by omega)
    subst this
    simp only [runT] at h
    have := (Prod.mk.inj (Option.some.inj h)).2
    exact ⟨[], by simp [this], by simp, by simp, by simp, by simp⟩
  | succ n ih =>
    intro l P M M' v hn h hm hd
    rw [List.nodup_cons] at hd
    rcases run_grammar h (hm v (by simp)) hd.1 with rfl | ⟨c, l1, l2, M1, rfl, hc, g1, g2⟩
    · simp only [runT] at h
      have := (Prod.mk.inj (Option.some.inj h)).2
      exact ⟨[], by simp [this], by simp, by simp, by simp, by simp⟩
    · simp at hn
      have hcv : c ∉ v :: P := fun hh => hc (hm c hh)
      obtain ⟨N1, rfl, a2, a3, a4, a5⟩ := ih l1 (v :: P) (M ++ [c]) M1 c (by omega) g1 (by
        intro x hx
        rcases List.mem_cons.mp hx with rfl | hx
        · simp
        · exact List.mem_append_left _ (hm x hx)) (by rw [List.nodup_cons, List.nodup_cons]; exact ⟨hcv, hd⟩)
      obtain ⟨N2, rfl, b2, b3, b4, b5⟩ := ih l2 P (M ++ [c] ++ N1) M' v (by omega) g2 (fun x hx => by simp [hm x hx]) (by rw [List.nodup_cons]; exact hd)
      refine ⟨c :: N1 ++ N2, by simp, ?_, ?_, ?_, ?_⟩
      · intro x hx
        simp at hx
        rcases hx with rfl | hx | hx
        · exact hc
        · exact fun hh => a2 x hx (by simp [hh])
        · exact fun hh => b2 x hx (by simp [hh])
      · rw [List.nodup_append]
        refine ⟨?_, b3, ?_⟩
        · rw [List.nodup_cons]
          exact ⟨fun hh => a2 c hh (by simp), a3⟩
        · intro x hx y hy hxy
          subst hxy
          apply b2 x hy
          simp at hx ⊢
          rcases hx with rfl | hx
          · simp
          · simp [hx]
      · intro x hx
        simp at hx ⊢
        rcases hx with rfl | hx | rfl | hx
        · simp
        · rcases a4 x hx with rfl | h4
          · simp
          · simp [h4]
        · simp
        · rcases b4 x hx with rfl | h4
          · simp
          · simp [h4]
      · intro x hx
        simp at hx ⊢
        rcases hx with rfl | hx | hx
        · simp
        · simp [a5 x hx]
        · simp [b5 x hx]
/-! pairs of neighbours in a tour -/
theorem run_last (n : Nat) : ∀ (l P M M' : List Int) (v : Int), l.length ≤ n → runT l (v :: P) M = some (v :: P, M') → v ∈ M → v ∉ P → ∃ B, v :: l = B ++ [v] := by
  induction n with
  | zero =>
    intro l P M M' v hn h hm hd
    have : l = [] := List.length_eq_zero_iff.1 (by omega)
    subst this
    exact ⟨[], rfl⟩
  | succ n ih =>
    intro l P M M' v hn h hm hd
    rcases run_grammar h hm hd with rfl | ⟨c, l1, l2, M1, rfl, hc, g1, g2⟩
    · exact ⟨[], rfl⟩
    · simp at hn
      have : v ∈ M1 := by
        apply Classical.byContradiction
        intro hh
        have hmono : ∀ (l st met : List Int) (r : List Int × List Int), runT l st met = some r → ∀ z ∈ met, z ∈ r.2 := by
          intro l
          induction l with
          | nil => intro st met r h z hz; simp only [runT] at h; rw [← Option.some.inj h]; exact hz
          | cons x l ih2 =>
            intro st met r h z hz
            obtain ⟨p, h1, h2⟩ := run_cons h
            rcases stepT_cases h1 with ⟨a, q, rfl, rfl⟩ | ⟨hx, rfl⟩
            · exact ih2 _ _ _ h2 z hz
            · exact ih2 _ _ _ h2 z (List.mem_append_left _ hz)
        exact hh (hmono _ _ _ _ g1 v (List.mem_append_left _ hm))
      obtain ⟨B, hB⟩ := ih l2 P M1 M' v (by omega) g2 this hd
      exact ⟨v :: c :: l1 ++ B, by rw [List.append_assoc, ← hB]; simp⟩
/-! a tour split at a pair -/
theorem getD_right {A B : List Int} {k : Nat} (h : A.length ≤ k) : (A ++ B).getD k 0 = B.getD (k - A.length) 0 := by
  simp [List.getD_eq_getElem?_getD, List.getElem?_append_right h]
theorem runT_bottom {r : Int} : ∀ (l A M : List Int) {st M' : List Int}, runT l (A ++ [r]) M = some (st, M') → ∃ A', st = A' ++ [r]
  | [], A, M, st, M', h => by
    simp only [runT, Option.some.injEq, Prod.mk.injEq] at h
    exact ⟨A, h.1.symm⟩
  | x :: l, A, M, st, M', h => by
    obtain ⟨p, h1, h2⟩ := run_cons h
    rcases stepT_cases h1 with ⟨a, q, e, rfl⟩ | ⟨hx, rfl⟩
    · cases A with
      | nil => simp at e
      | cons b A =>
        simp only [List.cons_append, List.cons.injEq] at e
        rw [← e.2] at h2
        exact runT_bottom l A M h2
    · exact runT_bottom l (x :: A) _ h2
theorem trun_runT : ∀ (l path met : List Int), 1 ≤ path.length → trun l path met = true → ∃ st M', runT l path.reverse met = some (st, M') ∧ st.length = 1
  | [], path, met, hp, h => by
    simp only [trun, beq_iff_eq] at h
    exact ⟨path.reverse, met, rfl, by rw [List.length_reverse]; omega⟩
  | v :: l, path, met, hp, h => by
    rw [trun] at h
    by_cases c : 1 < path.length ∧ path.getD (path.length - 2) 0 = v
    · rw [if_pos c] at h
      obtain ⟨Q, a, b, rfl⟩ : ∃ Q a b, path = Q ++ [a, b] := by
        refine ⟨path.take (path.length - 2), path.getD (path.length - 2) 0, path.getD (path.length - 1) 0, ?_⟩
        have e1 : path.drop (path.length - 2) = [path.getD (path.length - 2) 0, path.getD (path.length - 1) 0] := by
          rw [List.drop_eq_getElem_cons (by omega), List.drop_eq_getElem_cons (by omega), List.drop_of_length_le (by omega)]
          have e : path.length - 2 + 1 = path.length - 1 := by omega
          simp only [e, List.getD_eq_getElem?_getD, List.getElem?_eq_getElem (show path.length - 2 < path.length by omega), List.getElem?_eq_getElem (show path.length - 1 < path.length by omega), Option.getD_some]
        rw [← e1, List.take_append_drop]
      have ha : a = v := by
        have := c.2
        have e : (Q ++ [a, b]).length - 2 = Q.length := by simp
        rw [e, getD_right (Nat.le_refl _)] at this
        simpa using this
      have e2 : (Q ++ [a, b]).take ((Q ++ [a, b]).length - 1) = Q ++ [a] := by
        have : (Q ++ [a, b]).length - 1 = (Q ++ [a]).length := by simp
        rw [this, show Q ++ [a, b] = (Q ++ [a]) ++ [b] by simp, List.take_left']
        rfl
      rw [e2] at h
      obtain ⟨st, M', h1, h2⟩ := trun_runT l (Q ++ [a]) met (by simp) h
      refine ⟨st, M', ?_, h2⟩
      have e3 : (Q ++ [a, b]).reverse = b :: a :: Q.reverse := by simp
      have e4 : (Q ++ [a]).reverse = a :: Q.reverse := by simp
      rw [e4] at h1
      rw [e3, runT, stepT, if_pos ha]
      exact h1
    · rw [if_neg c] at h
      by_cases hm : v ∈ met
      · rw [if_pos hm] at h; cases h
      · rw [if_neg hm] at h
        obtain ⟨st, M', h1, h2⟩ := trun_runT l (path ++ [v]) (met ++ [v]) (by simp) h
        refine ⟨st, M', ?_, h2⟩
        have e3 : (path ++ [v]).reverse = v :: path.reverse := by simp
        rw [e3] at h1
        rw [runT]
        have hs : stepT path.reverse met v = some (v :: path.reverse, met ++ [v]) := by
          cases hr : path.reverse with
          | nil => simp [stepT, hm]
          | cons x q =>
            cases q with
            | nil => simp [stepT, hm]
            | cons y q =>
              have hpath : path = q.reverse ++ [y, x] := by
                have := congrArg List.reverse hr
                simpa using this
              have hy : ¬ y = v := by
                intro e
                refine c ⟨by rw [hpath]; simp, ?_⟩
                have e5 : path.length - 2 = q.reverse.length := by rw [hpath]; simp
                rw [e5, hpath, getD_right (Nat.le_refl _), Nat.sub_self]
                exact e
              simp [stepT, hy, hm]
        rw [hs]
        exact h1

theorem laws_eqEdge_refl (a b : Int) : laws_eqEdge.f a b a b = some true := by simp [laws_eqEdge.f]
theorem laws_eqEdgeS_refl (l : List S112) (hl : l.length ≤ 4611686018427387904) : Ev (fun k => laws_eqEdgeS.f k l l) true := by
  simp only [laws_eqEdgeS.f, if_true]
  have := Ev.allloop (L := fun k i => laws_eqEdgeS.l0 k l l i) (n := l.length) (fun _ => true) false true (by
    intro i r hi _ h
    refine Ev.step (fun k => by rw [laws_eqEdgeS.l0, if_pos (by omega), if_pos (by omega), if_pos (by omega), laws_eqEdge_refl, Option.bind_some, if_pos rfl, wrap_succ hi hl]) ?_
    exact h) (by intro i _ h; cases h) (by
    refine Ev.step (fun k => by rw [laws_eqEdgeS.l0, if_neg (by omega)]) ?_
    exact Ev.now _)
  simpa using this

/-! graphs that are right -/
def lessE (a b : S112) : Bool := decide (a.f0 < b.f0 ∨ a.f0 = b.f0 ∧ a.f1 < b.f1)
theorem spec_l05Less_eq (a b c d : Int) : spec_l05Less.f a b c d = some (decide (a < c ∨ a = c ∧ b < d)) := by
  unfold spec_l05Less.f
  by_cases h : a < c
  · simp [h]
  · by_cases h2 : a = c
    · subst h2; simp
    · simp [h, h2]
theorem impl_ahead_eq (a b c d : Int) : impl_ahead.f a b c d = some (decide (a < c ∨ a = c ∧ b < d)) := by
  unfold impl_ahead.f
  by_cases h : a < c
  · simp [h]
  · by_cases h2 : a = c
    · subst h2; simp
    · simp [h, h2]
def seqE (m : Int) (n : Nat) : List S112 := (List.range n).map (fun (i : Nat) => (⟨m + 2 * i, m + 2 * i + 1⟩ : S112))
theorem getD_set_self {α : Type} {l : List α} {i : Nat} {v d : α} (h : i < l.length) : (l.set i v).getD i d = v := by
  rw [List.getD_eq_getElem?_getD, List.getElem?_set_self h]; rfl
theorem laws_markEdgeS_ev (l : List S112) (m : Int) (h0 : 0 ≤ m) (hm : m ≤ 1099511627776) (hl : l.length ≤ 1099511627776) : Ev (fun k => laws_markEdgeS.f k l m) (m + 2 * l.length, seqE m l.length) := by
  simp only [laws_markEdgeS.f]
  have := Ev.setloop' (L := fun k x i => laws_markEdgeS.l0 k x (m + 2 * i) i) (n := l.length) (fun i => (⟨m + 2 * i, m + 2 * i + 1⟩ : S112)) l rfl (fun x => (m + 2 * (l.length : Int), x)) (by
    intro i x r hi hx h
    have e1 : wrap64 (m + 2 * (i : Int) + 1) = m + 2 * i + 1 := by unfold wrap64; omega
    have e2 : wrap64 (m + 2 * (i : Int) + 1 + 1) = m + 2 * ((i + 1 : Nat) : Int) := by unfold wrap64; omega
    refine Ev.step (fun k => by rw [laws_markEdgeS.l0, if_pos (by omega), if_pos (by omega), e1, e2, Option.bind_some, wrap_succ hi (by omega)]) ?_
    simp only [rd_T112, Int.toNat_natCast, getD_set_self (show i < x.length by omega), List.set_set]
    exact h) (by
    intro x hx
    refine Ev.step (fun k => by rw [laws_markEdgeS.l0, if_neg (by omega)]) ?_
    exact Ev.now _)
  simpa [seqE] using this
theorem laws_heldEdgeS_ev (m : Int) (n : Nat) (h0 : 0 ≤ m) (hm : m ≤ 1099511627776) (hl : n ≤ 1099511627776) : Ev (fun k => laws_heldEdgeS.f k (seqE m n) m) (m + 2 * n) := by
  simp only [laws_heldEdgeS.f]
  have hlen : (seqE m n).length = n := by simp [seqE]
  have := Ev.allloop (L := fun k i => laws_heldEdgeS.l0 k (seqE m n) (m + 2 * i) i) (n := n) (fun _ => true) (-1) (m + 2 * (n : Int)) (by
    intro i r hi _ h
    have e1 : wrap64 (m + 2 * (i : Int) + 1) = m + 2 * i + 1 := by unfold wrap64; omega
    have e2 : wrap64 (m + 2 * (i : Int) + 1 + 1) = m + 2 * ((i + 1 : Nat) : Int) := by unfold wrap64; omega
    have er : rd_T112 (seqE m n) (i : Int) = ⟨m + 2 * i, m + 2 * i + 1⟩ := by
      simp [rd_T112, seqE, List.getD_eq_getElem?_getD, List.getElem?_map, List.getElem?_range hi]
    refine Ev.step (fun k => by rw [laws_heldEdgeS.l0, if_pos (by omega), if_pos (by omega), er]) ?_
    simp only [e1, e2, if_true, wrap_succ hi (show n ≤ 4611686018427387904 by omega)]
    exact h) (by intro i _ h; cases h) (by
    refine Ev.step (fun k => by rw [laws_heldEdgeS.l0, if_neg (by omega)]) ?_
    exact Ev.now _)
  simpa using this
def eqAt (l : List S112) (a b : Int) (i : Nat) : Bool := ((l.getD i z112).f0 == a && ((l.getD i z112).f1 == b))
def hasE (l : List S112) (a b : Int) : Bool := if (List.range l.length).all (fun i => !eqAt l a b i) then false else true
theorem hasE_iff {l : List S112} {a b : Int} : hasE l a b = true ↔ ∃ e ∈ l, e.f0 = a ∧ e.f1 = b := by
  have e : (List.range l.length).all (fun i => !eqAt l a b i) = l.all (fun e => !(e.f0 == a && (e.f1 == b))) := range_all_getD l z112 (fun e => !(e.f0 == a && (e.f1 == b)))
  rw [hasE, e]
  constructor
  · intro h
    split at h
    · cases h
    · rename_i hn
      obtain ⟨x, hx, hy⟩ := List.all_eq_false.1 (Bool.eq_false_iff.2 hn)
      simp at hy
      exact ⟨x, hx, hy⟩
  · rintro ⟨x, hx, rfl, rfl⟩
    split
    · rename_i hn
      simp only [List.all_eq_true] at hn
      have := hn x hx
      simp at this
    · rfl

theorem impl_hasEdge_ev (l : List S112) (a b : Int) (hl : l.length ≤ 4611686018427387904) : Ev (fun k => impl_hasEdge.f k l a b) (hasE l a b) := by
  simp only [impl_hasEdge.f, hasE]
  refine Ev.allloop (L := fun k i => impl_hasEdge.l0 k l l.length i a b) (n := l.length) (fun i => !eqAt l a b i) true false ?_ ?_ ?_
  · intro i r hi hp h
    simp only [Bool.not_eq_true'] at hp
    unfold eqAt at hp
    refine Ev.step (fun k => by rw [impl_hasEdge.l0, if_pos (by omega), if_pos (by omega), if_pos (by omega), rd_T112, Int.toNat_natCast, hp, if_neg (by simp), wrap_succ hi hl]) ?_
    exact h
  · intro i hi hp
    simp only [Bool.not_eq_false'] at hp
    unfold eqAt at hp
    refine Ev.step (fun k => by rw [impl_hasEdge.l0, if_pos (by omega), if_pos (by omega), if_pos (by omega), rd_T112, Int.toNat_natCast, hp, if_pos rfl]) ?_
    exact Ev.now _
  · refine Ev.step (fun k => by rw [impl_hasEdge.l0, if_neg (by omega)]) ?_
    exact Ev.now _

/-! an edge put -/
theorem flatMap_range_len {β : Type} (g : Nat → List β) (h : ∀ i, (g i).length ≤ 1) : ∀ i : Nat, ((List.range i).flatMap g).length ≤ i
  | 0 => by simp
  | i + 1 => by
    rw [List.range_succ, List.flatMap_append, List.length_append]
    have := flatMap_range_len g h i
    have h1 : (List.flatMap g [i]).length ≤ 1 := by
      have := h i
      simpa using this
    omega
def insE : List S112 → S112 → List S112
  | [], e => [e]
  | x :: l, e => if lessE x e = true then x :: insE l e else e :: x :: l
theorem lessE_iff {a b : S112} : lessE a b = true ↔ (a.f0 < b.f0 ∨ a.f0 = b.f0 ∧ a.f1 < b.f1) := by
  unfold lessE; exact decide_eq_true_iff
def putS (l : List S112) (e : S112) : List S112 :=
  l.flatMap (fun x => if lessE x e = true then [x] else []) ++ [e] ++ l.flatMap (fun x => if lessE e x = true then [x] else [])
theorem flatMap_none {α β : Type} {l : List α} {g : α → List β} (h : ∀ x ∈ l, g x = []) : l.flatMap g = [] := by
  induction l with
  | nil => rfl
  | cons x l ih => rw [List.flatMap_cons, h x List.mem_cons_self, ih (fun y hy => h y (List.mem_cons_of_mem _ hy))]; rfl
theorem flatMap_all {α : Type} {l : List α} {g : α → List α} (h : ∀ x ∈ l, g x = [x]) : l.flatMap g = l := by
  induction l with
  | nil => rfl
  | cons x l ih => rw [List.flatMap_cons, h x List.mem_cons_self, ih (fun y hy => h y (List.mem_cons_of_mem _ hy))]; rfl
theorem putS_insE {e : S112} : ∀ {l : List S112}, l.Pairwise (fun a b => lessE a b = true) → (∀ x ∈ l, ¬ (x.f0 = e.f0 ∧ x.f1 = e.f1)) → putS l e = insE l e
  | [], _, _ => rfl
  | x :: l, h, hne => by
    rw [List.pairwise_cons] at h
    have hx := hne x List.mem_cons_self
    rw [insE]
    by_cases c : lessE x e = true
    · have c' := lessE_iff.1 c
      have c2 : ¬ lessE e x = true := fun hh => by have := lessE_iff.1 hh; omega
      have ih := putS_insE h.2 (fun y hy => hne y (List.mem_cons_of_mem _ hy))
      rw [if_pos c, ← ih]
      unfold putS
      rw [List.flatMap_cons, List.flatMap_cons, if_pos c, if_neg c2]
      simp
    · have c' : ¬ (x.f0 < e.f0 ∨ x.f0 = e.f0 ∧ x.f1 < e.f1) := fun hh => c (lessE_iff.2 hh)
      rw [if_neg c]
      unfold putS
      have hall : ∀ y ∈ x :: l, ¬ lessE y e = true ∧ lessE e y = true := by
        intro y hy
        rcases List.mem_cons.1 hy with rfl | hy
        · exact ⟨c, lessE_iff.2 (by omega)⟩
        · have h1 := lessE_iff.1 (h.1 y hy)
          refine ⟨fun hh => ?_, lessE_iff.2 (by omega)⟩
          have := lessE_iff.1 hh
          omega
      rw [flatMap_none (fun y hy => if_neg (hall y hy).1), flatMap_all (fun y hy => if_pos (hall y hy).2)]
      rfl
theorem spec_l05Put_ev (l : List S112) (a b : Int) (hl : l.length ≤ 1048576) : Ev (fun k => spec_l05Put.f k l a b) (putS l ⟨a, b⟩) := by
  simp only [spec_l05Put.f]
  have hg : ∀ i : Nat, rd_T112 l (i : Int) = l.getD i z112 := fun i => by simp [rd_T112]
  have h2 : ∀ x0 : List S112, x0.length ≤ 1048577 → Ev (fun k => spec_l05Put.l1 k l x0 0 a b) (x0 ++ l.flatMap (fun x => if lessE ⟨a, b⟩ x = true then [x] else [])) := by
    intro x0 hx0
    have := Ev.apploop (L := fun k x i => spec_l05Put.l1 k l x i a b) (n := l.length) (fun i => if lessE ⟨a, b⟩ (l.getD i z112) = true then [l.getD i z112] else []) id x0 ?_ ?_
    · rw [range_flatMap_getD l z112 (fun x => if lessE ⟨a, b⟩ x = true then [x] else [])] at this
      exact this
    · intro i x r hi hx h
      have hxl : x.length ≤ 1048577 + i := by
        rw [hx, List.length_append]
        have := flatMap_range_len (fun i => if lessE ⟨a, b⟩ (l.getD i z112) = true then [l.getD i z112] else []) (fun j => by split <;> simp) i
        omega
      have hle := spec_l05Less_eq a b (l.getD i z112).f0 (l.getD i z112).f1
      refine Ev.step (fun k => by rw [spec_l05Put.l1, if_pos (by omega), if_pos (by omega), hg, hle, Option.bind_some, wrap_succ hi (by omega)]) ?_
      by_cases c : lessE ⟨a, b⟩ (l.getD i z112) = true
      · simp only [if_pos c] at h
        unfold lessE at c
        simp only [if_pos c, if_pos (show x.length < 8796093022208 by omega)]
        exact h
      · simp only [if_neg c, List.append_nil] at h
        unfold lessE at c
        simp only [if_neg c]
        exact h
    · intro x hx
      refine Ev.step (fun k => by rw [spec_l05Put.l1, if_neg (by omega)]) ?_
      exact Ev.now _
  have := Ev.apploop (L := fun k x i => spec_l05Put.l0 k l x i a b) (n := l.length) (fun i => if lessE (l.getD i z112) ⟨a, b⟩ = true then [l.getD i z112] else []) (fun x => x ++ [⟨a, b⟩] ++ l.flatMap (fun x => if lessE ⟨a, b⟩ x = true then [x] else [])) [] ?_ ?_
  · rw [List.nil_append, range_flatMap_getD l z112 (fun x => if lessE x ⟨a, b⟩ = true then [x] else [])] at this
    exact this
  · intro i x r hi hx h
    have hxl : x.length ≤ i := by
      rw [hx, List.nil_append]
      exact flatMap_range_len _ (fun j => by split <;> simp) i
    have hle := spec_l05Less_eq (l.getD i z112).f0 (l.getD i z112).f1 a b
    refine Ev.step (fun k => by rw [spec_l05Put.l0, if_pos (by omega), if_pos (by omega), hg, hle, Option.bind_some, wrap_succ hi (by omega)]) ?_
    by_cases c : lessE (l.getD i z112) ⟨a, b⟩ = true
    · simp only [if_pos c] at h
      unfold lessE at c
      simp only [if_pos c, if_pos (show x.length < 8796093022208 by omega)]
      exact h
    · simp only [if_neg c, List.append_nil] at h
      unfold lessE at c
      simp only [if_neg c]
      exact h
  · intro x hx
    have hxl : x.length ≤ l.length := by
      rw [hx, List.nil_append]
      exact flatMap_range_len _ (fun j => by split <;> simp) _
    refine Ev.step (fun k => by rw [spec_l05Put.l0, if_neg (by omega), if_pos (by omega)]) ?_
    exact h2 _ (by simp; omega)
theorem impl_withEdge_ev (l : List S112) (a b : Int) (hl : l.length ≤ 1048576) : Ev (fun k => impl_withEdge.f k l a b) (insE l ⟨a, b⟩) := by
  simp only [impl_withEdge.f]
  have hg : ∀ (i : Nat) (hi : i < l.length), rd_T112 l (i : Int) = l[i] := fun i hi => by simp [rd_T112, List.getD_eq_getElem?_getD, List.getElem?_eq_getElem hi]
  have key : ∀ (d i : Nat), i + d = l.length → Ev (fun k => impl_withEdge.l0 k l i a b) (l.take i ++ insE (l.drop i) ⟨a, b⟩) := by
    intro d
    induction d with
    | zero =>
      intro i hi
      refine Ev.step (fun k => by rw [impl_withEdge.l0, if_neg (by omega), if_pos (by omega), if_pos (by omega)]) ?_
      simp only [Option.bind_some, Int.toNat_natCast, List.nil_append, List.length_nil, List.length_take, List.length_singleton, List.length_append, List.length_drop]
      rw [if_pos (by omega), if_pos (by omega), if_pos (by omega), List.drop_of_length_le (by omega), insE, List.append_nil]
      exact Ev.now _
    | succ d ih =>
      intro i hi
      have hil : i < l.length := by omega
      have hle := impl_ahead_eq l[i].f0 l[i].f1 a b
      rw [List.drop_eq_getElem_cons hil, insE]
      refine Ev.step (fun k => by rw [impl_withEdge.l0, if_pos (by omega), if_pos (by omega), hg i hil, hle, Option.bind_some, wrap_succ hil (by omega)]) ?_
      by_cases c : lessE l[i] ⟨a, b⟩ = true
      · rw [if_pos c]
        have := ih (i + 1) (by omega)
        rw [List.take_succ_eq_append_getElem hil, List.append_assoc] at this
        unfold lessE at c
        simp only [if_pos c]
        exact this
      · rw [if_neg c]
        unfold lessE at c
        simp only [if_neg c, if_pos (show (i : Int) ≤ (l.length : Int) by omega)]
        simp only [Option.bind_some, Int.toNat_natCast, List.nil_append, List.length_nil, List.length_take, List.length_singleton, List.length_append, List.length_drop]
        rw [if_pos (by omega), if_pos (by omega), if_pos (by omega), ← List.drop_eq_getElem_cons hil]
        have e : l.take i ++ ⟨a, b⟩ :: l.drop i = l.take i ++ [⟨a, b⟩] ++ l.drop i := by simp
        rw [e]
        exact Ev.now _
  have := key l.length 0 (by omega)
  simpa using this
def seqL (m : Int) (n : Nat) : List Int := (List.range n).map (fun (i : Nat) => m + i)
theorem laws_markIntS_ev (l : List Int) (m : Int) (h0 : 0 ≤ m) (hm : m ≤ 1099511627776) (hl : l.length ≤ 1099511627776) : Ev (fun k => laws_markIntS.f k l m) (m + l.length, seqL m l.length) := by
  simp only [laws_markIntS.f]
  have := Ev.setloop' (L := fun k x i => laws_markIntS.l0 k x (m + i) i) (n := l.length) (fun i => m + i) l rfl (fun x => (m + (l.length : Int), x)) (by
    intro i x r hi hx h
    have e : wrap64 (m + (i : Int) + 1) = m + ((i + 1 : Nat) : Int) := by unfold wrap64; omega
    refine Ev.step (fun k => by rw [laws_markIntS.l0, if_pos (by omega), if_pos (by omega), Int.toNat_natCast, wrap_succ hi (by omega), e]) ?_
    exact h) (by
    intro x hx
    refine Ev.step (fun k => by rw [laws_markIntS.l0, if_neg (by omega)]) ?_
    exact Ev.now _)
  simpa [seqL] using this
/-! rows of rows, marked and held -/
def sumR : List (List Int) → Nat
  | [] => 0
  | r :: L => r.length + sumR L
def seqR : Int → List (List Int) → List (List Int)
  | _, [] => []
  | m, r :: L => seqL m r.length :: seqR (m + r.length) L
theorem rd_mid (a : List (List Int)) (r : List Int) (b : List (List Int)) : rd_L1 (a ++ r :: b) (a.length : Int) = r := by simp [rd_L1, List.getD_eq_getElem?_getD]
theorem set_mid (a : List (List Int)) (r s : List Int) (b : List (List Int)) : (a ++ r :: b).set (a.length : Int).toNat s = (a ++ [s]) ++ b := by
  rw [Int.toNat_natCast, List.set_append_right _ _ (Nat.le_refl _)]
  simp
theorem mss_ev : ∀ (rest done : List (List Int)) (m : Int), 0 ≤ m → m + sumR rest ≤ 1099511627776 → done.length + rest.length ≤ 1099511627776 →
    Ev (fun k => laws_markIntSS.l0 k (done ++ rest) m (done.length : Int)) (m + sumR rest, done ++ seqR m rest)
  | [], done, m, _, _, _ => by
    simp only [List.append_nil, sumR, seqR, Int.natCast_zero, Int.add_zero]
    refine Ev.step (fun k => by rw [laws_markIntSS.l0, if_neg (by omega)]) ?_
    exact Ev.now _
  | r :: rest, done, m, h0, h1, h2 => by
    simp only [sumR] at h1
    simp only [List.length_cons] at h2
    have hd : (done.length : Int) < ((done ++ r :: rest).length : Int) := by simp; omega
    refine Ev.step (fun k => by rw [laws_markIntSS.l0, if_pos hd, if_pos (by omega), rd_mid]) ?_
    refine Ev.bind (laws_markIntS_ev r m h0 (by omega) (by omega)) ?_
    simp only [set_mid]
    have e : wrap64 ((done.length : Int) + 1) = ((done ++ [seqL m r.length]).length : Int) := by
      have : (done ++ [seqL m r.length]).length = done.length + 1 := by simp
      rw [this]; unfold wrap64; omega
    rw [e]
    have := mss_ev rest (done ++ [seqL m r.length]) (m + r.length) (by omega) (by omega) (by simp; omega)
    simp only [sumR, seqR]
    have e2 : m + ((r.length + sumR rest : Nat) : Int) = m + r.length + sumR rest := by omega
    rw [e2]
    simpa using this
theorem laws_markIntSS_ev (L : List (List Int)) (m : Int) (h0 : 0 ≤ m) (h1 : m + sumR L ≤ 1099511627776) (h2 : L.length ≤ 1099511627776) : Ev (fun k => laws_markIntSS.f k L m) (m + sumR L, seqR m L) := by
  simp only [laws_markIntSS.f]
  exact mss_ev L [] m h0 h1 (by simpa using h2)
theorem sumR_szr : ∀ (L : List (List Int)) (a : Int), 0 ≤ szr L a → (sumR L : Int) ≤ a
  | [], a, h => by simpa [sumR, szr] using h
  | r :: L, a, h => by
    simp only [szr] at h
    split at h
    · omega
    · have := sumR_szr L _ h
      simp only [sumR]; omega
theorem sumR_szF {L : List (List Int)} (h : ¬ szF L 1048576 < 0) : sumR L ≤ 1048576 := by
  unfold szF at h
  split at h
  · omega
  · have := sumR_szr L (1048576 - (L.length : Int)) (by omega)
    omega

/-! neighbours in a tour -/
def prs : List Int → List (Int × Int)
  | x :: y :: t => (x, y) :: prs (y :: t)
  | _ => []
theorem prs_app (x : Int) (B : List Int) : ∀ A : List Int, prs (A ++ x :: B) = prs (A ++ [x]) ++ prs (x :: B)
  | [] => by cases B <;> simp [prs]
  | [a] => by cases B <;> simp [prs]
  | a :: b :: A => by
    have := prs_app x B (b :: A)
    simp only [List.cons_append] at this ⊢
    rw [prs, prs, this]; simp
theorem prs_symm (n : Nat) : ∀ (l P M M' : List Int) (v : Int), l.length ≤ n → runT l (v :: P) M = some (v :: P, M') → (∀ z ∈ v :: P, z ∈ M) → (v :: P).Nodup → ∀ x y, (x, y) ∈ prs (v :: l) → (y, x) ∈ prs (v :: l) ∧ x ≠ y := by
  induction n with
  | zero =>
    intro l P M M' v hn h hm hd x y hx
    have : l = [] := List.length_eq_zero_iff.1 (by omega)
    subst this
    simp [prs] at hx
  | succ n ih =>
    intro l P M M' v hn h hm hd x y hx
    have hd' := hd
    rw [List.nodup_cons] at hd
    have hvM := hm v (by simp)
    rcases run_grammar h hvM hd.1 with rfl | ⟨c, l1, l2, M1, rfl, hc, g1, g2⟩
    · simp [prs] at hx
    · simp at hn
      have hcv : c ∉ v :: P := fun hh => hc (hm c hh)
      have hm1 : ∀ z ∈ c :: v :: P, z ∈ M ++ [c] := by
        intro z hz
        rcases List.mem_cons.mp hz with rfl | hz
        · simp
        · exact List.mem_append_left _ (hm z hz)
      have hd1 : (c :: v :: P).Nodup := by rw [List.nodup_cons]; exact ⟨hcv, hd'⟩
      obtain ⟨N1, rfl, a2, a3, a4, a5⟩ := run_met n l1 (v :: P) (M ++ [c]) M1 c (by omega) g1 hm1 hd1
      have hm2 : ∀ z ∈ v :: P, z ∈ M ++ [c] ++ N1 := fun z hz => by simp [hm z hz]
      have i1 := ih l1 (v :: P) _ _ c (by omega) g1 hm1 hd1
      have i2 := ih l2 P _ _ v (by omega) g2 hm2 hd'
      have hvc : v ≠ c := fun hh => hc (hh ▸ hvM)
      obtain ⟨B, hB⟩ := run_last n l1 (v :: P) _ _ c (by omega) g1 (by simp) hcv
      have key : prs (v :: (c :: l1 ++ v :: l2)) = (v, c) :: (prs (c :: l1) ++ (c, v) :: prs (v :: l2)) := by
        have e1 : v :: (c :: l1 ++ v :: l2) = v :: c :: (l1 ++ v :: l2) := rfl
        have e2 : c :: (l1 ++ v :: l2) = B ++ c :: v :: l2 := by
          have : c :: (l1 ++ v :: l2) = (c :: l1) ++ v :: l2 := rfl
          rw [this, hB]; simp
        rw [e1, prs, e2, prs_app c (v :: l2) B, ← hB, prs]
      rw [key] at hx ⊢
      simp only [List.mem_cons, List.mem_append, Prod.mk.injEq] at hx ⊢
      rcases hx with ⟨rfl, rfl⟩ | hx | ⟨rfl, rfl⟩ | hx
      · exact ⟨.inr (.inr (.inl ⟨rfl, rfl⟩)), hvc⟩
      · exact ⟨.inr (.inl (i1 x y hx).1), (i1 x y hx).2⟩
      · exact ⟨.inl ⟨rfl, rfl⟩, Ne.symm hvc⟩
      · exact ⟨.inr (.inr (.inr (i2 x y hx).1)), (i2 x y hx).2⟩
theorem tour_prs {t : List Int} (h : tourOk t = true) : ∀ x y, (x, y) ∈ prs t → (y, x) ∈ prs t ∧ x ≠ y := by
  unfold tourOk at h
  rw [Bool.and_eq_true, Bool.and_eq_true] at h
  obtain ⟨_, _, h⟩ := h
  cases t with
  | nil => intro x y hx; simp [prs] at hx
  | cons r l =>
    simp only at h
    obtain ⟨st, M', h1, h2⟩ := trun_runT l [r] [r] (by simp) h
    simp only [List.reverse_cons, List.reverse_nil, List.nil_append] at h1
    obtain ⟨A', hA⟩ := runT_bottom l [] [r] (by simpa using h1)
    have hst : st = [r] := by
      rw [hA] at h2 ⊢
      simp at h2
      rw [h2]; rfl
    rw [hst] at h1
    exact prs_symm l.length l [] [r] M' r (Nat.le_refl _) h1 (by simp) (by simp)

/-! the edges of a forest -/
def specAll (acc : List S112) (ps : List (Int × Int)) : List S112 := ps.foldl (fun a p => if p.1 < p.2 then putS a ⟨p.1, p.2⟩ else a) acc
def implAll (acc : List S112) (ps : List (Int × Int)) : List S112 := ps.foldl (fun a p => putS a ⟨mn p.1 p.2, mx p.1 p.2⟩) acc
def ascE (l : List S112) : Prop := l.Pairwise (fun a b => lessE a b = true)
theorem edge_ext {a b : S112} (h0 : a.f0 = b.f0) (h1 : a.f1 = b.f1) : a = b := by cases a; cases b; cases h0; cases h1; rfl
theorem putS_mem {l : List S112} {e x : S112} : x ∈ putS l e ↔ x = e ∨ x ∈ l := by
  simp only [putS, List.mem_append, List.mem_flatMap, List.mem_singleton]
  constructor
  · rintro ((⟨y, hy, hx⟩ | rfl) | ⟨y, hy, hx⟩)
    · split at hx
      · rw [List.mem_singleton] at hx; exact .inr (hx ▸ hy)
      · cases hx
    · exact .inl rfl
    · split at hx
      · rw [List.mem_singleton] at hx; exact .inr (hx ▸ hy)
      · cases hx
  · rintro (rfl | hx)
    · exact .inl (.inr rfl)
    · by_cases c : lessE x e = true
      · exact .inl (.inl ⟨x, hx, by rw [if_pos c]; simp⟩)
      · by_cases c2 : lessE e x = true
        · exact .inr ⟨x, hx, by rw [if_pos c2]; simp⟩
        · rw [lessE_iff] at c c2
          exact .inl (.inr (edge_ext (by omega) (by omega)))
theorem flatMap_if_filter {α : Type} (p : α → Bool) (l : List α) : l.flatMap (fun x => if p x = true then [x] else []) = l.filter p := by
  induction l with
  | nil => rfl
  | cons x l ih =>
    rw [List.flatMap_cons, ih]
    by_cases c : p x = true
    · rw [if_pos c, List.filter_cons_of_pos c]; rfl
    · rw [if_neg c, List.filter_cons_of_neg c]; rfl
theorem putS_eq (l : List S112) (e : S112) : putS l e = l.filter (fun x => lessE x e) ++ [e] ++ l.filter (fun x => lessE e x) := by
  unfold putS
  rw [flatMap_if_filter (fun x => lessE x e), flatMap_if_filter (fun x => lessE e x)]
theorem putS_asc {l : List S112} {e : S112} (h : ascE l) : ascE (putS l e) := by
  unfold ascE at h ⊢
  rw [putS_eq, List.pairwise_append, List.pairwise_append]
  refine ⟨⟨h.filter _, by simp, ?_⟩, h.filter _, ?_⟩
  · intro a ha b hb
    rw [List.mem_filter] at ha
    rw [List.mem_singleton] at hb
    rw [hb]; exact ha.2
  · intro a ha b hb
    rw [List.mem_filter] at hb
    rcases List.mem_append.1 ha with ha | ha
    · rw [List.mem_filter] at ha
      have h1 := lessE_iff.1 ha.2
      have h2 := lessE_iff.1 hb.2
      exact lessE_iff.2 (by omega)
    · rw [List.mem_singleton] at ha
      rw [ha]; exact hb.2
theorem putS_len (e : S112) (l : List S112) : (putS l e).length ≤ l.length + 1 := by
  rw [putS_eq]
  simp only [List.length_append, List.length_singleton]
  have : (l.filter (fun x => lessE x e)).length + (l.filter (fun x => lessE e x)).length ≤ l.length := by
    induction l with
    | nil => simp
    | cons x l ih =>
      by_cases c : lessE x e = true
      · have c2 : lessE e x = false := Bool.eq_false_iff.2 (fun hh => by have := lessE_iff.1 hh; have := lessE_iff.1 c; omega)
        simp only [List.filter_cons, c, c2, if_true, Bool.false_eq_true, if_false, List.length_cons]; omega
      · have c' : lessE x e = false := Bool.eq_false_iff.2 c
        by_cases c2 : lessE e x = true
        · simp only [List.filter_cons, c', c2, if_true, Bool.false_eq_true, if_false, List.length_cons]; omega
        · have c2' : lessE e x = false := Bool.eq_false_iff.2 c2
          simp only [List.filter_cons, c', c2', Bool.false_eq_true, if_false, List.length_cons]; omega
  omega
theorem ascE_ext : ∀ {l m : List S112}, ascE l → ascE m → (∀ x, x ∈ l ↔ x ∈ m) → l = m
  | [], [], _, _, _ => rfl
  | [], b :: m, _, _, h => absurd ((h b).2 (by simp)) (by simp)
  | a :: l, [], _, _, h => absurd ((h a).1 (by simp)) (by simp)
  | a :: l, b :: m, hl, hm, h => by
    unfold ascE at hl hm
    rw [List.pairwise_cons] at hl hm
    have hab : a = b := by
      have h1 := (h a).1 (by simp)
      have h2 := (h b).2 (by simp)
      rcases List.mem_cons.1 h1 with h1 | h1
      · exact h1
      · rcases List.mem_cons.1 h2 with h2 | h2
        · exact h2.symm
        · have e1 := lessE_iff.1 (hm.1 a h1)
          have e2 := lessE_iff.1 (hl.1 b h2)
          omega
    subst hab
    have irr : ¬ lessE a a = true := fun hh => by have := lessE_iff.1 hh; omega
    rw [ascE_ext hl.2 hm.2 (fun x => ?_)]
    constructor
    · intro hx
      rcases List.mem_cons.1 ((h x).1 (List.mem_cons_of_mem _ hx)) with rfl | hh
      · exact absurd (hl.1 x hx) irr
      · exact hh
    · intro hx
      rcases List.mem_cons.1 ((h x).2 (List.mem_cons_of_mem _ hx)) with rfl | hh
      · exact absurd (hm.1 x hx) irr
      · exact hh
theorem specAll_mem {x : S112} : ∀ (ps : List (Int × Int)) (acc : List S112), x ∈ specAll acc ps ↔ x ∈ acc ∨ ∃ p ∈ ps, p.1 < p.2 ∧ x = ⟨p.1, p.2⟩
  | [], acc => by simp [specAll]
  | p :: ps, acc => by
    show x ∈ specAll (if p.1 < p.2 then putS acc ⟨p.1, p.2⟩ else acc) ps ↔ _
    rw [specAll_mem ps]
    by_cases c : p.1 < p.2
    · rw [if_pos c, putS_mem]
      simp only [List.mem_cons, exists_eq_or_imp]
      constructor
      · rintro ((h | h) | h)
        · exact .inr (.inl ⟨c, h⟩)
        · exact .inl h
        · exact .inr (.inr h)
      · rintro (h | ⟨_, h⟩ | h)
        · exact .inl (.inr h)
        · exact .inl (.inl h)
        · exact .inr h
    · rw [if_neg c]
      simp only [List.mem_cons, exists_eq_or_imp]
      constructor
      · rintro (h | h)
        · exact .inl h
        · exact .inr (.inr h)
      · rintro (h | ⟨h, _⟩ | h)
        · exact .inl h
        · exact absurd h c
        · exact .inr h
theorem implAll_mem {x : S112} : ∀ (ps : List (Int × Int)) (acc : List S112), x ∈ implAll acc ps ↔ x ∈ acc ∨ ∃ p ∈ ps, x = ⟨mn p.1 p.2, mx p.1 p.2⟩
  | [], acc => by simp [implAll]
  | p :: ps, acc => by
    show x ∈ implAll (putS acc ⟨mn p.1 p.2, mx p.1 p.2⟩) ps ↔ _
    rw [implAll_mem ps, putS_mem]
    simp only [List.mem_cons, exists_eq_or_imp]
    constructor
    · rintro ((h | h) | h)
      · exact .inr (.inl h)
      · exact .inl h
      · exact .inr (.inr h)
    · rintro (h | h | h)
      · exact .inl (.inr h)
      · exact .inl (.inl h)
      · exact .inr h
theorem specAll_asc : ∀ (ps : List (Int × Int)) (acc : List S112), ascE acc → ascE (specAll acc ps)
  | [], _, h => h
  | p :: ps, acc, h => by
    show ascE (specAll (if p.1 < p.2 then putS acc ⟨p.1, p.2⟩ else acc) ps)
    refine specAll_asc ps _ ?_
    split
    · exact putS_asc h
    · exact h
theorem implAll_asc : ∀ (ps : List (Int × Int)) (acc : List S112), ascE acc → ascE (implAll acc ps)
  | [], _, h => h
  | p :: ps, acc, h => implAll_asc ps _ (putS_asc h)
theorem all_same {t : List Int} (h : ∀ x y, (x, y) ∈ prs t → (y, x) ∈ prs t ∧ x ≠ y) {acc : List S112} (ha : ascE acc) : implAll acc (prs t) = specAll acc (prs t) := by
  refine ascE_ext (implAll_asc _ _ ha) (specAll_asc _ _ ha) (fun x => ?_)
  rw [implAll_mem, specAll_mem]
  constructor
  · rintro (hx | ⟨⟨a, b⟩, hp, rfl⟩)
    · exact .inl hx
    · have := h a b hp
      by_cases c : a < b
      · refine .inr ⟨(a, b), hp, c, ?_⟩
        simp only [mn, mx, if_pos c, if_neg (show ¬ b < a by omega)]
      · refine .inr ⟨(b, a), this.1, by have := this.2; simp only; omega, ?_⟩
        have hlt : b < a := by have := this.2; omega
        simp only [mn, mx, if_pos hlt, if_neg c]
  · rintro (hx | ⟨⟨a, b⟩, hp, c, rfl⟩)
    · exact .inl hx
    · refine .inr ⟨(a, b), hp, ?_⟩
      simp only at c
      simp only [mn, mx, if_pos c, if_neg (show ¬ b < a by omega)]
theorem put_has {acc : List S112} (ha : ascE acc) (a b : Int) : (if hasE acc a b = true then acc else insE acc ⟨a, b⟩) = putS acc ⟨a, b⟩ := by
  by_cases c : hasE acc a b = true
  · rw [if_pos c]
    refine ascE_ext ha (putS_asc ha) (fun x => ?_)
    rw [putS_mem]
    constructor
    · exact .inr
    · rintro (rfl | h)
      · obtain ⟨e, he, h0, h1⟩ := hasE_iff.1 c
        have : e = ⟨a, b⟩ := edge_ext h0 h1
        rw [← this]; exact he
      · exact h
  · rw [if_neg c, putS_insE ha]
    intro x hx hh
    exact c (hasE_iff.2 ⟨x, hx, hh⟩)
theorem drop_two {t : List Int} {j : Nat} (h : j + 1 < t.length) : prs (t.drop j) = (rd t (j : Int), rd t ((j + 1 : Nat) : Int)) :: prs (t.drop (j + 1)) := by
  have e1 : t.drop j = t[j] :: t.drop (j + 1) := List.drop_eq_getElem_cons (by omega)
  have e2 : t.drop (j + 1) = t[j + 1] :: t.drop (j + 1 + 1) := List.drop_eq_getElem_cons h
  rw [e1, e2, prs, ← e2]
  simp [rd, List.getD_eq_getElem?_getD, List.getElem?_eq_getElem h, List.getElem?_eq_getElem (show j < t.length by omega)]
theorem drop_end {t : List Int} {j : Nat} (h : ¬ j + 1 < t.length) : prs (t.drop j) = [] := by
  have : (t.drop j).length ≤ 1 := by rw [List.length_drop]; omega
  match t.drop j, this with
  | [], _ => rfl
  | [x], _ => rfl
theorem wrap_j {j : Nat} (h : j ≤ 1048576) : wrap64 ((j : Int) + 1) = ((j + 1 : Nat) : Int) := by unfold wrap64; omega
theorem spec_edges_l1 (t : List Int) (ht : t.length ≤ 23) (i n : Int) (L : List (List Int)) (r : List S112) : ∀ (d j : Nat) (acc : List S112), j + d = t.length → acc.length + d ≤ 1000000 →
    Ev (fun k => spec_EdgesOf.l0 k (specAll acc (prs (t.drop j))) (wrap64 (i + 1)) n L) r → Ev (fun k => spec_EdgesOf.l1 k acc i t (j : Int) n L) r := by
  intro d
  induction d with
  | zero =>
    intro j acc hj hl h
    rw [drop_end (by omega)] at h
    refine Ev.step (fun k => by rw [spec_EdgesOf.l1, wrap_j (by omega), if_neg (by omega)]) ?_
    exact h
  | succ d ih =>
    intro j acc hj hl h
    by_cases c : j + 1 < t.length
    · rw [drop_two c] at h
      refine Ev.step (fun k => by rw [spec_EdgesOf.l1, wrap_j (by omega), if_pos (by omega), if_pos (by omega), if_pos (by omega), if_pos (by omega)]) ?_
      by_cases c2 : rd t (j : Int) < rd t ((j + 1 : Nat) : Int)
      · simp only [if_pos c2]
        refine Ev.bind (spec_l05Put_ev acc _ _ (by omega)) ?_
        refine ih (j + 1) _ (by omega) (by have := putS_len ⟨rd t (j : Int), rd t ((j + 1 : Nat) : Int)⟩ acc; omega) ?_
        have : specAll acc ((rd t (j : Int), rd t ((j + 1 : Nat) : Int)) :: prs (t.drop (j + 1))) = specAll (putS acc ⟨rd t (j : Int), rd t ((j + 1 : Nat) : Int)⟩) (prs (t.drop (j + 1))) := by
          show specAll (if _ then _ else _) _ = _
          rw [if_pos c2]
        rw [this] at h
        exact h
      · simp only [if_neg c2]
        refine ih (j + 1) _ (by omega) (by omega) ?_
        have : specAll acc ((rd t (j : Int), rd t ((j + 1 : Nat) : Int)) :: prs (t.drop (j + 1))) = specAll acc (prs (t.drop (j + 1))) := by
          show specAll (if _ then _ else _) _ = _
          rw [if_neg c2]
        rw [this] at h
        exact h
    · rw [drop_end c] at h
      refine Ev.step (fun k => by rw [spec_EdgesOf.l1, wrap_j (by omega), if_neg (by omega)]) ?_
      exact h
theorem impl_edges_l1 (t : List Int) (ht : t.length ≤ 23) (i N : Int) (L : List (List Int)) (r : List S112) : ∀ (d j : Nat) (acc : List S112), j + d = t.length → acc.length + d ≤ 1000000 → ascE acc →
    Ev (fun k => impl_EdgesOf.l0 k (implAll acc (prs (t.drop j))) L N (wrap64 (i + 1))) r → Ev (fun k => impl_EdgesOf.l1 k acc t (j : Int) L N i) r := by
  intro d
  induction d with
  | zero =>
    intro j acc hj hl ha h
    rw [drop_end (by omega)] at h
    refine Ev.step (fun k => by rw [impl_EdgesOf.l1, wrap_j (by omega), if_neg (by omega)]) ?_
    exact h
  | succ d ih =>
    intro j acc hj hl ha h
    by_cases c : j + 1 < t.length
    · rw [drop_two c] at h
      refine Ev.step (fun k => by rw [impl_EdgesOf.l1, wrap_j (by omega), if_pos (by omega), if_pos (by omega), if_pos (by omega), if_pos (by omega)]) ?_
      refine Ev.bind (impl_hasEdge_ev acc _ _ (by omega)) ?_
      have hp := put_has ha (mn (rd t (j : Int)) (rd t ((j + 1 : Nat) : Int))) (mx (rd t (j : Int)) (rd t ((j + 1 : Nat) : Int)))
      have hgo : Ev (fun k => impl_EdgesOf.l1 k (putS acc ⟨mn (rd t (j : Int)) (rd t ((j + 1 : Nat) : Int)), mx (rd t (j : Int)) (rd t ((j + 1 : Nat) : Int))⟩) t ((j + 1 : Nat) : Int) L N i) r :=
        ih (j + 1) _ (by omega) (by have := putS_len ⟨mn (rd t (j : Int)) (rd t ((j + 1 : Nat) : Int)), mx (rd t (j : Int)) (rd t ((j + 1 : Nat) : Int))⟩ acc; omega) (putS_asc ha) h
      by_cases c2 : hasE acc (mn (rd t (j : Int)) (rd t ((j + 1 : Nat) : Int))) (mx (rd t (j : Int)) (rd t ((j + 1 : Nat) : Int))) = true
      · rw [if_pos c2] at hp
        rw [← hp] at hgo
        simp only [if_pos c2]
        exact hgo
      · rw [if_neg c2] at hp
        rw [← hp] at hgo
        simp only [if_neg c2]
        exact Ev.bind (impl_withEdge_ev acc _ _ (by omega)) hgo
    · rw [drop_end c] at h
      refine Ev.step (fun k => by rw [impl_EdgesOf.l1, wrap_j (by omega), if_neg (by omega)]) ?_
      exact h
def edgesFrom (acc : List S112) (L : List (List Int)) : List S112 := L.foldl (fun a t => specAll a (prs t)) acc
theorem specAll_len : ∀ (ps : List (Int × Int)) (acc : List S112), (specAll acc ps).length ≤ acc.length + ps.length
  | [], _ => by simp [specAll]
  | p :: ps, acc => by
    show (specAll (if p.1 < p.2 then putS acc ⟨p.1, p.2⟩ else acc) ps).length ≤ _
    have h1 := specAll_len ps (if p.1 < p.2 then putS acc ⟨p.1, p.2⟩ else acc)
    have h2 : (if p.1 < p.2 then putS acc ⟨p.1, p.2⟩ else acc).length ≤ acc.length + 1 := by
      split
      · exact putS_len _ _
      · omega
    simp only [List.length_cons]; omega
theorem prs_len : ∀ t : List Int, (prs t).length ≤ t.length
  | [] => by simp [prs]
  | [x] => by simp [prs]
  | x :: y :: t => by have := prs_len (y :: t); simp only [prs, List.length_cons] at this ⊢; omega
theorem edgesFrom_len : ∀ (L : List (List Int)) (acc : List S112), (∀ t ∈ L, t.length ≤ 23) → (edgesFrom acc L).length ≤ acc.length + 23 * L.length
  | [], _, _ => by simp [edgesFrom]
  | t :: L, acc, h => by
    show (edgesFrom (specAll acc (prs t)) L).length ≤ _
    have h1 := edgesFrom_len L (specAll acc (prs t)) (fun x hx => h x (List.mem_cons_of_mem _ hx))
    have h2 := specAll_len (prs t) acc
    have h3 := prs_len t
    have h4 := h t List.mem_cons_self
    simp only [List.length_cons]; omega
theorem spec_edges_l0 (n : Int) (L : List (List Int)) (hL : ∀ t ∈ L, t.length ≤ 23) (hl : L.length ≤ 12) : ∀ (d i : Nat) (acc : List S112), i + d = L.length → acc.length + 23 * d ≤ 1000 →
    Ev (fun k => spec_EdgesOf.l0 k acc (i : Int) n L) (edgesFrom acc (L.drop i)) := by
  intro d
  induction d with
  | zero =>
    intro i acc hi hb
    rw [List.drop_of_length_le (by omega)]
    refine Ev.step (fun k => by rw [spec_EdgesOf.l0, if_neg (by omega)]) ?_
    exact Ev.now _
  | succ d ih =>
    intro i acc hi hb
    have hg : rd_L1 L (i : Int) = L[i] := by simp [rd_L1, List.getD_eq_getElem?_getD, List.getElem?_eq_getElem (show i < L.length by omega)]
    have ht := hL _ (List.getElem_mem (show i < L.length by omega))
    rw [List.drop_eq_getElem_cons (show i < L.length by omega)]
    refine Ev.step (fun k => by rw [spec_EdgesOf.l0, if_pos (by omega), if_pos (by omega), hg]) ?_
    refine spec_edges_l1 L[i] ht i n L _ L[i].length 0 acc (by omega) (by omega) ?_
    rw [wrap_j (by omega), List.drop_zero]
    have h2 := specAll_len (prs L[i]) acc
    have h3 := prs_len L[i]
    exact ih (i + 1) _ (by omega) (by omega)
theorem impl_edges_l0 (L : List (List Int)) (hL : ∀ t ∈ L, t.length ≤ 23) (hT : ∀ t ∈ L, ∀ x y, (x, y) ∈ prs t → (y, x) ∈ prs t ∧ x ≠ y) (hl : L.length ≤ 12) : ∀ (d i : Nat) (acc : List S112), i + d = L.length → acc.length + 23 * d ≤ 1000 → ascE acc →
    Ev (fun k => impl_EdgesOf.l0 k acc L (L.length : Int) (i : Int)) (edgesFrom acc (L.drop i)) := by
  intro d
  induction d with
  | zero =>
    intro i acc hi hb ha
    rw [List.drop_of_length_le (by omega)]
    refine Ev.step (fun k => by rw [impl_EdgesOf.l0, if_neg (by omega)]) ?_
    exact Ev.now _
  | succ d ih =>
    intro i acc hi hb ha
    have hg : rd_L1 L (i : Int) = L[i] := by simp [rd_L1, List.getD_eq_getElem?_getD, List.getElem?_eq_getElem (show i < L.length by omega)]
    have hm := List.getElem_mem (show i < L.length by omega)
    have ht := hL _ hm
    rw [List.drop_eq_getElem_cons (show i < L.length by omega)]
    refine Ev.step (fun k => by rw [impl_EdgesOf.l0, if_pos (by omega), if_pos (by omega), if_pos (by omega), hg]) ?_
    refine impl_edges_l1 L[i] ht i _ L _ L[i].length 0 acc (by omega) (by omega) ha ?_
    rw [wrap_j (by omega), List.drop_zero, all_same (hT _ hm) ha]
    have h2 := specAll_len (prs L[i]) acc
    have h3 := prs_len L[i]
    exact ih (i + 1) _ (by omega) (by omega) (specAll_asc _ _ ha)
def edgesOfP (n : Int) (L : List (List Int)) : List S112 := if forestOk n L = true then edgesFrom [] L else []
theorem spec_EdgesOf_ev (n : Int) (L : List (List Int)) (hL : ∀ x ∈ L, x.length ≤ 1048576) : Ev (fun k => spec_EdgesOf.f k n L) (edgesOfP n L) := by
  simp only [spec_EdgesOf.f, Option.bind_some]
  refine Ev.bind (spec_ForestOk_ev n L hL) ?_
  unfold edgesOfP
  by_cases c : forestOk n L = true
  · simp only [if_pos c]
    have h1 := forestOk_len c
    exact spec_edges_l0 n L (fun t ht => (tourOk_mem (forestOk_tour c ht)).2.1) h1 L.length 0 [] (by omega) (by simp; omega)
  · simp only [if_neg c]; exact Ev.now _
theorem impl_EdgesOf_ev (n : Int) (L : List (List Int)) (hl : L.length ≤ 1048576) (hL : ∀ x ∈ L, x.length ≤ 1048576) : Ev (fun k => impl_EdgesOf.f k n L) (edgesOfP n L) := by
  simp only [impl_EdgesOf.f]
  refine Ev.bind (impl_ForestOk_ev n L hl hL) ?_
  unfold edgesOfP
  by_cases c : forestOk n L = true
  · simp only [if_pos c]
    have h1 := forestOk_len c
    exact impl_edges_l0 L (fun t ht => (tourOk_mem (forestOk_tour c ht)).2.1) (fun t ht => tour_prs (forestOk_tour c ht)) h1 L.length 0 [] (by omega) (by simp; omega) List.Pairwise.nil
  · simp only [if_neg c]; exact Ev.now _
theorem edgesOfP_len (n : Int) (L : List (List Int)) : (edgesOfP n L).length ≤ 1000 := by
  unfold edgesOfP
  by_cases c : forestOk n L = true
  · rw [if_pos c]
    have h1 := forestOk_len c
    have := edgesFrom_len L [] (fun t ht => (tourOk_mem (forestOk_tour c ht)).2.1)
    simp at this; omega
  · rw [if_neg c]; simp

theorem FnExactEdgesOf_pure (n : Int) (L : List (List Int)) (q0 : (Go.Lit.int .i64 n).wf = true) (q1 : L.length ≤ 9223372036854775807 ∧ ∀ a ∈ L, a.length ≤ 9223372036854775807 ∧ ∀ b ∈ a, (Go.Lit.int .i64 b).wf = true) : ∃ k, laws_FnExactEdgesOf.Ok k n L := by
  obtain ⟨k0, h0⟩ := laws_szForest_ev n L q1.1 (fun x hx => (q1.2 x hx).1)
  by_cases h : szF L 1048576 < 0
  · rw [if_pos h] at h0
    exact ⟨k0, -1, h0 k0 (Nat.le_refl _), .inl (by decide)⟩
  · rw [if_neg h] at h0
    obtain ⟨hl0, hL0⟩ := szF_bound h
    have hl : L.length ≤ 1048576 := by omega
    have hL : ∀ x ∈ L, x.length ≤ 1048576 := fun x hx => by have := hL0 x hx; omega
    have hsum : sumR L ≤ 1048576 := sumR_szF h
    have hE := edgesOfP_len n L
    obtain ⟨k1, h1⟩ := laws_toForest_ev n L hl hL
    obtain ⟨k2, h2⟩ := spec_EdgesOf_ev n L hL
    obtain ⟨k3, h3⟩ := impl_EdgesOf_ev n L hl hL
    obtain ⟨k4, h4⟩ := laws_eqEdgeS_refl (edgesOfP n L) (by omega)
    obtain ⟨k5, h5⟩ := laws_eqForest_refl n L hl hL
    obtain ⟨k6, h6⟩ := laws_markIntSS_ev L 1 (by omega) (by omega) (by omega)
    obtain ⟨k7, h7⟩ := laws_markEdgeS_ev (edgesOfP n L) 1 (by omega) (by omega) (by omega)
    obtain ⟨k8, h8⟩ := laws_heldEdgeS_ev 1 (edgesOfP n L).length (by omega) (by omega) (by omega)
    refine ⟨k0 + k1 + k2 + k3 + k4 + k5 + k6 + k7 + k8, _, h0 _ (by omega), .inr ⟨decide_eq_false h, seqR 1 L, edgesOfP n L, seqE 1 (edgesOfP n L).length, 1 + sumR L, 1 + 2 * (edgesOfP n L).length, h1 _ (by omega), h2 _ (by omega), h3 _ (by omega), h4 _ (by omega), h5 _ (by omega), h6 _ (by omega), decide_eq_false (by omega), h7 _ (by omega), by simp [seqE], h8 _ (by omega), decide_eq_false (by omega)⟩⟩

end Go.Proofs.Ytacnlodcbbhahaa.Pure
