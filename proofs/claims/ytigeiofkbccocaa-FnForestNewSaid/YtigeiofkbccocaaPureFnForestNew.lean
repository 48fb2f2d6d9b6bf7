/- In every new forest that is drawn each vertex is alone. No condition is laid beside the statement. -/
import Derived.Test.YtigeiofkbccocaaQFnForestNewx11
import Derived.Laws.BitsLemmas
import Derived.Lib.Bytes
import Derived.OpenShut
namespace Go.Proofs.Ytigeiofkbccocaa.Pure
open Go.RowKit Go.Proofs.Ytigeiofkbccocaa.QFnForestNew Go.Proofs.YtigeiofkbccocaaW.PrintWords Go.Proofs.YtigeiofkbccocaaW.PrintLast
set_option linter.unusedVariables false
set_option linter.unusedSimpArgs false


/-! loops in general -/
theorem wrap_succ {i n : Nat} (h : i < n) (hn : n ≤ 4611686018427387904) : wrap64 ((i : Int) + 1) = ((i + 1 : Nat) : Int) := by unfold wrap64; omega
theorem Ev.loopR {σ β : Type} {L : Nat → σ → Int → Option β} {n : Nat} (R : Nat → σ → β) (I : Nat → σ → Prop)
    (hstep : ∀ (i : Nat) s, i < n → I i s → Ev (fun k => L k s i) (R i s) ∨ ∃ s', I (i + 1) s' ∧ R i s = R (i + 1) s' ∧ ∀ r, Ev (fun k => L k s' ((i + 1 : Nat) : Int)) r → Ev (fun k => L k s i) r)
    (hend : ∀ s, I n s → Ev (fun k => L k s n) (R n s)) : ∀ (d i : Nat) (s : σ), i + d = n → I i s → Ev (fun k => L k s i) (R i s) := by
  intro d
  induction d with
  | zero =>
    intro i s hi hI
    have : i = n := by omega
    subst this
    exact hend s hI
  | succ d ih =>
    intro i s hi hI
    rcases hstep i s (by omega) hI with h | ⟨s', h1, h2, h3⟩
    · exact h
    · rw [h2]
      exact h3 _ (ih (i + 1) s' (by omega) h1)
/-- A loop that builds by appending. -/
theorem Ev.apploop {β γ : Type} {L : Nat → List γ → Int → Option β} {n : Nat} (g : Nat → List γ) (fin : List γ → β) (a0 : List γ)
    (hstep : ∀ (i : Nat) x r, i < n → x = a0 ++ (List.range i).flatMap g → Ev (fun k => L k (x ++ g i) ((i + 1 : Nat) : Int)) r → Ev (fun k => L k x i) r)
    (hend : ∀ x, x = a0 ++ (List.range n).flatMap g → Ev (fun k => L k x n) (fin x)) : Ev (fun k => L k a0 0) (fin (a0 ++ (List.range n).flatMap g)) := by
  have key := Ev.loopR (L := L) (n := n) (fun _ _ => fin (a0 ++ (List.range n).flatMap g)) (fun i x => x = a0 ++ (List.range i).flatMap g) (by
    intro i x hi hx
    right
    refine ⟨x ++ g i, by rw [hx, List.range_succ, List.flatMap_append]; simp, rfl, fun r hr => hstep i x r hi hx hr⟩) (by
    intro x hx
    have := hend x hx
    rw [hx] at this ⊢
    exact this)
  exact key n 0 a0 (by omega) (by simp)
/-- A loop that asks something of each index. -/
theorem Ev.allloop {β : Type} {L : Nat → Int → Option β} {n : Nat} (p : Nat → Bool) (c fin : β)
    (hstep : ∀ (i : Nat) r, i < n → p i = true → Ev (fun k => L k ((i + 1 : Nat) : Int)) r → Ev (fun k => L k i) r)
    (hno : ∀ (i : Nat), i < n → p i = false → Ev (fun k => L k i) c)
    (hend : Ev (fun k => L k n) fin) : Ev (fun k => L k 0) (if (List.range n).all p then fin else c) := by
  have key := Ev.loopR (σ := Unit) (L := fun k _ i => L k i) (n := n) (fun i _ => if (List.range' i (n - i)).all p then fin else c) (fun _ _ => True) (by
    intro i _ hi _
    have e : List.range' i (n - i) = i :: List.range' (i + 1) (n - (i + 1)) := by
      have : n - i = (n - (i + 1)) + 1 := by omega
      rw [this, List.range'_succ]
    cases hp : p i with
    | true => right; exact ⟨(), trivial, by rw [e, List.all_cons, hp, Bool.true_and], fun r hr => hstep i r hi hp hr⟩
    | false => left; rw [e, List.all_cons, hp, Bool.false_and]; exact hno i hi hp) (by
    intro _ _
    simpa using hend)
  have := key n 0 () (by omega) trivial
  rw [List.range_eq_range']
  simpa using this
theorem range_map_getD {α β : Type} (l : List α) (d : α) (h : α → β) : (List.range l.length).map (fun i => h (l.getD i d)) = l.map h := by
  apply List.ext_getElem
  · simp
  · intro i h1 h2
    simp at h1 h2
    simp [List.getD_eq_getElem?_getD, List.getElem?_eq_getElem h2]
theorem range_all_getD {α : Type} (l : List α) (d : α) (h : α → Bool) : (List.range l.length).all (fun i => h (l.getD i d)) = l.all h := by
  have := congrArg (fun l => l.all id) (range_map_getD l d h)
  simpa [List.all_map] using this
theorem flatMap_single {α β : Type} (l : List α) (g : α → β) : l.flatMap (fun x => [g x]) = l.map g := by
  induction l with
  | nil => rfl
  | cons a l ih => simp [ih]
/-- A loop that looks for the first index. -/
def findR {β : Type} (p : Nat → Bool) (c : Nat → β) (fin : β) : Nat → Nat → β
  | 0, _ => fin
  | d + 1, i => if p i then c i else findR p c fin d (i + 1)
theorem Ev.findloop {β : Type} {L : Nat → Int → Option β} {n : Nat} (p : Nat → Bool) (c : Nat → β) (fin : β)
    (hstep : ∀ (i : Nat) r, i < n → p i = false → Ev (fun k => L k ((i + 1 : Nat) : Int)) r → Ev (fun k => L k i) r)
    (hhit : ∀ (i : Nat), i < n → p i = true → Ev (fun k => L k i) (c i))
    (hend : Ev (fun k => L k n) fin) : Ev (fun k => L k 0) (findR p c fin n 0) := by
  have key := Ev.loopR (σ := Unit) (L := fun k _ i => L k i) (n := n) (fun i _ => findR p c fin (n - i) i) (fun _ _ => True) (by
    intro i _ hi _
    have e : findR p c fin (n - i) i = if p i then c i else findR p c fin (n - (i + 1)) (i + 1) := by
      have : n - i = (n - (i + 1)) + 1 := by omega
      rw [this, findR]
    cases hp : p i with
    | false => right; exact ⟨(), trivial, by rw [e, hp]; rfl, fun r hr => hstep i r hi hp hr⟩
    | true => left; rw [e, hp]; exact hhit i hi hp) (by
    intro _ _
    simpa [findR] using hend)
  have := key n 0 () (by omega) trivial
  simpa using this

/-- A loop that asks something of each index; what comes behind it is known where the answer is yes. -/
theorem Ev.allloop3 {β : Type} {L : Nat → Int → Option β} {n : Nat} (p : Nat → Bool) (c fin : β)
    (hstep : ∀ (i : Nat) r, i < n → (∀ j, j < i → p j = true) → (p i = true → Ev (fun k => L k ((i + 1 : Nat) : Int)) r) → Ev (fun k => L k i) (if p i = true then r else c))
    (hend : (∀ j, j < n → p j = true) → Ev (fun k => L k n) fin) : Ev (fun k => L k 0) (if (List.range n).all p = true then fin else c) := by
  have key : ∀ (d i : Nat), i + d = n → (∀ j, j < i → p j = true) → Ev (fun k => L k i) (if (List.range' i d).all p = true then fin else c) := by
    intro d
    induction d with
    | zero => intro i hi hp; have : i = n := by omega
              subst this; simpa using hend hp
    | succ d ih =>
      intro i hi hp
      rw [List.range'_succ, List.all_cons]
      by_cases hpi : p i = true
      · have := hstep i _ (by omega) hp (fun _ => ih (i + 1) (by omega) (fun j hj => by
          by_cases hji : j = i
          · rw [hji]; exact hpi
          · exact hp j (by omega)))
        rw [if_pos hpi] at this
        rw [hpi, Bool.true_and]; exact this
      · have := hstep i c (by omega) hp (fun h => absurd h hpi)
        rw [if_neg hpi] at this
        rw [Bool.eq_false_iff.2 hpi, Bool.false_and]; exact this
  have := key n 0 (by omega) (fun j hj => by omega)
  rw [List.range_eq_range']
  exact this

theorem spec_in_eq (a b c : Int) : spec_l01In.f a b c = some (decide (b ≤ a ∧ a ≤ c)) := by
  unfold spec_l01In.f
  by_cases h : a ≥ b
  · have h' : b ≤ a := h
    simp [h']
  · have h' : ¬ b ≤ a := h
    simp [h']
theorem impl_in_eq (a b c : Int) : impl_in.f a b c = some (decide (b ≤ a ∧ a ≤ c)) := by
  unfold impl_in.f
  by_cases h : a ≥ b
  · have h' : b ≤ a := h
    simp [h']
  · have h' : ¬ b ≤ a := h
    simp [h']

/-! is a number in a row? -/
theorem mem_range_getD {l : List Int} {v : Int} : (∀ i, i < l.length → (!decide (l.getD i 0 = v)) = true) ↔ v ∉ l := by
  constructor
  · intro h hv
    obtain ⟨i, hi, rfl⟩ := List.mem_iff_getElem.1 hv
    have := h i hi
    simp [List.getD_eq_getElem?_getD, List.getElem?_eq_getElem hi] at this
  · intro h i hi
    simp only [Bool.not_eq_true', decide_eq_false_iff_not]
    intro he
    apply h
    rw [← he]
    simp [List.getD_eq_getElem?_getD, List.getElem?_eq_getElem hi]
theorem all_not_mem (l : List Int) (v : Int) : (if (List.range l.length).all (fun i => !decide (l.getD i 0 = v)) then false else true) = decide (v ∈ l) := by
  by_cases h : v ∈ l
  · have : ¬ (List.range l.length).all (fun i => !decide (l.getD i 0 = v)) = true := by
      rw [List.all_eq_true]
      intro hh
      exact mem_range_getD.1 (fun i hi => hh i (List.mem_range.2 hi)) h
    rw [if_neg this, decide_eq_true h]
  · have : (List.range l.length).all (fun i => !decide (l.getD i 0 = v)) = true := by
      rw [List.all_eq_true]
      intro i hi
      exact mem_range_getD.2 h i (List.mem_range.1 hi)
    rw [if_pos this, decide_eq_false h]

theorem impl_hasInt_ev (l : List Int) (v : Int) (hl : l.length ≤ 4611686018427387904) : Ev (fun k => impl_hasInt.f k l v) (decide (v ∈ l)) := by
  simp only [impl_hasInt.f]
  rw [← all_not_mem]
  refine Ev.allloop (L := fun k i => impl_hasInt.l0 k v l l.length i) (n := l.length) (fun i => !decide (l.getD i 0 = v)) true false ?_ ?_ ?_
  · intro i r hi hp h
    simp only [Bool.not_eq_true', decide_eq_false_iff_not] at hp
    refine Ev.step (fun k => by rw [impl_hasInt.l0, if_pos (by omega), if_pos (by omega), if_pos (by omega), rd, Int.toNat_natCast, if_neg hp, wrap_succ hi hl]) ?_
    exact h
  · intro i hi hp
    simp only [Bool.not_eq_false', decide_eq_true_eq] at hp
    refine Ev.step (fun k => by rw [impl_hasInt.l0, if_pos (by omega), if_pos (by omega), if_pos (by omega), rd, Int.toNat_natCast, if_pos hp]) ?_
    exact Ev.now _
  · refine Ev.step (fun k => by rw [impl_hasInt.l0, if_neg (by omega)]) ?_
    exact Ev.now _

/-! tours that are right -/
def inR (x : Int) : Bool := decide (0 ≤ x ∧ x ≤ 11)
def trun : List Int → List Int → List Int → Bool
  | [], path, _ => ((path.length : Int) == 1)
  | v :: l, path, met => if 1 < path.length ∧ path.getD (path.length - 2) 0 = v then trun l (path.take (path.length - 1)) met else (if v ∈ met then false else trun l (path ++ [v]) (met ++ [v]))
def trunI : List Int → List Int → List Int → Bool
  | [], path, _ => ((path.length : Int) == 1)
  | v :: l, path, met => if 1 < path.length ∧ path.getD (path.length - 2) 0 = v then trunI l (path.take (path.length - 1)) met else (if inR v = true then (if v ∈ met then false else trunI l (path ++ [v]) (met ++ [v])) else false)
theorem trunI_eq : ∀ (l path met : List Int), (∀ x ∈ path, inR x = true) → trunI l path met = (l.all inR && trun l path met)
  | [], path, met, h => by simp [trunI, trun]
  | v :: l, path, met, h => by
    rw [trunI, trun, List.all_cons]
    by_cases c : 1 < path.length ∧ path.getD (path.length - 2) 0 = v
    · have hv : inR v = true := by
        rw [← c.2]
        apply h
        have : path.length - 2 < path.length := by omega
        rw [List.getD_eq_getElem?_getD, List.getElem?_eq_getElem this]
        exact List.getElem_mem this
      rw [if_pos c, if_pos c, trunI_eq l _ met (fun x hx => h x (List.mem_of_mem_take hx)), hv, Bool.true_and]
    · rw [if_neg c, if_neg c]
      by_cases hv : inR v = true
      · rw [if_pos hv, hv, Bool.true_and]
        by_cases hm : v ∈ met
        · rw [if_pos hm, if_pos hm, Bool.and_false]
        · rw [if_neg hm, if_neg hm]
          refine trunI_eq l _ _ (fun x hx => ?_)
          rcases List.mem_append.mp hx with hx | hx
          · exact h x hx
          · simp at hx; rw [hx]; exact hv
      · rw [if_neg hv, Bool.eq_false_iff.2 hv]
        simp
def tourOk (l : List Int) : Bool := decide (1 ≤ (l.length : Int) ∧ (l.length : Int) ≤ 23) && (l.all inR && match l with
  | [] => false
  | r :: t => trun t [r] [r])
theorem impl_TourOk_l0_ev (l : List Int) (hl : l.length ≤ 1000) : ∀ (d i : Nat) (path met : List Int), i + d = l.length → path.length ≤ i + 1 → met.length ≤ i + 1 → 1 ≤ path.length →
    Ev (fun k => impl_TourOk.l0 k path met l l.length i) (trunI (l.drop i) path met) := by
  intro d
  induction d with
  | zero =>
    intro i path met hi hp hm h3
    rw [List.drop_of_length_le (by omega), trunI]
    refine Ev.step (fun k => by rw [impl_TourOk.l0, if_neg (by omega)]) ?_
    exact Ev.now _
  | succ d ih =>
    intro i path met hi hp hm h3
    have hil : i < l.length := by omega
    have hg : rd l (i : Int) = l[i] := by simp [rd, List.getD_eq_getElem?_getD, List.getElem?_eq_getElem hil]
    rw [List.drop_eq_getElem_cons hil, trunI]
    have hj : ∀ b : Bool, (b = true → 1 < path.length) → Ev (fun k => impl_TourOk.j2 k path met l[i] path.length l l.length i b) (if b = true then trunI (l.drop (i + 1)) (path.take (path.length - 1)) met else (if inR l[i] = true then (if l[i] ∈ met then false else trunI (l.drop (i + 1)) (path ++ [l[i]]) (met ++ [l[i]])) else false)) := by
      intro b hb
      cases b with
      | true =>
        have hb := hb rfl
        have e : wrap64 ((path.length : Int) - 1) = ((path.length - 1 : Nat) : Int) := by unfold wrap64; omega
        rw [if_pos rfl]
        refine Ev.step (fun k => by rw [impl_TourOk.j2, if_pos rfl, e, if_pos (by omega), if_pos (by omega), Int.toNat_natCast, wrap_succ hil (by omega)]) ?_
        exact ih (i + 1) _ _ (by omega) (by rw [List.length_take]; omega) (by omega) (by rw [List.length_take]; omega)
      | false =>
        rw [if_neg (by simp)]
        refine Ev.step (fun k => by rw [impl_TourOk.j2, if_neg (by simp), impl_in_eq, Option.bind_some, wrap_succ hil (by omega)]) ?_
        unfold inR
        by_cases hr : 0 ≤ l[i] ∧ l[i] ≤ 11
        · simp only [decide_eq_true hr, if_true]
          refine Ev.bind (impl_hasInt_ev met l[i] (by omega)) ?_
          by_cases hm2 : l[i] ∈ met
          · simp only [decide_eq_true hm2, if_true, if_pos hm2]; exact Ev.now _
          · simp only [decide_eq_false hm2, Bool.false_eq_true, if_false, if_neg hm2, if_pos (show met.length < 17592186044416 by omega), if_pos (show path.length < 17592186044416 by omega)]
            exact ih (i + 1) _ _ (by omega) (by simp; omega) (by simp; omega) (by simp)
        · simp only [decide_eq_false hr, Bool.false_eq_true, if_false]; exact Ev.now _
    by_cases c1 : (path.length : Int) > 1
    · have e2 : wrap64 ((path.length : Int) - 2) = ((path.length - 2 : Nat) : Int) := by unfold wrap64; omega
      refine Ev.step (fun k => by rw [impl_TourOk.l0, if_pos (by omega), if_pos (by omega), if_pos (by omega), if_pos c1, e2, if_pos (by omega), if_pos (by omega), hg]) ?_
      have := hj (rd path ((path.length - 2 : Nat) : Int) == l[i]) (fun _ => by omega)
      have e3 : (if (rd path ((path.length - 2 : Nat) : Int) == l[i]) = true then trunI (l.drop (i + 1)) (path.take (path.length - 1)) met else (if inR l[i] = true then (if l[i] ∈ met then false else trunI (l.drop (i + 1)) (path ++ [l[i]]) (met ++ [l[i]])) else false)) = (if 1 < path.length ∧ path.getD (path.length - 2) 0 = l[i] then trunI (l.drop (i + 1)) (path.take (path.length - 1)) met else (if inR l[i] = true then (if l[i] ∈ met then false else trunI (l.drop (i + 1)) (path ++ [l[i]]) (met ++ [l[i]])) else false)) := by
        have e4 : rd path ((path.length - 2 : Nat) : Int) = path.getD (path.length - 2) 0 := by simp [rd]
        rw [e4]
        by_cases c : path.getD (path.length - 2) 0 = l[i]
        · rw [if_pos (by rw [c]; simp), if_pos ⟨by omega, c⟩]
        · rw [if_neg (by simp only [beq_iff_eq]; exact fun h => c h), if_neg (show ¬ (1 < path.length ∧ path.getD (path.length - 2) 0 = l[i]) from fun h => c h.2)]
      rw [← e3]
      exact this
    · refine Ev.step (fun k => by rw [impl_TourOk.l0, if_pos (by omega), if_pos (by omega), if_pos (by omega), if_neg c1, hg]) ?_
      rw [if_neg (show ¬ (1 < path.length ∧ path.getD (path.length - 2) 0 = l[i]) by omega)]
      have := hj false (fun h => by cases h)
      rw [if_neg (show ¬ (false = true) by simp)] at this
      exact this
theorem impl_TourOk_ev (l : List Int) : Ev (fun k => impl_TourOk.f k l) (tourOk l) := by
  simp only [impl_TourOk.f, impl_in_eq, Option.bind_some, tourOk]
  have hno : Ev (fun k => impl_TourOk.j0 k l true) false := by
    refine Ev.step (fun k => by rw [impl_TourOk.j0, if_pos rfl]) ?_
    exact Ev.now _
  by_cases h : 1 ≤ (l.length : Int) ∧ (l.length : Int) ≤ 23
  · simp only [decide_eq_true h, if_true, Bool.true_and]
    cases l with
    | nil => simp at h
    | cons r t =>
      have e : rd (r :: t) 0 = r := rfl
      have hlt : (0 : Int) < ((r :: t).length : Int) := by rw [List.length_cons]; omega
      simp only [if_pos hlt, e]
      by_cases hr : 0 ≤ r ∧ r ≤ 11
      · simp only [decide_eq_true hr, Bool.not_true]
        refine Ev.step (fun k => by rw [impl_TourOk.j0, if_neg (by simp), if_pos hlt, if_pos (by omega), e]) ?_
        have hr2 : inR r = true := by unfold inR; exact decide_eq_true hr
        have := impl_TourOk_l0_ev t (by simp at h; omega) t.length 0 [r] [r] (by omega) (by simp) (by simp) (by simp)
        rw [List.drop_zero, trunI_eq t [r] [r] (by simp [hr2])] at this
        simp only [List.all_cons, hr2, Bool.true_and]
        exact this
      · simp only [decide_eq_false hr, Bool.not_false]
        have hr2 : inR r = false := by unfold inR; exact decide_eq_false hr
        simp only [List.all_cons, hr2, Bool.false_and]
        exact hno
  · simp only [decide_eq_false h, Bool.false_eq_true, if_false, Bool.false_and]
    exact hno

/-! ascending rows -/
theorem asc_ext : ∀ {l m : List Int}, l.Pairwise (· < ·) → m.Pairwise (· < ·) → (∀ x, x ∈ l ↔ x ∈ m) → l = m
  | [], [], _, _, _ => rfl
  | [], b :: m, _, _, h => absurd ((h b).2 List.mem_cons_self) (by simp)
  | a :: l, [], _, _, h => absurd ((h a).1 List.mem_cons_self) (by simp)
  | a :: l, b :: m, hl, hm, h => by
    rw [List.pairwise_cons] at hl hm
    have hab : a = b := by
      have h1 := (h a).1 List.mem_cons_self
      have h2 := (h b).2 List.mem_cons_self
      rcases List.mem_cons.1 h1 with e | e
      · exact e
      · rcases List.mem_cons.1 h2 with e2 | e2
        · exact e2.symm
        · have := hm.1 a e; have := hl.1 b e2; omega
    subst hab
    rw [asc_ext hl.2 hm.2 (fun x => ⟨fun hx => by
      rcases List.mem_cons.1 ((h x).1 (List.mem_cons_of_mem _ hx)) with e | e
      · have := hl.1 x hx; omega
      · exact e, fun hx => by
      rcases List.mem_cons.1 ((h x).2 (List.mem_cons_of_mem _ hx)) with e | e
      · have := hm.1 x hx; omega
      · exact e⟩)]
def insS : List Int → Int → List Int
  | [], n => [n]
  | x :: l, n => if x < n then x :: insS l n else if x = n then x :: l else n :: x :: l
theorem insS_mem {n y : Int} : ∀ {l : List Int}, y ∈ insS l n ↔ y = n ∨ y ∈ l
  | [] => by simp [insS]
  | x :: l => by
    rw [insS]
    split
    · rw [List.mem_cons, insS_mem, List.mem_cons]
      constructor
      · rintro (h | h | h) <;> simp [h]
      · rintro (h | h | h) <;> simp [h]
    · split
      · rename_i h; subst h; simp
      · simp
theorem insS_asc {n : Int} : ∀ {l : List Int}, l.Pairwise (· < ·) → (insS l n).Pairwise (· < ·)
  | [], _ => by simp [insS]
  | x :: l, h => by
    rw [insS]
    have h' := List.pairwise_cons.1 h
    split
    · rename_i hx
      refine List.pairwise_cons.2 ⟨fun y hy => ?_, insS_asc h'.2⟩
      rcases insS_mem.1 hy with e | e
      · omega
      · exact h'.1 y e
    · split
      · exact h
      · refine List.pairwise_cons.2 ⟨fun y hy => ?_, h⟩
        rcases List.mem_cons.1 hy with e | e
        · omega
        · have := h'.1 y e; omega
theorem insS_len (n : Int) : ∀ (l : List Int), (insS l n).length ≤ l.length + 1
  | [] => by simp [insS]
  | x :: l => by
    rw [insS]
    have := insS_len n l
    split
    · simp; omega
    · split <;> simp

theorem impl_copyInts_eq (l : List Int) (hl : l.length < 17592186044416) : impl_copyInts.f l = some l := by
  simp [impl_copyInts.f, hl]
theorem impl_with_ev (l : List Int) (n : Int) (hl : l.length ≤ 1048576) : Ev (fun k => impl_with.f k l n) (insS l n) := by
  simp only [impl_with.f]
  have key : ∀ (d i : Nat), i + d = l.length → Ev (fun k => impl_with.l0 k l n i) (l.take i ++ insS (l.drop i) n) := by
    intro d
    induction d with
    | zero =>
      intro i hi
      have hcp : impl_copyInts.f (l.take ((i : Nat) : Int).toNat) = some (l.take i) := by
        rw [Int.toNat_natCast]; exact impl_copyInts_eq _ (by rw [List.length_take]; omega)
      refine Ev.step (fun k => by rw [impl_with.l0, if_neg (by omega), if_pos (by omega), if_pos (by omega), hcp]) ?_
      simp only [Option.bind_some, List.length_take, List.length_singleton, List.length_append, List.length_drop, Int.toNat_natCast]
      rw [if_pos (by omega), if_pos (by omega), List.drop_of_length_le (by omega), insS, List.append_nil]
      exact Ev.now _
    | succ d ih =>
      intro i hi
      have hil : i < l.length := by omega
      have hg : rd l (i : Int) = l[i] := by simp [rd, List.getD_eq_getElem?_getD, List.getElem?_eq_getElem hil]
      have hcp : impl_copyInts.f (l.take ((i : Nat) : Int).toNat) = some (l.take i) := by
        rw [Int.toNat_natCast]; exact impl_copyInts_eq _ (by rw [List.length_take]; omega)
      rw [List.drop_eq_getElem_cons hil, insS]
      by_cases h1 : l[i] < n
      · rw [if_pos h1]
        have := ih (i + 1) (by omega)
        rw [List.take_succ_eq_append_getElem hil, List.append_assoc] at this
        refine Ev.step (fun k => by rw [impl_with.l0, if_pos (by omega), if_pos (by omega), hg, if_pos h1, wrap_succ hil (by omega)]) ?_
        exact this
      · rw [if_neg h1]
        by_cases h2 : l[i] = n
        · rw [if_pos h2, ← List.drop_eq_getElem_cons hil, List.take_append_drop]
          refine Ev.step (fun k => by rw [impl_with.l0, if_pos (by omega), if_pos (by omega), hg, if_neg h1, if_pos h2]) ?_
          exact Ev.now _
        · rw [if_neg h2]
          refine Ev.step (fun k => by rw [impl_with.l0, if_pos (by omega), if_pos (by omega), hg, if_neg h1, if_neg h2, if_pos (by omega), hcp]) ?_
          simp only [Option.bind_some, List.length_take, List.length_singleton, List.length_append, List.length_drop, Int.toNat_natCast]
          rw [if_pos (by omega), if_pos (by omega), ← List.drop_eq_getElem_cons hil]
          have e : l.take i ++ n :: l.drop i = l.take i ++ [n] ++ l.drop i := by simp
          rw [e]
          exact Ev.now _
  have := key l.length 0 (by omega)
  simpa using this

/-! the vertices of a tour -/
def vertsP (l : List Int) : List Int := ((List.range 12).filter (fun (i : Nat) => decide ((i : Int) ∈ l))).map (fun (i : Nat) => (i : Int))
theorem range_asc (p : Nat → Bool) : ∀ n : Nat, (((List.range n).filter p).map (fun (i : Nat) => (i : Int))).Pairwise (· < ·) := by
  intro n
  rw [List.pairwise_map]
  refine List.Pairwise.filter _ ?_
  refine List.Pairwise.imp ?_ List.pairwise_lt_range
  intro a b h; omega
theorem vertsP_asc (l : List Int) : (vertsP l).Pairwise (· < ·) := range_asc _ _
theorem vertsP_mem {l : List Int} {x : Int} : x ∈ vertsP l ↔ x ∈ l ∧ 0 ≤ x ∧ x ≤ 11 := by
  unfold vertsP
  simp only [List.mem_map, List.mem_filter, List.mem_range, decide_eq_true_eq]
  constructor
  · rintro ⟨i, ⟨h1, h2⟩, rfl⟩; exact ⟨h2, by omega, by omega⟩
  · rintro ⟨h1, h2, h3⟩
    refine ⟨x.toNat, ⟨by omega, ?_⟩, by omega⟩
    rwa [Int.toNat_of_nonneg h2]
theorem vertsP_len (l : List Int) : (vertsP l).length ≤ 12 := by
  unfold vertsP
  rw [List.length_map]
  exact Nat.le_trans (List.length_filter_le _ _) (by simp)
theorem tourOk_mem {l : List Int} (h : tourOk l = true) : 1 ≤ l.length ∧ l.length ≤ 23 ∧ ∀ x ∈ l, 0 ≤ x ∧ x ≤ 11 := by
  unfold tourOk at h
  rw [Bool.and_eq_true, Bool.and_eq_true, List.all_eq_true] at h
  have h1 := of_decide_eq_true h.1
  refine ⟨by omega, by omega, fun x hx => ?_⟩
  have := h.2.1 x hx
  unfold inR at this
  exact of_decide_eq_true this
theorem tour_verts {l : List Int} (h : tourOk l = true) {x : Int} : x ∈ vertsP l ↔ x ∈ l := by
  rw [vertsP_mem]
  exact ⟨fun h => h.1, fun hx => ⟨hx, (tourOk_mem h).2.2 x hx⟩⟩
theorem tour_verts_pos {l : List Int} (h : tourOk l = true) : 1 ≤ (vertsP l).length := by
  have h1 := (tourOk_mem h).1
  cases l with
  | nil => simp at h1
  | cons a l =>
    have : a ∈ vertsP (a :: l) := (tour_verts h).2 List.mem_cons_self
    exact List.length_pos_of_mem this

theorem insF_mem {x : Int} : ∀ {l acc : List Int}, x ∈ l.foldl insS acc ↔ x ∈ acc ∨ x ∈ l
  | [], acc => by simp
  | e :: l, acc => by
    rw [List.foldl_cons, insF_mem, insS_mem, List.mem_cons]
    constructor
    · rintro ((h | h) | h) <;> simp [h]
    · rintro (h | h | h) <;> simp [h]
theorem insF_asc : ∀ {l acc : List Int}, acc.Pairwise (· < ·) → (l.foldl insS acc).Pairwise (· < ·)
  | [], _, h => h
  | e :: l, acc, h => by rw [List.foldl_cons]; exact insF_asc (insS_asc h)
theorem insF_verts {l : List Int} (h : ∀ x ∈ l, 0 ≤ x ∧ x ≤ 11) : l.foldl insS [] = vertsP l := by
  refine asc_ext (insF_asc List.Pairwise.nil) (vertsP_asc l) (fun x => ?_)
  rw [insF_mem, vertsP_mem]
  simp only [List.not_mem_nil, false_or]
  exact ⟨fun hx => ⟨hx, h x hx⟩, fun h => h.1⟩
theorem impl_VertsOf_ev (l : List Int) (hl : l.length ≤ 1000) (h : ∀ x ∈ l, 0 ≤ x ∧ x ≤ 11) : Ev (fun k => impl_VertsOf.f k l) (vertsP l) := by
  simp only [impl_VertsOf.f]
  rw [← insF_verts h]
  have := Ev.loopR (σ := List Int) (L := fun k s i => impl_VertsOf.l0 k s l (l.length : Int) i) (n := l.length) (fun i s => (l.drop i).foldl insS s) (fun i s => s.length ≤ i) ?_ ?_ l.length 0 [] (by omega) (by simp)
  · simpa using this
  · intro i s hi hs
    right
    have hg : rd l (i : Int) = l[i] := by simp [rd, List.getD_eq_getElem?_getD, List.getElem?_eq_getElem hi]
    refine ⟨insS s l[i], ?_, ?_, ?_⟩
    · have := insS_len l[i] s; omega
    · rw [List.drop_eq_getElem_cons hi, List.foldl_cons]
    · intro r hr
      refine Ev.step (fun k => by rw [impl_VertsOf.l0, if_pos (by omega), if_pos (by omega), if_pos (by omega), hg, wrap_succ hi (by omega)]) ?_
      refine Ev.bind (impl_with_ev s _ (by omega)) ?_
      exact hr
  · intro s hs
    refine Ev.step (fun k => by rw [impl_VertsOf.l0, if_neg (by omega)]) ?_
    simp only [List.drop_length, List.foldl_nil]
    exact Ev.now _

/-! forests that are right -/
def headV (l : List Int) : Int := (vertsP l).getD 0 0
def fokAt (n : Int) (L : List (List Int)) (i : Nat) : Bool := decide (tourOk (L.getD i []) = true ∧ (∀ x ∈ L.getD i [], x < n) ∧ (i = 0 ∨ headV (L.getD (i - 1) []) < headV (L.getD i [])) ∧ ∀ k, k < i → ∀ x ∈ L.getD i [], x ∉ L.getD k [])
def sumV (L : List (List Int)) (i : Nat) : Nat := ((L.take i).flatMap vertsP).length
def forestOk (n : Int) (L : List (List Int)) : Bool := decide (1 ≤ n ∧ n ≤ 12) && (if (List.range L.length).all (fokAt n L) then decide ((sumV L L.length : Int) = n) else false)
theorem sumV_succ {L : List (List Int)} {i : Nat} (hi : i < L.length) : sumV L (i + 1) = sumV L i + (vertsP (L.getD i [])).length := by
  unfold sumV
  rw [List.take_succ_eq_append_getElem hi, List.flatMap_append, List.length_append]
  simp [List.getD_eq_getElem?_getD, List.getElem?_eq_getElem hi]
theorem fokAt_tour {n : Int} {L : List (List Int)} {i : Nat} (h : fokAt n L i = true) : tourOk (L.getD i []) = true := (of_decide_eq_true h).1
theorem sumV_le (L : List (List Int)) : ∀ i, i ≤ L.length → sumV L i ≤ 12 * i
  | 0, _ => by simp [sumV]
  | i + 1, hi => by
    rw [sumV_succ (by omega)]
    have := sumV_le L i (by omega)
    have := vertsP_len (L.getD i [])
    omega
theorem forestOk_iff {n : Int} {L : List (List Int)} : forestOk n L = true ↔ (1 ≤ n ∧ n ≤ 12) ∧ (∀ i, i < L.length → fokAt n L i = true) ∧ (sumV L L.length : Int) = n := by
  unfold forestOk
  rw [Bool.and_eq_true, decide_eq_true_eq]
  refine and_congr Iff.rfl ?_
  by_cases h : (List.range L.length).all (fokAt n L) = true
  · rw [if_pos h]
    rw [List.all_eq_true] at h
    exact ⟨fun h2 => ⟨fun i hi => h i (List.mem_range.2 hi), of_decide_eq_true h2⟩, fun h2 => decide_eq_true h2.2⟩
  · rw [if_neg h]
    constructor
    · intro h2; cases h2
    · intro h2
      refine absurd ?_ h
      rw [List.all_eq_true]
      exact fun i hi => h2.1 i (List.mem_range.1 hi)
theorem forestOk_tour {n : Int} {L : List (List Int)} (h : forestOk n L = true) {l : List Int} (hl : l ∈ L) : tourOk l = true := by
  obtain ⟨h1, h2, h3⟩ := forestOk_iff.1 h
  obtain ⟨i, hi, rfl⟩ := List.mem_iff_getElem.1 hl
  have := fokAt_tour (h2 i hi)
  rwa [List.getD_eq_getElem?_getD, List.getElem?_eq_getElem hi] at this
theorem getD_len {L : List (List Int)} (hL : ∀ x ∈ L, x.length ≤ 1048576) (k : Nat) : (L.getD k []).length ≤ 1048576 := by
  by_cases hk : k < L.length
  · rw [List.getD_eq_getElem?_getD, List.getElem?_eq_getElem hk, Option.getD_some]
    exact hL _ (List.getElem_mem hk)
  · rw [List.getD_eq_getElem?_getD, List.getElem?_eq_none (by omega)]; simp

theorem mem_met {n : Int} {L : List (List Int)} {i : Nat} (hi : i ≤ L.length) (hs : ∀ j, j < i → fokAt n L j = true) {x : Int} : x ∈ (L.take i).flatMap vertsP ↔ ∃ k, k < i ∧ x ∈ L.getD k [] := by
  rw [List.mem_flatMap]
  constructor
  · rintro ⟨l, hl, hx⟩
    obtain ⟨k, hk, rfl⟩ := List.mem_iff_getElem.1 hl
    rw [List.length_take] at hk
    refine ⟨k, by omega, ?_⟩
    rw [List.getElem_take] at hx
    rw [List.getD_eq_getElem?_getD, List.getElem?_eq_getElem (by omega), Option.getD_some]
    exact (vertsP_mem.1 hx).1
  · rintro ⟨k, hk, hx⟩
    refine ⟨L.getD k [], ?_, (tour_verts (fokAt_tour (hs k hk))).2 hx⟩
    rw [List.getD_eq_getElem?_getD, List.getElem?_eq_getElem (by omega), Option.getD_some]
    exact List.mem_take_iff_getElem.2 ⟨k, by omega, rfl⟩
theorem impl_forest_step (n : Int) (L : List (List Int)) (hl : L.length ≤ 1048576) (hL : ∀ k, (L.getD k []).length ≤ 1048576) (i : Nat) (hi : i < L.length) (hs : ∀ j, j < i → fokAt n L j = true) (r : Bool)
    (h : fokAt n L i = true → Ev (fun k => impl_ForestOk.l0 k ((L.take (i + 1)).flatMap vertsP) L (L.length : Int) ((i + 1 : Nat) : Int) n L) r) :
    Ev (fun k => impl_ForestOk.l0 k ((L.take i).flatMap vertsP) L (L.length : Int) i n L) (if fokAt n L i = true then r else false) := by
  have hg : ∀ k : Nat, rd_L2 L (k : Int) = L.getD k [] := fun k => by simp [rd_L2]
  have hv := vertsP_len (L.getD i [])
  have hsum := sumV_le L i (by omega)
  unfold sumV at hsum
  refine Ev.step (fun k => by rw [impl_ForestOk.l0, if_pos (by omega), if_pos (by omega), if_pos (by omega), hg]) ?_
  refine Ev.bind (impl_TourOk_ev _) ?_
  by_cases ht : tourOk (L.getD i []) = true
  · simp only [if_pos ht]
    have htm := tourOk_mem ht
    refine Ev.bind (impl_VertsOf_ev _ (by omega) htm.2.2) ?_
    have hp := tour_verts_pos ht
    have iff1 : (List.range (vertsP (L.getD i [])).length).all (fun j => !decide ((vertsP (L.getD i [])).getD j 0 ≥ n) && !decide ((vertsP (L.getD i [])).getD j 0 ∈ (L.take i).flatMap vertsP)) = true ↔ ((∀ x ∈ L.getD i [], x < n) ∧ ∀ k, k < i → ∀ x ∈ L.getD i [], x ∉ L.getD k []) := by
      rw [range_all_getD (vertsP (L.getD i [])) 0 (fun x => !decide (x ≥ n) && !decide (x ∈ (L.take i).flatMap vertsP)), List.all_eq_true]
      constructor
      · intro hc
        refine ⟨fun x hx => ?_, fun k hk x hx hx2 => ?_⟩
        · have := hc x ((tour_verts ht).2 hx)
          simp only [Bool.and_eq_true, Bool.not_eq_true', decide_eq_false_iff_not] at this
          omega
        · have := hc x ((tour_verts ht).2 hx)
          simp only [Bool.and_eq_true, Bool.not_eq_true', decide_eq_false_iff_not] at this
          exact this.2 ((mem_met (by omega) hs).2 ⟨k, hk, hx2⟩)
      · rintro ⟨c1, c2⟩ x hx
        have hx := (tour_verts ht).1 hx
        have := c1 x hx
        simp only [Bool.and_eq_true, Bool.not_eq_true', decide_eq_false_iff_not]
        refine ⟨by omega, fun hm => ?_⟩
        obtain ⟨k, hk, hx2⟩ := (mem_met (by omega) hs).1 hm
        exact c2 k hk x hx hx2
    have := Ev.allloop3 (L := fun k j => impl_ForestOk.l1 k ((L.take i).flatMap vertsP) i (vertsP (L.getD i [])) L (L.length : Int) i (vertsP (L.getD i [])) ((vertsP (L.getD i [])).length : Int) j n L) (n := (vertsP (L.getD i [])).length) (fun j => !decide ((vertsP (L.getD i [])).getD j 0 ≥ n) && !decide ((vertsP (L.getD i [])).getD j 0 ∈ (L.take i).flatMap vertsP)) false (if fokAt n L i = true then r else false) ?_ ?_
    · have e : (if fokAt n L i = true then r else false) = (if (List.range (vertsP (L.getD i [])).length).all (fun j => !decide ((vertsP (L.getD i [])).getD j 0 ≥ n) && !decide ((vertsP (L.getD i [])).getD j 0 ∈ (L.take i).flatMap vertsP)) = true then (if fokAt n L i = true then r else false) else false) := by
        by_cases c : (List.range (vertsP (L.getD i [])).length).all (fun j => !decide ((vertsP (L.getD i [])).getD j 0 ≥ n) && !decide ((vertsP (L.getD i [])).getD j 0 ∈ (L.take i).flatMap vertsP)) = true
        · rw [if_pos c]
        · rw [if_neg c, if_neg (show ¬ fokAt n L i = true from fun hf => c (iff1.2 ⟨(of_decide_eq_true hf).2.1, (of_decide_eq_true hf).2.2.2⟩))]
      rw [e]
      exact this
    · intro j r2 hj _ h2
      refine Ev.step (fun k' => by rw [impl_ForestOk.l1, if_pos (by omega), if_pos (by omega), if_pos (by omega), rd, Int.toNat_natCast, wrap_succ hj (by omega)]) ?_
      by_cases hn : (vertsP (L.getD i [])).getD j 0 ≥ n
      · simp only [if_pos hn, decide_eq_true hn, Bool.not_true, Bool.false_and, Bool.false_eq_true, if_false]
        exact Ev.now _
      · simp only [if_neg hn, decide_eq_false hn, Bool.not_false, Bool.true_and] at h2 ⊢
        refine Ev.bind (impl_hasInt_ev _ _ (by omega)) ?_
        by_cases hm : (vertsP (L.getD i [])).getD j 0 ∈ (L.take i).flatMap vertsP
        · simp only [decide_eq_true hm, if_true, Bool.not_true, Bool.false_eq_true, if_false]
          exact Ev.now _
        · simp only [decide_eq_false hm, Bool.not_false, Bool.false_eq_true, if_false, if_true] at h2 ⊢
          exact h2 trivial
    · intro hpj
      have hc := iff1.1 (by rw [List.all_eq_true]; exact fun j hj => hpj j (List.mem_range.1 hj))
      have happ : (L.take i).flatMap vertsP ++ vertsP (L.getD i []) = (L.take (i + 1)).flatMap vertsP := by
        rw [List.take_succ_eq_append_getElem hi, List.flatMap_append]
        simp [List.getD_eq_getElem?_getD, List.getElem?_eq_getElem hi]
      refine Ev.step (fun k' => by rw [impl_ForestOk.l1, if_neg (by omega), if_pos (by omega), Option.bind_some, happ, wrap_succ hi (by omega)]) ?_
      by_cases hi0 : (i : Int) > 0
      · have e3 : wrap64 ((i : Int) - 1) = ((i - 1 : Nat) : Int) := by unfold wrap64; omega
        have htp := fokAt_tour (hs (i - 1) (by omega))
        have hp' := tour_verts_pos htp
        have htm' := tourOk_mem htp
        simp only [if_pos hi0, e3, if_pos (show (0 : Int) ≤ ((i - 1 : Nat) : Int) by omega), if_pos (show ((i - 1 : Nat) : Int) < (L.length : Int) by omega), hg]
        refine Ev.bind (impl_VertsOf_ev _ (by omega) htm'.2.2) ?_
        simp only [if_pos (show (0 : Int) < ((vertsP (L.getD (i - 1) [])).length : Int) by omega), if_pos (show (0 : Int) < ((vertsP (L.getD i [])).length : Int) by omega)]
        have h0 : ∀ l, rd (vertsP l) 0 = headV l := fun l => by simp [rd, headV]
        simp only [h0]
        by_cases hcc : headV (L.getD (i - 1) []) ≥ headV (L.getD i [])
        · simp only [if_pos hcc]
          rw [if_neg ?_]
          · exact Ev.now _
          · intro hf
            have hf := of_decide_eq_true hf
            rcases hf.2.2.1 with h1 | h1 <;> omega
        · simp only [if_neg hcc]
          have hf : fokAt n L i = true := decide_eq_true ⟨ht, hc.1, .inr (by omega), hc.2⟩
          rw [if_pos hf]
          exact h hf
      · simp only [if_neg hi0]
        have hf : fokAt n L i = true := decide_eq_true ⟨ht, hc.1, .inl (by omega), hc.2⟩
        rw [if_pos hf]
        exact h hf
  · simp only [if_neg ht]
    rw [if_neg (fun hf => ht (fokAt_tour hf))]
    exact Ev.now _
theorem impl_ForestOk_ev (n : Int) (L : List (List Int)) (hl : L.length ≤ 1048576) (hL : ∀ x ∈ L, x.length ≤ 1048576) : Ev (fun k => impl_ForestOk.f k n L) (forestOk n L) := by
  simp only [impl_ForestOk.f, impl_in_eq, Option.bind_some, decide_eq_true_eq]
  unfold forestOk
  by_cases h1 : 1 ≤ n ∧ n ≤ 12
  · simp only [if_pos h1]
    rw [decide_eq_true h1, Bool.true_and]
    have := Ev.allloop3 (L := fun k i => impl_ForestOk.l0 k ((L.take i.toNat).flatMap vertsP) L (L.length : Int) i n L) (n := L.length) (fokAt n L) false (decide ((sumV L L.length : Int) = n)) ?_ ?_
    · simpa using this
    · intro i r hi hs hr
      simp only [Int.toNat_natCast] at hr ⊢
      exact impl_forest_step n L hl (getD_len hL) i hi hs r hr
    · intro _
      refine Ev.step (fun k => by rw [impl_ForestOk.l0, if_neg (by omega)]) ?_
      simp only [Int.toNat_natCast]
      have e : ((((L.take L.length).flatMap vertsP).length : Int) == n) = decide ((sumV L L.length : Int) = n) := by rfl
      rw [e]
      exact Ev.now _
  · simp only [if_neg h1]
    rw [decide_eq_false h1, Bool.false_and]
    exact Ev.now _

theorem findR_range (p : Nat → Bool) : ∀ (d i : Nat), findR p (fun i => (i : Int)) (-1) d i = -1 ∨ ((i : Int) ≤ findR p (fun i => (i : Int)) (-1) d i ∧ findR p (fun i => (i : Int)) (-1) d i < ((i + d : Nat) : Int) ∧ p (findR p (fun i => (i : Int)) (-1) d i).toNat = true)
  | 0, _ => Or.inl rfl
  | d + 1, i => by
    rw [findR]
    split
    · rename_i h; right; exact ⟨Int.le_refl _, by omega, by simpa using h⟩
    · rcases findR_range p d (i + 1) with h | h
      · exact Or.inl h
      · right; exact ⟨by omega, by omega, h.2.2⟩

/-! the tree of a vertex -/
def treeIdx (L : List (List Int)) (v : Int) : Int := findR (fun i => decide (v ∈ L.getD i [])) (fun i => (i : Int)) (-1) L.length 0
def treeOfP (n : Int) (L : List (List Int)) (v : Int) : Int := if forestOk n L = true then treeIdx L v else -1
theorem treeOfP_range (n : Int) (L : List (List Int)) (v : Int) : treeOfP n L v = -1 ∨ (forestOk n L = true ∧ 0 ≤ treeOfP n L v ∧ treeOfP n L v < L.length ∧ v ∈ L.getD (treeOfP n L v).toNat []) := by
  unfold treeOfP
  split
  · rename_i h
    rcases findR_range (fun i => decide (v ∈ L.getD i [])) L.length 0 with h1 | ⟨h1, h2, h3⟩
    · exact Or.inl h1
    · right
      refine ⟨h, ?_, ?_, ?_⟩
      · unfold treeIdx; omega
      · unfold treeIdx; omega
      · unfold treeIdx; exact of_decide_eq_true h3
  · exact Or.inl rfl

theorem impl_TreeOf_ev (n : Int) (L : List (List Int)) (v : Int) (hl : L.length ≤ 1048576) (hL : ∀ x ∈ L, x.length ≤ 1048576) : Ev (fun k => impl_TreeOf.f k n L v) (treeOfP n L v) := by
  have hg : ∀ k : Nat, rd_L2 L (k : Int) = L.getD k [] := fun k => by simp [rd_L2]
  simp only [impl_TreeOf.f]
  refine Ev.bind (impl_ForestOk_ev n L hl hL) ?_
  unfold treeOfP
  by_cases h : forestOk n L = true
  · simp only [if_pos h]
    refine Ev.findloop (L := fun k i => impl_TreeOf.l0 k v L (L.length : Int) i) (n := L.length) (fun i => decide (v ∈ L.getD i [])) (fun i => (i : Int)) (-1) ?_ ?_ ?_
    · intro i r hi hp hr
      refine Ev.step (fun k => by rw [impl_TreeOf.l0, if_pos (by omega), if_pos (by omega), if_pos (by omega), hg, wrap_succ hi (by omega)]) ?_
      refine Ev.bind (impl_hasInt_ev _ _ (by have := getD_len hL i; omega)) ?_
      simp only [hp, Bool.false_eq_true, if_false]
      exact hr
    · intro i hi hp
      refine Ev.step (fun k => by rw [impl_TreeOf.l0, if_pos (by omega), if_pos (by omega), if_pos (by omega), hg, wrap_succ hi (by omega)]) ?_
      refine Ev.bind (impl_hasInt_ev _ _ (by have := getD_len hL i; omega)) ?_
      simp only [hp, if_true]
      exact Ev.now _
    · refine Ev.step (fun k => by rw [impl_TreeOf.l0, if_neg (by omega)]) ?_
      exact Ev.now _
  · simp only [if_neg h]
    exact Ev.now _

def sizeOfP (n : Int) (L : List (List Int)) (v : Int) : Int := if treeOfP n L v < 0 then 0 else (vertsP (L.getD (treeOfP n L v).toNat [])).length
theorem impl_SizeOf_ev (n : Int) (L : List (List Int)) (v : Int) (hl : L.length ≤ 1048576) (hL : ∀ x ∈ L, x.length ≤ 1048576) : Ev (fun k => impl_SizeOf.f k n L v) (sizeOfP n L v) := by
  simp only [impl_SizeOf.f]
  refine Ev.bind (impl_TreeOf_ev n L v hl hL) ?_
  unfold sizeOfP
  rcases treeOfP_range n L v with h | ⟨h0, h1, h2, h3⟩
  · rw [h]; exact Ev.now _
  · have ht : tourOk (L.getD (treeOfP n L v).toNat []) = true := by
      refine forestOk_tour h0 ?_
      rw [List.getD_eq_getElem?_getD, List.getElem?_eq_getElem (by omega), Option.getD_some]
      exact List.getElem_mem _
    have hm := tourOk_mem ht
    simp only [if_neg (show ¬ treeOfP n L v < 0 by omega), if_pos h1, if_pos h2, rd_L2]
    refine Ev.bind (impl_VertsOf_ev _ (by omega) hm.2.2) ?_
    exact Ev.now _

/-! draws -/
theorem and255 (x : Int) : 0 ≤ Go.bits .and .i64 x 255 ∧ Go.bits .and .i64 x 255 ≤ 255 := by
  simp only [Go.bits, BitVec.toNat_and]
  have h : (BitVec.ofInt Go.IntKind.i64.bits x).toNat &&& (BitVec.ofInt Go.IntKind.i64.bits 255).toNat ≤ 255 := Nat.le_trans Nat.and_le_right (by decide)
  rw [Go.IntKind.wrap_i64]
  omega
theorem l01Byte_some (l : List Int) (p s : Int) (hp : 0 ≤ p) (hl : l.length ≤ 4611686018427387904) : ∃ v q t, spec_l01Byte.f l p s = some (v, q, t) ∧ 0 ≤ v ∧ v ≤ 255 ∧ 0 ≤ q := by
  unfold spec_l01Byte.f
  by_cases h : p < (l.length : Int)
  · rw [if_pos h, if_pos hp]
    refine ⟨_, _, _, rfl, (and255 _).1, (and255 _).2, ?_⟩
    unfold wrap64; omega
  · rw [if_neg h]
    exact ⟨_, _, _, rfl, (and255 _).1, (and255 _).2, hp⟩
theorem l01Below_some (l : List Int) (p s a : Int) (hp : 0 ≤ p) (hl : l.length ≤ 4611686018427387904) (ha : 1 ≤ a) (ha2 : a ≤ 256) : ∃ v q t, spec_l01Below.f l p s a = some (v, q, t) ∧ 0 ≤ v ∧ v < a ∧ 0 ≤ q := by
  unfold spec_l01Below.f
  obtain ⟨v, q, t, h1, h2, h3, h4⟩ := l01Byte_some l p s hp hl
  rw [if_neg (by omega), if_pos ha2, h1, Option.bind_some, if_neg (by omega)]
  refine ⟨_, _, _, rfl, Int.tmod_nonneg _ h2, Int.tmod_lt_of_pos _ (by omega), h4⟩
theorem l01Place_some (l : List Int) (p s : Int) (hp : 0 ≤ p) (hl : l.length ≤ 4611686018427387904) (a : Int) (ha : 1 ≤ a) (ha2 : a ≤ 256) : ∃ r, spec_l01Place.f l p s a = some r := by
  unfold spec_l01Place.f spec_l01Once.f
  obtain ⟨v, q, t, h1, h2, h3, h4⟩ := l01Below_some l p s 15 hp hl (by omega) (by omega)
  rw [h1]
  simp only [Option.bind_some]
  by_cases c : (v == 0) = true
  · rw [if_pos c]
    unfold spec_l01PickInt.f
    obtain ⟨v2, q2, t2, g1, g2, g3, g4⟩ := l01Below_some l q t 5 h4 hl (by omega) (by omega)
    simp only [List.length_cons, List.length_nil, Nat.zero_add, Nat.reduceAdd, Int.cast_ofNat_Int, g1, Option.bind_some, if_pos g2, if_pos g3]
    exact ⟨_, rfl⟩
  · rw [if_neg c]
    obtain ⟨v2, q2, t2, g1, g2, g3, g4⟩ := l01Below_some l q t a h4 hl ha ha2
    simp only [g1, Option.bind_some]
    exact ⟨_, rfl⟩
theorem spec_l01New_ev (l : List Int) (hl : l.length ≤ 4611686018427387904) : ∃ s, Ev (fun k => spec_l01New.f k l) (l, 0, s) := by
  have key : ∀ (d i : Nat) (s : Int), i + d = l.length → ∃ s', Ev (fun k => spec_l01New.l0 k l s i) (l, 0, s') := by
    intro d
    induction d with
    | zero =>
      intro i s hi
      refine ⟨s, Ev.step (fun k => by rw [spec_l01New.l0, if_neg (by omega)]) ?_⟩
      exact Ev.now _
    | succ d ih =>
      intro i s hi
      by_cases h : (i : Int) < 4000
      · obtain ⟨s', hs⟩ := ih (i + 1) _ (by omega)
        refine ⟨s', Ev.step (fun k => by rw [spec_l01New.l0, if_pos (by omega), if_pos h, if_pos (by omega), wrap_succ (show i < l.length by omega) hl]) hs⟩
      · refine ⟨s, Ev.step (fun k => by rw [spec_l01New.l0, if_pos (by omega), if_neg h]) ?_⟩
        exact Ev.now _
  exact key l.length 0 _ (by omega)

/-! new forests -/
def newF (n : Nat) : List (List Int) := (List.range n).map (fun (i : Nat) => [(i : Int)])
theorem spec_ForestNew_ev (n : Nat) (h1 : 1 ≤ n) (h2 : n ≤ 12) : Ev (fun k => spec_ForestNew.f k n) ((n : Int), newF n, true) := by
  simp only [spec_ForestNew.f, spec_in_eq, Option.bind_some, decide_eq_true (show (1 : Int) ≤ n ∧ (n : Int) ≤ 12 by omega), if_true]
  have := Ev.apploop (L := fun k x i => spec_ForestNew.l0 k n i n x) (n := n) (fun i => [[(i : Int)]]) (fun x => ((n : Int), x, true)) [] ?_ ?_
  · rw [List.nil_append, flatMap_single] at this
    exact this
  · intro i x r hi hx h
    have hxl : x.length = i := by rw [hx, List.nil_append, flatMap_single]; simp
    refine Ev.step (fun k => by rw [spec_ForestNew.l0, if_pos (by omega), if_pos (by omega), wrap_succ hi (by omega)]) ?_
    exact h
  · intro x hx
    refine Ev.step (fun k => by rw [spec_ForestNew.l0, if_neg (by omega)]) ?_
    exact Ev.now _
theorem impl_ForestNew_ev (n : Nat) (h1 : 1 ≤ n) (h2 : n ≤ 12) : Ev (fun k => impl_ForestNew.f k n) ((n : Int), newF n, true) := by
  simp only [impl_ForestNew.f, impl_in_eq, Option.bind_some, decide_eq_true (show (1 : Int) ≤ n ∧ (n : Int) ≤ 12 by omega), if_true]
  have := Ev.apploop (L := fun k x i => impl_ForestNew.l0 k n i n x) (n := n) (fun i => [[(i : Int)]]) (fun x => ((n : Int), x, true)) [] ?_ ?_
  · rw [List.nil_append, flatMap_single] at this
    exact this
  · intro i x r hi hx h
    have hxl : x.length = i := by rw [hx, List.nil_append, flatMap_single]; simp
    refine Ev.step (fun k => by rw [impl_ForestNew.l0, if_pos (by omega), if_pos (by omega), wrap_succ hi (by omega)]) ?_
    exact h
  · intro x hx
    refine Ev.step (fun k => by rw [impl_ForestNew.l0, if_neg (by omega)]) ?_
    exact Ev.now _
theorem spec_ForestNew_no (n : Int) (h : ¬ (1 ≤ n ∧ n ≤ 12)) : Ev (fun k => spec_ForestNew.f k n) (0, [], false) := by
  simp only [spec_ForestNew.f, spec_in_eq, Option.bind_some, decide_eq_false h, Bool.false_eq_true, if_false]
  exact Ev.now _
theorem impl_ForestNew_no (n : Int) (h : ¬ (1 ≤ n ∧ n ≤ 12)) : Ev (fun k => impl_ForestNew.f k n) (0, [], false) := by
  simp only [impl_ForestNew.f, impl_in_eq, Option.bind_some, decide_eq_false h, Bool.false_eq_true, if_false]
  exact Ev.now _

theorem newF_len (n : Nat) : (newF n).length = n := by simp [newF]
theorem newF_getD {n i : Nat} (h : i < n) : (newF n).getD i [] = [(i : Int)] := by
  simp [newF, List.getD_eq_getElem?_getD, List.getElem?_map, List.getElem?_range h]
theorem newF_mem {n : Nat} {x : List Int} (h : x ∈ newF n) : x.length = 1 := by
  simp only [newF, List.mem_map] at h
  obtain ⟨i, _, rfl⟩ := h
  rfl
theorem newF_facts : ∀ n : Fin 13, 1 ≤ n.val → forestOk (n.val : Int) (newF n.val) = true ∧ ∀ v : Fin 12, v.val < n.val → treeIdx (newF n.val) (v.val : Int) = v.val ∧ (vertsP [(v.val : Int)]).length = 1 := by decide +kernel
theorem newF_edges (n : Nat) (h1 : 1 ≤ n) (h2 : n ≤ 12) : Ev (fun k => impl_EdgesOf.f k (n : Int) (newF n)) [] := by
  simp only [impl_EdgesOf.f]
  have hl : (newF n).length ≤ 1048576 := by rw [newF_len]; omega
  refine Ev.bind (impl_ForestOk_ev n (newF n) hl (fun x hx => by rw [newF_mem hx]; omega)) ?_
  simp only [if_pos (newF_facts ⟨n, by omega⟩ h1).1]
  have key : ∀ (d i : Nat), i + d = n → Ev (fun k => impl_EdgesOf.l0 k ([] : List S79) (newF n) ((newF n).length : Int) i) [] := by
    intro d
    induction d with
    | zero =>
      intro i hi
      refine Ev.step (fun k => by rw [impl_EdgesOf.l0, if_neg (by rw [newF_len]; omega)]) ?_
      exact Ev.now _
    | succ d ih =>
      intro i hi
      have hg : rd_L2 (newF n) (i : Int) = [(i : Int)] := by
        have := newF_getD (n := n) (i := i) (by omega)
        simpa [rd_L2] using this
      refine Ev.step (fun k => by rw [impl_EdgesOf.l0, if_pos (by rw [newF_len]; omega), if_pos (by omega), if_pos (by rw [newF_len]; omega), hg]) ?_
      refine Ev.step (fun k => by rw [impl_EdgesOf.l1, if_neg (by unfold wrap64; simp), wrap_succ (show i < n by omega) (by omega)]) ?_
      exact ih (i + 1) (by omega)
  exact key n 0 (by omega)
theorem FnForestNew : laws_FnForestNew.Pure := by
  intro l hl hl2 hw
  refine Ev.rounds (g := fun k => laws_FnForestNew.f k l) ?_
  simp only [laws_FnForestNew.f, laws_big.f, Option.bind_some]
  by_cases hb : (l.length : Int) > 1048576
  · simp only [decide_eq_true hb, if_true]; exact Ev.now _
  · simp only [decide_eq_false hb, Bool.false_eq_true, if_false]
    obtain ⟨s, hs⟩ := spec_l01New_ev l (by omega)
    obtain ⟨⟨n, q, t⟩, hp⟩ := l01Place_some l 0 s (by omega) (by omega) 13 (by omega) (by omega)
    have hd : Ev (fun k => spec_DrawForestNew.f k l) n := by
      simp only [spec_DrawForestNew.f]
      refine Ev.bind hs ?_
      simp only [hp, Option.bind_some]
      exact Ev.now _
    refine Ev.bind hd ?_
    by_cases h : 1 ≤ n ∧ n ≤ 12
    · obtain ⟨m, rfl⟩ : ∃ m : Nat, n = m := ⟨n.toNat, by omega⟩
      have h1 : 1 ≤ m := by omega
      have h2 : m ≤ 12 := by omega
      have hf := newF_facts ⟨m, by omega⟩ h1
      have hlm : (newF m).length ≤ 1048576 := by rw [newF_len]; omega
      have hLm : ∀ x ∈ newF m, x.length ≤ 1048576 := fun x hx => by rw [newF_mem hx]; omega
      refine Ev.bind (impl_ForestNew_ev m h1 h2) ?_
      refine Ev.bind (spec_ForestNew_ev m h1 h2) ?_
      simp only [bne_self_eq_false, Bool.false_eq_true, if_false, if_true]
      have := Ev.allloop (L := fun k i => laws_FnForestNew.l0 k (m : Int) i (m : Int) (newF m)) (n := m) (fun _ => true) false true ?_ ?_ ?_
      · simpa using this
      · intro i r hi _ hr
        have hv := hf.2 ⟨i, by omega⟩ hi
        have ht : treeOfP (m : Int) (newF m) (i : Int) = i := by
          unfold treeOfP
          rw [if_pos hf.1]
          exact hv.1
        have hz : sizeOfP (m : Int) (newF m) (i : Int) = 1 := by
          unfold sizeOfP
          rw [ht, if_neg (by omega), Int.toNat_natCast, newF_getD hi, hv.2]
          rfl
        refine Ev.step (fun k => by rw [laws_FnForestNew.l0, if_pos (by omega), wrap_succ hi (by omega)]) ?_
        refine Ev.bind (impl_TreeOf_ev (m : Int) (newF m) (i : Int) hlm hLm) ?_
        simp only [if_pos ht]
        refine Ev.bind (impl_SizeOf_ev (m : Int) (newF m) (i : Int) hlm hLm) ?_
        simp only [if_pos hz]
        exact hr
      · intro i _ h; cases h
      · refine Ev.step (fun k => by rw [laws_FnForestNew.l0, if_neg (by omega), if_pos (by rw [newF_len])]) ?_
        refine Ev.bind (newF_edges m h1 h2) ?_
        exact Ev.now _
    · refine Ev.bind (impl_ForestNew_no n h) ?_
      refine Ev.bind (spec_ForestNew_no n h) ?_
      simp only [bne_self_eq_false, Bool.false_eq_true, if_false]
      exact Ev.now _

end Go.Proofs.Ytigeiofkbccocaa.Pure
