/- For every number the new forests of the program and of the reference are one, and each is memory of its own. No condition is laid beside the statement. -/
import Derived.Test.YtmjblanhgekhpaaHFnExactForestNew
import Derived.Test.YtmjblanhgekhpaaQFnExactForestNewx2
import Derived.Laws.BitsLemmas
import Derived.Lib.Bytes
import Derived.OpenShut
namespace Go.Proofs.Ytmjblanhgekhpaa.Pure
open Go.RowKit Go.Proofs.Ytmjblanhgekhpaa.QFnExactForestNew Go.Proofs.YtmjblanhgekhpaaW.PrintWords Go.Proofs.YtmjblanhgekhpaaW.PrintLast
set_option linter.unusedVariables false
set_option linter.unusedSimpArgs false


/-! loops in general -/
theorem wrap_succ {i n : Nat} (h : i < n) (hn : n ≤ 4611686018427387904) : wrap64 ((i : Int) + 1) = ((i + 1 : Nat) : Int) := by unfold wrap64; omega
theorem Ev.loopR {σ β : Type} {L : Nat → σ → Int → Option β} {n : Nat} (R : Nat → σ → β) (I : Nat → σ → Prop)
    (hstep : ∀ (i : Nat) s, i < n → I i s → Ev (fun k => L k s i) (R i s) ∨ ∃ s', I (i + 1) s' ∧ R i s = R (i + 1) s' ∧ ∀ r, Ev (fun k => L k s' ((i + 1 : Nat) : Int)) r → Ev (fun k => L k s i) r)
    (hend : ∀ s, I n s → Ev (fun k => L k s n) (R n s)) : ∀ (d i : Nat) (s : σ), i + d = n → I i s → Ev (fun k => L k s i) (R i s) := by
  intro d
  induction d with
  | zero =>
    intro i s hi hI
    have : i = n := by omega
    subst this
    exact hend s hI
  | succ d ih =>
    intro i s hi hI
    rcases hstep i s (by omega) hI with h | ⟨s', h1, h2, h3⟩
    · exact h
    · rw [h2]
      exact h3 _ (ih (i + 1) s' (by omega) h1)
/-- A loop that builds by appending. -/
theorem Ev.apploop {β γ : Type} {L : Nat → List γ → Int → Option β} {n : Nat} (g : Nat → List γ) (fin : List γ → β) (a0 : List γ)
    (hstep : ∀ (i : Nat) x r, i < n → x = a0 ++ (List.range i).flatMap g → Ev (fun k => L k (x ++ g i) ((i + 1 : Nat) : Int)) r → Ev (fun k => L k x i) r)
    (hend : ∀ x, x = a0 ++ (List.range n).flatMap g → Ev (fun k => L k x n) (fin x)) : Ev (fun k => L k a0 0) (fin (a0 ++ (List.range n).flatMap g)) := by
  have key := Ev.loopR (L := L) (n := n) (fun _ _ => fin (a0 ++ (List.range n).flatMap g)) (fun i x => x = a0 ++ (List.range i).flatMap g) (by
    intro i x hi hx
    right
    refine ⟨x ++ g i, by rw [hx, List.range_succ, List.flatMap_append]; simp, rfl, fun r hr => hstep i x r hi hx hr⟩) (by
    intro x hx
    have := hend x hx
    rw [hx] at this ⊢
    exact this)
  exact key n 0 a0 (by omega) (by simp)
/-- A loop that writes every element of a row. -/
theorem Ev.setloop' {β γ : Type} {L : Nat → List γ → Int → Option β} {n : Nat} (g : Nat → γ) (x0 : List γ) (h0 : x0.length = n) (fin : List γ → β)
    (hstep : ∀ (i : Nat) x r, i < n → x.length = n → Ev (fun k => L k (x.set i (g i)) ((i + 1 : Nat) : Int)) r → Ev (fun k => L k x i) r)
    (hend : ∀ x, x.length = n → Ev (fun k => L k x n) (fin x)) : Ev (fun k => L k x0 0) (fin ((List.range n).map g)) := by
  have key := Ev.loopR (L := L) (n := n) (fun _ _ => fin ((List.range n).map g)) (fun i x => x.length = n ∧ ∀ j, j < i → x[j]? = some (g j)) (by
    intro i x hi hx
    right
    refine ⟨x.set i (g i), ⟨by rw [List.length_set]; exact hx.1, fun j hj => ?_⟩, rfl, fun r hr => hstep i x r hi hx.1 hr⟩
    by_cases hji : j = i
    · subst hji
      rw [List.getElem?_set_self (by omega)]
    · rw [List.getElem?_set_ne (by omega)]
      exact hx.2 j (by omega)) (by
    intro x hx
    have hxe : x = (List.range n).map g := by
      apply List.ext_getElem?
      intro j
      by_cases hj : j < n
      · rw [hx.2 j hj]; simp [hj]
      · rw [List.getElem?_eq_none (by omega), List.getElem?_eq_none (by simp; omega)]
    rw [← hxe]
    exact hend x hx.1)
  exact key n 0 _ (by omega) ⟨h0, fun j hj => by omega⟩
/-- A loop that asks something of each index. -/
theorem Ev.allloop {β : Type} {L : Nat → Int → Option β} {n : Nat} (p : Nat → Bool) (c fin : β)
    (hstep : ∀ (i : Nat) r, i < n → p i = true → Ev (fun k => L k ((i + 1 : Nat) : Int)) r → Ev (fun k => L k i) r)
    (hno : ∀ (i : Nat), i < n → p i = false → Ev (fun k => L k i) c)
    (hend : Ev (fun k => L k n) fin) : Ev (fun k => L k 0) (if (List.range n).all p then fin else c) := by
  have key := Ev.loopR (σ := Unit) (L := fun k _ i => L k i) (n := n) (fun i _ => if (List.range' i (n - i)).all p then fin else c) (fun _ _ => True) (by
    intro i _ hi _
    have e : List.range' i (n - i) = i :: List.range' (i + 1) (n - (i + 1)) := by
      have : n - i = (n - (i + 1)) + 1 := by omega
      rw [this, List.range'_succ]
    cases hp : p i with
    | true => right; exact ⟨(), trivial, by rw [e, List.all_cons, hp, Bool.true_and], fun r hr => hstep i r hi hp hr⟩
    | false => left; rw [e, List.all_cons, hp, Bool.false_and]; exact hno i hi hp) (by
    intro _ _
    simpa using hend)
  have := key n 0 () (by omega) trivial
  rw [List.range_eq_range']
  simpa using this
theorem flatMap_single {α β : Type} (l : List α) (g : α → β) : l.flatMap (fun x => [g x]) = l.map g := by
  induction l with
  | nil => rfl
  | cons a l ih => simp [ih]
theorem spec_in_eq (a b c : Int) : spec_l01In.f a b c = some (decide (b ≤ a ∧ a ≤ c)) := by
  unfold spec_l01In.f
  by_cases h : a ≥ b
  · have h' : b ≤ a := h
    simp [h']
  · have h' : ¬ b ≤ a := h
    simp [h']
theorem impl_in_eq (a b c : Int) : impl_in.f a b c = some (decide (b ≤ a ∧ a ≤ c)) := by
  unfold impl_in.f
  by_cases h : a ≥ b
  · have h' : b ≤ a := h
    simp [h']
  · have h' : ¬ b ≤ a := h
    simp [h']

theorem laws_eqIntS_refl (l : List Int) (hl : l.length ≤ 4611686018427387904) : Ev (fun k => laws_eqIntS.f k l l) true := by
  simp only [laws_eqIntS.f, if_true]
  have := Ev.allloop (L := fun k i => laws_eqIntS.l0 k l l i) (n := l.length) (fun _ => true) false true (by
    intro i r hi _ h
    refine Ev.step (fun k => by rw [laws_eqIntS.l0, if_pos (by omega), if_pos (by omega), if_pos (by omega), if_pos rfl, wrap_succ hi hl]) ?_
    exact h) (by intro i _ h; cases h) (by
    refine Ev.step (fun k => by rw [laws_eqIntS.l0, if_neg (by omega)]) ?_
    exact Ev.now _)
  simpa using this

theorem laws_eqForest_refl (n : Int) (L : List (List Int)) (hl : L.length ≤ 1048576) (hL : ∀ x ∈ L, x.length ≤ 1048576) : Ev (fun k => laws_eqForest.f k n L n L) true := by
  simp only [laws_eqForest.f, if_true]
  refine Ev.bind (a := true) ?_ (Ev.now _)
  simp only [laws_eqIntSS.f, if_true]
  have := Ev.allloop (L := fun k i => laws_eqIntSS.l0 k L L i) (n := L.length) (fun _ => true) false true (by
    intro i r hi _ h
    have hm : (rd_L1 L (i : Int)).length ≤ 4611686018427387904 := by
      have := hL _ (List.getElem_mem hi)
      have hg : rd_L1 L (i : Int) = L[i] := by simp [rd_L1, List.getD_eq_getElem?_getD, List.getElem?_eq_getElem hi]
      rw [hg]; omega
    refine Ev.step (fun k => by rw [laws_eqIntSS.l0, if_pos (by omega), if_pos (by omega), if_pos (by omega), wrap_succ hi (by omega)]) ?_
    refine Ev.bind (laws_eqIntS_refl _ hm) ?_
    simp only [if_true]
    exact h) (by intro i _ h; cases h) (by
    refine Ev.step (fun k => by rw [laws_eqIntSS.l0, if_neg (by omega)]) ?_
    exact Ev.now _)
  simpa using this

/-! new forests -/
def newF (n : Nat) : List (List Int) := (List.range n).map (fun (i : Nat) => [(i : Int)])
theorem spec_ForestNew_ev (n : Nat) (h1 : 1 ≤ n) (h2 : n ≤ 12) : Ev (fun k => spec_ForestNew.f k n) ((n : Int), newF n, true) := by
  simp only [spec_ForestNew.f, spec_in_eq, Option.bind_some, decide_eq_true (show (1 : Int) ≤ n ∧ (n : Int) ≤ 12 by omega), if_true]
  have := Ev.apploop (L := fun k x i => spec_ForestNew.l0 k n i n x) (n := n) (fun i => [[(i : Int)]]) (fun x => ((n : Int), x, true)) [] ?_ ?_
  · rw [List.nil_append, flatMap_single] at this
    exact this
  · intro i x r hi hx h
    have hxl : x.length = i := by rw [hx, List.nil_append, flatMap_single]; simp
    refine Ev.step (fun k => by rw [spec_ForestNew.l0, if_pos (by omega), if_pos (by omega), wrap_succ hi (by omega)]) ?_
    exact h
  · intro x hx
    refine Ev.step (fun k => by rw [spec_ForestNew.l0, if_neg (by omega)]) ?_
    exact Ev.now _
theorem impl_ForestNew_ev (n : Nat) (h1 : 1 ≤ n) (h2 : n ≤ 12) : Ev (fun k => impl_ForestNew.f k n) ((n : Int), newF n, true) := by
  simp only [impl_ForestNew.f, impl_in_eq, Option.bind_some, decide_eq_true (show (1 : Int) ≤ n ∧ (n : Int) ≤ 12 by omega), if_true]
  have := Ev.apploop (L := fun k x i => impl_ForestNew.l0 k n i n x) (n := n) (fun i => [[(i : Int)]]) (fun x => ((n : Int), x, true)) [] ?_ ?_
  · rw [List.nil_append, flatMap_single] at this
    exact this
  · intro i x r hi hx h
    have hxl : x.length = i := by rw [hx, List.nil_append, flatMap_single]; simp
    refine Ev.step (fun k => by rw [impl_ForestNew.l0, if_pos (by omega), if_pos (by omega), wrap_succ hi (by omega)]) ?_
    exact h
  · intro x hx
    refine Ev.step (fun k => by rw [impl_ForestNew.l0, if_neg (by omega)]) ?_
    exact Ev.now _
theorem spec_ForestNew_no (n : Int) (h : ¬ (1 ≤ n ∧ n ≤ 12)) : Ev (fun k => spec_ForestNew.f k n) (0, [], false) := by
  simp only [spec_ForestNew.f, spec_in_eq, Option.bind_some, decide_eq_false h, Bool.false_eq_true, if_false]
  exact Ev.now _
theorem impl_ForestNew_no (n : Int) (h : ¬ (1 ≤ n ∧ n ≤ 12)) : Ev (fun k => impl_ForestNew.f k n) (0, [], false) := by
  simp only [impl_ForestNew.f, impl_in_eq, Option.bind_some, decide_eq_false h, Bool.false_eq_true, if_false]
  exact Ev.now _

def seqL (m : Int) (n : Nat) : List Int := (List.range n).map (fun (i : Nat) => m + i)
theorem laws_markIntS_ev (l : List Int) (m : Int) (h0 : 0 ≤ m) (hm : m ≤ 1099511627776) (hl : l.length ≤ 1099511627776) : Ev (fun k => laws_markIntS.f k l m) (m + l.length, seqL m l.length) := by
  simp only [laws_markIntS.f]
  have := Ev.setloop' (L := fun k x i => laws_markIntS.l0 k x (m + i) i) (n := l.length) (fun i => m + i) l rfl (fun x => (m + (l.length : Int), x)) (by
    intro i x r hi hx h
    have e : wrap64 (m + (i : Int) + 1) = m + ((i + 1 : Nat) : Int) := by unfold wrap64; omega
    refine Ev.step (fun k => by rw [laws_markIntS.l0, if_pos (by omega), if_pos (by omega), Int.toNat_natCast, wrap_succ hi (by omega), e]) ?_
    exact h) (by
    intro x hx
    refine Ev.step (fun k => by rw [laws_markIntS.l0, if_neg (by omega)]) ?_
    exact Ev.now _)
  simpa [seqL] using this
theorem laws_heldIntS_ev (m : Int) (n : Nat) (h0 : 0 ≤ m) (hm : m ≤ 1099511627776) (hl : n ≤ 1099511627776) : Ev (fun k => laws_heldIntS.f k (seqL m n) m) (m + n) := by
  simp only [laws_heldIntS.f]
  have hlen : (seqL m n).length = n := by simp [seqL]
  have := Ev.allloop (L := fun k i => laws_heldIntS.l0 k (seqL m n) (m + i) i) (n := n) (fun _ => true) (-1) (m + (n : Int)) (by
    intro i r hi _ h
    have e : wrap64 (m + (i : Int) + 1) = m + ((i + 1 : Nat) : Int) := by unfold wrap64; omega
    have er : rd (seqL m n) (i : Int) = m + i := by
      simp [rd, seqL, List.getD_eq_getElem?_getD, List.getElem?_map, List.getElem?_range hi]
    refine Ev.step (fun k => by rw [laws_heldIntS.l0, if_pos (by omega), if_pos (by omega), if_pos er, wrap_succ hi (by omega), e]) ?_
    exact h) (by intro i _ h; cases h) (by
    refine Ev.step (fun k => by rw [laws_heldIntS.l0, if_neg (by omega)]) ?_
    exact Ev.now _)
  simpa using this

/-! rows of rows, marked and held -/
def sumR : List (List Int) → Nat
  | [] => 0
  | r :: L => r.length + sumR L
def seqR : Int → List (List Int) → List (List Int)
  | _, [] => []
  | m, r :: L => seqL m r.length :: seqR (m + r.length) L
theorem seqR_len : ∀ (m : Int) (L : List (List Int)), (seqR m L).length = L.length
  | _, [] => rfl
  | m, r :: L => by simp [seqR, seqR_len]
theorem rd_mid (a : List (List Int)) (r : List Int) (b : List (List Int)) : rd_L1 (a ++ r :: b) (a.length : Int) = r := by simp [rd_L1, List.getD_eq_getElem?_getD]
theorem set_mid (a : List (List Int)) (r s : List Int) (b : List (List Int)) : (a ++ r :: b).set (a.length : Int).toNat s = (a ++ [s]) ++ b := by
  rw [Int.toNat_natCast, List.set_append_right _ _ (Nat.le_refl _)]
  simp
theorem mss_ev : ∀ (rest done : List (List Int)) (m : Int), 0 ≤ m → m + sumR rest ≤ 1099511627776 → done.length + rest.length ≤ 1099511627776 →
    Ev (fun k => laws_markIntSS.l0 k (done ++ rest) m (done.length : Int)) (m + sumR rest, done ++ seqR m rest)
  | [], done, m, _, _, _ => by
    simp only [List.append_nil, sumR, seqR, Int.natCast_zero, Int.add_zero]
    refine Ev.step (fun k => by rw [laws_markIntSS.l0, if_neg (by omega)]) ?_
    exact Ev.now _
  | r :: rest, done, m, h0, h1, h2 => by
    simp only [sumR] at h1
    simp only [List.length_cons] at h2
    have hd : (done.length : Int) < ((done ++ r :: rest).length : Int) := by simp; omega
    refine Ev.step (fun k => by rw [laws_markIntSS.l0, if_pos hd, if_pos (by omega), rd_mid]) ?_
    refine Ev.bind (laws_markIntS_ev r m h0 (by omega) (by omega)) ?_
    simp only [set_mid]
    have e : wrap64 ((done.length : Int) + 1) = ((done ++ [seqL m r.length]).length : Int) := by
      have : (done ++ [seqL m r.length]).length = done.length + 1 := by simp
      rw [this]; unfold wrap64; omega
    rw [e]
    have := mss_ev rest (done ++ [seqL m r.length]) (m + r.length) (by omega) (by omega) (by simp; omega)
    simp only [sumR, seqR]
    have e2 : m + ((r.length + sumR rest : Nat) : Int) = m + r.length + sumR rest := by omega
    rw [e2]
    simpa using this
theorem laws_markIntSS_ev (L : List (List Int)) (m : Int) (h0 : 0 ≤ m) (h1 : m + sumR L ≤ 1099511627776) (h2 : L.length ≤ 1099511627776) : Ev (fun k => laws_markIntSS.f k L m) (m + sumR L, seqR m L) := by
  simp only [laws_markIntSS.f]
  exact mss_ev L [] m h0 h1 (by simpa using h2)
theorem hss_ev : ∀ (rest done : List (List Int)) (m : Int), 0 ≤ m → m + sumR rest ≤ 1099511627776 → done.length + rest.length ≤ 1099511627776 →
    Ev (fun k => laws_heldIntSS.l0 k (done ++ seqR m rest) m (done.length : Int)) (m + sumR rest)
  | [], done, m, _, _, _ => by
    simp only [List.append_nil, sumR, seqR, Int.natCast_zero, Int.add_zero]
    refine Ev.step (fun k => by rw [laws_heldIntSS.l0, if_neg (by omega)]) ?_
    exact Ev.now _
  | r :: rest, done, m, h0, h1, h2 => by
    simp only [sumR] at h1
    simp only [List.length_cons] at h2
    simp only [seqR]
    have hd : (done.length : Int) < ((done ++ seqL m r.length :: seqR (m + r.length) rest).length : Int) := by simp; omega
    refine Ev.step (fun k => by rw [laws_heldIntSS.l0, if_pos hd, if_pos (by omega), rd_mid]) ?_
    refine Ev.bind (laws_heldIntS_ev m r.length h0 (by omega) (by omega)) ?_
    have e : wrap64 ((done.length : Int) + 1) = ((done ++ [seqL m r.length]).length : Int) := by
      have : (done ++ [seqL m r.length]).length = done.length + 1 := by simp
      rw [this]; unfold wrap64; omega
    rw [e]
    simp only [if_neg (show ¬ m + (r.length : Int) < 0 by omega)]
    have := hss_ev rest (done ++ [seqL m r.length]) (m + r.length) (by omega) (by omega) (by simp; omega)
    have e2 : m + ((r.length + sumR rest : Nat) : Int) = m + r.length + sumR rest := by omega
    simp only [sumR]
    rw [e2]
    simpa using this
theorem laws_heldForest_ev (n : Int) (L : List (List Int)) (m : Int) (h0 : 0 ≤ m) (h1 : m + sumR L ≤ 1099511627776) (h2 : L.length ≤ 1099511627776) : Ev (fun k => laws_heldForest.f k n (seqR m L) m) (m + sumR L) := by
  simp only [laws_heldForest.f, laws_heldIntSS.f]
  refine Ev.bind (hss_ev L [] m h0 h1 (by simpa using h2)) ?_
  simp only [if_neg (show ¬ m + (sumR L : Int) < 0 by omega)]
  exact Ev.now _

theorem newF_sum (n : Nat) : ∀ x ∈ newF n, x.length = 1 := by
  intro x hx
  simp only [newF, List.mem_map] at hx
  obtain ⟨i, _, rfl⟩ := hx
  rfl
theorem sumR_ones : ∀ (L : List (List Int)), (∀ x ∈ L, x.length = 1) → sumR L = L.length
  | [], _ => rfl
  | r :: L, h => by
    rw [sumR, h r (by simp), sumR_ones L (fun x hx => h x (by simp [hx]))]
    simp; omega
theorem FnExactForestNew (a0 : Int) : ∃ (k : Nat) (n m : Int) (b : Bool) (R R' : List (List Int)), spec_ForestNew.f k a0 = some (n, R, b) ∧ impl_ForestNew.f k a0 = some (n, R, b) ∧ laws_eqForest.f k n R n R = some true ∧
    laws_markIntSS.f k R 1 = some (m, R') ∧ R'.length = R.length ∧ laws_heldForest.f k n R' 1 = some m ∧ decide (m < 0) = false := by
  have key : ∀ (n : Int) (b : Bool) (R : List (List Int)), R.length ≤ 12 → (∀ x ∈ R, x.length = 1) → Ev (fun k => spec_ForestNew.f k a0) (n, R, b) → Ev (fun k => impl_ForestNew.f k a0) (n, R, b) → ∃ (k : Nat) (n m : Int) (b : Bool) (R R' : List (List Int)), spec_ForestNew.f k a0 = some (n, R, b) ∧ impl_ForestNew.f k a0 = some (n, R, b) ∧ laws_eqForest.f k n R n R = some true ∧
      laws_markIntSS.f k R 1 = some (m, R') ∧ R'.length = R.length ∧ laws_heldForest.f k n R' 1 = some m ∧ decide (m < 0) = false := by
    intro n b R hl hR ⟨k1, h1⟩ ⟨k2, h2⟩
    have hs := sumR_ones R hR
    obtain ⟨k3, h3⟩ := laws_eqForest_refl n R (by omega) (fun x hx => by have := hR x hx; omega)
    obtain ⟨k4, h4⟩ := laws_markIntSS_ev R 1 (by omega) (by omega) (by omega)
    obtain ⟨k5, h5⟩ := laws_heldForest_ev n R 1 (by omega) (by omega) (by omega)
    exact ⟨k1 + k2 + k3 + k4 + k5, n, 1 + sumR R, b, R, seqR 1 R, h1 _ (by omega), h2 _ (by omega), h3 _ (by omega), h4 _ (by omega), seqR_len _ _, h5 _ (by omega), decide_eq_false (by omega)⟩
  by_cases h : 1 ≤ a0 ∧ a0 ≤ 12
  · obtain ⟨n, rfl⟩ := Int.eq_ofNat_of_zero_le (show 0 ≤ a0 by omega)
    exact key n true (newF n) (by simp [newF]; omega) (newF_sum n) (spec_ForestNew_ev n (by omega) (by omega)) (impl_ForestNew_ev n (by omega) (by omega))
  · exact key 0 false [] (by simp) (by simp) (spec_ForestNew_no a0 h) (impl_ForestNew_no a0 h)

end Go.Proofs.Ytmjblanhgekhpaa.Pure
