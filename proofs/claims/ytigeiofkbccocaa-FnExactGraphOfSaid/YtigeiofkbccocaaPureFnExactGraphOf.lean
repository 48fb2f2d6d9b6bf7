/- For every web GraphOf of the program and of the reference tell the same, in memory of its own. No condition is laid beside the statement. -/
import Derived.Test.YtigeiofkbccocaaQFnExactGraphOfx5
import Derived.Laws.BitsLemmas
import Derived.Lib.Bytes
import Derived.OpenShut
namespace Go.Proofs.Ytigeiofkbccocaa.Pure
open Go.RowKit Go.Proofs.Ytigeiofkbccocaa.QFnExactGraphOf Go.Proofs.YtigeiofkbccocaaW.PrintWords Go.Proofs.YtigeiofkbccocaaW.PrintLast
set_option linter.unusedVariables false
set_option linter.unusedSimpArgs false


/-! loops in general -/
theorem wrap_succ {i n : Nat} (h : i < n) (hn : n ≤ 4611686018427387904) : wrap64 ((i : Int) + 1) = ((i + 1 : Nat) : Int) := by unfold wrap64; omega
theorem Ev.loopR {σ β : Type} {L : Nat → σ → Int → Option β} {n : Nat} (R : Nat → σ → β) (I : Nat → σ → Prop)
    (hstep : ∀ (i : Nat) s, i < n → I i s → Ev (fun k => L k s i) (R i s) ∨ ∃ s', I (i + 1) s' ∧ R i s = R (i + 1) s' ∧ ∀ r, Ev (fun k => L k s' ((i + 1 : Nat) : Int)) r → Ev (fun k => L k s i) r)
    (hend : ∀ s, I n s → Ev (fun k => L k s n) (R n s)) : ∀ (d i : Nat) (s : σ), i + d = n → I i s → Ev (fun k => L k s i) (R i s) := by
  intro d
  induction d with
  | zero =>
    intro i s hi hI
    have : i = n := by omega
    subst this
    exact hend s hI
  | succ d ih =>
    intro i s hi hI
    rcases hstep i s (by omega) hI with h | ⟨s', h1, h2, h3⟩
    · exact h
    · rw [h2]
      exact h3 _ (ih (i + 1) s' (by omega) h1)
/-- A loop that builds by appending. -/
theorem Ev.apploop {β γ : Type} {L : Nat → List γ → Int → Option β} {n : Nat} (g : Nat → List γ) (fin : List γ → β) (a0 : List γ)
    (hstep : ∀ (i : Nat) x r, i < n → x = a0 ++ (List.range i).flatMap g → Ev (fun k => L k (x ++ g i) ((i + 1 : Nat) : Int)) r → Ev (fun k => L k x i) r)
    (hend : ∀ x, x = a0 ++ (List.range n).flatMap g → Ev (fun k => L k x n) (fin x)) : Ev (fun k => L k a0 0) (fin (a0 ++ (List.range n).flatMap g)) := by
  have key := Ev.loopR (L := L) (n := n) (fun _ _ => fin (a0 ++ (List.range n).flatMap g)) (fun i x => x = a0 ++ (List.range i).flatMap g) (by
    intro i x hi hx
    right
    refine ⟨x ++ g i, by rw [hx, List.range_succ, List.flatMap_append]; simp, rfl, fun r hr => hstep i x r hi hx hr⟩) (by
    intro x hx
    have := hend x hx
    rw [hx] at this ⊢
    exact this)
  exact key n 0 a0 (by omega) (by simp)
/-- A loop that writes every element of a row. -/
theorem Ev.setloop' {β γ : Type} {L : Nat → List γ → Int → Option β} {n : Nat} (g : Nat → γ) (x0 : List γ) (h0 : x0.length = n) (fin : List γ → β)
    (hstep : ∀ (i : Nat) x r, i < n → x.length = n → Ev (fun k => L k (x.set i (g i)) ((i + 1 : Nat) : Int)) r → Ev (fun k => L k x i) r)
    (hend : ∀ x, x.length = n → Ev (fun k => L k x n) (fin x)) : Ev (fun k => L k x0 0) (fin ((List.range n).map g)) := by
  have key := Ev.loopR (L := L) (n := n) (fun _ _ => fin ((List.range n).map g)) (fun i x => x.length = n ∧ ∀ j, j < i → x[j]? = some (g j)) (by
    intro i x hi hx
    right
    refine ⟨x.set i (g i), ⟨by rw [List.length_set]; exact hx.1, fun j hj => ?_⟩, rfl, fun r hr => hstep i x r hi hx.1 hr⟩
    by_cases hji : j = i
    · subst hji
      rw [List.getElem?_set_self (by omega)]
    · rw [List.getElem?_set_ne (by omega)]
      exact hx.2 j (by omega)) (by
    intro x hx
    have hxe : x = (List.range n).map g := by
      apply List.ext_getElem?
      intro j
      by_cases hj : j < n
      · rw [hx.2 j hj]; simp [hj]
      · rw [List.getElem?_eq_none (by omega), List.getElem?_eq_none (by simp; omega)]
    rw [← hxe]
    exact hend x hx.1)
  exact key n 0 _ (by omega) ⟨h0, fun j hj => by omega⟩
/-- A loop that fills what was made. -/
theorem Ev.setloop {β γ : Type} {L : Nat → List γ → Int → Option β} {n : Nat} (g : Nat → γ) (z : γ) (fin : List γ → β)
    (hstep : ∀ (i : Nat) x r, i < n → x.length = n → Ev (fun k => L k (x.set i (g i)) ((i + 1 : Nat) : Int)) r → Ev (fun k => L k x i) r)
    (hend : ∀ x, x.length = n → Ev (fun k => L k x n) (fin x)) : Ev (fun k => L k (List.replicate n z) 0) (fin ((List.range n).map g)) :=
  Ev.setloop' g _ (by simp) fin hstep hend
/-- A loop that asks something of each index. -/
theorem Ev.allloop {β : Type} {L : Nat → Int → Option β} {n : Nat} (p : Nat → Bool) (c fin : β)
    (hstep : ∀ (i : Nat) r, i < n → p i = true → Ev (fun k => L k ((i + 1 : Nat) : Int)) r → Ev (fun k => L k i) r)
    (hno : ∀ (i : Nat), i < n → p i = false → Ev (fun k => L k i) c)
    (hend : Ev (fun k => L k n) fin) : Ev (fun k => L k 0) (if (List.range n).all p then fin else c) := by
  have key := Ev.loopR (σ := Unit) (L := fun k _ i => L k i) (n := n) (fun i _ => if (List.range' i (n - i)).all p then fin else c) (fun _ _ => True) (by
    intro i _ hi _
    have e : List.range' i (n - i) = i :: List.range' (i + 1) (n - (i + 1)) := by
      have : n - i = (n - (i + 1)) + 1 := by omega
      rw [this, List.range'_succ]
    cases hp : p i with
    | true => right; exact ⟨(), trivial, by rw [e, List.all_cons, hp, Bool.true_and], fun r hr => hstep i r hi hp hr⟩
    | false => left; rw [e, List.all_cons, hp, Bool.false_and]; exact hno i hi hp) (by
    intro _ _
    simpa using hend)
  have := key n 0 () (by omega) trivial
  rw [List.range_eq_range']
  simpa using this
theorem range_map_getD {α β : Type} (l : List α) (d : α) (h : α → β) : (List.range l.length).map (fun i => h (l.getD i d)) = l.map h := by
  apply List.ext_getElem
  · simp
  · intro i h1 h2
    simp at h1 h2
    simp [List.getD_eq_getElem?_getD, List.getElem?_eq_getElem h2]
theorem range_flatMap_getD {α β : Type} (l : List α) (d : α) (h : α → List β) : (List.range l.length).flatMap (fun i => h (l.getD i d)) = l.flatMap h := by
  have := congrArg List.flatten (range_map_getD l d h)
  rw [List.flatMap_def, List.flatMap_def]; exact this
theorem range_all_getD {α : Type} (l : List α) (d : α) (h : α → Bool) : (List.range l.length).all (fun i => h (l.getD i d)) = l.all h := by
  have := congrArg (fun l => l.all id) (range_map_getD l d h)
  simpa [List.all_map] using this
theorem flatMap_single {α β : Type} (l : List α) (g : α → β) : l.flatMap (fun x => [g x]) = l.map g := by
  induction l with
  | nil => rfl
  | cons a l ih => simp [ih]
/-- A loop that looks for the first index. -/
def findR {β : Type} (p : Nat → Bool) (c : Nat → β) (fin : β) : Nat → Nat → β
  | 0, _ => fin
  | d + 1, i => if p i then c i else findR p c fin d (i + 1)
theorem Ev.findloop {β : Type} {L : Nat → Int → Option β} {n : Nat} (p : Nat → Bool) (c : Nat → β) (fin : β)
    (hstep : ∀ (i : Nat) r, i < n → p i = false → Ev (fun k => L k ((i + 1 : Nat) : Int)) r → Ev (fun k => L k i) r)
    (hhit : ∀ (i : Nat), i < n → p i = true → Ev (fun k => L k i) (c i))
    (hend : Ev (fun k => L k n) fin) : Ev (fun k => L k 0) (findR p c fin n 0) := by
  have key := Ev.loopR (σ := Unit) (L := fun k _ i => L k i) (n := n) (fun i _ => findR p c fin (n - i) i) (fun _ _ => True) (by
    intro i _ hi _
    have e : findR p c fin (n - i) i = if p i then c i else findR p c fin (n - (i + 1)) (i + 1) := by
      have : n - i = (n - (i + 1)) + 1 := by omega
      rw [this, findR]
    cases hp : p i with
    | false => right; exact ⟨(), trivial, by rw [e, hp]; rfl, fun r hr => hstep i r hi hp hr⟩
    | true => left; rw [e, hp]; exact hhit i hi hp) (by
    intro _ _
    simpa [findR] using hend)
  have := key n 0 () (by omega) trivial
  simpa using this

theorem laws_eqEdge_refl (a b : Int) : laws_eqEdge.f a b a b = some true := by simp [laws_eqEdge.f]
theorem laws_eqEdgeS_refl (l : List S79) (hl : l.length ≤ 4611686018427387904) : Ev (fun k => laws_eqEdgeS.f k l l) true := by
  simp only [laws_eqEdgeS.f, if_true]
  have := Ev.allloop (L := fun k i => laws_eqEdgeS.l0 k l l i) (n := l.length) (fun _ => true) false true (by
    intro i r hi _ h
    refine Ev.step (fun k => by rw [laws_eqEdgeS.l0, if_pos (by omega), if_pos (by omega), if_pos (by omega), laws_eqEdge_refl, Option.bind_some, if_pos rfl, wrap_succ hi hl]) ?_
    exact h) (by intro i _ h; cases h) (by
    refine Ev.step (fun k => by rw [laws_eqEdgeS.l0, if_neg (by omega)]) ?_
    exact Ev.now _)
  simpa using this
theorem laws_eqGraph_refl (n : Int) (l : List S79) (hl : l.length ≤ 4611686018427387904) : Ev (fun k => laws_eqGraph.f k n l n l) true := by
  simp only [laws_eqGraph.f, if_true]
  refine Ev.bind (laws_eqEdgeS_refl l hl) ?_
  exact Ev.now _

def seqE (m : Int) (n : Nat) : List S79 := (List.range n).map (fun (i : Nat) => (⟨m + 2 * i, m + 2 * i + 1⟩ : S79))
theorem getD_set_self {α : Type} {l : List α} {i : Nat} {v d : α} (h : i < l.length) : (l.set i v).getD i d = v := by
  rw [List.getD_eq_getElem?_getD, List.getElem?_set_self h]; rfl
theorem laws_markEdgeS_ev (l : List S79) (m : Int) (h0 : 0 ≤ m) (hm : m ≤ 1099511627776) (hl : l.length ≤ 1099511627776) : Ev (fun k => laws_markEdgeS.f k l m) (m + 2 * l.length, seqE m l.length) := by
  simp only [laws_markEdgeS.f]
  have := Ev.setloop' (L := fun k x i => laws_markEdgeS.l0 k x (m + 2 * i) i) (n := l.length) (fun i => (⟨m + 2 * i, m + 2 * i + 1⟩ : S79)) l rfl (fun x => (m + 2 * (l.length : Int), x)) (by
    intro i x r hi hx h
    have e1 : wrap64 (m + 2 * (i : Int) + 1) = m + 2 * i + 1 := by unfold wrap64; omega
    have e2 : wrap64 (m + 2 * (i : Int) + 1 + 1) = m + 2 * ((i + 1 : Nat) : Int) := by unfold wrap64; omega
    refine Ev.step (fun k => by rw [laws_markEdgeS.l0, if_pos (by omega), if_pos (by omega), e1, e2, Option.bind_some, wrap_succ hi (by omega)]) ?_
    simp only [rd_T79, Int.toNat_natCast, getD_set_self (show i < x.length by omega), List.set_set]
    exact h) (by
    intro x hx
    refine Ev.step (fun k => by rw [laws_markEdgeS.l0, if_neg (by omega)]) ?_
    exact Ev.now _)
  simpa [seqE] using this
theorem laws_markGraph_ev (n : Int) (l : List S79) (m : Int) (h0 : 0 ≤ m) (hm : m ≤ 1099511627776) (hl : l.length ≤ 1099511627776) : Ev (fun k => laws_markGraph.f k n l m) (m + 2 * l.length, seqE m l.length) := by
  simp only [laws_markGraph.f]
  exact Ev.bind (laws_markEdgeS_ev l m h0 hm hl) (Ev.now _)

theorem laws_heldEdgeS_ev (m : Int) (n : Nat) (h0 : 0 ≤ m) (hm : m ≤ 1099511627776) (hl : n ≤ 1099511627776) : Ev (fun k => laws_heldEdgeS.f k (seqE m n) m) (m + 2 * n) := by
  simp only [laws_heldEdgeS.f]
  have hlen : (seqE m n).length = n := by simp [seqE]
  have := Ev.allloop (L := fun k i => laws_heldEdgeS.l0 k (seqE m n) (m + 2 * i) i) (n := n) (fun _ => true) (-1) (m + 2 * (n : Int)) (by
    intro i r hi _ h
    have e1 : wrap64 (m + 2 * (i : Int) + 1) = m + 2 * i + 1 := by unfold wrap64; omega
    have e2 : wrap64 (m + 2 * (i : Int) + 1 + 1) = m + 2 * ((i + 1 : Nat) : Int) := by unfold wrap64; omega
    have er : rd_T79 (seqE m n) (i : Int) = ⟨m + 2 * i, m + 2 * i + 1⟩ := by
      simp [rd_T79, seqE, List.getD_eq_getElem?_getD, List.getElem?_map, List.getElem?_range hi]
    refine Ev.step (fun k => by rw [laws_heldEdgeS.l0, if_pos (by omega), if_pos (by omega), er]) ?_
    simp only [e1, e2, if_true, wrap_succ hi (show n ≤ 4611686018427387904 by omega)]
    exact h) (by intro i _ h; cases h) (by
    refine Ev.step (fun k => by rw [laws_heldEdgeS.l0, if_neg (by omega)]) ?_
    exact Ev.now _)
  simpa using this
theorem laws_heldGraph_ev (n' : Int) (m : Int) (n : Nat) (h0 : 0 ≤ m) (hm : m ≤ 1099511627776) (hl : n ≤ 1099511627776) : Ev (fun k => laws_heldGraph.f k n' (seqE m n) m) (m + 2 * n) := by
  simp only [laws_heldGraph.f]
  refine Ev.bind (laws_heldEdgeS_ev m n h0 hm hl) ?_
  simp only [if_neg (show ¬ (m + 2 * (n : Int) < 0) by omega)]
  exact Ev.now _

/-! webs in the law's own functions -/
theorem laws_eqLedge_refl (a b c : Int) (d : Bool) : laws_eqLedge.f a b c d a b c d = some true := by simp [laws_eqLedge.f]
theorem laws_eqLedgeS_refl (l : List S120) (hl : l.length ≤ 4611686018427387904) : Ev (fun k => laws_eqLedgeS.f k l l) true := by
  simp only [laws_eqLedgeS.f, if_true]
  have := Ev.allloop (L := fun k i => laws_eqLedgeS.l0 k l l i) (n := l.length) (fun _ => true) false true (by
    intro i r hi _ h
    refine Ev.step (fun k => by rw [laws_eqLedgeS.l0, if_pos (by omega), if_pos (by omega), if_pos (by omega), laws_eqLedge_refl, Option.bind_some, if_pos rfl, wrap_succ hi hl]) ?_
    exact h) (by intro i _ h; cases h) (by
    refine Ev.step (fun k => by rw [laws_eqLedgeS.l0, if_neg (by omega)]) ?_
    exact Ev.now _)
  simpa using this
theorem laws_eqWeb_refl (n : Int) (l : List S120) (hl : l.length ≤ 4611686018427387904) : Ev (fun k => laws_eqWeb.f k n l n l) true := by
  simp only [laws_eqWeb.f, if_true]
  refine Ev.bind (laws_eqLedgeS_refl l hl) ?_
  exact Ev.now _
def seqW (m : Int) (n : Nat) : List S120 := (List.range n).map (fun (i : Nat) => (⟨m + 4 * i, m + 4 * i + 1, m + 4 * i + 2, (Int.tmod (m + 4 * i + 3) 3 == 0)⟩ : S120))
theorem getD_set_selfL {α : Type} {l : List α} {i : Nat} {v d : α} (h : i < l.length) : (l.set i v).getD i d = v := by
  rw [List.getD_eq_getElem?_getD, List.getElem?_set_self h]; rfl
theorem laws_markLedgeS_ev (l : List S120) (m : Int) (h0 : 0 ≤ m) (hm : m ≤ 1099511627776) (hl : l.length ≤ 1099511627776) : Ev (fun k => laws_markLedgeS.f k l m) (m + 4 * l.length, seqW m l.length) := by
  simp only [laws_markLedgeS.f]
  have := Ev.setloop' (L := fun k x i => laws_markLedgeS.l0 k x (m + 4 * i) i) (n := l.length) (fun i => (⟨m + 4 * i, m + 4 * i + 1, m + 4 * i + 2, (Int.tmod (m + 4 * i + 3) 3 == 0)⟩ : S120)) l rfl (fun x => (m + 4 * (l.length : Int), x)) (by
    intro i x r hi hx h
    have e1 : wrap64 (m + 4 * (i : Int) + 1) = m + 4 * i + 1 := by unfold wrap64; omega
    have e2 : wrap64 (m + 4 * (i : Int) + 1 + 1) = m + 4 * i + 2 := by unfold wrap64; omega
    have e3 : wrap64 (m + 4 * (i : Int) + 2 + 1) = m + 4 * i + 3 := by unfold wrap64; omega
    have e4 : wrap64 (m + 4 * (i : Int) + 3 + 1) = m + 4 * ((i + 1 : Nat) : Int) := by unfold wrap64; omega
    refine Ev.step (fun k => by rw [laws_markLedgeS.l0, if_pos (by omega), if_pos (by omega), e1, e2, e3, e4, Option.bind_some, wrap_succ hi (by omega)]) ?_
    simp only [Option.bind_some, rd_T120, Int.toNat_natCast, getD_set_selfL (show i < x.length by omega), List.set_set]
    exact h) (by
    intro x hx
    refine Ev.step (fun k => by rw [laws_markLedgeS.l0, if_neg (by omega)]) ?_
    exact Ev.now _)
  simpa [seqW] using this
theorem laws_markWeb_ev (n : Int) (l : List S120) (m : Int) (h0 : 0 ≤ m) (hm : m ≤ 1099511627776) (hl : l.length ≤ 1099511627776) : Ev (fun k => laws_markWeb.f k n l m) (m + 4 * l.length, seqW m l.length) := by
  simp only [laws_markWeb.f]
  exact Ev.bind (laws_markLedgeS_ev l m h0 hm hl) (Ev.now _)

def toL (e : S140) : S120 := ⟨e.f0, e.f1, e.f2, e.f3⟩
theorem laws_szLedgeS_eq (l : List S140) (a : Int) (hl : l.length ≤ 9223372036854775807) (h0 : 0 ≤ a) (h1 : a ≤ 1048576) : laws_szLedgeS.f l a = some (if a - l.length < 0 then -1 else a - l.length) := by
  unfold laws_szLedgeS.f
  have : wrap64 (a - (l.length : Int)) = a - l.length := by unfold wrap64; omega
  rw [this]
  split <;> rfl
theorem laws_szWeb_eq (n : Int) (l : List S140) (a : Int) (hl : l.length ≤ 9223372036854775807) (h0 : 0 ≤ a) (h1 : a ≤ 1048576) : laws_szWeb.f n l a = some (if a - l.length < 0 then -1 else a - l.length) := by
  unfold laws_szWeb.f
  rw [laws_szLedgeS_eq l a hl h0 h1]
  by_cases h : a - l.length < 0
  · simp [h]
  · simp [h]
theorem laws_toLedgeS_ev (l : List S140) (hl : l.length ≤ 1048576) : Ev (fun k => laws_toLedgeS.f k l) (l.map toL) := by
  simp only [laws_toLedgeS.f, if_pos (show (0 : Int) ≤ (l.length : Int) by omega), Int.toNat_natCast, if_pos (show l.length ≤ 8796093022208 by omega)]
  have := Ev.setloop (L := fun k x i => laws_toLedgeS.l0 k l x i) (n := l.length) (fun i => toL (l.getD i z140)) z120 id (by
    intro i x r hi hx h
    refine Ev.step (fun k => by rw [laws_toLedgeS.l0, if_pos (by omega), if_pos (by omega), laws_toLedge.f, Option.bind_some, if_pos (by omega), wrap_succ hi (by omega)]) ?_
    exact h) (by
    intro x hx
    refine Ev.step (fun k => by rw [laws_toLedgeS.l0, if_neg (by omega)]) ?_
    exact Ev.now _)
  rw [range_map_getD] at this
  exact this
theorem laws_toWeb_ev (n : Int) (l : List S140) (hl : l.length ≤ 1048576) : Ev (fun k => laws_toWeb.f k n l) (n, l.map toL) := by
  simp only [laws_toWeb.f]
  exact Ev.bind (laws_toLedgeS_ev l hl) (Ev.now _)

def lE (e : S120) : S79 := ⟨e.f0, e.f1⟩
theorem spec_GraphOf_ev (n : Int) (l : List S120) (hl : l.length ≤ 1048576) : Ev (fun k => spec_GraphOf.f k n l) (n, l.map lE) := by
  simp only [spec_GraphOf.f]
  have := Ev.apploop (L := fun k x i => spec_GraphOf.l0 k i n l n x) (n := l.length) (fun i => [lE (l.getD i z120)]) (fun x => (n, x)) [] (by
    intro i x r hi hx h
    have hxl : x.length = i := by rw [hx, flatMap_single]; simp
    refine Ev.step (fun k => by rw [spec_GraphOf.l0, if_pos (by omega), if_pos (by omega), if_pos (by omega), wrap_succ hi (by omega)]) ?_
    exact h) (by
    intro x hx
    refine Ev.step (fun k => by rw [spec_GraphOf.l0, if_neg (by omega)]) ?_
    exact Ev.now _)
  rw [flatMap_single, range_map_getD] at this
  exact this
theorem impl_GraphOf_ev (n : Int) (l : List S120) (hl : l.length ≤ 1048576) : Ev (fun k => impl_GraphOf.f k n l) (n, l.map lE) := by
  simp only [impl_GraphOf.f]
  have := Ev.apploop (L := fun k x i => impl_GraphOf.l0 k l (l.length : Int) i n x) (n := l.length) (fun i => [lE (l.getD i z120)]) (fun x => (n, x)) [] (by
    intro i x r hi hx h
    have hxl : x.length = i := by rw [hx, flatMap_single]; simp
    refine Ev.step (fun k => by rw [impl_GraphOf.l0, if_pos (by omega), if_pos (by omega), if_pos (by omega), if_pos (by omega), wrap_succ hi (by omega)]) ?_
    exact h) (by
    intro x hx
    refine Ev.step (fun k => by rw [impl_GraphOf.l0, if_neg (by omega)]) ?_
    exact Ev.now _)
  rw [flatMap_single, range_map_getD] at this
  exact this
theorem FnExactGraphOf_pure (n : Int) (l : List S140) (q0 : (Go.Lit.int .i64 n).wf = true) (q1 : l.length ≤ 9223372036854775807 ∧ ∀ a ∈ l, (Go.Lit.int .i64 a.f0).wf = true ∧ (Go.Lit.int .i64 a.f1).wf = true ∧ (Go.Lit.int .i64 a.f2).wf = true ∧ True) : ∃ k, laws_FnExactGraphOf.f k n l = some true := by
  refine Ev.rounds (g := fun k => laws_FnExactGraphOf.f k n l) ?_
  simp only [laws_FnExactGraphOf.f, laws_szWeb_eq n l 1048576 q1.1 (by omega) (by omega), Option.bind_some]
  by_cases h : (1048576 : Int) - l.length < 0
  · simp only [if_pos h, show ((-1 : Int) < 0) = True by simp, if_true]; exact Ev.now _
  · have hl : l.length ≤ 1048576 := by omega
    have hl3 : (l.map toL).length ≤ 1048576 := by rw [List.length_map]; omega
    have hl4 : ((l.map toL).map lE).length ≤ 1048576 := by rw [List.length_map]; omega
    simp only [if_neg h]
    refine Ev.bind (laws_toWeb_ev n l hl) ?_
    refine Ev.bind (spec_GraphOf_ev n _ hl3) ?_
    refine Ev.bind (laws_toWeb_ev n l hl) ?_
    refine Ev.bind (impl_GraphOf_ev n _ hl3) ?_
    refine Ev.bind (laws_eqGraph_refl n ((l.map toL).map lE) (by omega)) ?_
    simp only [if_true]
    refine Ev.bind (laws_toWeb_ev n l hl) ?_
    refine Ev.bind (laws_eqWeb_refl n _ (by omega)) ?_
    simp only [if_true]
    refine Ev.bind (laws_markWeb_ev n _ 1 (by omega) (by omega) (by omega)) ?_
    simp only [if_neg (show ¬ (1 + 4 * ((l.map toL).length : Int) < 0) by omega)]
    refine Ev.bind (laws_eqGraph_refl n ((l.map toL).map lE) (by omega)) ?_
    simp only [Bool.not_true]
    refine Ev.step (fun k => by rw [laws_FnExactGraphOf.j0, if_neg (by simp)]) ?_
    refine Ev.bind (laws_markGraph_ev n _ 1 (by omega) (by omega) (by omega)) ?_
    refine Ev.bind (laws_heldGraph_ev n 1 _ (by omega) (by omega) (by omega)) ?_
    simp only [if_neg (show ¬ (1 + 2 * ((((l.map toL).map lE).length : Nat) : Int) < 0) by omega), if_true]
    refine Ev.bind (laws_toWeb_ev n l hl) ?_
    refine Ev.bind (impl_GraphOf_ev n _ hl3) ?_
    refine Ev.bind (laws_eqGraph_refl n ((l.map toL).map lE) (by omega)) ?_
    simp only [if_true]
    refine Ev.bind (laws_heldGraph_ev n 1 _ (by omega) (by omega) (by omega)) ?_
    simp only [if_neg (show ¬ (1 + 2 * ((((l.map toL).map lE).length : Nat) : Int) < 0) by omega), if_true]
    exact Ev.now _

end Go.Proofs.Ytigeiofkbccocaa.Pure
