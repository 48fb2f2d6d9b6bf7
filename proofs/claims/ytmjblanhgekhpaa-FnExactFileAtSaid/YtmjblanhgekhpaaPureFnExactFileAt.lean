/- For every disk and name FileAt of the program and of the reference tell the same. No condition is laid beside the statement. -/
import Derived.Test.YtmjblanhgekhpaaQFnExactFileAtx2
import Derived.Laws.BitsLemmas
import Derived.Lib.Bytes
import Derived.OpenShut
namespace Go.Proofs.Ytmjblanhgekhpaa.Pure
open Go.RowKit Go.Proofs.Ytmjblanhgekhpaa.QFnExactFileAt Go.Proofs.YtmjblanhgekhpaaW.PrintWords Go.Proofs.YtmjblanhgekhpaaW.PrintLast
set_option linter.unusedVariables false
set_option linter.unusedSimpArgs false


/-! loops in general -/
theorem wrap_succ {i n : Nat} (h : i < n) (hn : n ≤ 4611686018427387904) : wrap64 ((i : Int) + 1) = ((i + 1 : Nat) : Int) := by unfold wrap64; omega
theorem Ev.loopR {σ β : Type} {L : Nat → σ → Int → Option β} {n : Nat} (R : Nat → σ → β) (I : Nat → σ → Prop)
    (hstep : ∀ (i : Nat) s, i < n → I i s → Ev (fun k => L k s i) (R i s) ∨ ∃ s', I (i + 1) s' ∧ R i s = R (i + 1) s' ∧ ∀ r, Ev (fun k => L k s' ((i + 1 : Nat) : Int)) r → Ev (fun k => L k s i) r)
    (hend : ∀ s, I n s → Ev (fun k => L k s n) (R n s)) : ∀ (d i : Nat) (s : σ), i + d = n → I i s → Ev (fun k => L k s i) (R i s) := by
  intro d
  induction d with
  | zero =>
    intro i s hi hI
    have : i = n := by omega
    subst this
    exact hend s hI
  | succ d ih =>
    intro i s hi hI
    rcases hstep i s (by omega) hI with h | ⟨s', h1, h2, h3⟩
    · exact h
    · rw [h2]
      exact h3 _ (ih (i + 1) s' (by omega) h1)
/-- A loop that builds by appending. -/
theorem Ev.apploop {β γ : Type} {L : Nat → List γ → Int → Option β} {n : Nat} (g : Nat → List γ) (fin : List γ → β) (a0 : List γ)
    (hstep : ∀ (i : Nat) x r, i < n → x = a0 ++ (List.range i).flatMap g → Ev (fun k => L k (x ++ g i) ((i + 1 : Nat) : Int)) r → Ev (fun k => L k x i) r)
    (hend : ∀ x, x = a0 ++ (List.range n).flatMap g → Ev (fun k => L k x n) (fin x)) : Ev (fun k => L k a0 0) (fin (a0 ++ (List.range n).flatMap g)) := by
  have key := Ev.loopR (L := L) (n := n) (fun _ _ => fin (a0 ++ (List.range n).flatMap g)) (fun i x => x = a0 ++ (List.range i).flatMap g) (by
    intro i x hi hx
    right
    refine ⟨x ++ g i, by rw [hx, List.range_succ, List.flatMap_append]; simp, rfl, fun r hr => hstep i x r hi hx hr⟩) (by
    intro x hx
    have := hend x hx
    rw [hx] at this ⊢
    exact this)
  exact key n 0 a0 (by omega) (by simp)
/-- A loop that writes every element of a row. -/
theorem Ev.setloop' {β γ : Type} {L : Nat → List γ → Int → Option β} {n : Nat} (g : Nat → γ) (x0 : List γ) (h0 : x0.length = n) (fin : List γ → β)
    (hstep : ∀ (i : Nat) x r, i < n → x.length = n → Ev (fun k => L k (x.set i (g i)) ((i + 1 : Nat) : Int)) r → Ev (fun k => L k x i) r)
    (hend : ∀ x, x.length = n → Ev (fun k => L k x n) (fin x)) : Ev (fun k => L k x0 0) (fin ((List.range n).map g)) := by
  have key := Ev.loopR (L := L) (n := n) (fun _ _ => fin ((List.range n).map g)) (fun i x => x.length = n ∧ ∀ j, j < i → x[j]? = some (g j)) (by
    intro i x hi hx
    right
    refine ⟨x.set i (g i), ⟨by rw [List.length_set]; exact hx.1, fun j hj => ?_⟩, rfl, fun r hr => hstep i x r hi hx.1 hr⟩
    by_cases hji : j = i
    · subst hji
      rw [List.getElem?_set_self (by omega)]
    · rw [List.getElem?_set_ne (by omega)]
      exact hx.2 j (by omega)) (by
    intro x hx
    have hxe : x = (List.range n).map g := by
      apply List.ext_getElem?
      intro j
      by_cases hj : j < n
      · rw [hx.2 j hj]; simp [hj]
      · rw [List.getElem?_eq_none (by omega), List.getElem?_eq_none (by simp; omega)]
    rw [← hxe]
    exact hend x hx.1)
  exact key n 0 _ (by omega) ⟨h0, fun j hj => by omega⟩
/-- A loop that fills what was made. -/
theorem Ev.setloop {β γ : Type} {L : Nat → List γ → Int → Option β} {n : Nat} (g : Nat → γ) (z : γ) (fin : List γ → β)
    (hstep : ∀ (i : Nat) x r, i < n → x.length = n → Ev (fun k => L k (x.set i (g i)) ((i + 1 : Nat) : Int)) r → Ev (fun k => L k x i) r)
    (hend : ∀ x, x.length = n → Ev (fun k => L k x n) (fin x)) : Ev (fun k => L k (List.replicate n z) 0) (fin ((List.range n).map g)) :=
  Ev.setloop' g _ (by simp) fin hstep hend
/-- A loop that asks something of each index. -/
theorem Ev.allloop {β : Type} {L : Nat → Int → Option β} {n : Nat} (p : Nat → Bool) (c fin : β)
    (hstep : ∀ (i : Nat) r, i < n → p i = true → Ev (fun k => L k ((i + 1 : Nat) : Int)) r → Ev (fun k => L k i) r)
    (hno : ∀ (i : Nat), i < n → p i = false → Ev (fun k => L k i) c)
    (hend : Ev (fun k => L k n) fin) : Ev (fun k => L k 0) (if (List.range n).all p then fin else c) := by
  have key := Ev.loopR (σ := Unit) (L := fun k _ i => L k i) (n := n) (fun i _ => if (List.range' i (n - i)).all p then fin else c) (fun _ _ => True) (by
    intro i _ hi _
    have e : List.range' i (n - i) = i :: List.range' (i + 1) (n - (i + 1)) := by
      have : n - i = (n - (i + 1)) + 1 := by omega
      rw [this, List.range'_succ]
    cases hp : p i with
    | true => right; exact ⟨(), trivial, by rw [e, List.all_cons, hp, Bool.true_and], fun r hr => hstep i r hi hp hr⟩
    | false => left; rw [e, List.all_cons, hp, Bool.false_and]; exact hno i hi hp) (by
    intro _ _
    simpa using hend)
  have := key n 0 () (by omega) trivial
  rw [List.range_eq_range']
  simpa using this
theorem range_map_getD {α β : Type} (l : List α) (d : α) (h : α → β) : (List.range l.length).map (fun i => h (l.getD i d)) = l.map h := by
  apply List.ext_getElem
  · simp
  · intro i h1 h2
    simp at h1 h2
    simp [List.getD_eq_getElem?_getD, List.getElem?_eq_getElem h2]
theorem range_flatMap_getD {α β : Type} (l : List α) (d : α) (h : α → List β) : (List.range l.length).flatMap (fun i => h (l.getD i d)) = l.flatMap h := by
  have := congrArg List.flatten (range_map_getD l d h)
  rw [List.flatMap_def, List.flatMap_def]; exact this
theorem range_all_getD {α : Type} (l : List α) (d : α) (h : α → Bool) : (List.range l.length).all (fun i => h (l.getD i d)) = l.all h := by
  have := congrArg (fun l => l.all id) (range_map_getD l d h)
  simpa [List.all_map] using this
theorem flatMap_single {α β : Type} (l : List α) (g : α → β) : l.flatMap (fun x => [g x]) = l.map g := by
  induction l with
  | nil => rfl
  | cons a l ih => simp [ih]
/-- A loop that looks for the first index. -/
def findR {β : Type} (p : Nat → Bool) (c : Nat → β) (fin : β) : Nat → Nat → β
  | 0, _ => fin
  | d + 1, i => if p i then c i else findR p c fin d (i + 1)
theorem Ev.findloop {β : Type} {L : Nat → Int → Option β} {n : Nat} (p : Nat → Bool) (c : Nat → β) (fin : β)
    (hstep : ∀ (i : Nat) r, i < n → p i = false → Ev (fun k => L k ((i + 1 : Nat) : Int)) r → Ev (fun k => L k i) r)
    (hhit : ∀ (i : Nat), i < n → p i = true → Ev (fun k => L k i) (c i))
    (hend : Ev (fun k => L k n) fin) : Ev (fun k => L k 0) (findR p c fin n 0) := by
  have key := Ev.loopR (σ := Unit) (L := fun k _ i => L k i) (n := n) (fun i _ => findR p c fin (n - i) i) (fun _ _ => True) (by
    intro i _ hi _
    have e : findR p c fin (n - i) i = if p i then c i else findR p c fin (n - (i + 1)) (i + 1) := by
      have : n - i = (n - (i + 1)) + 1 := by omega
      rw [this, findR]
    cases hp : p i with
    | false => right; exact ⟨(), trivial, by rw [e, hp]; rfl, fun r hr => hstep i r hi hp hr⟩
    | true => left; rw [e, hp]; exact hhit i hi hp) (by
    intro _ _
    simpa [findR] using hend)
  have := key n 0 () (by omega) trivial
  simpa using this

/-! the law's own functions over disks -/
def toF (e : S133) : S94 := ⟨e.f0, e.f1, e.f2⟩
def szL : List S133 → Int → Int
  | [], x => x
  | e :: l, x => if x - e.f0.size < 0 then -1 else (if x - e.f0.size - e.f1.size < 0 then -1 else szL l (x - e.f0.size - e.f1.size))
theorem szL_small : ∀ (l : List S133) (x : Int), 0 ≤ x → szL l x = -1 ∨ (0 ≤ szL l x ∧ szL l x ≤ x ∧ ∀ e ∈ l, (e.f0.size : Int) ≤ x ∧ (e.f1.size : Int) ≤ x)
  | [], x, h => Or.inr ⟨h, Int.le_refl _, fun e he => by cases he⟩
  | e :: l, x, h => by
    rw [szL]
    split
    · exact Or.inl rfl
    · split
      · exact Or.inl rfl
      · rcases szL_small l (x - e.f0.size - e.f1.size) (by omega) with h1 | ⟨h1, h2, h3⟩
        · exact Or.inl h1
        · refine Or.inr ⟨h1, by omega, fun d hd => ?_⟩
          rcases List.mem_cons.mp hd with rfl | hd
          · omega
          · have := h3 d hd; omega
theorem laws_szFile_eq (a b : ByteArray) (c x : Int) (ha : a.size ≤ 9223372036854775807) (hb : b.size ≤ 9223372036854775807) (h0 : 0 ≤ x) (h1 : x ≤ 1048576) : laws_szFile.f a b c x = some (if x - a.size < 0 then -1 else (if x - a.size - b.size < 0 then -1 else x - a.size - b.size)) := by
  unfold laws_szFile.f
  have e1 : wrap64 (x - (a.size : Int)) = x - a.size := by unfold wrap64; omega
  rw [e1]
  by_cases h : x - (a.size : Int) < 0
  · simp only [if_pos h]
  · have e2 : wrap64 (x - (a.size : Int) - (b.size : Int)) = x - a.size - b.size := by unfold wrap64; omega
    rw [e2]
    simp only [if_neg h]
    split <;> rfl
theorem laws_szFileS_l0_ev (l : List S133) (hl : l.length ≤ 1048576) (hs : ∀ e ∈ l, e.f0.size ≤ 9223372036854775807 ∧ e.f1.size ≤ 9223372036854775807) : ∀ (d i : Nat) (x : Int), i + d = l.length → 0 ≤ x → x ≤ 1048576 →
    Ev (fun k => laws_szFileS.l0 k l x i) (szL (l.drop i) x) := by
  intro d
  induction d with
  | zero =>
    intro i x hi h0 h1
    rw [List.drop_of_length_le (by omega)]
    refine Ev.step (fun k => by rw [laws_szFileS.l0, if_neg (by omega)]) ?_
    exact Ev.now _
  | succ d ih =>
    intro i x hi h0 h1
    have hil : i < l.length := by omega
    have hm := hs l[i] (List.getElem_mem hil)
    have hg : l.getD i z133 = l[i] := by simp [List.getD_eq_getElem?_getD, List.getElem?_eq_getElem hil]
    rw [List.drop_eq_getElem_cons hil, szL]
    refine Ev.step (fun k => by rw [laws_szFileS.l0, if_pos (by omega), if_pos (by omega), rd_T133, Int.toNat_natCast, hg, laws_szFile_eq _ _ _ _ hm.1 hm.2 h0 h1, Option.bind_some, wrap_succ hil (by omega)]) ?_
    by_cases c1 : x - (l[i].f0.size : Int) < 0
    · simp only [if_pos c1, show ((-1 : Int) < 0) = True by simp, if_true]; exact Ev.now _
    · by_cases c2 : x - (l[i].f0.size : Int) - (l[i].f1.size : Int) < 0
      · simp only [if_neg c1, if_pos c2, show ((-1 : Int) < 0) = True by simp, if_true]; exact Ev.now _
      · simp only [if_neg c1, if_neg c2]
        exact ih (i + 1) _ (by omega) (by omega) (by omega)
/-- A disk of the law is weighed: it is too great, or its parts are small. -/
theorem laws_szDisk_ev (l : List S133) (x : Int) (hx0 : 0 ≤ x) (hx : x ≤ 1048576) (hl : l.length ≤ 9223372036854775807) (hs : ∀ e ∈ l, e.f0.size ≤ 9223372036854775807 ∧ e.f1.size ≤ 9223372036854775807) :
    ∃ t, Ev (fun k => laws_szDisk.f k l x) t ∧ (t < 0 ∨ (0 ≤ t ∧ t ≤ x ∧ l.length ≤ 1048576 ∧ ∀ e ∈ l, e.f0.size ≤ 1048576 ∧ e.f1.size ≤ 1048576)) := by
  have e : wrap64 (x - (l.length : Int)) = x - l.length := by unfold wrap64; omega
  simp only [laws_szDisk.f, laws_szFileS.f, e]
  by_cases h : x - (l.length : Int) < 0
  · refine ⟨-1, ?_, Or.inl (by omega)⟩
    simp only [if_pos h, Option.bind_some, show ((-1 : Int) < 0) = True by simp, if_true]; exact Ev.now _
  · simp only [if_neg h]
    have h1 := laws_szFileS_l0_ev l (by omega) hs l.length 0 (x - l.length) (by omega) (by omega) (by omega)
    rw [List.drop_zero] at h1
    rcases szL_small l (x - l.length) (by omega) with hm | ⟨hm, hm2, hm3⟩
    · rw [hm] at h1
      refine ⟨-1, Ev.bind h1 ?_, Or.inl (by omega)⟩
      simp only [show ((-1 : Int) < 0) = True by simp, if_true]; exact Ev.now _
    · refine ⟨_, Ev.bind h1 ?_, Or.inr ⟨hm, by omega, by omega, fun e he => ?_⟩⟩
      · simp only [if_neg (show ¬ szL l (x - l.length) < 0 by omega)]; exact Ev.now _
      · have := hm3 e he; omega
theorem laws_toFileS_ev (l : List S133) (hl : l.length ≤ 1048576) : Ev (fun k => laws_toFileS.f k l) (l.map toF) := by
  simp only [laws_toFileS.f, if_pos (show (0 : Int) ≤ (l.length : Int) by omega), Int.toNat_natCast, if_pos (show l.length ≤ 7036874417766 by omega)]
  have := Ev.setloop (L := fun k x i => laws_toFileS.l0 k l x i) (n := l.length) (fun i => toF (l.getD i z133)) z94 id (by
    intro i x r hi hx h
    refine Ev.step (fun k => by rw [laws_toFileS.l0, if_pos (by omega), if_pos (by omega), laws_toFile.f, Option.bind_some, if_pos (by omega), wrap_succ hi (by omega)]) ?_
    exact h) (by
    intro x hx
    refine Ev.step (fun k => by rw [laws_toFileS.l0, if_neg (by omega)]) ?_
    exact Ev.now _)
  rw [range_map_getD] at this
  exact this
theorem laws_toDisk_ev (l : List S133) (hl : l.length ≤ 1048576) : Ev (fun k => laws_toDisk.f k l) (l.map toF) := by
  simp only [laws_toDisk.f]
  exact Ev.bind (laws_toFileS_ev l hl) (Ev.now _)
theorem laws_eqFileS_refl (l : List S94) (hl : l.length ≤ 4611686018427387904) : Ev (fun k => laws_eqFileS.f k l l) true := by
  simp only [laws_eqFileS.f, if_true]
  have := Ev.allloop (L := fun k i => laws_eqFileS.l0 k l l i) (n := l.length) (fun _ => true) false true (by
    intro i r hi _ h
    refine Ev.step (fun k => by rw [laws_eqFileS.l0, if_pos (by omega), if_pos (by omega), if_pos (by omega), laws_eqFile.f, if_pos rfl, if_pos rfl, if_pos rfl, Option.bind_some, if_pos rfl, wrap_succ hi hl]) ?_
    exact h) (by intro i _ h; cases h) (by
    refine Ev.step (fun k => by rw [laws_eqFileS.l0, if_neg (by omega)]) ?_
    exact Ev.now _)
  simpa using this
theorem laws_eqDisk_refl (l : List S94) (hl : l.length ≤ 4611686018427387904) : Ev (fun k => laws_eqDisk.f k l l) true := by
  simp only [laws_eqDisk.f]
  refine Ev.bind (laws_eqFileS_refl l hl) ?_
  exact Ev.now _

theorem findR_range (p : Nat → Bool) : ∀ (d i : Nat), findR p (fun i => (i : Int)) (-1) d i = -1 ∨ ((i : Int) ≤ findR p (fun i => (i : Int)) (-1) d i ∧ findR p (fun i => (i : Int)) (-1) d i < ((i + d : Nat) : Int) ∧ p (findR p (fun i => (i : Int)) (-1) d i).toNat = true)
  | 0, _ => Or.inl rfl
  | d + 1, i => by
    rw [findR]
    split
    · rename_i h; right; exact ⟨Int.le_refl _, by omega, by simpa using h⟩
    · rcases findR_range p d (i + 1) with h | h
      · exact Or.inl h
      · right; exact ⟨by omega, by omega, h.2.2⟩
def nameAt (l : List S94) (a : ByteArray) (i : Nat) : Bool := decide ((l.getD i z94).f0.toList = a.toList)
def fileAtI (l : List S94) (a : ByteArray) : Int := findR (nameAt l a) (fun i => (i : Int)) (-1) l.length 0
theorem spec_l03At_ev (l : List S94) (a : ByteArray) (hl : l.length ≤ 4611686018427387904) : Ev (fun k => spec_l03At.f k l a) (fileAtI l a) := by
  simp only [spec_l03At.f, fileAtI]
  refine Ev.findloop (L := fun k i => spec_l03At.l0 k a i l) (n := l.length) (nameAt l a) (fun i => (i : Int)) (-1) ?_ ?_ ?_
  · intro i r hi hp h
    simp only [nameAt, decide_eq_false_iff_not] at hp
    refine Ev.step (fun k => by rw [spec_l03At.l0, if_pos (by omega), if_pos (by omega), rd_T94, Int.toNat_natCast, if_neg hp, wrap_succ hi hl]) ?_
    exact h
  · intro i hi hp
    simp only [nameAt, decide_eq_true_eq] at hp
    refine Ev.step (fun k => by rw [spec_l03At.l0, if_pos (by omega), if_pos (by omega), rd_T94, Int.toNat_natCast, if_pos hp]) ?_
    exact Ev.now _
  · refine Ev.step (fun k => by rw [spec_l03At.l0, if_neg (by omega)]) ?_
    exact Ev.now _
theorem impl_fileAt_ev (l : List S94) (a : ByteArray) (hl : l.length ≤ 4611686018427387904) : Ev (fun k => impl_fileAt.f k l a) (fileAtI l a) := by
  simp only [impl_fileAt.f, fileAtI]
  refine Ev.findloop (L := fun k i => impl_fileAt.l0 k a l l.length i) (n := l.length) (nameAt l a) (fun i => (i : Int)) (-1) ?_ ?_ ?_
  · intro i r hi hp h
    simp only [nameAt, decide_eq_false_iff_not] at hp
    refine Ev.step (fun k => by rw [impl_fileAt.l0, if_pos (by omega), if_pos (by omega), if_pos (by omega), rd_T94, Int.toNat_natCast, if_neg hp, wrap_succ hi hl]) ?_
    exact h
  · intro i hi hp
    simp only [nameAt, decide_eq_true_eq] at hp
    refine Ev.step (fun k => by rw [impl_fileAt.l0, if_pos (by omega), if_pos (by omega), if_pos (by omega), rd_T94, Int.toNat_natCast, if_pos hp]) ?_
    exact Ev.now _
  · refine Ev.step (fun k => by rw [impl_fileAt.l0, if_neg (by omega)]) ?_
    exact Ev.now _
theorem fileAtI_range (l : List S94) (a : ByteArray) : fileAtI l a = -1 ∨ (0 ≤ fileAtI l a ∧ fileAtI l a < l.length ∧ nameAt l a (fileAtI l a).toNat = true) := by
  rcases findR_range (nameAt l a) l.length 0 with h | h
  · exact Or.inl h
  · right; exact ⟨by have := h.1; unfold fileAtI; omega, by have := h.2.1; unfold fileAtI; omega, h.2.2⟩
def fileAtP (l : List S94) (a : ByteArray) : ByteArray × Bool := if fileAtI l a < 0 then ((⟨#[]⟩ : ByteArray), false) else ((l.getD (fileAtI l a).toNat z94).f1, true)

theorem spec_FileAt_ev (l : List S94) (a : ByteArray) (hl : l.length ≤ 4611686018427387904) : Ev (fun k => spec_FileAt.f k l a) (fileAtP l a) := by
  simp only [spec_FileAt.f]
  refine Ev.bind (spec_l03At_ev l a hl) ?_
  unfold fileAtP
  by_cases h : fileAtI l a < 0
  · simp only [if_pos h]; exact Ev.now _
  · rcases fileAtI_range l a with h1 | ⟨h1, h2, _⟩
    · omega
    · simp only [if_neg h, if_pos h1, if_pos h2, rd_T94]; exact Ev.now _
theorem impl_FileAt_ev (l : List S94) (a : ByteArray) (hl : l.length ≤ 4611686018427387904) : Ev (fun k => impl_FileAt.f k l a) (fileAtP l a) := by
  simp only [impl_FileAt.f]
  refine Ev.bind (impl_fileAt_ev l a hl) ?_
  unfold fileAtP
  by_cases h : fileAtI l a < 0
  · simp only [if_pos h]; exact Ev.now _
  · rcases fileAtI_range l a with h1 | ⟨h1, h2, _⟩
    · omega
    · simp only [if_neg h, if_pos h1, if_pos h2, rd_T94]; exact Ev.now _

theorem FnExactFileAt_pure (l : List S133) (a : ByteArray) (q : l.length ≤ 9223372036854775807 ∧ ∀ a ∈ l, a.f0.size ≤ 9223372036854775807 ∧ a.f1.size ≤ 9223372036854775807 ∧ (Go.Lit.int .i64 a.f2).wf = true) (qa : a.size ≤ 9223372036854775807) : ∃ k, laws_FnExactFileAt.f k l a = some true := by
  refine Ev.rounds (g := fun k => laws_FnExactFileAt.f k l a) ?_
  simp only [laws_FnExactFileAt.f]
  by_cases h : (a.size : Int) > 1048576
  · simp only [if_pos h]; exact Ev.now _
  · simp only [if_neg h]
    obtain ⟨t, ht, hc⟩ := laws_szDisk_ev l 1048576 (by omega) (by omega) q.1 (fun e he => ⟨(q.2 e he).1, (q.2 e he).2.1⟩)
    refine Ev.bind ht ?_
    rcases hc with hc | ⟨hc, _, hl, _⟩
    · simp only [if_pos hc]; exact Ev.now _
    · have hl2 : (l.map toF).length ≤ 4611686018427387904 := by rw [List.length_map]; omega
      simp only [if_neg (show ¬ t < 0 by omega)]
      refine Ev.bind (laws_toDisk_ev l hl) ?_
      refine Ev.bind (spec_FileAt_ev _ a hl2) ?_
      refine Ev.bind (laws_toDisk_ev l hl) ?_
      refine Ev.bind (impl_FileAt_ev _ a hl2) ?_
      simp only [if_true, bne_self_eq_false]
      refine Ev.step (fun k => by rw [laws_FnExactFileAt.j0, if_neg (by simp)]) ?_
      refine Ev.bind (laws_toDisk_ev l hl) ?_
      refine Ev.bind (laws_eqDisk_refl _ hl2) ?_
      exact Ev.now _

end Go.Proofs.Ytmjblanhgekhpaa.Pure
