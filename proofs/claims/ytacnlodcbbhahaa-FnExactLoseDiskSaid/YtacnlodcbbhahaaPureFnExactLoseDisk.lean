/- For every disk and every row of numbers LoseDisk of the program and of the reference tell the same, in memory of its own. No condition is laid beside the statement. -/
import Derived.Test.YtacnlodcbbhahaaQFnExactLoseDiskx10
import Derived.Laws.BitsLemmas
import Derived.Lib.Bytes
import Derived.OpenShut
namespace Go.Proofs.Ytacnlodcbbhahaa.Pure
open Go.RowKit Go.Proofs.Ytacnlodcbbhahaa.QFnExactLoseDisk Go.Proofs.YtacnlodcbbhahaaW.PrintWords Go.Proofs.YtacnlodcbbhahaaW.PrintLast
set_option linter.unusedVariables false
set_option linter.unusedSimpArgs false


theorem wrap_id {i : Int} (h0 : -9223372036854775808 ≤ i) (h1 : i ≤ 9223372036854775807) : wrap64 i = i := by unfold wrap64; omega
theorem toList_eq {a b : ByteArray} (h : a = b) : a.toList = b.toList := by rw [h]

/-! strings as numbers -/
theorem toList_data' (s : ByteArray) : s.toList = s.data.toList := Go.Lib.toList_data s
theorem str_ext {a b : ByteArray} (h : a.toList = b.toList) : a = b := by
  rw [toList_data', toList_data'] at h
  cases a; cases b
  simp at h
  rw [h]
theorem toList_iff {a b : ByteArray} : a.toList = b.toList ↔ a = b := ⟨str_ext, fun h => by rw [h]⟩
def Byt (l : List Int) : Prop := ∀ x ∈ l, 0 ≤ x ∧ x < 256
theorem bytesOf_byt (s : ByteArray) : Byt (bytesOf s) := by
  intro x hx
  unfold bytesOf at hx
  simp at hx
  obtain ⟨b, _, rfl⟩ := hx
  have := b.toNat_lt
  omega
theorem bytesOf_str {l : List Int} (h : Byt l) : bytesOf (strOfNums l) = l := by
  unfold bytesOf strOfNums
  simp
  apply List.ext_getElem
  · simp
  · intro i h1 h2
    have := h l[i] (List.getElem_mem h2)
    simp
    omega
theorem str_bytesOf (s : ByteArray) : strOfNums (bytesOf s) = s := by
  unfold bytesOf strOfNums
  cases s with
  | mk d =>
    simp
    apply Array.ext'
    simp
    apply List.ext_getElem
    · simp
    · intro i h1 h2
      simp
theorem bytesOf_inj {a b : ByteArray} (h : bytesOf a = bytesOf b) : a = b := by rw [← str_bytesOf a, h, str_bytesOf]
theorem bytesOf_append (a b : ByteArray) : bytesOf (a ++ b) = bytesOf a ++ bytesOf b := by
  unfold bytesOf
  simp [ByteArray.data_append]
theorem bytesOf_extract (s : ByteArray) (a b : Nat) : bytesOf (s.extract a b) = ((bytesOf s).drop a).take (b - a) := by
  unfold bytesOf
  simp [ByteArray.data_extract, List.map_take, List.map_drop]
theorem bt_get (s : ByteArray) (i : Int) : bt s i = (bytesOf s).getD i.toNat 0 := (rd_bytesOf s i).symm
theorem str_size (l : List Int) : (strOfNums l).size = l.length := by
  show (strOfNums l).data.size = _
  unfold strOfNums
  simp

/-! loops in general -/
theorem wrap_succ {i n : Nat} (h : i < n) (hn : n ≤ 4611686018427387904) : wrap64 ((i : Int) + 1) = ((i + 1 : Nat) : Int) := by unfold wrap64; omega
theorem Ev.loopR {σ β : Type} {L : Nat → σ → Int → Option β} {n : Nat} (R : Nat → σ → β) (I : Nat → σ → Prop)
    (hstep : ∀ (i : Nat) s, i < n → I i s → Ev (fun k => L k s i) (R i s) ∨ ∃ s', I (i + 1) s' ∧ R i s = R (i + 1) s' ∧ ∀ r, Ev (fun k => L k s' ((i + 1 : Nat) : Int)) r → Ev (fun k => L k s i) r)
    (hend : ∀ s, I n s → Ev (fun k => L k s n) (R n s)) : ∀ (d i : Nat) (s : σ), i + d = n → I i s → Ev (fun k => L k s i) (R i s) := by
  intro d
  induction d with
  | zero =>
    intro i s hi hI
    have : i = n := by omega
    subst this
    exact hend s hI
  | succ d ih =>
    intro i s hi hI
    rcases hstep i s (by omega) hI with h | ⟨s', h1, h2, h3⟩
    · exact h
    · rw [h2]
      exact h3 _ (ih (i + 1) s' (by omega) h1)
/-- A loop that builds by appending. -/
theorem Ev.apploop {β γ : Type} {L : Nat → List γ → Int → Option β} {n : Nat} (g : Nat → List γ) (fin : List γ → β) (a0 : List γ)
    (hstep : ∀ (i : Nat) x r, i < n → x = a0 ++ (List.range i).flatMap g → Ev (fun k => L k (x ++ g i) ((i + 1 : Nat) : Int)) r → Ev (fun k => L k x i) r)
    (hend : ∀ x, x = a0 ++ (List.range n).flatMap g → Ev (fun k => L k x n) (fin x)) : Ev (fun k => L k a0 0) (fin (a0 ++ (List.range n).flatMap g)) := by
  have key := Ev.loopR (L := L) (n := n) (fun _ _ => fin (a0 ++ (List.range n).flatMap g)) (fun i x => x = a0 ++ (List.range i).flatMap g) (by
    intro i x hi hx
    right
    refine ⟨x ++ g i, by rw [hx, List.range_succ, List.flatMap_append]; simp, rfl, fun r hr => hstep i x r hi hx hr⟩) (by
    intro x hx
    have := hend x hx
    rw [hx] at this ⊢
    exact this)
  exact key n 0 a0 (by omega) (by simp)
/-- A loop that writes every element of a row. -/
theorem Ev.setloop' {β γ : Type} {L : Nat → List γ → Int → Option β} {n : Nat} (g : Nat → γ) (x0 : List γ) (h0 : x0.length = n) (fin : List γ → β)
    (hstep : ∀ (i : Nat) x r, i < n → x.length = n → Ev (fun k => L k (x.set i (g i)) ((i + 1 : Nat) : Int)) r → Ev (fun k => L k x i) r)
    (hend : ∀ x, x.length = n → Ev (fun k => L k x n) (fin x)) : Ev (fun k => L k x0 0) (fin ((List.range n).map g)) := by
  have key := Ev.loopR (L := L) (n := n) (fun _ _ => fin ((List.range n).map g)) (fun i x => x.length = n ∧ ∀ j, j < i → x[j]? = some (g j)) (by
    intro i x hi hx
    right
    refine ⟨x.set i (g i), ⟨by rw [List.length_set]; exact hx.1, fun j hj => ?_⟩, rfl, fun r hr => hstep i x r hi hx.1 hr⟩
    by_cases hji : j = i
    · subst hji
      rw [List.getElem?_set_self (by omega)]
    · rw [List.getElem?_set_ne (by omega)]
      exact hx.2 j (by omega)) (by
    intro x hx
    have hxe : x = (List.range n).map g := by
      apply List.ext_getElem?
      intro j
      by_cases hj : j < n
      · rw [hx.2 j hj]; simp [hj]
      · rw [List.getElem?_eq_none (by omega), List.getElem?_eq_none (by simp; omega)]
    rw [← hxe]
    exact hend x hx.1)
  exact key n 0 _ (by omega) ⟨h0, fun j hj => by omega⟩
/-- A loop that fills what was made. -/
theorem Ev.setloop {β γ : Type} {L : Nat → List γ → Int → Option β} {n : Nat} (g : Nat → γ) (z : γ) (fin : List γ → β)
    (hstep : ∀ (i : Nat) x r, i < n → x.length = n → Ev (fun k => L k (x.set i (g i)) ((i + 1 : Nat) : Int)) r → Ev (fun k => L k x i) r)
    (hend : ∀ x, x.length = n → Ev (fun k => L k x n) (fin x)) : Ev (fun k => L k (List.replicate n z) 0) (fin ((List.range n).map g)) :=
  Ev.setloop' g _ (by simp) fin hstep hend
/-- A loop that asks something of each index. -/
theorem Ev.allloop {β : Type} {L : Nat → Int → Option β} {n : Nat} (p : Nat → Bool) (c fin : β)
    (hstep : ∀ (i : Nat) r, i < n → p i = true → Ev (fun k => L k ((i + 1 : Nat) : Int)) r → Ev (fun k => L k i) r)
    (hno : ∀ (i : Nat), i < n → p i = false → Ev (fun k => L k i) c)
    (hend : Ev (fun k => L k n) fin) : Ev (fun k => L k 0) (if (List.range n).all p then fin else c) := by
  have key := Ev.loopR (σ := Unit) (L := fun k _ i => L k i) (n := n) (fun i _ => if (List.range' i (n - i)).all p then fin else c) (fun _ _ => True) (by
    intro i _ hi _
    have e : List.range' i (n - i) = i :: List.range' (i + 1) (n - (i + 1)) := by
      have : n - i = (n - (i + 1)) + 1 := by omega
      rw [this, List.range'_succ]
    cases hp : p i with
    | true => right; exact ⟨(), trivial, by rw [e, List.all_cons, hp, Bool.true_and], fun r hr => hstep i r hi hp hr⟩
    | false => left; rw [e, List.all_cons, hp, Bool.false_and]; exact hno i hi hp) (by
    intro _ _
    simpa using hend)
  have := key n 0 () (by omega) trivial
  rw [List.range_eq_range']
  simpa using this
theorem range_map_getD {α β : Type} (l : List α) (d : α) (h : α → β) : (List.range l.length).map (fun i => h (l.getD i d)) = l.map h := by
  apply List.ext_getElem
  · simp
  · intro i h1 h2
    simp at h1 h2
    simp [List.getD_eq_getElem?_getD, List.getElem?_eq_getElem h2]
theorem range_flatMap_getD {α β : Type} (l : List α) (d : α) (h : α → List β) : (List.range l.length).flatMap (fun i => h (l.getD i d)) = l.flatMap h := by
  have := congrArg List.flatten (range_map_getD l d h)
  rw [List.flatMap_def, List.flatMap_def]; exact this
theorem range_all_getD {α : Type} (l : List α) (d : α) (h : α → Bool) : (List.range l.length).all (fun i => h (l.getD i d)) = l.all h := by
  have := congrArg (fun l => l.all id) (range_map_getD l d h)
  simpa [List.all_map] using this
theorem flatMap_single {α β : Type} (l : List α) (g : α → β) : l.flatMap (fun x => [g x]) = l.map g := by
  induction l with
  | nil => rfl
  | cons a l ih => simp [ih]
/-- A loop that looks for the first index. -/
def findR {β : Type} (p : Nat → Bool) (c : Nat → β) (fin : β) : Nat → Nat → β
  | 0, _ => fin
  | d + 1, i => if p i then c i else findR p c fin d (i + 1)
theorem Ev.findloop {β : Type} {L : Nat → Int → Option β} {n : Nat} (p : Nat → Bool) (c : Nat → β) (fin : β)
    (hstep : ∀ (i : Nat) r, i < n → p i = false → Ev (fun k => L k ((i + 1 : Nat) : Int)) r → Ev (fun k => L k i) r)
    (hhit : ∀ (i : Nat), i < n → p i = true → Ev (fun k => L k i) (c i))
    (hend : Ev (fun k => L k n) fin) : Ev (fun k => L k 0) (findR p c fin n 0) := by
  have key := Ev.loopR (σ := Unit) (L := fun k _ i => L k i) (n := n) (fun i _ => findR p c fin (n - i) i) (fun _ _ => True) (by
    intro i _ hi _
    have e : findR p c fin (n - i) i = if p i then c i else findR p c fin (n - (i + 1)) (i + 1) := by
      have : n - i = (n - (i + 1)) + 1 := by omega
      rw [this, findR]
    cases hp : p i with
    | false => right; exact ⟨(), trivial, by rw [e, hp]; rfl, fun r hr => hstep i r hi hp hr⟩
    | true => left; rw [e, hp]; exact hhit i hi hp) (by
    intro _ _
    simpa [findR] using hend)
  have := key n 0 () (by omega) trivial
  simpa using this

/-- A loop that asks something of each index; what comes behind it is known where the answer is yes. -/
theorem Ev.allloop3 {β : Type} {L : Nat → Int → Option β} {n : Nat} (p : Nat → Bool) (c fin : β)
    (hstep : ∀ (i : Nat) r, i < n → (∀ j, j < i → p j = true) → (p i = true → Ev (fun k => L k ((i + 1 : Nat) : Int)) r) → Ev (fun k => L k i) (if p i = true then r else c))
    (hend : (∀ j, j < n → p j = true) → Ev (fun k => L k n) fin) : Ev (fun k => L k 0) (if (List.range n).all p = true then fin else c) := by
  have key : ∀ (d i : Nat), i + d = n → (∀ j, j < i → p j = true) → Ev (fun k => L k i) (if (List.range' i d).all p = true then fin else c) := by
    intro d
    induction d with
    | zero => intro i hi hp; have : i = n := by omega
              subst this; simpa using hend hp
    | succ d ih =>
      intro i hi hp
      rw [List.range'_succ, List.all_cons]
      by_cases hpi : p i = true
      · have := hstep i _ (by omega) hp (fun _ => ih (i + 1) (by omega) (fun j hj => by
          by_cases hji : j = i
          · rw [hji]; exact hpi
          · exact hp j (by omega)))
        rw [if_pos hpi] at this
        rw [hpi, Bool.true_and]; exact this
      · have := hstep i c (by omega) hp (fun h => absurd h hpi)
        rw [if_neg hpi] at this
        rw [Bool.eq_false_iff.2 hpi, Bool.false_and]; exact this
  have := key n 0 (by omega) (fun j hj => by omega)
  rw [List.range_eq_range']
  exact this

theorem spec_in_eq (a b c : Int) : spec_l01In.f a b c = some (decide (b ≤ a ∧ a ≤ c)) := by
  unfold spec_l01In.f
  by_cases h : a ≥ b
  · have h' : b ≤ a := h
    simp [h']
  · have h' : ¬ b ≤ a := h
    simp [h']
theorem impl_in_eq (a b c : Int) : impl_in.f a b c = some (decide (b ≤ a ∧ a ≤ c)) := by
  unfold impl_in.f
  by_cases h : a ≥ b
  · have h' : b ≤ a := h
    simp [h']
  · have h' : ¬ b ≤ a := h
    simp [h']

/-! is a number in a row? -/
theorem mem_range_getD {l : List Int} {v : Int} : (∀ i, i < l.length → (!decide (l.getD i 0 = v)) = true) ↔ v ∉ l := by
  constructor
  · intro h hv
    obtain ⟨i, hi, rfl⟩ := List.mem_iff_getElem.1 hv
    have := h i hi
    simp [List.getD_eq_getElem?_getD, List.getElem?_eq_getElem hi] at this
  · intro h i hi
    simp only [Bool.not_eq_true', decide_eq_false_iff_not]
    intro he
    apply h
    rw [← he]
    simp [List.getD_eq_getElem?_getD, List.getElem?_eq_getElem hi]
theorem all_not_mem (l : List Int) (v : Int) : (if (List.range l.length).all (fun i => !decide (l.getD i 0 = v)) then false else true) = decide (v ∈ l) := by
  by_cases h : v ∈ l
  · have : ¬ (List.range l.length).all (fun i => !decide (l.getD i 0 = v)) = true := by
      rw [List.all_eq_true]
      intro hh
      exact mem_range_getD.1 (fun i hi => hh i (List.mem_range.2 hi)) h
    rw [if_neg this, decide_eq_true h]
  · have : (List.range l.length).all (fun i => !decide (l.getD i 0 = v)) = true := by
      rw [List.all_eq_true]
      intro i hi
      exact mem_range_getD.2 h i (List.mem_range.1 hi)
    rw [if_pos this, decide_eq_false h]

/-! the law's own functions over rows of numbers -/
theorem laws_toIntS_ev (l : List Int) (hl : l.length ≤ 1048576) : Ev (fun k => laws_toIntS.f k l) l := by
  simp only [laws_toIntS.f, if_pos (show (0 : Int) ≤ (l.length : Int) by omega), Int.toNat_natCast, if_pos (show l.length ≤ 35184372088832 by omega)]
  have := Ev.setloop (L := fun k x i => laws_toIntS.l0 k l x i) (n := l.length) (fun i => l.getD i 0) 0 id (by
    intro i x r hi hx h
    refine Ev.step (fun k => by rw [laws_toIntS.l0, if_pos (by omega), if_pos (by omega), if_pos (by omega), rd, Int.toNat_natCast, wrap_succ hi (by omega)]) ?_
    exact h) (by
    intro x hx
    refine Ev.step (fun k => by rw [laws_toIntS.l0, if_neg (by omega)]) ?_
    exact Ev.now _)
  have e : (List.range l.length).map (fun i => l.getD i 0) = l := by
    have := range_map_getD l 0 (id : Int → Int)
    simpa using this
  rw [e] at this
  exact this

theorem laws_eqIntS_refl (l : List Int) (hl : l.length ≤ 4611686018427387904) : Ev (fun k => laws_eqIntS.f k l l) true := by
  simp only [laws_eqIntS.f, if_true]
  have := Ev.allloop (L := fun k i => laws_eqIntS.l0 k l l i) (n := l.length) (fun _ => true) false true (by
    intro i r hi _ h
    refine Ev.step (fun k => by rw [laws_eqIntS.l0, if_pos (by omega), if_pos (by omega), if_pos (by omega), if_pos rfl, wrap_succ hi hl]) ?_
    exact h) (by intro i _ h; cases h) (by
    refine Ev.step (fun k => by rw [laws_eqIntS.l0, if_neg (by omega)]) ?_
    exact Ev.now _)
  simpa using this

def seqL (m : Int) (n : Nat) : List Int := (List.range n).map (fun (i : Nat) => m + i)
theorem laws_markIntS_ev (l : List Int) (m : Int) (h0 : 0 ≤ m) (hm : m ≤ 1099511627776) (hl : l.length ≤ 1099511627776) : Ev (fun k => laws_markIntS.f k l m) (m + l.length, seqL m l.length) := by
  simp only [laws_markIntS.f]
  have := Ev.setloop' (L := fun k x i => laws_markIntS.l0 k x (m + i) i) (n := l.length) (fun i => m + i) l rfl (fun x => (m + (l.length : Int), x)) (by
    intro i x r hi hx h
    have e : wrap64 (m + (i : Int) + 1) = m + ((i + 1 : Nat) : Int) := by unfold wrap64; omega
    refine Ev.step (fun k => by rw [laws_markIntS.l0, if_pos (by omega), if_pos (by omega), Int.toNat_natCast, wrap_succ hi (by omega), e]) ?_
    exact h) (by
    intro x hx
    refine Ev.step (fun k => by rw [laws_markIntS.l0, if_neg (by omega)]) ?_
    exact Ev.now _)
  simpa [seqL] using this
theorem size_append (a b : ByteArray) : (a ++ b).size = a.size + b.size := by
  rw [← bytesOf_length, bytesOf_append, List.length_append, bytesOf_length, bytesOf_length]

/-! the law's marks -/
def mtL (n : Nat) (s : ByteArray) : ByteArray := if h : n > 0 then mtL (n / 10) (strOfNums [((48 + n % 10 : Nat) : Int)] ++ s) else (⟨#[109]⟩ : ByteArray) ++ s
termination_by n
decreasing_by omega
theorem mt_l0_ev (n : Nat) : ∀ (s : ByteArray), n ≤ 1099511627776 → s.size + n ≤ 1099511627776 → Ev (fun k => laws_markText.l0 k (n : Int) s) (mtL n s) := by
  induction n using Nat.strongRecOn with
  | ind n ih =>
    intro s hn hs
    by_cases h : n > 0
    · have e1 : (wrap64 (48 + (Int.tmod (n : Int) 10))) % 256 = ((48 + n % 10 : Nat) : Int) := by
        rw [Int.tmod_eq_emod_of_nonneg (by omega)]; unfold wrap64; omega
      have e2 : wrap64 (Int.tdiv (n : Int) 10) = ((n / 10 : Nat) : Int) := by
        rw [Int.tdiv_eq_ediv_of_nonneg (by omega)]; unfold wrap64; omega
      have hz : (strOfNums [((48 + n % 10 : Nat) : Int)]).size = 1 := by rw [str_size]; rfl
      rw [mtL, dif_pos h]
      refine Ev.step (fun k => by rw [laws_markText.l0, if_pos (by omega), e1, e2, Option.bind_some, hz, if_pos (by omega)]) ?_
      exact ih (n / 10) (by omega) _ (by omega) (by rw [size_append, hz]; omega)
    · rw [mtL, dif_neg h]
      refine Ev.step (fun k => by rw [laws_markText.l0, if_neg (by omega), if_pos (by omega)]) ?_
      exact Ev.now _
def markT (m : Int) : ByteArray := if m ≤ 0 then (⟨#[109, 48]⟩ : ByteArray) else mtL m.toNat (⟨#[]⟩ : ByteArray)
theorem laws_markText_ev (m : Int) (hm : m ≤ 1099511627776) : Ev (fun k => laws_markText.f k m) (markT m) := by
  simp only [laws_markText.f, markT]
  by_cases h : m ≤ 0
  · simp only [if_pos h]; exact Ev.now _
  · simp only [if_neg h]
    have := mt_l0_ev m.toNat (⟨#[]⟩ : ByteArray) (by omega) (by show 0 + _ ≤ _; omega)
    rw [Int.toNat_of_nonneg (by omega)] at this
    exact this

/-! the law's own functions over disks -/
def toF (e : S127) : S99 := ⟨e.f0, e.f1, e.f2⟩
def szL : List S127 → Int → Int
  | [], x => x
  | e :: l, x => if x - e.f0.size < 0 then -1 else (if x - e.f0.size - e.f1.size < 0 then -1 else szL l (x - e.f0.size - e.f1.size))
theorem szL_small : ∀ (l : List S127) (x : Int), 0 ≤ x → szL l x = -1 ∨ (0 ≤ szL l x ∧ szL l x ≤ x ∧ ∀ e ∈ l, (e.f0.size : Int) ≤ x ∧ (e.f1.size : Int) ≤ x)
  | [], x, h => Or.inr ⟨h, Int.le_refl _, fun e he => by cases he⟩
  | e :: l, x, h => by
    rw [szL]
    split
    · exact Or.inl rfl
    · split
      · exact Or.inl rfl
      · rcases szL_small l (x - e.f0.size - e.f1.size) (by omega) with h1 | ⟨h1, h2, h3⟩
        · exact Or.inl h1
        · refine Or.inr ⟨h1, by omega, fun d hd => ?_⟩
          rcases List.mem_cons.mp hd with rfl | hd
          · omega
          · have := h3 d hd; omega
theorem laws_szFile_eq (a b : ByteArray) (c x : Int) (ha : a.size ≤ 9223372036854775807) (hb : b.size ≤ 9223372036854775807) (h0 : 0 ≤ x) (h1 : x ≤ 1048576) : laws_szFile.f a b c x = some (if x - a.size < 0 then -1 else (if x - a.size - b.size < 0 then -1 else x - a.size - b.size)) := by
  unfold laws_szFile.f
  have e1 : wrap64 (x - (a.size : Int)) = x - a.size := by unfold wrap64; omega
  rw [e1]
  by_cases h : x - (a.size : Int) < 0
  · simp only [if_pos h]
  · have e2 : wrap64 (x - (a.size : Int) - (b.size : Int)) = x - a.size - b.size := by unfold wrap64; omega
    rw [e2]
    simp only [if_neg h]
    split <;> rfl
theorem laws_szFileS_l0_ev (l : List S127) (hl : l.length ≤ 1048576) (hs : ∀ e ∈ l, e.f0.size ≤ 9223372036854775807 ∧ e.f1.size ≤ 9223372036854775807) : ∀ (d i : Nat) (x : Int), i + d = l.length → 0 ≤ x → x ≤ 1048576 →
    Ev (fun k => laws_szFileS.l0 k l x i) (szL (l.drop i) x) := by
  intro d
  induction d with
  | zero =>
    intro i x hi h0 h1
    rw [List.drop_of_length_le (by omega)]
    refine Ev.step (fun k => by rw [laws_szFileS.l0, if_neg (by omega)]) ?_
    exact Ev.now _
  | succ d ih =>
    intro i x hi h0 h1
    have hil : i < l.length := by omega
    have hm := hs l[i] (List.getElem_mem hil)
    have hg : l.getD i z127 = l[i] := by simp [List.getD_eq_getElem?_getD, List.getElem?_eq_getElem hil]
    rw [List.drop_eq_getElem_cons hil, szL]
    refine Ev.step (fun k => by rw [laws_szFileS.l0, if_pos (by omega), if_pos (by omega), rd_T127, Int.toNat_natCast, hg, laws_szFile_eq _ _ _ _ hm.1 hm.2 h0 h1, Option.bind_some, wrap_succ hil (by omega)]) ?_
    by_cases c1 : x - (l[i].f0.size : Int) < 0
    · simp only [if_pos c1, show ((-1 : Int) < 0) = True by simp, if_true]; exact Ev.now _
    · by_cases c2 : x - (l[i].f0.size : Int) - (l[i].f1.size : Int) < 0
      · simp only [if_neg c1, if_pos c2, show ((-1 : Int) < 0) = True by simp, if_true]; exact Ev.now _
      · simp only [if_neg c1, if_neg c2]
        exact ih (i + 1) _ (by omega) (by omega) (by omega)
/-- A disk of the law is weighed: it is too great, or its parts are small. -/
theorem laws_szDisk_ev (l : List S127) (x : Int) (hx0 : 0 ≤ x) (hx : x ≤ 1048576) (hl : l.length ≤ 9223372036854775807) (hs : ∀ e ∈ l, e.f0.size ≤ 9223372036854775807 ∧ e.f1.size ≤ 9223372036854775807) :
    ∃ t, Ev (fun k => laws_szDisk.f k l x) t ∧ (t < 0 ∨ (0 ≤ t ∧ t ≤ x ∧ l.length ≤ 1048576 ∧ ∀ e ∈ l, e.f0.size ≤ 1048576 ∧ e.f1.size ≤ 1048576)) := by
  have e : wrap64 (x - (l.length : Int)) = x - l.length := by unfold wrap64; omega
  simp only [laws_szDisk.f, laws_szFileS.f, e]
  by_cases h : x - (l.length : Int) < 0
  · refine ⟨-1, ?_, Or.inl (by omega)⟩
    simp only [if_pos h, Option.bind_some, show ((-1 : Int) < 0) = True by simp, if_true]; exact Ev.now _
  · simp only [if_neg h]
    have h1 := laws_szFileS_l0_ev l (by omega) hs l.length 0 (x - l.length) (by omega) (by omega) (by omega)
    rw [List.drop_zero] at h1
    rcases szL_small l (x - l.length) (by omega) with hm | ⟨hm, hm2, hm3⟩
    · rw [hm] at h1
      refine ⟨-1, Ev.bind h1 ?_, Or.inl (by omega)⟩
      simp only [show ((-1 : Int) < 0) = True by simp, if_true]; exact Ev.now _
    · refine ⟨_, Ev.bind h1 ?_, Or.inr ⟨hm, by omega, by omega, fun e he => ?_⟩⟩
      · simp only [if_neg (show ¬ szL l (x - l.length) < 0 by omega)]; exact Ev.now _
      · have := hm3 e he; omega
theorem laws_toFileS_ev (l : List S127) (hl : l.length ≤ 1048576) : Ev (fun k => laws_toFileS.f k l) (l.map toF) := by
  simp only [laws_toFileS.f, if_pos (show (0 : Int) ≤ (l.length : Int) by omega), Int.toNat_natCast, if_pos (show l.length ≤ 7036874417766 by omega)]
  have := Ev.setloop (L := fun k x i => laws_toFileS.l0 k l x i) (n := l.length) (fun i => toF (l.getD i z127)) z99 id (by
    intro i x r hi hx h
    refine Ev.step (fun k => by rw [laws_toFileS.l0, if_pos (by omega), if_pos (by omega), laws_toFile.f, Option.bind_some, if_pos (by omega), wrap_succ hi (by omega)]) ?_
    exact h) (by
    intro x hx
    refine Ev.step (fun k => by rw [laws_toFileS.l0, if_neg (by omega)]) ?_
    exact Ev.now _)
  rw [range_map_getD] at this
  exact this
theorem laws_toDisk_ev (l : List S127) (hl : l.length ≤ 1048576) : Ev (fun k => laws_toDisk.f k l) (l.map toF) := by
  simp only [laws_toDisk.f]
  exact Ev.bind (laws_toFileS_ev l hl) (Ev.now _)
theorem laws_eqFileS_refl (l : List S99) (hl : l.length ≤ 4611686018427387904) : Ev (fun k => laws_eqFileS.f k l l) true := by
  simp only [laws_eqFileS.f, if_true]
  have := Ev.allloop (L := fun k i => laws_eqFileS.l0 k l l i) (n := l.length) (fun _ => true) false true (by
    intro i r hi _ h
    refine Ev.step (fun k => by rw [laws_eqFileS.l0, if_pos (by omega), if_pos (by omega), if_pos (by omega), laws_eqFile.f, if_pos rfl, if_pos rfl, if_pos rfl, Option.bind_some, if_pos rfl, wrap_succ hi hl]) ?_
    exact h) (by intro i _ h; cases h) (by
    refine Ev.step (fun k => by rw [laws_eqFileS.l0, if_neg (by omega)]) ?_
    exact Ev.now _)
  simpa using this
theorem laws_eqDisk_refl (l : List S99) (hl : l.length ≤ 4611686018427387904) : Ev (fun k => laws_eqDisk.f k l l) true := by
  simp only [laws_eqDisk.f]
  refine Ev.bind (laws_eqFileS_refl l hl) ?_
  exact Ev.now _

/-! disks that are right -/
def nameLess (a b : ByteArray) : Bool := Op.bytesLess a.toList b.toList
def fileOk (l : List S99) (i : Nat) : Bool :=
  decide ((1 ≤ ((l.getD i z99).f0.size : Int) ∧ ((l.getD i z99).f0.size : Int) ≤ 8)) && (!decide (((l.getD i z99).f1.size : Int) > 20000)) && decide (0 ≤ (l.getD i z99).f2 ∧ (l.getD i z99).f2 ≤ ((l.getD i z99).f1.size : Int)) && (decide (i = 0) || nameLess (l.getD (i - 1) z99).f0 (l.getD i z99).f0)
def diskOk (l : List S99) : Bool := (List.range l.length).all (fileOk l) && decide ((l.length : Int) ≤ 30)
theorem spec_l03Name_eq (a : ByteArray) : spec_l03Name.f a = some (decide (1 ≤ (a.size : Int) ∧ (a.size : Int) ≤ 8)) := by
  simp [spec_l03Name.f, spec_in_eq]
theorem spec_DiskOk_ev (l : List S99) : Ev (fun k => spec_DiskOk.f k l) (diskOk l) := by
  simp only [spec_DiskOk.f, diskOk]
  by_cases hl : (l.length : Int) > 30
  · simp only [if_pos hl]
    rw [decide_eq_false (by omega), Bool.and_false]
    exact Ev.now _
  · simp only [if_neg hl]
    rw [decide_eq_true (by omega), Bool.and_true]
    have := Ev.allloop (L := fun k i => spec_DiskOk.l0 k i l) (n := l.length) (fileOk l) false true ?_ ?_ ?_
    · have e : (if (List.range l.length).all (fileOk l) = true then true else false) = (List.range l.length).all (fileOk l) := by cases (List.range l.length).all (fileOk l) <;> rfl
      rw [← e]; exact this
    · intro i r hi hp h
      simp only [fileOk, Bool.and_eq_true, Bool.or_eq_true, Bool.not_eq_true', decide_eq_true_eq, decide_eq_false_iff_not] at hp
      refine Ev.step (fun k => by rw [spec_DiskOk.l0, if_pos (by omega), if_pos (by omega)]) ?_
      simp only [rd_T99, Int.toNat_natCast]
      simp only [spec_l03Name_eq, Option.bind_some]
      simp only [decide_eq_true hp.1.1.1, if_true, if_neg hp.1.1.2, spec_in_eq, Option.bind_some, decide_eq_true hp.1.2, wrap_succ hi (show l.length ≤ 4611686018427387904 by omega)]
      by_cases hz : (i : Int) > 0
      · have e : wrap64 ((i : Int) - 1) = ((i - 1 : Nat) : Int) := by unfold wrap64; omega
        have hq : nameLess (l.getD (i - 1) z99).f0 (l.getD i z99).f0 = true := by
          rcases hp.2 with h0 | h0
          · omega
          · exact h0
        unfold nameLess at hq
        simp only [if_pos hz, e, if_pos (show (0 : Int) ≤ ((i - 1 : Nat) : Int) by omega), if_pos (show ((i - 1 : Nat) : Int) < (l.length : Int) by omega), Int.toNat_natCast, if_pos hq]
        exact h
      · simp only [if_neg hz]
        exact h
    · intro i hi hp
      refine Ev.step (fun k => by rw [spec_DiskOk.l0, if_pos (by omega), if_pos (by omega)]) ?_
      simp only [rd_T99, Int.toNat_natCast]
      simp only [spec_l03Name_eq, Option.bind_some]
      simp only [spec_in_eq, Option.bind_some]
      by_cases c1 : (1 ≤ ((l.getD i z99).f0.size : Int) ∧ ((l.getD i z99).f0.size : Int) ≤ 8)
      · simp only [decide_eq_true c1, if_true]
        by_cases c2 : ((l.getD i z99).f1.size : Int) > 20000
        · simp only [if_pos c2]; exact Ev.now _
        · simp only [if_neg c2]
          by_cases c3 : 0 ≤ (l.getD i z99).f2 ∧ (l.getD i z99).f2 ≤ ((l.getD i z99).f1.size : Int)
          · simp only [decide_eq_true c3, if_true]
            simp only [fileOk, decide_eq_true c1, decide_eq_false c2, decide_eq_true c3, Bool.true_and, Bool.not_false, Bool.or_eq_false_iff] at hp
            have hz : (i : Int) > 0 := by have := of_decide_eq_false hp.1; omega
            have e : wrap64 ((i : Int) - 1) = ((i - 1 : Nat) : Int) := by unfold wrap64; omega
            have hq := hp.2
            unfold nameLess at hq
            simp only [if_pos hz, e, if_pos (show (0 : Int) ≤ ((i - 1 : Nat) : Int) by omega), if_pos (show ((i - 1 : Nat) : Int) < (l.length : Int) by omega), Int.toNat_natCast, hq, Bool.false_eq_true, if_false]
            exact Ev.now _
          · simp only [decide_eq_false c3, Bool.false_eq_true, if_false]; exact Ev.now _
      · simp only [decide_eq_false c1, Bool.false_eq_true, if_false]; exact Ev.now _
    · refine Ev.step (fun k => by rw [spec_DiskOk.l0, if_neg (by omega)]) ?_
      exact Ev.now _
theorem impl_DiskOk_ev (l : List S99) (hl : l.length ≤ 4611686018427387904) : Ev (fun k => impl_DiskOk.f k l) (diskOk l) := by
  simp only [impl_DiskOk.f, diskOk]
  have := Ev.allloop (L := fun k i => impl_DiskOk.l0 k l l.length i l) (n := l.length) (fileOk l) false (decide ((l.length : Int) ≤ 30)) ?_ ?_ ?_
  · have e : ((List.range l.length).all (fileOk l) && decide ((l.length : Int) ≤ 30)) = if (List.range l.length).all (fileOk l) = true then decide ((l.length : Int) ≤ 30) else false := by
      cases (List.range l.length).all (fileOk l) <;> rfl
    rw [e]; exact this
  · intro i r hi hp h
    simp only [fileOk, Bool.and_eq_true, Bool.or_eq_true, Bool.not_eq_true', decide_eq_true_eq, decide_eq_false_iff_not] at hp
    refine Ev.step (fun k => by rw [impl_DiskOk.l0, if_pos (by omega), if_pos (by omega), if_pos (by omega)]) ?_
    simp only [rd_T99, Int.toNat_natCast]
    simp only [impl_in_eq, Option.bind_some]
    simp only [decide_eq_true hp.1.1.1, if_true, if_neg hp.1.1.2, impl_in_eq, Option.bind_some, decide_eq_true hp.1.2, wrap_succ hi hl]
    by_cases hz : (i : Int) > 0
    · have e : wrap64 ((i : Int) - 1) = ((i - 1 : Nat) : Int) := by unfold wrap64; omega
      have hq : nameLess (l.getD (i - 1) z99).f0 (l.getD i z99).f0 = true := by
        rcases hp.2 with h0 | h0
        · omega
        · exact h0
      unfold nameLess at hq
      simp only [if_pos hz, e, if_pos (show (0 : Int) ≤ ((i - 1 : Nat) : Int) by omega), if_pos (show ((i - 1 : Nat) : Int) < (l.length : Int) by omega), Int.toNat_natCast, if_pos hq]
      exact h
    · simp only [if_neg hz]
      exact h
  · intro i hi hp
    refine Ev.step (fun k => by rw [impl_DiskOk.l0, if_pos (by omega), if_pos (by omega), if_pos (by omega)]) ?_
    simp only [rd_T99, Int.toNat_natCast]
    simp only [impl_in_eq, Option.bind_some]
    by_cases c1 : (1 ≤ ((l.getD i z99).f0.size : Int) ∧ ((l.getD i z99).f0.size : Int) ≤ 8)
    · simp only [decide_eq_true c1, if_true]
      by_cases c2 : ((l.getD i z99).f1.size : Int) > 20000
      · simp only [if_pos c2]; exact Ev.now _
      · simp only [if_neg c2]
        by_cases c3 : 0 ≤ (l.getD i z99).f2 ∧ (l.getD i z99).f2 ≤ ((l.getD i z99).f1.size : Int)
        · simp only [decide_eq_true c3, if_true]
          simp only [fileOk, decide_eq_true c1, decide_eq_false c2, decide_eq_true c3, Bool.true_and, Bool.not_false, Bool.or_eq_false_iff] at hp
          have hz : (i : Int) > 0 := by have := of_decide_eq_false hp.1; omega
          have e : wrap64 ((i : Int) - 1) = ((i - 1 : Nat) : Int) := by unfold wrap64; omega
          have hq := hp.2
          unfold nameLess at hq
          simp only [if_pos hz, e, if_pos (show (0 : Int) ≤ ((i - 1 : Nat) : Int) by omega), if_pos (show ((i - 1 : Nat) : Int) < (l.length : Int) by omega), Int.toNat_natCast, hq, Bool.false_eq_true, if_false]
          exact Ev.now _
        · simp only [decide_eq_false c3, Bool.false_eq_true, if_false]; exact Ev.now _
    · simp only [decide_eq_false c1, Bool.false_eq_true, if_false]; exact Ev.now _
  · refine Ev.step (fun k => by rw [impl_DiskOk.l0, if_neg (by omega)]) ?_
    exact Ev.now _

/-- A loop that turns every element of a row, each by what it was. -/
theorem Ev.modloop {β γ : Type} {L : Nat → List γ → Int → Option β} (l : List γ) (z : γ) (g : Nat → γ → γ) (fin : List γ → β)
    (hstep : ∀ (i : Nat) x r, i < l.length → x.length = l.length → x.getD i z = l.getD i z → Ev (fun k => L k (x.set i (g i (l.getD i z))) ((i + 1 : Nat) : Int)) r → Ev (fun k => L k x i) r)
    (hend : ∀ x, x.length = l.length → Ev (fun k => L k x l.length) (fin x)) : Ev (fun k => L k l 0) (fin ((List.range l.length).map (fun i => g i (l.getD i z)))) := by
  have key := Ev.loopR (L := L) (n := l.length) (fun _ _ => fin ((List.range l.length).map (fun i => g i (l.getD i z)))) (fun i x => x.length = l.length ∧ (∀ j, j < i → x[j]? = some (g j (l.getD j z))) ∧ ∀ j, i ≤ j → x[j]? = l[j]?) (by
    intro i x hi hx
    right
    refine ⟨x.set i (g i (l.getD i z)), ⟨by rw [List.length_set]; exact hx.1, fun j hj => ?_, fun j hj => ?_⟩, rfl, fun r hr => hstep i x r hi hx.1 ?_ hr⟩
    · by_cases hji : j = i
      · subst hji
        rw [List.getElem?_set_self (by omega)]
      · rw [List.getElem?_set_ne (by omega)]
        exact hx.2.1 j (by omega)
    · rw [List.getElem?_set_ne (by omega)]
      exact hx.2.2 j (by omega)
    · rw [List.getD_eq_getElem?_getD, List.getD_eq_getElem?_getD, hx.2.2 i (by omega)]) (by
    intro x hx
    have hxe : x = (List.range l.length).map (fun i => g i (l.getD i z)) := by
      apply List.ext_getElem?
      intro j
      by_cases hj : j < l.length
      · rw [hx.2.1 j hj]; simp [hj]
      · rw [List.getElem?_eq_none (by omega), List.getElem?_eq_none (by simp; omega)]
    rw [← hxe]
    exact hend x hx.1)
  exact key l.length 0 _ (by omega) ⟨rfl, fun j hj => by omega, fun j _ => rfl⟩

/-! marks in disks -/
theorem getD_set_self' {α : Type} {l : List α} {i : Nat} {v d : α} (h : i < l.length) : (l.set i v).getD i d = v := by
  rw [List.getD_eq_getElem?_getD, List.getElem?_set_self h]; rfl
def seqF (m : Int) (n : Nat) : List S99 := (List.range n).map (fun (i : Nat) => (⟨markT (m + 3 * i), markT (m + 3 * i + 1), m + 3 * i + 2⟩ : S99))
theorem laws_markFileS_ev (l : List S99) (m : Int) (h0 : 0 ≤ m) (hm : m ≤ 137438953472) (hl : l.length ≤ 137438953472) : Ev (fun k => laws_markFileS.f k l m) (m + 3 * l.length, seqF m l.length) := by
  simp only [laws_markFileS.f]
  have := Ev.setloop' (L := fun k x i => laws_markFileS.l0 k x (m + 3 * i) i) (n := l.length) (fun i => (⟨markT (m + 3 * i), markT (m + 3 * i + 1), m + 3 * i + 2⟩ : S99)) l rfl (fun x => (m + 3 * (l.length : Int), x)) (by
    intro i x r hi hx h
    have e1 : wrap64 (m + 3 * (i : Int) + 1) = m + 3 * i + 1 := by unfold wrap64; omega
    have e2 : wrap64 (m + 3 * (i : Int) + 1 + 1) = m + 3 * i + 2 := by unfold wrap64; omega
    have e3 : wrap64 (m + 3 * (i : Int) + 2 + 1) = m + 3 * ((i + 1 : Nat) : Int) := by unfold wrap64; omega
    refine Ev.step (fun k => by rw [laws_markFileS.l0, if_pos (by omega)]) ?_
    refine Ev.bind (laws_markText_ev _ (by omega)) ?_
    simp only [if_pos (show (0 : Int) ≤ (i : Int) by omega), Option.bind_some, e1]
    refine Ev.bind (laws_markText_ev _ (by omega)) ?_
    simp only [Option.bind_some, e2, e3, wrap_succ hi (show l.length ≤ 4611686018427387904 by omega), rd_T99, Int.toNat_natCast, List.set_set, getD_set_self' (show i < x.length by omega)]
    exact h) (by
    intro x hx
    refine Ev.step (fun k => by rw [laws_markFileS.l0, if_neg (by omega)]) ?_
    exact Ev.now _)
  simpa [seqF] using this
theorem laws_markDisk_ev (l : List S99) (m : Int) (h0 : 0 ≤ m) (hm : m ≤ 137438953472) (hl : l.length ≤ 137438953472) : Ev (fun k => laws_markDisk.f k l m) (m + 3 * l.length, seqF m l.length) := by
  simp only [laws_markDisk.f]
  exact Ev.bind (laws_markFileS_ev l m h0 hm hl) (Ev.now _)
theorem laws_heldFileS_ev (m : Int) (n : Nat) (h0 : 0 ≤ m) (hm : m ≤ 137438953472) (hl : n ≤ 137438953472) : Ev (fun k => laws_heldFileS.f k (seqF m n) m) (m + 3 * n) := by
  simp only [laws_heldFileS.f]
  have hlen : (seqF m n).length = n := by simp [seqF]
  have := Ev.allloop (L := fun k i => laws_heldFileS.l0 k (seqF m n) (m + 3 * i) i) (n := n) (fun _ => true) (-1) (m + 3 * (n : Int)) (by
    intro i r hi _ h
    have e1 : wrap64 (m + 3 * (i : Int) + 1) = m + 3 * i + 1 := by unfold wrap64; omega
    have e2 : wrap64 (m + 3 * (i : Int) + 1 + 1) = m + 3 * i + 2 := by unfold wrap64; omega
    have e3 : wrap64 (m + 3 * (i : Int) + 2 + 1) = m + 3 * ((i + 1 : Nat) : Int) := by unfold wrap64; omega
    have er : rd_T99 (seqF m n) (i : Int) = ⟨markT (m + 3 * i), markT (m + 3 * i + 1), m + 3 * i + 2⟩ := by
      simp [rd_T99, seqF, List.getD_eq_getElem?_getD, List.getElem?_map, List.getElem?_range hi]
    refine Ev.step (fun k => by rw [laws_heldFileS.l0, if_pos (by omega), if_pos (by omega), er]) ?_
    refine Ev.bind (laws_markText_ev _ (by omega)) ?_
    simp only [if_true, e1]
    refine Ev.bind (laws_markText_ev _ (by omega)) ?_
    simp only [if_true, e2, e3, wrap_succ hi (show n ≤ 4611686018427387904 by omega)]
    exact h) (by intro i _ h; cases h) (by
    refine Ev.step (fun k => by rw [laws_heldFileS.l0, if_neg (by omega)]) ?_
    exact Ev.now _)
  simpa using this
theorem laws_heldDisk_ev (m : Int) (n : Nat) (h0 : 0 ≤ m) (hm : m ≤ 137438953472) (hl : n ≤ 137438953472) : Ev (fun k => laws_heldDisk.f k (seqF m n) m) (m + 3 * n) := by
  simp only [laws_heldDisk.f]
  refine Ev.bind (laws_heldFileS_ev m n h0 hm hl) ?_
  simp only [if_neg (show ¬ (m + 3 * (n : Int) < 0) by omega)]
  exact Ev.now _

/-! a disk when the power goes -/
def lostN (f : S99) (n : Int) : Int := max (min (max n 0) (f.f1.size : Int)) f.f2
def lostF (f : S99) (n : Int) : S99 := ⟨f.f0, f.f1.extract 0 (lostN f n).toNat, lostN f n⟩
def leftAt (left : List Int) (i : Nat) : Int := if i < left.length then left.getD i 0 else 0
def lostL (l : List S99) (left : List Int) : List S99 := (List.range l.length).map (fun i => lostF (l.getD i z99) (leftAt left i))
def loseP (l : List S99) (left : List Int) : List S99 × Bool := if diskOk l = true then (lostL l left, true) else ([], false)
theorem lostL_len (l : List S99) (left : List Int) : (lostL l left).length = l.length := by simp [lostL]
theorem diskOk_len {l : List S99} (h : diskOk l = true) : l.length ≤ 30 := by
  simp only [diskOk, Bool.and_eq_true, decide_eq_true_eq] at h
  omega
theorem loseP_len (l : List S99) (left : List Int) : (loseP l left).1.length ≤ 30 := by
  unfold loseP
  by_cases h : diskOk l = true
  · rw [if_pos h, lostL_len]; exact diskOk_len h
  · rw [if_neg h]; simp
theorem diskOk_keptAt {l : List S99} (h : diskOk l = true) {i : Nat} (hi : i < l.length) : 0 ≤ (l.getD i z99).f2 ∧ (l.getD i z99).f2 ≤ ((l.getD i z99).f1.size : Int) := by
  simp only [diskOk, Bool.and_eq_true, List.all_eq_true, List.mem_range] at h
  have := h.1 i hi
  simp only [fileOk, Bool.and_eq_true, decide_eq_true_eq] at this
  exact this.1.2
theorem lostN_range {f : S99} (h0 : 0 ≤ f.f2) (h1 : f.f2 ≤ (f.f1.size : Int)) (n : Int) : 0 ≤ lostN f n ∧ lostN f n ≤ (f.f1.size : Int) ∧ f.f2 ≤ lostN f n := by
  unfold lostN; omega
theorem extract_size (s : ByteArray) {n : Int} (h0 : 0 ≤ n) (h1 : n ≤ (s.size : Int)) : ((s.extract 0 n.toNat).size : Int) = n := by
  rw [ByteArray.size_extract]; omega
theorem impl_copyDisk_eq (l : List S99) (hl : l.length ≤ 1048576) : impl_copyDisk.f l = some l := by
  simp only [impl_copyDisk.f, List.length_nil, Nat.zero_add, List.nil_append, if_pos (show l.length < 3518437208883 by omega)]
theorem impl_LoseDisk_ev (l : List S99) (left : List Int) (hl : l.length ≤ 1048576) : Ev (fun k => impl_LoseDisk.f k l left) (loseP l left) := by
  simp only [impl_LoseDisk.f]
  refine Ev.bind (impl_DiskOk_ev l (by omega)) ?_
  unfold loseP
  by_cases h : diskOk l = true
  · simp only [if_pos h, impl_copyDisk_eq l hl, Option.bind_some]
    refine Ev.modloop (L := fun k x i => impl_LoseDisk.l0 k left l.length i x) l z99 (fun i f => lostF f (leftAt left i)) (fun x => (x, true)) ?_ ?_
    · intro i x r hi hx hxi hr
      obtain ⟨k0, k1⟩ := diskOk_keptAt h hi
      obtain ⟨f, hf⟩ : ∃ f, f = l.getD i z99 := ⟨_, rfl⟩
      rw [← hf] at k0 k1 hr hxi
      have hrd : rd_T99 x (i : Int) = f := by rw [rd_T99, Int.toNat_natCast, hxi]
      obtain ⟨q0, q1, q2⟩ := lostN_range k0 k1 (leftAt left i)
      have fin : ∀ m : Int, m = lostN f (leftAt left i) → Ev (fun k => if 0 ≤ m then (if m ≤ (f.f1.size : Int) then ((some (x.set (i : Int).toNat (⟨f.f0, f.f1.extract 0 m.toNat, f.f2⟩ : S99) : List (S99))).bind fun y => (impl_LoseDisk.l0 k left (l.length : Int) ((i + 1 : Nat) : Int) (y.set (i : Int).toNat (⟨(rd_T99 y i).f0, (rd_T99 y i).f1, (((rd_T99 y i).f1).size : Int)⟩ : S99)))) else none) else none) r := by
        intro m hm
        subst hm
        simp only [if_pos q0, if_pos q1, Option.bind_some, rd_T99, Int.toNat_natCast, List.set_set, getD_set_self' (show i < x.length by omega), extract_size _ q0 q1]
        exact hr
      by_cases c : (i : Int) < (left.length : Int)
      · refine Ev.step (fun k => by rw [impl_LoseDisk.l0, if_pos (by omega), if_pos (by omega), if_pos (by omega), if_pos c, hrd, wrap_succ hi (by omega)]) ?_
        refine fin _ ?_
        unfold lostN leftAt mx mn rd
        rw [if_pos (show i < left.length by omega), Int.toNat_natCast]
        repeat' split
        all_goals omega
      · refine Ev.step (fun k => by rw [impl_LoseDisk.l0, if_pos (by omega), if_pos (by omega), if_pos (by omega), if_neg c, hrd, wrap_succ hi (by omega)]) ?_
        refine fin _ ?_
        unfold lostN leftAt mx
        rw [if_neg (show ¬ i < left.length by omega)]
        split
        all_goals omega
    · intro x hx
      refine Ev.step (fun k => by rw [impl_LoseDisk.l0, if_neg (by omega)]) ?_
      exact Ev.now _
  · simp only [if_neg h]; exact Ev.now _

theorem lose_j1_ev (left : List Int) (i : Int) (n : Int) (l x : List S99) (f : S99) (h0 : 0 ≤ f.f2) (h1 : f.f2 ≤ (f.f1.size : Int)) (hx : x.length < 3518437208883) (r : List S99 × Bool)
    (h : Ev (fun k => spec_LoseDisk.l0 k left (wrap64 (i + 1)) l (x ++ [lostF f n])) r) : Ev (fun k => spec_LoseDisk.j1 k left i n l x f.f0 f.f1 f.f2) r := by
  obtain ⟨q0, q1, q2⟩ := lostN_range h0 h1 n
  unfold lostF at h
  by_cases c1 : n > (f.f1.size : Int)
  · by_cases c2 : (f.f1.size : Int) < f.f2
    · omega
    · have e : lostN f n = (f.f1.size : Int) := by unfold lostN; omega
      rw [e, Int.toNat_natCast, show f.f1.extract 0 f.f1.size = f.f1 by simp] at h
      refine Ev.step (fun k => by rw [spec_LoseDisk.j1, if_pos c1, if_neg c2, if_pos (by omega), if_pos (by omega), if_pos hx]) ?_
      exact h
  · by_cases c2 : n < f.f2
    · have e : lostN f n = f.f2 := by unfold lostN; omega
      rw [e] at h
      refine Ev.step (fun k => by rw [spec_LoseDisk.j1, if_neg c1, if_pos c2, if_pos (by omega), if_pos (by omega), if_pos hx]) ?_
      exact h
    · have e : lostN f n = n := by unfold lostN; omega
      rw [e] at h
      refine Ev.step (fun k => by rw [spec_LoseDisk.j1, if_neg c1, if_neg c2, if_pos (by omega), if_pos (by omega), if_pos hx]) ?_
      exact h
theorem spec_LoseDisk_ev (l : List S99) (left : List Int) : Ev (fun k => spec_LoseDisk.f k l left) (loseP l left) := by
  simp only [spec_LoseDisk.f]
  refine Ev.bind (spec_DiskOk_ev l) ?_
  unfold loseP
  by_cases h : diskOk l = true
  · have hl := diskOk_len h
    simp only [if_pos h]
    have := Ev.apploop (L := fun k x i => spec_LoseDisk.l0 k left i l x) (n := l.length) (fun i => [lostF (l.getD i z99) (leftAt left i)]) (fun x => (x, true)) [] ?_ ?_
    · rw [List.nil_append, flatMap_single] at this
      exact this
    · intro i x r hi hx hr
      obtain ⟨k0, k1⟩ := diskOk_keptAt h hi
      have hxl : x.length = i := by rw [hx, List.nil_append, flatMap_single]; simp
      rw [← wrap_succ hi (by omega)] at hr
      by_cases c : (i : Int) < (left.length : Int)
      · refine Ev.step (fun k => by rw [spec_LoseDisk.l0, if_pos (by omega), if_pos (by omega), if_pos c, rd_T99, Int.toNat_natCast]) ?_
        refine lose_j1_ev left i _ l x (l.getD i z99) k0 k1 (by omega) r ?_
        unfold leftAt at hr
        rw [if_pos (show i < left.length by omega)] at hr
        rw [rd, Int.toNat_natCast]
        exact hr
      · refine Ev.step (fun k => by rw [spec_LoseDisk.l0, if_pos (by omega), if_pos (by omega), if_neg c, rd_T99, Int.toNat_natCast]) ?_
        refine lose_j1_ev left i 0 l x (l.getD i z99) k0 k1 (by omega) r ?_
        unfold leftAt at hr
        rw [if_neg (show ¬ i < left.length by omega)] at hr
        exact hr
    · intro x hx
      refine Ev.step (fun k => by rw [spec_LoseDisk.l0, if_neg (by omega)]) ?_
      exact Ev.now _
  · simp only [if_neg h]; exact Ev.now _

theorem FnExactLoseDisk_pure (l : List S127) (a : List Int) (q : l.length ≤ 9223372036854775807 ∧ ∀ a ∈ l, a.f0.size ≤ 9223372036854775807 ∧ a.f1.size ≤ 9223372036854775807 ∧ (Go.Lit.int .i64 a.f2).wf = true) (qa : a.length ≤ 9223372036854775807 ∧ ∀ x ∈ a, (Go.Lit.int .i64 x).wf = true) : ∃ k, laws_FnExactLoseDisk.f k l a = some true := by
  refine Ev.rounds (g := fun k => laws_FnExactLoseDisk.f k l a) ?_
  simp only [laws_FnExactLoseDisk.f]
  by_cases ha : (a.length : Int) > 1048576
  · simp only [if_pos ha]; exact Ev.now _
  · simp only [if_neg ha]
    obtain ⟨t, ht, hc⟩ := laws_szDisk_ev l 1048576 (by omega) (by omega) q.1 (fun e he => ⟨(q.2 e he).1, (q.2 e he).2.1⟩)
    refine Ev.bind ht ?_
    rcases hc with hc | ⟨hc, _, hl, _⟩
    · simp only [if_pos hc]; exact Ev.now _
    · have hl2 : (l.map toF).length ≤ 1048576 := by rw [List.length_map]; omega
      have hz := loseP_len (l.map toF) a
      obtain ⟨R, hR⟩ : ∃ R, R = loseP (l.map toF) a := ⟨_, rfl⟩
      have hs := spec_LoseDisk_ev (l.map toF) a
      have hi := impl_LoseDisk_ev (l.map toF) a hl2
      rw [← hR] at hs hi hz
      have hself := laws_eqDisk_refl R.1 (by omega)
      simp only [if_neg (show ¬ t < 0 by omega)]
      refine Ev.bind (laws_toDisk_ev l hl) ?_
      refine Ev.bind (laws_toIntS_ev a (by omega)) ?_
      refine Ev.bind hs ?_
      refine Ev.bind (laws_toDisk_ev l hl) ?_
      refine Ev.bind (laws_toIntS_ev a (by omega)) ?_
      refine Ev.bind hi ?_
      refine Ev.bind hself ?_
      simp only [if_true, bne_self_eq_false]
      refine Ev.step (fun k => by rw [laws_FnExactLoseDisk.j0, if_neg (by simp)]) ?_
      refine Ev.bind (laws_toDisk_ev l hl) ?_
      refine Ev.bind (laws_eqDisk_refl (l.map toF) (by omega)) ?_
      simp only [if_true]
      refine Ev.bind (laws_toIntS_ev a (by omega)) ?_
      refine Ev.bind (laws_eqIntS_refl a (by omega)) ?_
      simp only [if_true]
      refine Ev.bind (laws_markDisk_ev _ 1 (by omega) (by omega) (by omega)) ?_
      refine Ev.bind (laws_markIntS_ev a _ (by omega) (by omega) (by omega)) ?_
      simp only [if_neg (show ¬ (1 + 3 * ((l.map toF).length : Int) + (a.length : Int) < 0) by omega)]
      refine Ev.bind hself ?_
      simp only [if_true, bne_self_eq_false]
      refine Ev.step (fun k => by rw [laws_FnExactLoseDisk.j1, if_neg (by simp)]) ?_
      refine Ev.bind (laws_markDisk_ev _ 1 (by omega) (by omega) (by omega)) ?_
      refine Ev.bind (laws_heldDisk_ev 1 _ (by omega) (by omega) (by omega)) ?_
      simp only [if_neg (show ¬ (1 + 3 * (R.1.length : Int) < 0) by omega), if_true]
      refine Ev.bind (laws_toDisk_ev l hl) ?_
      refine Ev.bind (laws_toIntS_ev a (by omega)) ?_
      refine Ev.bind hi ?_
      refine Ev.bind hself ?_
      simp only [if_true, bne_self_eq_false]
      refine Ev.step (fun k => by rw [laws_FnExactLoseDisk.j2, if_neg (by simp)]) ?_
      refine Ev.bind (laws_heldDisk_ev 1 _ (by omega) (by omega) (by omega)) ?_
      simp only [if_neg (show ¬ (1 + 3 * (R.1.length : Int) < 0) by omega), if_true]
      exact Ev.now _

end Go.Proofs.Ytacnlodcbbhahaa.Pure
