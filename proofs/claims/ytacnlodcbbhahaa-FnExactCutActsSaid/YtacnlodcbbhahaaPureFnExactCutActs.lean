/- For every disk, acts in a row, place and row of numbers CutActs of the program and of the reference tell the same, in memory of its own. No condition is laid beside the statement. -/
import Derived.Test.YtacnlodcbbhahaaQFnExactCutActsx23
import Derived.Laws.BitsLemmas
import Derived.Lib.Bytes
import Derived.OpenShut
namespace Go.Proofs.Ytacnlodcbbhahaa.Pure
open Go.RowKit Go.Proofs.Ytacnlodcbbhahaa.QFnExactCutActs Go.Proofs.YtacnlodcbbhahaaW.PrintWords Go.Proofs.YtacnlodcbbhahaaW.PrintLast
set_option linter.unusedVariables false
set_option linter.unusedSimpArgs false


/-! strings as numbers -/
theorem toList_data' (s : ByteArray) : s.toList = s.data.toList := Go.Lib.toList_data s
theorem str_ext {a b : ByteArray} (h : a.toList = b.toList) : a = b := by
  rw [toList_data', toList_data'] at h
  cases a; cases b
  simp at h
  rw [h]
theorem bytesOf_append (a b : ByteArray) : bytesOf (a ++ b) = bytesOf a ++ bytesOf b := by
  unfold bytesOf
  simp [ByteArray.data_append]
theorem str_size (l : List Int) : (strOfNums l).size = l.length := by
  show (strOfNums l).data.size = _
  unfold strOfNums
  simp

/-! loops in general -/
theorem wrap_succ {i n : Nat} (h : i < n) (hn : n ≤ 4611686018427387904) : wrap64 ((i : Int) + 1) = ((i + 1 : Nat) : Int) := by unfold wrap64; omega
theorem Ev.loopR {σ β : Type} {L : Nat → σ → Int → Option β} {n : Nat} (R : Nat → σ → β) (I : Nat → σ → Prop)
    (hstep : ∀ (i : Nat) s, i < n → I i s → Ev (fun k => L k s i) (R i s) ∨ ∃ s', I (i + 1) s' ∧ R i s = R (i + 1) s' ∧ ∀ r, Ev (fun k => L k s' ((i + 1 : Nat) : Int)) r → Ev (fun k => L k s i) r)
    (hend : ∀ s, I n s → Ev (fun k => L k s n) (R n s)) : ∀ (d i : Nat) (s : σ), i + d = n → I i s → Ev (fun k => L k s i) (R i s) := by
  intro d
  induction d with
  | zero =>
    intro i s hi hI
    have : i = n := by omega
    subst this
    exact hend s hI
  | succ d ih =>
    intro i s hi hI
    rcases hstep i s (by omega) hI with h | ⟨s', h1, h2, h3⟩
    · exact h
    · rw [h2]
      exact h3 _ (ih (i + 1) s' (by omega) h1)
/-- A loop that builds by appending. -/
theorem Ev.apploop {β γ : Type} {L : Nat → List γ → Int → Option β} {n : Nat} (g : Nat → List γ) (fin : List γ → β) (a0 : List γ)
    (hstep : ∀ (i : Nat) x r, i < n → x = a0 ++ (List.range i).flatMap g → Ev (fun k => L k (x ++ g i) ((i + 1 : Nat) : Int)) r → Ev (fun k => L k x i) r)
    (hend : ∀ x, x = a0 ++ (List.range n).flatMap g → Ev (fun k => L k x n) (fin x)) : Ev (fun k => L k a0 0) (fin (a0 ++ (List.range n).flatMap g)) := by
  have key := Ev.loopR (L := L) (n := n) (fun _ _ => fin (a0 ++ (List.range n).flatMap g)) (fun i x => x = a0 ++ (List.range i).flatMap g) (by
    intro i x hi hx
    right
    refine ⟨x ++ g i, by rw [hx, List.range_succ, List.flatMap_append]; simp, rfl, fun r hr => hstep i x r hi hx hr⟩) (by
    intro x hx
    have := hend x hx
    rw [hx] at this ⊢
    exact this)
  exact key n 0 a0 (by omega) (by simp)
/-- A loop that writes every element of a row. -/
theorem Ev.setloop' {β γ : Type} {L : Nat → List γ → Int → Option β} {n : Nat} (g : Nat → γ) (x0 : List γ) (h0 : x0.length = n) (fin : List γ → β)
    (hstep : ∀ (i : Nat) x r, i < n → x.length = n → Ev (fun k => L k (x.set i (g i)) ((i + 1 : Nat) : Int)) r → Ev (fun k => L k x i) r)
    (hend : ∀ x, x.length = n → Ev (fun k => L k x n) (fin x)) : Ev (fun k => L k x0 0) (fin ((List.range n).map g)) := by
  have key := Ev.loopR (L := L) (n := n) (fun _ _ => fin ((List.range n).map g)) (fun i x => x.length = n ∧ ∀ j, j < i → x[j]? = some (g j)) (by
    intro i x hi hx
    right
    refine ⟨x.set i (g i), ⟨by rw [List.length_set]; exact hx.1, fun j hj => ?_⟩, rfl, fun r hr => hstep i x r hi hx.1 hr⟩
    by_cases hji : j = i
    · subst hji
      rw [List.getElem?_set_self (by omega)]
    · rw [List.getElem?_set_ne (by omega)]
      exact hx.2 j (by omega)) (by
    intro x hx
    have hxe : x = (List.range n).map g := by
      apply List.ext_getElem?
      intro j
      by_cases hj : j < n
      · rw [hx.2 j hj]; simp [hj]
      · rw [List.getElem?_eq_none (by omega), List.getElem?_eq_none (by simp; omega)]
    rw [← hxe]
    exact hend x hx.1)
  exact key n 0 _ (by omega) ⟨h0, fun j hj => by omega⟩
/-- A loop that fills what was made. -/
theorem Ev.setloop {β γ : Type} {L : Nat → List γ → Int → Option β} {n : Nat} (g : Nat → γ) (z : γ) (fin : List γ → β)
    (hstep : ∀ (i : Nat) x r, i < n → x.length = n → Ev (fun k => L k (x.set i (g i)) ((i + 1 : Nat) : Int)) r → Ev (fun k => L k x i) r)
    (hend : ∀ x, x.length = n → Ev (fun k => L k x n) (fin x)) : Ev (fun k => L k (List.replicate n z) 0) (fin ((List.range n).map g)) :=
  Ev.setloop' g _ (by simp) fin hstep hend
/-- A loop that asks something of each index. -/
theorem Ev.allloop {β : Type} {L : Nat → Int → Option β} {n : Nat} (p : Nat → Bool) (c fin : β)
    (hstep : ∀ (i : Nat) r, i < n → p i = true → Ev (fun k => L k ((i + 1 : Nat) : Int)) r → Ev (fun k => L k i) r)
    (hno : ∀ (i : Nat), i < n → p i = false → Ev (fun k => L k i) c)
    (hend : Ev (fun k => L k n) fin) : Ev (fun k => L k 0) (if (List.range n).all p then fin else c) := by
  have key := Ev.loopR (σ := Unit) (L := fun k _ i => L k i) (n := n) (fun i _ => if (List.range' i (n - i)).all p then fin else c) (fun _ _ => True) (by
    intro i _ hi _
    have e : List.range' i (n - i) = i :: List.range' (i + 1) (n - (i + 1)) := by
      have : n - i = (n - (i + 1)) + 1 := by omega
      rw [this, List.range'_succ]
    cases hp : p i with
    | true => right; exact ⟨(), trivial, by rw [e, List.all_cons, hp, Bool.true_and], fun r hr => hstep i r hi hp hr⟩
    | false => left; rw [e, List.all_cons, hp, Bool.false_and]; exact hno i hi hp) (by
    intro _ _
    simpa using hend)
  have := key n 0 () (by omega) trivial
  rw [List.range_eq_range']
  simpa using this
theorem range_map_getD {α β : Type} (l : List α) (d : α) (h : α → β) : (List.range l.length).map (fun i => h (l.getD i d)) = l.map h := by
  apply List.ext_getElem
  · simp
  · intro i h1 h2
    simp at h1 h2
    simp [List.getD_eq_getElem?_getD, List.getElem?_eq_getElem h2]
theorem range_flatMap_getD {α β : Type} (l : List α) (d : α) (h : α → List β) : (List.range l.length).flatMap (fun i => h (l.getD i d)) = l.flatMap h := by
  have := congrArg List.flatten (range_map_getD l d h)
  rw [List.flatMap_def, List.flatMap_def]; exact this
theorem flatMap_single {α β : Type} (l : List α) (g : α → β) : l.flatMap (fun x => [g x]) = l.map g := by
  induction l with
  | nil => rfl
  | cons a l ih => simp [ih]
/-- A loop that looks for the first index. -/
def findR {β : Type} (p : Nat → Bool) (c : Nat → β) (fin : β) : Nat → Nat → β
  | 0, _ => fin
  | d + 1, i => if p i then c i else findR p c fin d (i + 1)
theorem Ev.findloop {β : Type} {L : Nat → Int → Option β} {n : Nat} (p : Nat → Bool) (c : Nat → β) (fin : β)
    (hstep : ∀ (i : Nat) r, i < n → p i = false → Ev (fun k => L k ((i + 1 : Nat) : Int)) r → Ev (fun k => L k i) r)
    (hhit : ∀ (i : Nat), i < n → p i = true → Ev (fun k => L k i) (c i))
    (hend : Ev (fun k => L k n) fin) : Ev (fun k => L k 0) (findR p c fin n 0) := by
  have key := Ev.loopR (σ := Unit) (L := fun k _ i => L k i) (n := n) (fun i _ => findR p c fin (n - i) i) (fun _ _ => True) (by
    intro i _ hi _
    have e : findR p c fin (n - i) i = if p i then c i else findR p c fin (n - (i + 1)) (i + 1) := by
      have : n - i = (n - (i + 1)) + 1 := by omega
      rw [this, findR]
    cases hp : p i with
    | false => right; exact ⟨(), trivial, by rw [e, hp]; rfl, fun r hr => hstep i r hi hp hr⟩
    | true => left; rw [e, hp]; exact hhit i hi hp) (by
    intro _ _
    simpa [findR] using hend)
  have := key n 0 () (by omega) trivial
  simpa using this

theorem findR_range (p : Nat → Bool) : ∀ (d i : Nat), findR p (fun i => (i : Int)) (-1) d i = -1 ∨ ((i : Int) ≤ findR p (fun i => (i : Int)) (-1) d i ∧ findR p (fun i => (i : Int)) (-1) d i < ((i + d : Nat) : Int) ∧ p (findR p (fun i => (i : Int)) (-1) d i).toNat = true)
  | 0, _ => Or.inl rfl
  | d + 1, i => by
    rw [findR]
    split
    · rename_i h; right; exact ⟨Int.le_refl _, by omega, by simpa using h⟩
    · rcases findR_range p d (i + 1) with h | h
      · exact Or.inl h
      · right; exact ⟨by omega, by omega, h.2.2⟩

theorem spec_in_eq (a b c : Int) : spec_l01In.f a b c = some (decide (b ≤ a ∧ a ≤ c)) := by
  unfold spec_l01In.f
  by_cases h : a ≥ b
  · have h' : b ≤ a := h
    simp [h']
  · have h' : ¬ b ≤ a := h
    simp [h']
theorem impl_in_eq (a b c : Int) : impl_in.f a b c = some (decide (b ≤ a ∧ a ≤ c)) := by
  unfold impl_in.f
  by_cases h : a ≥ b
  · have h' : b ≤ a := h
    simp [h']
  · have h' : ¬ b ≤ a := h
    simp [h']

/-! is a number in a row? -/
/-! the law's own functions over rows of numbers -/
theorem laws_toIntS_ev (l : List Int) (hl : l.length ≤ 1048576) : Ev (fun k => laws_toIntS.f k l) l := by
  simp only [laws_toIntS.f, if_pos (show (0 : Int) ≤ (l.length : Int) by omega), Int.toNat_natCast, if_pos (show l.length ≤ 35184372088832 by omega)]
  have := Ev.setloop (L := fun k x i => laws_toIntS.l0 k l x i) (n := l.length) (fun i => l.getD i 0) 0 id (by
    intro i x r hi hx h
    refine Ev.step (fun k => by rw [laws_toIntS.l0, if_pos (by omega), if_pos (by omega), if_pos (by omega), rd, Int.toNat_natCast, wrap_succ hi (by omega)]) ?_
    exact h) (by
    intro x hx
    refine Ev.step (fun k => by rw [laws_toIntS.l0, if_neg (by omega)]) ?_
    exact Ev.now _)
  have e : (List.range l.length).map (fun i => l.getD i 0) = l := by
    have := range_map_getD l 0 (id : Int → Int)
    simpa using this
  rw [e] at this
  exact this

theorem laws_eqIntS_refl (l : List Int) (hl : l.length ≤ 4611686018427387904) : Ev (fun k => laws_eqIntS.f k l l) true := by
  simp only [laws_eqIntS.f, if_true]
  have := Ev.allloop (L := fun k i => laws_eqIntS.l0 k l l i) (n := l.length) (fun _ => true) false true (by
    intro i r hi _ h
    refine Ev.step (fun k => by rw [laws_eqIntS.l0, if_pos (by omega), if_pos (by omega), if_pos (by omega), if_pos rfl, wrap_succ hi hl]) ?_
    exact h) (by intro i _ h; cases h) (by
    refine Ev.step (fun k => by rw [laws_eqIntS.l0, if_neg (by omega)]) ?_
    exact Ev.now _)
  simpa using this

def seqL (m : Int) (n : Nat) : List Int := (List.range n).map (fun (i : Nat) => m + i)
theorem laws_markIntS_ev (l : List Int) (m : Int) (h0 : 0 ≤ m) (hm : m ≤ 1099511627776) (hl : l.length ≤ 1099511627776) : Ev (fun k => laws_markIntS.f k l m) (m + l.length, seqL m l.length) := by
  simp only [laws_markIntS.f]
  have := Ev.setloop' (L := fun k x i => laws_markIntS.l0 k x (m + i) i) (n := l.length) (fun i => m + i) l rfl (fun x => (m + (l.length : Int), x)) (by
    intro i x r hi hx h
    have e : wrap64 (m + (i : Int) + 1) = m + ((i + 1 : Nat) : Int) := by unfold wrap64; omega
    refine Ev.step (fun k => by rw [laws_markIntS.l0, if_pos (by omega), if_pos (by omega), Int.toNat_natCast, wrap_succ hi (by omega), e]) ?_
    exact h) (by
    intro x hx
    refine Ev.step (fun k => by rw [laws_markIntS.l0, if_neg (by omega)]) ?_
    exact Ev.now _)
  simpa [seqL] using this
theorem size_append (a b : ByteArray) : (a ++ b).size = a.size + b.size := by
  rw [← bytesOf_length, bytesOf_append, List.length_append, bytesOf_length, bytesOf_length]

/-! the law's marks -/
def mtL (n : Nat) (s : ByteArray) : ByteArray := if h : n > 0 then mtL (n / 10) (strOfNums [((48 + n % 10 : Nat) : Int)] ++ s) else (⟨#[109]⟩ : ByteArray) ++ s
termination_by n
decreasing_by omega
theorem mt_l0_ev (n : Nat) : ∀ (s : ByteArray), n ≤ 1099511627776 → s.size + n ≤ 1099511627776 → Ev (fun k => laws_markText.l0 k (n : Int) s) (mtL n s) := by
  induction n using Nat.strongRecOn with
  | ind n ih =>
    intro s hn hs
    by_cases h : n > 0
    · have e1 : (wrap64 (48 + (Int.tmod (n : Int) 10))) % 256 = ((48 + n % 10 : Nat) : Int) := by
        rw [Int.tmod_eq_emod_of_nonneg (by omega)]; unfold wrap64; omega
      have e2 : wrap64 (Int.tdiv (n : Int) 10) = ((n / 10 : Nat) : Int) := by
        rw [Int.tdiv_eq_ediv_of_nonneg (by omega)]; unfold wrap64; omega
      have hz : (strOfNums [((48 + n % 10 : Nat) : Int)]).size = 1 := by rw [str_size]; rfl
      rw [mtL, dif_pos h]
      refine Ev.step (fun k => by rw [laws_markText.l0, if_pos (by omega), e1, e2, Option.bind_some, hz, if_pos (by omega)]) ?_
      exact ih (n / 10) (by omega) _ (by omega) (by rw [size_append, hz]; omega)
    · rw [mtL, dif_neg h]
      refine Ev.step (fun k => by rw [laws_markText.l0, if_neg (by omega), if_pos (by omega)]) ?_
      exact Ev.now _
def markT (m : Int) : ByteArray := if m ≤ 0 then (⟨#[109, 48]⟩ : ByteArray) else mtL m.toNat (⟨#[]⟩ : ByteArray)
theorem laws_markText_ev (m : Int) (hm : m ≤ 1099511627776) : Ev (fun k => laws_markText.f k m) (markT m) := by
  simp only [laws_markText.f, markT]
  by_cases h : m ≤ 0
  · simp only [if_pos h]; exact Ev.now _
  · simp only [if_neg h]
    have := mt_l0_ev m.toNat (⟨#[]⟩ : ByteArray) (by omega) (by show 0 + _ ≤ _; omega)
    rw [Int.toNat_of_nonneg (by omega)] at this
    exact this

/-! the law's own functions over disks -/
def toF (e : S127) : S99 := ⟨e.f0, e.f1, e.f2⟩
def szL : List S127 → Int → Int
  | [], x => x
  | e :: l, x => if x - e.f0.size < 0 then -1 else (if x - e.f0.size - e.f1.size < 0 then -1 else szL l (x - e.f0.size - e.f1.size))
theorem szL_small : ∀ (l : List S127) (x : Int), 0 ≤ x → szL l x = -1 ∨ (0 ≤ szL l x ∧ szL l x ≤ x ∧ ∀ e ∈ l, (e.f0.size : Int) ≤ x ∧ (e.f1.size : Int) ≤ x)
  | [], x, h => Or.inr ⟨h, Int.le_refl _, fun e he => by cases he⟩
  | e :: l, x, h => by
    rw [szL]
    split
    · exact Or.inl rfl
    · split
      · exact Or.inl rfl
      · rcases szL_small l (x - e.f0.size - e.f1.size) (by omega) with h1 | ⟨h1, h2, h3⟩
        · exact Or.inl h1
        · refine Or.inr ⟨h1, by omega, fun d hd => ?_⟩
          rcases List.mem_cons.mp hd with rfl | hd
          · omega
          · have := h3 d hd; omega
theorem laws_szFile_eq (a b : ByteArray) (c x : Int) (ha : a.size ≤ 9223372036854775807) (hb : b.size ≤ 9223372036854775807) (h0 : 0 ≤ x) (h1 : x ≤ 1048576) : laws_szFile.f a b c x = some (if x - a.size < 0 then -1 else (if x - a.size - b.size < 0 then -1 else x - a.size - b.size)) := by
  unfold laws_szFile.f
  have e1 : wrap64 (x - (a.size : Int)) = x - a.size := by unfold wrap64; omega
  rw [e1]
  by_cases h : x - (a.size : Int) < 0
  · simp only [if_pos h]
  · have e2 : wrap64 (x - (a.size : Int) - (b.size : Int)) = x - a.size - b.size := by unfold wrap64; omega
    rw [e2]
    simp only [if_neg h]
    split <;> rfl
theorem laws_szFileS_l0_ev (l : List S127) (hl : l.length ≤ 1048576) (hs : ∀ e ∈ l, e.f0.size ≤ 9223372036854775807 ∧ e.f1.size ≤ 9223372036854775807) : ∀ (d i : Nat) (x : Int), i + d = l.length → 0 ≤ x → x ≤ 1048576 →
    Ev (fun k => laws_szFileS.l0 k l x i) (szL (l.drop i) x) := by
  intro d
  induction d with
  | zero =>
    intro i x hi h0 h1
    rw [List.drop_of_length_le (by omega)]
    refine Ev.step (fun k => by rw [laws_szFileS.l0, if_neg (by omega)]) ?_
    exact Ev.now _
  | succ d ih =>
    intro i x hi h0 h1
    have hil : i < l.length := by omega
    have hm := hs l[i] (List.getElem_mem hil)
    have hg : l.getD i z127 = l[i] := by simp [List.getD_eq_getElem?_getD, List.getElem?_eq_getElem hil]
    rw [List.drop_eq_getElem_cons hil, szL]
    refine Ev.step (fun k => by rw [laws_szFileS.l0, if_pos (by omega), if_pos (by omega), rd_T127, Int.toNat_natCast, hg, laws_szFile_eq _ _ _ _ hm.1 hm.2 h0 h1, Option.bind_some, wrap_succ hil (by omega)]) ?_
    by_cases c1 : x - (l[i].f0.size : Int) < 0
    · simp only [if_pos c1, show ((-1 : Int) < 0) = True by simp, if_true]; exact Ev.now _
    · by_cases c2 : x - (l[i].f0.size : Int) - (l[i].f1.size : Int) < 0
      · simp only [if_neg c1, if_pos c2, show ((-1 : Int) < 0) = True by simp, if_true]; exact Ev.now _
      · simp only [if_neg c1, if_neg c2]
        exact ih (i + 1) _ (by omega) (by omega) (by omega)
/-- A disk of the law is weighed: it is too great, or its parts are small. -/
theorem laws_szDisk_ev (l : List S127) (x : Int) (hx0 : 0 ≤ x) (hx : x ≤ 1048576) (hl : l.length ≤ 9223372036854775807) (hs : ∀ e ∈ l, e.f0.size ≤ 9223372036854775807 ∧ e.f1.size ≤ 9223372036854775807) :
    ∃ t, Ev (fun k => laws_szDisk.f k l x) t ∧ (t < 0 ∨ (0 ≤ t ∧ t ≤ x ∧ l.length ≤ 1048576 ∧ ∀ e ∈ l, e.f0.size ≤ 1048576 ∧ e.f1.size ≤ 1048576)) := by
  have e : wrap64 (x - (l.length : Int)) = x - l.length := by unfold wrap64; omega
  simp only [laws_szDisk.f, laws_szFileS.f, e]
  by_cases h : x - (l.length : Int) < 0
  · refine ⟨-1, ?_, Or.inl (by omega)⟩
    simp only [if_pos h, Option.bind_some, show ((-1 : Int) < 0) = True by simp, if_true]; exact Ev.now _
  · simp only [if_neg h]
    have h1 := laws_szFileS_l0_ev l (by omega) hs l.length 0 (x - l.length) (by omega) (by omega) (by omega)
    rw [List.drop_zero] at h1
    rcases szL_small l (x - l.length) (by omega) with hm | ⟨hm, hm2, hm3⟩
    · rw [hm] at h1
      refine ⟨-1, Ev.bind h1 ?_, Or.inl (by omega)⟩
      simp only [show ((-1 : Int) < 0) = True by simp, if_true]; exact Ev.now _
    · refine ⟨_, Ev.bind h1 ?_, Or.inr ⟨hm, by omega, by omega, fun e he => ?_⟩⟩
      · simp only [if_neg (show ¬ szL l (x - l.length) < 0 by omega)]; exact Ev.now _
      · have := hm3 e he; omega
theorem laws_toFileS_ev (l : List S127) (hl : l.length ≤ 1048576) : Ev (fun k => laws_toFileS.f k l) (l.map toF) := by
  simp only [laws_toFileS.f, if_pos (show (0 : Int) ≤ (l.length : Int) by omega), Int.toNat_natCast, if_pos (show l.length ≤ 7036874417766 by omega)]
  have := Ev.setloop (L := fun k x i => laws_toFileS.l0 k l x i) (n := l.length) (fun i => toF (l.getD i z127)) z99 id (by
    intro i x r hi hx h
    refine Ev.step (fun k => by rw [laws_toFileS.l0, if_pos (by omega), if_pos (by omega), laws_toFile.f, Option.bind_some, if_pos (by omega), wrap_succ hi (by omega)]) ?_
    exact h) (by
    intro x hx
    refine Ev.step (fun k => by rw [laws_toFileS.l0, if_neg (by omega)]) ?_
    exact Ev.now _)
  rw [range_map_getD] at this
  exact this
theorem laws_toDisk_ev (l : List S127) (hl : l.length ≤ 1048576) : Ev (fun k => laws_toDisk.f k l) (l.map toF) := by
  simp only [laws_toDisk.f]
  exact Ev.bind (laws_toFileS_ev l hl) (Ev.now _)
theorem laws_eqFileS_refl (l : List S99) (hl : l.length ≤ 4611686018427387904) : Ev (fun k => laws_eqFileS.f k l l) true := by
  simp only [laws_eqFileS.f, if_true]
  have := Ev.allloop (L := fun k i => laws_eqFileS.l0 k l l i) (n := l.length) (fun _ => true) false true (by
    intro i r hi _ h
    refine Ev.step (fun k => by rw [laws_eqFileS.l0, if_pos (by omega), if_pos (by omega), if_pos (by omega), laws_eqFile.f, if_pos rfl, if_pos rfl, if_pos rfl, Option.bind_some, if_pos rfl, wrap_succ hi hl]) ?_
    exact h) (by intro i _ h; cases h) (by
    refine Ev.step (fun k => by rw [laws_eqFileS.l0, if_neg (by omega)]) ?_
    exact Ev.now _)
  simpa using this
theorem laws_eqDisk_refl (l : List S99) (hl : l.length ≤ 4611686018427387904) : Ev (fun k => laws_eqDisk.f k l l) true := by
  simp only [laws_eqDisk.f]
  refine Ev.bind (laws_eqFileS_refl l hl) ?_
  exact Ev.now _

/-! disks that are right -/
def nameLess (a b : ByteArray) : Bool := Op.bytesLess a.toList b.toList
def fileOk (l : List S99) (i : Nat) : Bool :=
  decide ((1 ≤ ((l.getD i z99).f0.size : Int) ∧ ((l.getD i z99).f0.size : Int) ≤ 8)) && (!decide (((l.getD i z99).f1.size : Int) > 20000)) && decide (0 ≤ (l.getD i z99).f2 ∧ (l.getD i z99).f2 ≤ ((l.getD i z99).f1.size : Int)) && (decide (i = 0) || nameLess (l.getD (i - 1) z99).f0 (l.getD i z99).f0)
def diskOk (l : List S99) : Bool := (List.range l.length).all (fileOk l) && decide ((l.length : Int) ≤ 30)
theorem spec_l03Name_eq (a : ByteArray) : spec_l03Name.f a = some (decide (1 ≤ (a.size : Int) ∧ (a.size : Int) ≤ 8)) := by
  simp [spec_l03Name.f, spec_in_eq]
theorem spec_DiskOk_ev (l : List S99) : Ev (fun k => spec_DiskOk.f k l) (diskOk l) := by
  simp only [spec_DiskOk.f, diskOk]
  by_cases hl : (l.length : Int) > 30
  · simp only [if_pos hl]
    rw [decide_eq_false (by omega), Bool.and_false]
    exact Ev.now _
  · simp only [if_neg hl]
    rw [decide_eq_true (by omega), Bool.and_true]
    have := Ev.allloop (L := fun k i => spec_DiskOk.l0 k i l) (n := l.length) (fileOk l) false true ?_ ?_ ?_
    · have e : (if (List.range l.length).all (fileOk l) = true then true else false) = (List.range l.length).all (fileOk l) := by cases (List.range l.length).all (fileOk l) <;> rfl
      rw [← e]; exact this
    · intro i r hi hp h
      simp only [fileOk, Bool.and_eq_true, Bool.or_eq_true, Bool.not_eq_true', decide_eq_true_eq, decide_eq_false_iff_not] at hp
      refine Ev.step (fun k => by rw [spec_DiskOk.l0, if_pos (by omega), if_pos (by omega)]) ?_
      simp only [rd_T99, Int.toNat_natCast]
      simp only [spec_l03Name_eq, Option.bind_some]
      simp only [decide_eq_true hp.1.1.1, if_true, if_neg hp.1.1.2, spec_in_eq, Option.bind_some, decide_eq_true hp.1.2, wrap_succ hi (show l.length ≤ 4611686018427387904 by omega)]
      by_cases hz : (i : Int) > 0
      · have e : wrap64 ((i : Int) - 1) = ((i - 1 : Nat) : Int) := by unfold wrap64; omega
        have hq : nameLess (l.getD (i - 1) z99).f0 (l.getD i z99).f0 = true := by
          rcases hp.2 with h0 | h0
          · omega
          · exact h0
        unfold nameLess at hq
        simp only [if_pos hz, e, if_pos (show (0 : Int) ≤ ((i - 1 : Nat) : Int) by omega), if_pos (show ((i - 1 : Nat) : Int) < (l.length : Int) by omega), Int.toNat_natCast, if_pos hq]
        exact h
      · simp only [if_neg hz]
        exact h
    · intro i hi hp
      refine Ev.step (fun k => by rw [spec_DiskOk.l0, if_pos (by omega), if_pos (by omega)]) ?_
      simp only [rd_T99, Int.toNat_natCast]
      simp only [spec_l03Name_eq, Option.bind_some]
      simp only [spec_in_eq, Option.bind_some]
      by_cases c1 : (1 ≤ ((l.getD i z99).f0.size : Int) ∧ ((l.getD i z99).f0.size : Int) ≤ 8)
      · simp only [decide_eq_true c1, if_true]
        by_cases c2 : ((l.getD i z99).f1.size : Int) > 20000
        · simp only [if_pos c2]; exact Ev.now _
        · simp only [if_neg c2]
          by_cases c3 : 0 ≤ (l.getD i z99).f2 ∧ (l.getD i z99).f2 ≤ ((l.getD i z99).f1.size : Int)
          · simp only [decide_eq_true c3, if_true]
            simp only [fileOk, decide_eq_true c1, decide_eq_false c2, decide_eq_true c3, Bool.true_and, Bool.not_false, Bool.or_eq_false_iff] at hp
            have hz : (i : Int) > 0 := by have := of_decide_eq_false hp.1; omega
            have e : wrap64 ((i : Int) - 1) = ((i - 1 : Nat) : Int) := by unfold wrap64; omega
            have hq := hp.2
            unfold nameLess at hq
            simp only [if_pos hz, e, if_pos (show (0 : Int) ≤ ((i - 1 : Nat) : Int) by omega), if_pos (show ((i - 1 : Nat) : Int) < (l.length : Int) by omega), Int.toNat_natCast, hq, Bool.false_eq_true, if_false]
            exact Ev.now _
          · simp only [decide_eq_false c3, Bool.false_eq_true, if_false]; exact Ev.now _
      · simp only [decide_eq_false c1, Bool.false_eq_true, if_false]; exact Ev.now _
    · refine Ev.step (fun k => by rw [spec_DiskOk.l0, if_neg (by omega)]) ?_
      exact Ev.now _
theorem impl_DiskOk_ev (l : List S99) (hl : l.length ≤ 4611686018427387904) : Ev (fun k => impl_DiskOk.f k l) (diskOk l) := by
  simp only [impl_DiskOk.f, diskOk]
  have := Ev.allloop (L := fun k i => impl_DiskOk.l0 k l l.length i l) (n := l.length) (fileOk l) false (decide ((l.length : Int) ≤ 30)) ?_ ?_ ?_
  · have e : ((List.range l.length).all (fileOk l) && decide ((l.length : Int) ≤ 30)) = if (List.range l.length).all (fileOk l) = true then decide ((l.length : Int) ≤ 30) else false := by
      cases (List.range l.length).all (fileOk l) <;> rfl
    rw [e]; exact this
  · intro i r hi hp h
    simp only [fileOk, Bool.and_eq_true, Bool.or_eq_true, Bool.not_eq_true', decide_eq_true_eq, decide_eq_false_iff_not] at hp
    refine Ev.step (fun k => by rw [impl_DiskOk.l0, if_pos (by omega), if_pos (by omega), if_pos (by omega)]) ?_
    simp only [rd_T99, Int.toNat_natCast]
    simp only [impl_in_eq, Option.bind_some]
    simp only [decide_eq_true hp.1.1.1, if_true, if_neg hp.1.1.2, impl_in_eq, Option.bind_some, decide_eq_true hp.1.2, wrap_succ hi hl]
    by_cases hz : (i : Int) > 0
    · have e : wrap64 ((i : Int) - 1) = ((i - 1 : Nat) : Int) := by unfold wrap64; omega
      have hq : nameLess (l.getD (i - 1) z99).f0 (l.getD i z99).f0 = true := by
        rcases hp.2 with h0 | h0
        · omega
        · exact h0
      unfold nameLess at hq
      simp only [if_pos hz, e, if_pos (show (0 : Int) ≤ ((i - 1 : Nat) : Int) by omega), if_pos (show ((i - 1 : Nat) : Int) < (l.length : Int) by omega), Int.toNat_natCast, if_pos hq]
      exact h
    · simp only [if_neg hz]
      exact h
  · intro i hi hp
    refine Ev.step (fun k => by rw [impl_DiskOk.l0, if_pos (by omega), if_pos (by omega), if_pos (by omega)]) ?_
    simp only [rd_T99, Int.toNat_natCast]
    simp only [impl_in_eq, Option.bind_some]
    by_cases c1 : (1 ≤ ((l.getD i z99).f0.size : Int) ∧ ((l.getD i z99).f0.size : Int) ≤ 8)
    · simp only [decide_eq_true c1, if_true]
      by_cases c2 : ((l.getD i z99).f1.size : Int) > 20000
      · simp only [if_pos c2]; exact Ev.now _
      · simp only [if_neg c2]
        by_cases c3 : 0 ≤ (l.getD i z99).f2 ∧ (l.getD i z99).f2 ≤ ((l.getD i z99).f1.size : Int)
        · simp only [decide_eq_true c3, if_true]
          simp only [fileOk, decide_eq_true c1, decide_eq_false c2, decide_eq_true c3, Bool.true_and, Bool.not_false, Bool.or_eq_false_iff] at hp
          have hz : (i : Int) > 0 := by have := of_decide_eq_false hp.1; omega
          have e : wrap64 ((i : Int) - 1) = ((i - 1 : Nat) : Int) := by unfold wrap64; omega
          have hq := hp.2
          unfold nameLess at hq
          simp only [if_pos hz, e, if_pos (show (0 : Int) ≤ ((i - 1 : Nat) : Int) by omega), if_pos (show ((i - 1 : Nat) : Int) < (l.length : Int) by omega), Int.toNat_natCast, hq, Bool.false_eq_true, if_false]
          exact Ev.now _
        · simp only [decide_eq_false c3, Bool.false_eq_true, if_false]; exact Ev.now _
    · simp only [decide_eq_false c1, Bool.false_eq_true, if_false]; exact Ev.now _
  · refine Ev.step (fun k => by rw [impl_DiskOk.l0, if_neg (by omega)]) ?_
    exact Ev.now _

def nameAt (l : List S99) (a : ByteArray) (i : Nat) : Bool := decide ((l.getD i z99).f0.toList = a.toList)
def fileAtI (l : List S99) (a : ByteArray) : Int := findR (nameAt l a) (fun i => (i : Int)) (-1) l.length 0
theorem spec_l03At_ev (l : List S99) (a : ByteArray) (hl : l.length ≤ 4611686018427387904) : Ev (fun k => spec_l03At.f k l a) (fileAtI l a) := by
  simp only [spec_l03At.f, fileAtI]
  refine Ev.findloop (L := fun k i => spec_l03At.l0 k a i l) (n := l.length) (nameAt l a) (fun i => (i : Int)) (-1) ?_ ?_ ?_
  · intro i r hi hp h
    simp only [nameAt, decide_eq_false_iff_not] at hp
    refine Ev.step (fun k => by rw [spec_l03At.l0, if_pos (by omega), if_pos (by omega), rd_T99, Int.toNat_natCast, if_neg hp, wrap_succ hi hl]) ?_
    exact h
  · intro i hi hp
    simp only [nameAt, decide_eq_true_eq] at hp
    refine Ev.step (fun k => by rw [spec_l03At.l0, if_pos (by omega), if_pos (by omega), rd_T99, Int.toNat_natCast, if_pos hp]) ?_
    exact Ev.now _
  · refine Ev.step (fun k => by rw [spec_l03At.l0, if_neg (by omega)]) ?_
    exact Ev.now _
theorem impl_fileAt_ev (l : List S99) (a : ByteArray) (hl : l.length ≤ 4611686018427387904) : Ev (fun k => impl_fileAt.f k l a) (fileAtI l a) := by
  simp only [impl_fileAt.f, fileAtI]
  refine Ev.findloop (L := fun k i => impl_fileAt.l0 k a l l.length i) (n := l.length) (nameAt l a) (fun i => (i : Int)) (-1) ?_ ?_ ?_
  · intro i r hi hp h
    simp only [nameAt, decide_eq_false_iff_not] at hp
    refine Ev.step (fun k => by rw [impl_fileAt.l0, if_pos (by omega), if_pos (by omega), if_pos (by omega), rd_T99, Int.toNat_natCast, if_neg hp, wrap_succ hi hl]) ?_
    exact h
  · intro i hi hp
    simp only [nameAt, decide_eq_true_eq] at hp
    refine Ev.step (fun k => by rw [impl_fileAt.l0, if_pos (by omega), if_pos (by omega), if_pos (by omega), rd_T99, Int.toNat_natCast, if_pos hp]) ?_
    exact Ev.now _
  · refine Ev.step (fun k => by rw [impl_fileAt.l0, if_neg (by omega)]) ?_
    exact Ev.now _
theorem fileAtI_range (l : List S99) (a : ByteArray) : fileAtI l a = -1 ∨ (0 ≤ fileAtI l a ∧ fileAtI l a < l.length ∧ nameAt l a (fileAtI l a).toNat = true) := by
  rcases findR_range (nameAt l a) l.length 0 with h | h
  · exact Or.inl h
  · right; exact ⟨by have := h.1; unfold fileAtI; omega, by have := h.2.1; unfold fileAtI; omega, h.2.2⟩
/-- A loop that turns every element of a row, each by what it was. -/
theorem Ev.modloop {β γ : Type} {L : Nat → List γ → Int → Option β} (l : List γ) (z : γ) (g : Nat → γ → γ) (fin : List γ → β)
    (hstep : ∀ (i : Nat) x r, i < l.length → x.length = l.length → x.getD i z = l.getD i z → Ev (fun k => L k (x.set i (g i (l.getD i z))) ((i + 1 : Nat) : Int)) r → Ev (fun k => L k x i) r)
    (hend : ∀ x, x.length = l.length → Ev (fun k => L k x l.length) (fin x)) : Ev (fun k => L k l 0) (fin ((List.range l.length).map (fun i => g i (l.getD i z)))) := by
  have key := Ev.loopR (L := L) (n := l.length) (fun _ _ => fin ((List.range l.length).map (fun i => g i (l.getD i z)))) (fun i x => x.length = l.length ∧ (∀ j, j < i → x[j]? = some (g j (l.getD j z))) ∧ ∀ j, i ≤ j → x[j]? = l[j]?) (by
    intro i x hi hx
    right
    refine ⟨x.set i (g i (l.getD i z)), ⟨by rw [List.length_set]; exact hx.1, fun j hj => ?_, fun j hj => ?_⟩, rfl, fun r hr => hstep i x r hi hx.1 ?_ hr⟩
    · by_cases hji : j = i
      · subst hji
        rw [List.getElem?_set_self (by omega)]
      · rw [List.getElem?_set_ne (by omega)]
        exact hx.2.1 j (by omega)
    · rw [List.getElem?_set_ne (by omega)]
      exact hx.2.2 j (by omega)
    · rw [List.getD_eq_getElem?_getD, List.getD_eq_getElem?_getD, hx.2.2 i (by omega)]) (by
    intro x hx
    have hxe : x = (List.range l.length).map (fun i => g i (l.getD i z)) := by
      apply List.ext_getElem?
      intro j
      by_cases hj : j < l.length
      · rw [hx.2.1 j hj]; simp [hj]
      · rw [List.getElem?_eq_none (by omega), List.getElem?_eq_none (by simp; omega)]
    rw [← hxe]
    exact hend x hx.1)
  exact key l.length 0 _ (by omega) ⟨rfl, fun j hj => by omega, fun j _ => rfl⟩
theorem getD_set_self' {α : Type} {l : List α} {i : Nat} {v d : α} (h : i < l.length) : (l.set i v).getD i d = v := by
  rw [List.getD_eq_getElem?_getD, List.getElem?_set_self h]; rfl

/-! marks in disks -/
def seqF (m : Int) (n : Nat) : List S99 := (List.range n).map (fun (i : Nat) => (⟨markT (m + 3 * i), markT (m + 3 * i + 1), m + 3 * i + 2⟩ : S99))
theorem laws_markFileS_ev (l : List S99) (m : Int) (h0 : 0 ≤ m) (hm : m ≤ 137438953472) (hl : l.length ≤ 137438953472) : Ev (fun k => laws_markFileS.f k l m) (m + 3 * l.length, seqF m l.length) := by
  simp only [laws_markFileS.f]
  have := Ev.setloop' (L := fun k x i => laws_markFileS.l0 k x (m + 3 * i) i) (n := l.length) (fun i => (⟨markT (m + 3 * i), markT (m + 3 * i + 1), m + 3 * i + 2⟩ : S99)) l rfl (fun x => (m + 3 * (l.length : Int), x)) (by
    intro i x r hi hx h
    have e1 : wrap64 (m + 3 * (i : Int) + 1) = m + 3 * i + 1 := by unfold wrap64; omega
    have e2 : wrap64 (m + 3 * (i : Int) + 1 + 1) = m + 3 * i + 2 := by unfold wrap64; omega
    have e3 : wrap64 (m + 3 * (i : Int) + 2 + 1) = m + 3 * ((i + 1 : Nat) : Int) := by unfold wrap64; omega
    refine Ev.step (fun k => by rw [laws_markFileS.l0, if_pos (by omega)]) ?_
    refine Ev.bind (laws_markText_ev _ (by omega)) ?_
    simp only [if_pos (show (0 : Int) ≤ (i : Int) by omega), Option.bind_some, e1]
    refine Ev.bind (laws_markText_ev _ (by omega)) ?_
    simp only [Option.bind_some, e2, e3, wrap_succ hi (show l.length ≤ 4611686018427387904 by omega), rd_T99, Int.toNat_natCast, List.set_set, getD_set_self' (show i < x.length by omega)]
    exact h) (by
    intro x hx
    refine Ev.step (fun k => by rw [laws_markFileS.l0, if_neg (by omega)]) ?_
    exact Ev.now _)
  simpa [seqF] using this
theorem laws_markDisk_ev (l : List S99) (m : Int) (h0 : 0 ≤ m) (hm : m ≤ 137438953472) (hl : l.length ≤ 137438953472) : Ev (fun k => laws_markDisk.f k l m) (m + 3 * l.length, seqF m l.length) := by
  simp only [laws_markDisk.f]
  exact Ev.bind (laws_markFileS_ev l m h0 hm hl) (Ev.now _)
theorem laws_heldFileS_ev (m : Int) (n : Nat) (h0 : 0 ≤ m) (hm : m ≤ 137438953472) (hl : n ≤ 137438953472) : Ev (fun k => laws_heldFileS.f k (seqF m n) m) (m + 3 * n) := by
  simp only [laws_heldFileS.f]
  have hlen : (seqF m n).length = n := by simp [seqF]
  have := Ev.allloop (L := fun k i => laws_heldFileS.l0 k (seqF m n) (m + 3 * i) i) (n := n) (fun _ => true) (-1) (m + 3 * (n : Int)) (by
    intro i r hi _ h
    have e1 : wrap64 (m + 3 * (i : Int) + 1) = m + 3 * i + 1 := by unfold wrap64; omega
    have e2 : wrap64 (m + 3 * (i : Int) + 1 + 1) = m + 3 * i + 2 := by unfold wrap64; omega
    have e3 : wrap64 (m + 3 * (i : Int) + 2 + 1) = m + 3 * ((i + 1 : Nat) : Int) := by unfold wrap64; omega
    have er : rd_T99 (seqF m n) (i : Int) = ⟨markT (m + 3 * i), markT (m + 3 * i + 1), m + 3 * i + 2⟩ := by
      simp [rd_T99, seqF, List.getD_eq_getElem?_getD, List.getElem?_map, List.getElem?_range hi]
    refine Ev.step (fun k => by rw [laws_heldFileS.l0, if_pos (by omega), if_pos (by omega), er]) ?_
    refine Ev.bind (laws_markText_ev _ (by omega)) ?_
    simp only [if_true, e1]
    refine Ev.bind (laws_markText_ev _ (by omega)) ?_
    simp only [if_true, e2, e3, wrap_succ hi (show n ≤ 4611686018427387904 by omega)]
    exact h) (by intro i _ h; cases h) (by
    refine Ev.step (fun k => by rw [laws_heldFileS.l0, if_neg (by omega)]) ?_
    exact Ev.now _)
  simpa using this
theorem laws_heldDisk_ev (m : Int) (n : Nat) (h0 : 0 ≤ m) (hm : m ≤ 137438953472) (hl : n ≤ 137438953472) : Ev (fun k => laws_heldDisk.f k (seqF m n) m) (m + 3 * n) := by
  simp only [laws_heldDisk.f]
  refine Ev.bind (laws_heldFileS_ev m n h0 hm hl) ?_
  simp only [if_neg (show ¬ (m + 3 * (n : Int) < 0) by omega)]
  exact Ev.now _

/-! a disk when the power goes -/
def lostN (f : S99) (n : Int) : Int := max (min (max n 0) (f.f1.size : Int)) f.f2
def lostF (f : S99) (n : Int) : S99 := ⟨f.f0, f.f1.extract 0 (lostN f n).toNat, lostN f n⟩
def leftAt (left : List Int) (i : Nat) : Int := if i < left.length then left.getD i 0 else 0
def lostL (l : List S99) (left : List Int) : List S99 := (List.range l.length).map (fun i => lostF (l.getD i z99) (leftAt left i))
def loseP (l : List S99) (left : List Int) : List S99 × Bool := if diskOk l = true then (lostL l left, true) else ([], false)
theorem lostL_len (l : List S99) (left : List Int) : (lostL l left).length = l.length := by simp [lostL]
theorem diskOk_len {l : List S99} (h : diskOk l = true) : l.length ≤ 30 := by
  simp only [diskOk, Bool.and_eq_true, decide_eq_true_eq] at h
  omega
theorem loseP_len (l : List S99) (left : List Int) : (loseP l left).1.length ≤ 30 := by
  unfold loseP
  by_cases h : diskOk l = true
  · rw [if_pos h, lostL_len]; exact diskOk_len h
  · rw [if_neg h]; simp
theorem diskOk_keptAt {l : List S99} (h : diskOk l = true) {i : Nat} (hi : i < l.length) : 0 ≤ (l.getD i z99).f2 ∧ (l.getD i z99).f2 ≤ ((l.getD i z99).f1.size : Int) := by
  simp only [diskOk, Bool.and_eq_true, List.all_eq_true, List.mem_range] at h
  have := h.1 i hi
  simp only [fileOk, Bool.and_eq_true, decide_eq_true_eq] at this
  exact this.1.2
theorem lostN_range {f : S99} (h0 : 0 ≤ f.f2) (h1 : f.f2 ≤ (f.f1.size : Int)) (n : Int) : 0 ≤ lostN f n ∧ lostN f n ≤ (f.f1.size : Int) ∧ f.f2 ≤ lostN f n := by
  unfold lostN; omega
theorem extract_size (s : ByteArray) {n : Int} (h0 : 0 ≤ n) (h1 : n ≤ (s.size : Int)) : ((s.extract 0 n.toNat).size : Int) = n := by
  rw [ByteArray.size_extract]; omega
theorem impl_copyDisk_eq (l : List S99) (hl : l.length ≤ 1048576) : impl_copyDisk.f l = some l := by
  simp only [impl_copyDisk.f, List.length_nil, Nat.zero_add, List.nil_append, if_pos (show l.length < 3518437208883 by omega)]
theorem impl_LoseDisk_ev (l : List S99) (left : List Int) (hl : l.length ≤ 1048576) : Ev (fun k => impl_LoseDisk.f k l left) (loseP l left) := by
  simp only [impl_LoseDisk.f]
  refine Ev.bind (impl_DiskOk_ev l (by omega)) ?_
  unfold loseP
  by_cases h : diskOk l = true
  · simp only [if_pos h, impl_copyDisk_eq l hl, Option.bind_some]
    refine Ev.modloop (L := fun k x i => impl_LoseDisk.l0 k left l.length i x) l z99 (fun i f => lostF f (leftAt left i)) (fun x => (x, true)) ?_ ?_
    · intro i x r hi hx hxi hr
      obtain ⟨k0, k1⟩ := diskOk_keptAt h hi
      obtain ⟨f, hf⟩ : ∃ f, f = l.getD i z99 := ⟨_, rfl⟩
      rw [← hf] at k0 k1 hr hxi
      have hrd : rd_T99 x (i : Int) = f := by rw [rd_T99, Int.toNat_natCast, hxi]
      obtain ⟨q0, q1, q2⟩ := lostN_range k0 k1 (leftAt left i)
      have fin : ∀ m : Int, m = lostN f (leftAt left i) → Ev (fun k => if 0 ≤ m then (if m ≤ (f.f1.size : Int) then ((some (x.set (i : Int).toNat (⟨f.f0, f.f1.extract 0 m.toNat, f.f2⟩ : S99) : List (S99))).bind fun y => (impl_LoseDisk.l0 k left (l.length : Int) ((i + 1 : Nat) : Int) (y.set (i : Int).toNat (⟨(rd_T99 y i).f0, (rd_T99 y i).f1, (((rd_T99 y i).f1).size : Int)⟩ : S99)))) else none) else none) r := by
        intro m hm
        subst hm
        simp only [if_pos q0, if_pos q1, Option.bind_some, rd_T99, Int.toNat_natCast, List.set_set, getD_set_self' (show i < x.length by omega), extract_size _ q0 q1]
        exact hr
      by_cases c : (i : Int) < (left.length : Int)
      · refine Ev.step (fun k => by rw [impl_LoseDisk.l0, if_pos (by omega), if_pos (by omega), if_pos (by omega), if_pos c, hrd, wrap_succ hi (by omega)]) ?_
        refine fin _ ?_
        unfold lostN leftAt mx mn rd
        rw [if_pos (show i < left.length by omega), Int.toNat_natCast]
        repeat' split
        all_goals omega
      · refine Ev.step (fun k => by rw [impl_LoseDisk.l0, if_pos (by omega), if_pos (by omega), if_pos (by omega), if_neg c, hrd, wrap_succ hi (by omega)]) ?_
        refine fin _ ?_
        unfold lostN leftAt mx
        rw [if_neg (show ¬ i < left.length by omega)]
        split
        all_goals omega
    · intro x hx
      refine Ev.step (fun k => by rw [impl_LoseDisk.l0, if_neg (by omega)]) ?_
      exact Ev.now _
  · simp only [if_neg h]; exact Ev.now _

theorem lose_j1_ev (left : List Int) (i : Int) (n : Int) (l x : List S99) (f : S99) (h0 : 0 ≤ f.f2) (h1 : f.f2 ≤ (f.f1.size : Int)) (hx : x.length < 3518437208883) (r : List S99 × Bool)
    (h : Ev (fun k => spec_LoseDisk.l0 k left (wrap64 (i + 1)) l (x ++ [lostF f n])) r) : Ev (fun k => spec_LoseDisk.j1 k left i n l x f.f0 f.f1 f.f2) r := by
  obtain ⟨q0, q1, q2⟩ := lostN_range h0 h1 n
  unfold lostF at h
  by_cases c1 : n > (f.f1.size : Int)
  · by_cases c2 : (f.f1.size : Int) < f.f2
    · omega
    · have e : lostN f n = (f.f1.size : Int) := by unfold lostN; omega
      rw [e, Int.toNat_natCast, show f.f1.extract 0 f.f1.size = f.f1 by simp] at h
      refine Ev.step (fun k => by rw [spec_LoseDisk.j1, if_pos c1, if_neg c2, if_pos (by omega), if_pos (by omega), if_pos hx]) ?_
      exact h
  · by_cases c2 : n < f.f2
    · have e : lostN f n = f.f2 := by unfold lostN; omega
      rw [e] at h
      refine Ev.step (fun k => by rw [spec_LoseDisk.j1, if_neg c1, if_pos c2, if_pos (by omega), if_pos (by omega), if_pos hx]) ?_
      exact h
    · have e : lostN f n = n := by unfold lostN; omega
      rw [e] at h
      refine Ev.step (fun k => by rw [spec_LoseDisk.j1, if_neg c1, if_neg c2, if_pos (by omega), if_pos (by omega), if_pos hx]) ?_
      exact h
theorem spec_LoseDisk_ev (l : List S99) (left : List Int) : Ev (fun k => spec_LoseDisk.f k l left) (loseP l left) := by
  simp only [spec_LoseDisk.f]
  refine Ev.bind (spec_DiskOk_ev l) ?_
  unfold loseP
  by_cases h : diskOk l = true
  · have hl := diskOk_len h
    simp only [if_pos h]
    have := Ev.apploop (L := fun k x i => spec_LoseDisk.l0 k left i l x) (n := l.length) (fun i => [lostF (l.getD i z99) (leftAt left i)]) (fun x => (x, true)) [] ?_ ?_
    · rw [List.nil_append, flatMap_single] at this
      exact this
    · intro i x r hi hx hr
      obtain ⟨k0, k1⟩ := diskOk_keptAt h hi
      have hxl : x.length = i := by rw [hx, List.nil_append, flatMap_single]; simp
      rw [← wrap_succ hi (by omega)] at hr
      by_cases c : (i : Int) < (left.length : Int)
      · refine Ev.step (fun k => by rw [spec_LoseDisk.l0, if_pos (by omega), if_pos (by omega), if_pos c, rd_T99, Int.toNat_natCast]) ?_
        refine lose_j1_ev left i _ l x (l.getD i z99) k0 k1 (by omega) r ?_
        unfold leftAt at hr
        rw [if_pos (show i < left.length by omega)] at hr
        rw [rd, Int.toNat_natCast]
        exact hr
      · refine Ev.step (fun k => by rw [spec_LoseDisk.l0, if_pos (by omega), if_pos (by omega), if_neg c, rd_T99, Int.toNat_natCast]) ?_
        refine lose_j1_ev left i 0 l x (l.getD i z99) k0 k1 (by omega) r ?_
        unfold leftAt at hr
        rw [if_neg (show ¬ i < left.length by omega)] at hr
        exact hr
    · intro x hx
      refine Ev.step (fun k => by rw [spec_LoseDisk.l0, if_neg (by omega)]) ?_
      exact Ev.now _
  · simp only [if_neg h]; exact Ev.now _

/-! names in order -/
theorem less_irrefl : ∀ x : List UInt8, Op.bytesLess x x = false
  | [] => rfl
  | a :: x => by
    have := less_irrefl x
    simp [Op.bytesLess, this, UInt8.lt_irrefl]
theorem less_trans : ∀ {x y z : List UInt8}, Op.bytesLess x y = true → Op.bytesLess y z = true → Op.bytesLess x z = true
  | [], [], _, h, _ => by simp [Op.bytesLess] at h
  | [], _ :: _, [], _, h => by simp [Op.bytesLess] at h
  | [], _ :: _, _ :: _, _, _ => by simp [Op.bytesLess]
  | _ :: _, [], _, h, _ => by simp [Op.bytesLess] at h
  | _ :: _, _ :: _, [], _, h => by simp [Op.bytesLess] at h
  | a :: x, b :: y, c :: z, h1, h2 => by
    simp only [Op.bytesLess, Bool.or_eq_true, Bool.and_eq_true, decide_eq_true_eq, beq_iff_eq] at h1 h2 ⊢
    rcases h1 with h1 | ⟨rfl, h1⟩
    · rcases h2 with h2 | ⟨rfl, h2⟩
      · exact Or.inl (UInt8.lt_trans h1 h2)
      · exact Or.inl h1
    · rcases h2 with h2 | ⟨rfl, h2⟩
      · exact Or.inl h2
      · exact Or.inr ⟨rfl, less_trans h1 h2⟩
theorem less_total : ∀ {x y : List UInt8}, Op.bytesLess x y = false → x ≠ y → Op.bytesLess y x = true
  | [], [], _, h => absurd rfl h
  | [], _ :: _, h, _ => by simp [Op.bytesLess] at h
  | _ :: _, [], _, _ => by simp [Op.bytesLess]
  | a :: x, b :: y, h, hne => by
    simp only [Op.bytesLess, Bool.or_eq_false_iff, Bool.and_eq_false_iff, decide_eq_false_iff_not, beq_eq_false_iff_ne] at h
    simp only [Op.bytesLess, Bool.or_eq_true, Bool.and_eq_true, decide_eq_true_eq, beq_iff_eq]
    by_cases e : a = b
    · subst e
      refine Or.inr ⟨rfl, less_total ?_ (fun e => hne (by rw [e]))⟩
      rcases h.2 with h2 | h2
      · exact absurd rfl h2
      · exact h2
    · refine Or.inl ?_
      have h1 := h.1
      rcases Nat.lt_trichotomy a.toNat b.toNat with h3 | h3 | h3
      · exact absurd h3 h1
      · exact absurd (UInt8.toNat.inj h3) e
      · exact h3

/-! a file is put into its place -/
theorem flat_le {α : Type} {g : Nat → List α} (h : ∀ i, (g i).length ≤ 1) : ∀ i, ((List.range i).flatMap g).length ≤ i
  | 0 => by simp
  | i + 1 => by
    rw [List.range_succ, List.flatMap_append, List.length_append]
    have := flat_le h i
    have := h i
    simp only [List.flatMap_cons, List.flatMap_nil, List.append_nil]
    omega
theorem flatMap_filter {α : Type} (p : α → Bool) : ∀ l : List α, l.flatMap (fun x => if p x = true then [x] else []) = l.filter p
  | [] => rfl
  | a :: l => by
    rw [List.flatMap_cons, flatMap_filter p l]
    by_cases h : p a = true
    · rw [if_pos h, List.filter_cons_of_pos h]; rfl
    · rw [if_neg h, List.filter_cons_of_neg h]; rfl
def putL (l : List S99) (f : S99) : List S99 := l.filter (fun e => nameLess e.f0 f.f0) ++ [f] ++ l.filter (fun e => !(nameLess e.f0 f.f0 || (e.f0.toList == f.f0.toList)))
theorem spec_l03Put_ev (l : List S99) (f : S99) (hl : l.length ≤ 1048576) : Ev (fun k => spec_l03Put.f k l f.f0 f.f1 f.f2) (putL l f) := by
  simp only [spec_l03Put.f]
  have h := Ev.apploop (L := fun k x i => spec_l03Put.l0 k i l f.f0 f.f1 f.f2 x) (n := l.length) (fun i => if nameLess (l.getD i z99).f0 f.f0 = true then [l.getD i z99] else []) (fun x => x ++ [f] ++ l.filter (fun e => !(nameLess e.f0 f.f0 || (e.f0.toList == f.f0.toList)))) [] ?_ ?_
  · have e := range_flatMap_getD l z99 (fun x : S99 => if nameLess x.f0 f.f0 = true then [x] else [])
    rw [flatMap_filter (fun x : S99 => nameLess x.f0 f.f0)] at e
    rw [e, List.nil_append] at h
    exact h
  · intro i x r hi hx hr
    have hxl : x.length ≤ i := by
      rw [hx, List.nil_append]
      exact flat_le (fun j => by split <;> simp) i
    by_cases c : nameLess (l.getD i z99).f0 f.f0 = true
    · simp only [if_pos c] at hr
      unfold nameLess at c
      refine Ev.step (fun k => by rw [spec_l03Put.l0, if_pos (by omega), if_pos (by omega), rd_T99, Int.toNat_natCast, if_pos c, if_pos (by omega), wrap_succ hi (by omega)]) ?_
      exact hr
    · simp only [if_neg c, List.append_nil] at hr
      unfold nameLess at c
      refine Ev.step (fun k => by rw [spec_l03Put.l0, if_pos (by omega), if_pos (by omega), rd_T99, Int.toNat_natCast, if_neg c, wrap_succ hi (by omega)]) ?_
      exact hr
  · intro x hx
    have hxl : x.length ≤ l.length := by
      rw [hx, List.nil_append]
      exact flat_le (fun j => by split <;> simp) _
    refine Ev.step (fun k => by rw [spec_l03Put.l0, if_neg (by omega), if_pos (by omega)]) ?_
    have h2 := Ev.apploop (L := fun k y i => spec_l03Put.l1 k i l f.f0 f.f1 f.f2 y) (n := l.length) (fun i => if (!(nameLess (l.getD i z99).f0 f.f0 || ((l.getD i z99).f0.toList == f.f0.toList))) = true then [l.getD i z99] else []) (fun y => y) (x ++ [f]) ?_ ?_
    · have e := range_flatMap_getD l z99 (fun x : S99 => if (!(nameLess x.f0 f.f0 || (x.f0.toList == f.f0.toList))) = true then [x] else [])
      rw [flatMap_filter (fun x : S99 => !(nameLess x.f0 f.f0 || (x.f0.toList == f.f0.toList)))] at e
      rw [e] at h2
      exact h2
    · intro i y r hi hy hr
      have hyl : y.length ≤ l.length + 1 + i := by
        rw [hy, List.length_append, List.length_append, List.length_singleton]
        have := flat_le (g := fun i => if (!(nameLess (l.getD i z99).f0 f.f0 || ((l.getD i z99).f0.toList == f.f0.toList))) = true then [l.getD i z99] else []) (fun j => by split <;> simp) i
        omega
      by_cases c : (nameLess (l.getD i z99).f0 f.f0 || ((l.getD i z99).f0.toList == f.f0.toList)) = true
      · simp only [c, Bool.not_true, Bool.false_eq_true, if_false, List.append_nil] at hr
        unfold nameLess at c
        refine Ev.step (fun k => by rw [spec_l03Put.l1, if_pos (by omega), if_pos (by omega), rd_T99, Int.toNat_natCast, if_pos c, wrap_succ hi (by omega)]) ?_
        exact hr
      · simp only [Bool.eq_false_iff.2 c, Bool.not_false, if_true] at hr
        unfold nameLess at c
        refine Ev.step (fun k => by rw [spec_l03Put.l1, if_pos (by omega), if_pos (by omega), rd_T99, Int.toNat_natCast, if_neg c, if_pos (by omega), wrap_succ hi (by omega)]) ?_
        exact hr
    · intro y hy
      refine Ev.step (fun k => by rw [spec_l03Put.l1, if_neg (by omega)]) ?_
      exact Ev.now _

/-! right disks as lists in order -/
def fileGood (f : S99) : Prop := 1 ≤ f.f0.size ∧ f.f0.size ≤ 8 ∧ f.f1.size ≤ 20000 ∧ 0 ≤ f.f2 ∧ f.f2 ≤ (f.f1.size : Int)
def diskGood (l : List S99) : Prop := l.Pairwise (fun a b => nameLess a.f0 b.f0 = true) ∧ ∀ e ∈ l, fileGood e
theorem diskGood_of {l : List S99} (h : diskOk l = true) : diskGood l := by
  have hl := h
  simp only [diskOk, Bool.and_eq_true, List.all_eq_true, List.mem_range] at hl
  have at_ : ∀ i (hi : i < l.length), l.getD i z99 = l[i] := fun i hi => by simp [List.getD_eq_getElem?_getD, List.getElem?_eq_getElem hi]
  have file : ∀ i (hi : i < l.length), fileGood l[i] ∧ (i = 0 ∨ nameLess (l.getD (i - 1) z99).f0 l[i].f0 = true) := fun i hi => by
    have := hl.1 i hi
    simp only [fileOk, Bool.and_eq_true, Bool.or_eq_true, Bool.not_eq_true', decide_eq_true_eq, decide_eq_false_iff_not, at_ i hi] at this
    exact ⟨⟨by omega, by omega, by omega, this.1.2.1, this.1.2.2⟩, this.2⟩
  refine ⟨?_, fun e he => ?_⟩
  · rw [List.pairwise_iff_getElem]
    have key : ∀ (d i : Nat) (hi : i < l.length) (hj : i + d + 1 < l.length), nameLess l[i].f0 l[i + d + 1].f0 = true := by
      intro d
      induction d with
      | zero =>
        intro i hi hj
        rcases (file (i + 0 + 1) hj).2 with h0 | h0
        · omega
        · rw [show i + 0 + 1 - 1 = i by omega, at_ i hi] at h0; exact h0
      | succ d ih =>
        intro i hi hj
        have h1 := ih i hi (by omega)
        rcases (file (i + (d + 1) + 1) hj).2 with h0 | h0
        · omega
        · rw [show i + (d + 1) + 1 - 1 = i + d + 1 by omega, at_ (i + d + 1) (by omega)] at h0
          exact less_trans h1 h0
    intro i j hi hj hij
    have := key (j - i - 1) i hi (by omega)
    simpa [show i + (j - i - 1) + 1 = j by omega] using this
  · obtain ⟨i, hi, rfl⟩ := List.mem_iff_getElem.1 he
    exact (file i hi).1
theorem putL_len (l : List S99) (f : S99) : (putL l f).length ≤ l.length + 1 := by
  unfold putL
  have e : l.filter (fun e => !(nameLess e.f0 f.f0 || (e.f0.toList == f.f0.toList))) = (l.filter (fun e => !nameLess e.f0 f.f0)).filter (fun e => !(e.f0.toList == f.f0.toList)) := by
    rw [List.filter_filter]
    congr 1
    funext x
    cases nameLess x.f0 f.f0 <;> cases (x.f0.toList == f.f0.toList) <;> rfl
  rw [List.length_append, List.length_append, List.length_singleton, e]
  have h1 := List.length_filter_le (fun e => !(e.f0.toList == f.f0.toList)) (l.filter (fun e => !nameLess e.f0 f.f0))
  have h2 : (l.filter (fun e => nameLess e.f0 f.f0)).length + (l.filter (fun e => !nameLess e.f0 f.f0)).length = l.length := by
    clear h1 e
    induction l with
    | nil => rfl
    | cons a l ih =>
      by_cases c : nameLess a.f0 f.f0 = true
      · rw [List.filter_cons_of_pos (p := fun e : S99 => nameLess e.f0 f.f0) c, List.filter_cons_of_neg (p := fun e : S99 => !nameLess e.f0 f.f0) (by simp [c])]
        simp only [List.length_cons]; omega
      · rw [List.filter_cons_of_neg (p := fun e : S99 => nameLess e.f0 f.f0) c, List.filter_cons_of_pos (p := fun e : S99 => !nameLess e.f0 f.f0) (by simp [c])]
        simp only [List.length_cons]; omega
  omega

/-! put and drop on names in order -/
def sortedD (l : List S99) : Prop := l.Pairwise (fun a b => nameLess a.f0 b.f0 = true)
def afterL (l : List S99) (f : S99) : List S99 := l.filter (fun e => !(nameLess e.f0 f.f0 || (e.f0.toList == f.f0.toList)))
theorem less_asymm {x y : List UInt8} (h : Op.bytesLess x y = true) : Op.bytesLess y x = false := by
  cases h2 : Op.bytesLess y x with
  | false => rfl
  | true => have := less_trans h h2; rw [less_irrefl] at this; cases this
theorem less_ne {x y : List UInt8} (h : Op.bytesLess x y = true) : ¬ y = x := by
  intro e; rw [e, less_irrefl] at h; cases h
theorem split_less {l : List S99} {f : S99} (h : sortedD l) {i : Nat} (hi : i ≤ l.length) (hl : ∀ j (hj : j < i), nameLess (l.getD j z99).f0 f.f0 = true) (hr : i < l.length → nameLess (l.getD i z99).f0 f.f0 = false) :
    l.filter (fun e => nameLess e.f0 f.f0) = l.take i ∧ afterL l f = afterL (l.drop i) f := by
  have e : l = l.take i ++ l.drop i := (List.take_append_drop i l).symm
  have h1 : ∀ a ∈ l.take i, nameLess a.f0 f.f0 = true := by
    intro a ha
    obtain ⟨j, hj, rfl⟩ := List.mem_iff_getElem.1 ha
    rw [List.length_take] at hj
    have := hl j (by omega)
    rw [List.getD_eq_getElem?_getD, List.getElem?_eq_getElem (show j < l.length by omega)] at this
    rw [List.getElem_take]
    exact this
  have h2 : ∀ a ∈ l.drop i, nameLess a.f0 f.f0 = false := by
    intro a ha
    obtain ⟨j, hj, rfl⟩ := List.mem_iff_getElem.1 ha
    rw [List.length_drop] at hj
    rw [List.getElem_drop]
    have hr' := hr (by omega)
    rw [List.getD_eq_getElem?_getD, List.getElem?_eq_getElem (show i < l.length by omega)] at hr'
    by_cases c : j = 0
    · subst c; exact hr'
    · cases hc : nameLess l[i + j].f0 f.f0 with
      | false => rfl
      | true =>
        have := List.pairwise_iff_getElem.1 h i (i + j) (by omega) (by omega) (by omega)
        have h3 := less_trans this hc
        have hr2 : nameLess l[i].f0 f.f0 = false := hr'
        unfold nameLess at hr2
        rw [h3] at hr2
        cases hr2
  constructor
  · conv => lhs; rw [e]
    rw [List.filter_append, List.filter_eq_self.2 h1, List.filter_eq_nil_iff.2 (fun a ha => by rw [h2 a ha]; simp), List.append_nil]
  · unfold afterL
    conv => lhs; rw [e]
    rw [List.filter_append, List.filter_eq_nil_iff.2 (fun a ha => by rw [h1 a ha]; simp), List.nil_append]
theorem after_cons {e : S99} {r : List S99} {f : S99} (h : sortedD (e :: r)) (hn : nameLess e.f0 f.f0 = false) : afterL (e :: r) f = if e.f0.toList = f.f0.toList then r else e :: r := by
  unfold sortedD at h
  rw [List.pairwise_cons] at h
  unfold afterL
  by_cases c : e.f0.toList = f.f0.toList
  · rw [if_pos c, List.filter_cons_of_neg (by simp [c])]
    rw [List.filter_eq_self]
    intro b hb
    have hlt : Op.bytesLess f.f0.toList b.f0.toList = true := by have := h.1 b hb; unfold nameLess at this; rw [c] at this; exact this
    have h1 : nameLess b.f0 f.f0 = false := less_asymm hlt
    rw [h1]
    simp only [Bool.false_or, Bool.not_eq_true', beq_eq_false_iff_ne]
    exact less_ne hlt
  · rw [if_neg c]
    have hlt0 : Op.bytesLess f.f0.toList e.f0.toList = true := less_total hn c
    rw [List.filter_eq_self]
    intro b hb
    have hlt : Op.bytesLess f.f0.toList b.f0.toList = true := by
      rcases List.mem_cons.1 hb with rfl | hb
      · exact hlt0
      · exact less_trans hlt0 (h.1 b hb)
    have h1 : nameLess b.f0 f.f0 = false := less_asymm hlt
    rw [h1]
    simp only [Bool.false_or, Bool.not_eq_true', beq_eq_false_iff_ne]
    exact less_ne hlt
theorem sorted_drop {l : List S99} (h : sortedD l) (i : Nat) : sortedD (l.drop i) := List.Pairwise.sublist (List.drop_sublist i l) h
theorem impl_put_j1_ev (l : List S99) (f : S99) (h : sortedD l) (hlen : l.length ≤ 1048576) {i : Nat} (hi : i ≤ l.length) (hl : ∀ j (hj : j < i), nameLess (l.getD j z99).f0 f.f0 = true) (hr : i < l.length → nameLess (l.getD i z99).f0 f.f0 = false) :
    Ev (fun k => impl_Disk_put.j1 k i l f.f0 f.f1 f.f2) (putL l f) := by
  obtain ⟨e1, e2⟩ := split_less h hi hl hr
  have hp : putL l f = l.take i ++ [f] ++ afterL (l.drop i) f := by rw [← e2, ← e1]; rfl
  rw [hp]
  have hs := sorted_drop h i
  have hdl : (l.drop i).length = l.length - i := List.length_drop
  have htl : (l.take i).length ≤ i := by rw [List.length_take]; omega
  refine Ev.step (fun k => by rw [impl_Disk_put.j1, if_pos (by omega), if_pos (by omega)]) ?_
  simp only [Option.bind_some, List.nil_append, List.length_nil, Nat.zero_add, Int.toNat_natCast, if_pos (show (l.drop i).length < 3518437208883 by omega), if_pos (show (l.take i).length < 3518437208883 by omega), List.length_append, List.length_singleton, if_pos (show (l.take i).length + 1 < 3518437208883 by omega)]
  cases hq : l.drop i with
  | nil =>
    simp only [List.length_nil, if_neg (show ¬ (((0 : Nat) : Int) > 0) by omega), Nat.add_zero, if_pos (show (l.take i).length + 1 < 3518437208883 by omega)]
    exact Ev.now _
  | cons e r =>
    have hq2 := hdl
    rw [hq] at hs hq2
    simp only [List.length_cons] at hq2
    have hie : nameLess e.f0 f.f0 = false := by
      have h1 := hr (by omega)
      have h2 : l.getD i z99 = e := by
        have h3 : (l.drop i)[0]? = some e := by rw [hq]; rfl
        rw [List.getElem?_drop, Nat.add_zero] at h3
        rw [List.getD_eq_getElem?_getD, h3]; rfl
      rw [h2] at h1
      exact h1
    rw [after_cons hs hie]
    have hrd : rd_T99 (e :: r) 0 = e := rfl
    simp only [List.length_cons, if_pos (show (((r.length + 1 : Nat) : Int) > 0) by omega), if_pos (show ((0 : Int) < ((r.length + 1 : Nat) : Int)) by omega), hrd]
    by_cases c : e.f0.toList = f.f0.toList
    · have h1 : (e :: r).drop (1 : Int).toNat = r := rfl
      simp only [if_pos c, if_pos (show ((1 : Int) ≤ ((r.length + 1 : Nat) : Int)) by omega), h1, if_pos (show (l.take i).length + 1 + r.length < 3518437208883 by omega)]
      exact Ev.now _
    · simp only [if_neg c, if_pos (show (l.take i).length + 1 + (r.length + 1) < 3518437208883 by omega)]
      exact Ev.now _
theorem impl_put_ev (l : List S99) (f : S99) (h : sortedD l) (hlen : l.length ≤ 1048576) : Ev (fun k => impl_Disk_put.f k l f.f0 f.f1 f.f2) (putL l f) := by
  simp only [impl_Disk_put.f]
  have key : ∀ (d i : Nat), i + d = l.length → (∀ j, j < i → nameLess (l.getD j z99).f0 f.f0 = true) → Ev (fun k => impl_Disk_put.l0 k i l f.f0 f.f1 f.f2) (putL l f) := by
    intro d
    induction d with
    | zero =>
      intro i hi hl
      refine Ev.step (fun k => by rw [impl_Disk_put.l0, if_neg (by omega)]) ?_
      exact impl_put_j1_ev l f h hlen (by omega) hl (fun hh => by omega)
    | succ d ih =>
      intro i hi hl
      by_cases c : Op.bytesLess (l.getD i z99).f0.toList f.f0.toList = true
      · refine Ev.step (fun k => by rw [impl_Disk_put.l0, if_pos (by omega), if_pos (by omega), rd_T99, Int.toNat_natCast, if_pos c, wrap_succ (show i < l.length by omega) (by omega)]) ?_
        refine ih (i + 1) (by omega) (fun j hj => ?_)
        by_cases hji : j = i
        · rw [hji]; exact c
        · exact hl j (by omega)
      · refine Ev.step (fun k => by rw [impl_Disk_put.l0, if_pos (by omega), if_pos (by omega), rd_T99, Int.toNat_natCast, if_neg c]) ?_
        exact impl_put_j1_ev l f h hlen (by omega) hl (fun _ => Bool.eq_false_iff.2 c)
  exact key l.length 0 (by omega) (fun j hj => by omega)
def dropL (l : List S99) (i : Nat) : List S99 := l.take i ++ l.drop (i + 1)
theorem impl_drop_eq (l : List S99) {i : Nat} (hi : i < l.length) (hlen : l.length ≤ 1048576) : impl_Disk_drop.f l (i : Int) = some (dropL l i) := by
  have e := wrap_succ hi (by omega)
  have htl : (l.take i).length = i := by rw [List.length_take]; omega
  have hdl : (l.drop (i + 1)).length = l.length - (i + 1) := List.length_drop
  simp only [impl_Disk_drop.f, e, if_pos (show (0 : Int) ≤ (i : Int) by omega), if_pos (show (i : Int) ≤ (l.length : Int) by omega), Option.bind_some, Int.toNat_natCast, List.nil_append, List.length_nil, Nat.zero_add, if_pos (show (l.take i).length < 3518437208883 by omega), if_pos (show (0 : Int) ≤ ((i + 1 : Nat) : Int) by omega), if_pos (show ((i + 1 : Nat) : Int) ≤ (l.length : Int) by omega), if_pos (show (l.take i).length + (l.drop (i + 1)).length < 3518437208883 by omega)]
  rfl
theorem dropL_sub (l : List S99) (i : Nat) : (dropL l i).Sublist l := by
  unfold dropL
  rw [← List.eraseIdx_eq_take_drop_succ]
  exact List.eraseIdx_sublist l i
theorem dropL_len (l : List S99) (i : Nat) : (dropL l i).length ≤ l.length := (dropL_sub l i).length_le
theorem dropL_sorted {l : List S99} (h : sortedD l) (i : Nat) : sortedD (dropL l i) := List.Pairwise.sublist (dropL_sub l i) h
theorem without_eq {l : List S99} (h : sortedD l) {a : ByteArray} {i : Nat} (hi : i < l.length) (ha : nameAt l a i = true) : l.filter (fun e => !(e.f0.toList == a.toList)) = dropL l i := by
  have ha' : (l[i]).f0.toList = a.toList := by
    simp only [nameAt, decide_eq_true_eq, List.getD_eq_getElem?_getD, List.getElem?_eq_getElem hi, Option.getD_some] at ha
    exact ha
  have e : l = l.take i ++ l[i] :: l.drop (i + 1) := by rw [List.getElem_cons_drop, List.take_append_drop]
  have h1 : ∀ b ∈ l.take i, (!(b.f0.toList == a.toList)) = true := by
    intro b hb
    obtain ⟨j, hj, rfl⟩ := List.mem_iff_getElem.1 hb
    rw [List.length_take] at hj
    rw [List.getElem_take]
    have := List.pairwise_iff_getElem.1 h j i (by omega) hi (by omega)
    unfold nameLess at this
    rw [ha'] at this
    simp only [Bool.not_eq_true', beq_eq_false_iff_ne]
    intro e2
    exact less_ne this e2.symm
  have h2 : ∀ b ∈ l.drop (i + 1), (!(b.f0.toList == a.toList)) = true := by
    intro b hb
    obtain ⟨j, hj, rfl⟩ := List.mem_iff_getElem.1 hb
    rw [List.length_drop] at hj
    rw [List.getElem_drop]
    have := List.pairwise_iff_getElem.1 h i (i + 1 + j) hi (by omega) (by omega)
    unfold nameLess at this
    rw [ha'] at this
    simp only [Bool.not_eq_true', beq_eq_false_iff_ne]
    exact less_ne this
  conv => lhs; rw [e]
  rw [List.filter_append, List.filter_eq_self.2 h1, List.filter_cons_of_neg (by simp [ha']), List.filter_eq_self.2 h2]
  rfl

theorem spec_l03Without_ev (l : List S99) (a : ByteArray) (hl : l.length ≤ 1048576) : Ev (fun k => spec_l03Without.f k l a) (l.filter (fun e => !(e.f0.toList == a.toList))) := by
  simp only [spec_l03Without.f]
  have h := Ev.apploop (L := fun k x i => spec_l03Without.l0 k a i l x) (n := l.length) (fun i => if (!((l.getD i z99).f0.toList == a.toList)) = true then [l.getD i z99] else []) (fun x => x) [] ?_ ?_
  · have e := range_flatMap_getD l z99 (fun x : S99 => if (!(x.f0.toList == a.toList)) = true then [x] else [])
    rw [flatMap_filter (fun x : S99 => !(x.f0.toList == a.toList))] at e
    rw [e, List.nil_append] at h
    exact h
  · intro i x r hi hx hr
    have hxl : x.length ≤ i := by
      rw [hx, List.nil_append]
      exact flat_le (fun j => by split <;> simp) i
    by_cases c : (l.getD i z99).f0.toList = a.toList
    · simp only [c, beq_self_eq_true, Bool.not_true, Bool.false_eq_true, if_false, List.append_nil] at hr
      refine Ev.step (fun k => by rw [spec_l03Without.l0, if_pos (by omega), if_pos (by omega), rd_T99, Int.toNat_natCast, if_pos c, wrap_succ hi (by omega)]) ?_
      exact hr
    · have c2 : (!((l.getD i z99).f0.toList == a.toList)) = true := by simp only [Bool.not_eq_true', beq_eq_false_iff_ne]; exact c
      simp only [if_pos c2] at hr
      refine Ev.step (fun k => by rw [spec_l03Without.l0, if_pos (by omega), if_pos (by omega), rd_T99, Int.toNat_natCast, if_neg c, if_pos (by omega), wrap_succ hi (by omega)]) ?_
      exact hr
  · intro x hx
    refine Ev.step (fun k => by rw [spec_l03Without.l0, if_neg (by omega)]) ?_
    exact Ev.now _

/-! an act -/
def newFile (a : ByteArray) : S99 := ⟨a, (⟨#[]⟩ : ByteArray), 0⟩
def fileOf (l : List S99) (a : ByteArray) : S99 := if fileAtI l a < 0 then newFile a else l.getD (fileAtI l a).toNat z99
def finish (o : List S99) : List S99 × Bool := if diskOk o = true then (o, true) else ([], false)
def actOut (l : List S99) (kind : Int) (name text dst : ByteArray) (j : Int) (f : S99) : List S99 × Bool :=
  if kind = 1 then finish (putL l ⟨f.f0, f.f1 ++ text, f.f2⟩)
  else if j < 0 then ([], false)
  else if kind = 2 then finish (putL l ⟨f.f0, f.f1, (f.f1.size : Int)⟩)
  else if kind = 3 then (if f.f2 < (f.f1.size : Int) ∨ dst.toList = name.toList then ([], false) else finish (putL (dropL l j.toNat) ⟨dst, f.f1, f.f2⟩))
  else if kind = 4 then finish (dropL l j.toNat) else ([], false)
noncomputable def actP (l : List S99) (kind : Int) (name text dst : ByteArray) : List S99 × Bool :=
  if diskOk l = true ∧ (dst.toList = [] ∨ kind = 3) ∧ (text.toList = [] ∨ kind = 1) then actOut l kind name text dst (fileAtI l name) (fileOf l name) else ([], false)
theorem finish_len (o : List S99) : (finish o).1.length ≤ 30 := by
  unfold finish
  by_cases h : diskOk o = true
  · rw [if_pos h]; exact diskOk_len h
  · rw [if_neg h]; simp
theorem actP_len (l : List S99) (kind : Int) (name text dst : ByteArray) : (actP l kind name text dst).1.length ≤ 30 := by
  unfold actP actOut
  repeat' split
  all_goals first | exact finish_len _ | simp
theorem finish_bad {l : List S99} {f : S99} (h : ¬ fileGood f) : finish (putL l f) = ([], false) := by
  unfold finish
  rw [if_neg]
  intro hk
  refine h ((diskGood_of hk).2 f ?_)
  unfold putL
  simp
theorem fileOf_size {l : List S99} (h : diskOk l = true) (a : ByteArray) : (fileOf l a).f1.size ≤ 20000 := by
  unfold fileOf
  by_cases c : fileAtI l a < 0
  · rw [if_pos c]; show 0 ≤ 20000; omega
  · rw [if_neg c]
    rcases fileAtI_range l a with h1 | ⟨h1, h2, _⟩
    · omega
    · have := (diskGood_of h).2 _ (List.getElem_mem (show (fileAtI l a).toNat < l.length by omega))
      rw [List.getD_eq_getElem?_getD, List.getElem?_eq_getElem (show (fileAtI l a).toNat < l.length by omega)]
      exact this.2.2.1

theorem impl_finish_ev (o : List S99) (hl : o.length ≤ 1048577) : Ev (fun k => (impl_DiskOk.f k o).bind fun t => (if t = true then (some (o, true)) else (some (([] : List S99), false)))) (finish o) := by
  refine Ev.bind (impl_DiskOk_ev o (by omega)) ?_
  unfold finish
  by_cases h : diskOk o = true
  · simp only [if_pos h]; exact Ev.now _
  · simp only [if_neg h]; exact Ev.now _
theorem impl_act_j2_ev (l : List S99) (h : sortedD l) (hl : l.length ≤ 1048576) (i : Nat) (hi : i < l.length) (b : Bool) (kind : Int) (name text dst : ByteArray) (f : S99) :
    Ev (fun k => impl_DoAct.j2 k i b kind name text dst l f.f0 f.f1 f.f2) (if b = true then finish (putL (dropL l i) ⟨dst, f.f1, f.f2⟩) else if kind = 4 then finish (dropL l i) else ([], false)) := by
  have hd := dropL_len l i
  cases b with
  | true =>
    refine Ev.step (fun k => by rw [impl_DoAct.j2, if_pos rfl, impl_drop_eq l hi hl, Option.bind_some]) ?_
    refine Ev.bind (impl_put_ev (dropL l i) ⟨dst, f.f1, f.f2⟩ (dropL_sorted h i) (by omega)) ?_
    rw [if_pos rfl]
    have := putL_len (dropL l i) ⟨dst, f.f1, f.f2⟩
    exact impl_finish_ev _ (by omega)
  | false =>
    by_cases c : kind = 4
    · refine Ev.step (fun k => by rw [impl_DoAct.j2, if_neg (by simp), if_pos c, impl_drop_eq l hi hl, Option.bind_some]) ?_
      rw [if_neg (by simp), if_pos c]
      exact impl_finish_ev _ (by omega)
    · refine Ev.step (fun k => by rw [impl_DoAct.j2, if_neg (by simp), if_neg c]) ?_
      rw [if_neg (by simp), if_neg c]
      exact Ev.now _
theorem impl_act_j1_ev (l : List S99) (h : diskOk l = true) (j : Int) (kind : Int) (hj : kind = 1 ∨ (0 ≤ j ∧ j < (l.length : Int))) (name text dst : ByteArray) (ht : text.size ≤ 1048576) (f : S99) (hf : f.f1.size ≤ 20000) (hk : kind ≠ 1 → f.f2 ≤ (f.f1.size : Int)) :
    Ev (fun k => impl_DoAct.j1 k j kind name text dst l f.f0 f.f1 f.f2) (actOut l kind name text dst j f) := by
  have hs := (diskGood_of h).1
  have hl := diskOk_len h
  unfold actOut
  by_cases c1 : kind = 1
  · refine Ev.step (fun k => by rw [impl_DoAct.j1, if_pos c1, if_pos (by omega)]) ?_
    rw [if_pos c1]
    refine Ev.bind (impl_put_ev l ⟨f.f0, f.f1 ++ text, f.f2⟩ hs (by omega)) ?_
    have := putL_len l ⟨f.f0, f.f1 ++ text, f.f2⟩
    exact impl_finish_ev _ (by omega)
  · rcases hj with hj | ⟨hj0, hj1⟩
    · exact absurd hj c1
    · obtain ⟨i, rfl⟩ := Int.eq_ofNat_of_zero_le hj0
      have hi : i < l.length := by omega
      rw [if_neg c1, if_neg (by omega), Int.toNat_natCast]
      by_cases c2 : kind = 2
      · refine Ev.step (fun k => by rw [impl_DoAct.j1, if_neg c1, if_pos c2]) ?_
        rw [if_pos c2]
        refine Ev.bind (impl_put_ev l ⟨f.f0, f.f1, (f.f1.size : Int)⟩ hs (by omega)) ?_
        have := putL_len l ⟨f.f0, f.f1, (f.f1.size : Int)⟩
        exact impl_finish_ev _ (by omega)
      · rw [if_neg c2]
        by_cases c3 : kind = 3
        · rw [if_pos c3]
          by_cases c4 : dst.toList = name.toList
          · refine Ev.step (fun k => by rw [impl_DoAct.j1, if_neg c1, if_neg c2, if_pos c3, if_pos c4]) ?_
            have := impl_act_j2_ev l hs (by omega) i hi false kind name text dst f
            rw [if_neg (by simp), if_neg (by omega)] at this
            rw [if_pos (Or.inr c4)]
            exact this
          · refine Ev.step (fun k => by rw [impl_DoAct.j1, if_neg c1, if_neg c2, if_pos c3, if_neg c4]) ?_
            have := impl_act_j2_ev l hs (by omega) i hi (f.f2 == (f.f1.size : Int)) kind name text dst f
            by_cases c5 : f.f2 = (f.f1.size : Int)
            · rw [if_pos (by simp [c5])] at this
              rw [if_neg (fun hh => by rcases hh with hh | hh; omega; exact c4 hh)]
              exact this
            · rw [if_neg (by simp [c5]), if_neg (by omega)] at this
              rw [if_pos (Or.inl (by have := hk c1; omega))]
              exact this
        · refine Ev.step (fun k => by rw [impl_DoAct.j1, if_neg c1, if_neg c2, if_neg c3]) ?_
          have := impl_act_j2_ev l hs (by omega) i hi false kind name text dst f
          rw [if_neg (by simp)] at this
          rw [if_neg c3]
          exact this
theorem impl_act_j0_ev (l : List S99) (h : diskOk l = true) (kind : Int) (name text dst : ByteArray) (ht : text.size ≤ 1048576) :
    Ev (fun k => impl_DoAct.j0 k false l kind name text dst) (actOut l kind name text dst (fileAtI l name) (fileOf l name)) := by
  have hl := diskOk_len h
  have hsz := fileOf_size h name
  refine Ev.step (fun k => by rw [impl_DoAct.j0, if_neg (by simp), impl_copyDisk_eq l (by omega), Option.bind_some]) ?_
  refine Ev.bind (impl_fileAt_ev l name (by omega)) ?_
  by_cases c : fileAtI l name < 0
  · have hf : fileOf l name = newFile name := by unfold fileOf; rw [if_pos c]
    rw [hf] at hsz ⊢
    simp only [if_neg (show ¬ fileAtI l name ≥ 0 by omega)]
    by_cases c1 : kind = 1
    · simp only [if_pos c1]
      exact impl_act_j1_ev l h (fileAtI l name) kind (Or.inl c1) name text dst ht (newFile name) hsz (fun hh => absurd c1 hh)
    · simp only [if_neg c1]
      unfold actOut
      rw [if_neg c1, if_pos c]
      exact Ev.now _
  · rcases fileAtI_range l name with h1 | ⟨h1, h2, _⟩
    · omega
    · have hf : fileOf l name = l.getD (fileAtI l name).toNat z99 := by unfold fileOf; rw [if_neg c]
      simp only [if_pos (show fileAtI l name ≥ 0 by omega), if_pos h1, if_pos h2]
      have hk := diskOk_keptAt h (show (fileAtI l name).toNat < l.length by omega)
      rw [← hf] at hk
      have := impl_act_j1_ev l h (fileAtI l name) kind (Or.inr ⟨h1, h2⟩) name text dst ht (fileOf l name) hsz (fun _ => hk.2)
      rw [hf] at this ⊢
      exact this
theorem impl_DoAct_ev (l : List S99) (kind : Int) (name text dst : ByteArray) (hl : l.length ≤ 1048576) (ht : text.size ≤ 1048576) : Ev (fun k => impl_DoAct.f k l kind name text dst) (actP l kind name text dst) := by
  have bad : Ev (fun k => impl_DoAct.j0 k true l kind name text dst) (([] : List S99), false) := by
    refine Ev.step (fun k => by rw [impl_DoAct.j0, if_pos rfl]) ?_
    exact Ev.now _
  simp only [impl_DoAct.f]
  refine Ev.bind (impl_DiskOk_ev l (by omega)) ?_
  unfold actP
  by_cases h : diskOk l = true
  · have good := impl_act_j0_ev l h kind name text dst ht
    simp only [if_pos h]
    by_cases c1 : dst.toList = []
    · simp only [if_pos c1]
      by_cases c2 : text.toList = []
      · simp only [if_pos c2]
        rw [if_pos ⟨h, Or.inl c1, Or.inl c2⟩]
        exact good
      · simp only [if_neg c2]
        by_cases c3 : kind = 1
        · have e : (kind != 1) = false := by simp [c3]
          rw [if_pos ⟨h, Or.inl c1, Or.inr c3⟩]
          simp only [e]
          exact good
        · have e : (kind != 1) = true := by simp [c3]
          rw [if_neg (fun hh => by rcases hh.2.2 with hh | hh; exact c2 hh; exact c3 hh)]
          simp only [e]
          exact bad
    · simp only [if_neg c1]
      by_cases c4 : kind = 3
      · simp only [if_pos c4]
        by_cases c2 : text.toList = []
        · simp only [if_pos c2]
          rw [if_pos ⟨h, Or.inr c4, Or.inl c2⟩]
          exact good
        · simp only [if_neg c2]
          have e : (kind != 1) = true := by simp [c4]
          rw [if_neg (fun hh => by rcases hh.2.2 with hh | hh; exact c2 hh; omega)]
          simp only [e]
          exact bad
      · simp only [if_neg c4]
        rw [if_neg (fun hh => by rcases hh.2.1 with hh | hh; exact c1 hh; exact c4 hh)]
        exact bad
  · simp only [if_neg h]
    rw [if_neg (fun hh => h hh.1)]
    exact bad

theorem spec_finish_ev (o : List S99) : Ev (fun k => (spec_DiskOk.f k o).bind fun t => (if t = true then (some (o, true)) else (some (([] : List S99), false)))) (finish o) := by
  refine Ev.bind (spec_DiskOk_ev o) ?_
  unfold finish
  by_cases h : diskOk o = true
  · simp only [if_pos h]; exact Ev.now _
  · simp only [if_neg h]; exact Ev.now _
theorem spec_act_j1_ev (l : List S99) (h : diskOk l = true) (j : Int) (kind : Int) (name text dst : ByteArray) (hj : j < 0 ∨ (0 ≤ j ∧ j < (l.length : Int) ∧ nameAt l name j.toNat = true)) (ht : text.size ≤ 1048576) (f : S99) (hf : f.f1.size ≤ 20000) :
    Ev (fun k => spec_DoAct.j1 k j l kind name text dst f.f0 f.f1 f.f2) (actOut l kind name text dst j f) := by
  have hs := (diskGood_of h).1
  have hl := diskOk_len h
  have bad : Ev (fun k => spec_DoAct.j2 k true l kind name text dst f.f0 f.f1 f.f2) (([] : List S99), false) := by
    refine Ev.step (fun k => by rw [spec_DoAct.j2, if_pos rfl]) ?_
    exact Ev.now _
  unfold actOut
  by_cases c1 : kind = 1
  · refine Ev.step (fun k => by rw [spec_DoAct.j1, if_pos c1, if_pos (by omega)]) ?_
    rw [if_pos c1]
    refine Ev.bind (spec_l03Put_ev l ⟨f.f0, f.f1 ++ text, f.f2⟩ (by omega)) ?_
    exact spec_finish_ev _
  · rw [if_neg c1]
    by_cases cj : j < 0
    · refine Ev.step (fun k => by rw [spec_DoAct.j1, if_neg c1, if_pos cj]) ?_
      rw [if_pos cj]
      exact Ev.now _
    · rw [if_neg cj]
      rcases hj with hj | ⟨hj0, hj1, hjn⟩
      · exact absurd hj cj
      · obtain ⟨i, rfl⟩ := Int.eq_ofNat_of_zero_le hj0
        have hi : i < l.length := by omega
        rw [Int.toNat_natCast] at hjn ⊢
        have hw := without_eq hs hi hjn
        have hwe := spec_l03Without_ev l name (by omega)
        rw [hw] at hwe
        have hd := dropL_len l i
        by_cases c2 : kind = 2
        · refine Ev.step (fun k => by rw [spec_DoAct.j1, if_neg c1, if_neg cj, if_pos c2]) ?_
          rw [if_pos c2]
          refine Ev.bind (spec_l03Put_ev l ⟨f.f0, f.f1, (f.f1.size : Int)⟩ (by omega)) ?_
          exact spec_finish_ev _
        · rw [if_neg c2]
          by_cases c3 : kind = 3
          · rw [if_pos c3]
            by_cases c5 : f.f2 < (f.f1.size : Int)
            · refine Ev.step (fun k => by rw [spec_DoAct.j1, if_neg c1, if_neg cj, if_neg c2, if_pos c3, if_pos c5]) ?_
              rw [if_pos (Or.inl c5)]
              exact bad
            · by_cases c4 : dst.toList = name.toList
              · refine Ev.step (fun k => by rw [spec_DoAct.j1, if_neg c1, if_neg cj, if_neg c2, if_pos c3, if_neg c5, if_pos c4]) ?_
                rw [if_pos (Or.inr c4)]
                exact bad
              · rw [if_neg (fun hh => by rcases hh with hh | hh; exact c5 hh; exact c4 hh)]
                refine Ev.step (fun k => by rw [spec_DoAct.j1, if_neg c1, if_neg cj, if_neg c2, if_pos c3, if_neg c5, if_neg c4, spec_l03Name_eq, Option.bind_some]) ?_
                by_cases cn : 1 ≤ (dst.size : Int) ∧ (dst.size : Int) ≤ 8
                · rw [decide_eq_true cn]
                  refine Ev.step (fun k => by rw [spec_DoAct.j2, if_neg (by simp)]) ?_
                  refine Ev.bind hwe ?_
                  refine Ev.bind (spec_l03Put_ev (dropL l i) ⟨dst, f.f1, f.f2⟩ (by omega)) ?_
                  exact spec_finish_ev _
                · rw [decide_eq_false cn, finish_bad (fun hg => cn (by have h1 := hg.1; have h2 := hg.2.1; exact ⟨by simp only at h1; omega, by simp only at h2; omega⟩))]
                  exact bad
          · rw [if_neg c3]
            by_cases c6 : kind = 4
            · refine Ev.step (fun k => by rw [spec_DoAct.j1, if_neg c1, if_neg cj, if_neg c2, if_neg c3, if_pos c6]) ?_
              rw [if_pos c6]
              refine Ev.bind hwe ?_
              exact spec_finish_ev _
            · refine Ev.step (fun k => by rw [spec_DoAct.j1, if_neg c1, if_neg cj, if_neg c2, if_neg c3, if_neg c6]) ?_
              rw [if_neg c6]
              exact Ev.now _
theorem spec_act_j0_ev (l : List S99) (h : diskOk l = true) (kind : Int) (name text dst : ByteArray) (ht : text.size ≤ 1048576) :
    Ev (fun k => spec_DoAct.j0 k false l kind name text dst) (actOut l kind name text dst (fileAtI l name) (fileOf l name)) := by
  have hl := diskOk_len h
  have hsz := fileOf_size h name
  refine Ev.step (fun k => by rw [spec_DoAct.j0, if_neg (by simp)]) ?_
  refine Ev.bind (spec_l03At_ev l name (by omega)) ?_
  by_cases c : fileAtI l name < 0
  · have hf : fileOf l name = newFile name := by unfold fileOf; rw [if_pos c]
    rw [hf] at hsz ⊢
    simp only [if_neg (show ¬ fileAtI l name ≥ 0 by omega)]
    exact spec_act_j1_ev l h (fileAtI l name) kind name text dst (Or.inl c) ht (newFile name) hsz
  · rcases fileAtI_range l name with h1 | ⟨h1, h2, h3⟩
    · omega
    · have hf : fileOf l name = l.getD (fileAtI l name).toNat z99 := by unfold fileOf; rw [if_neg c]
      simp only [if_pos (show fileAtI l name ≥ 0 by omega), if_pos h1, if_pos h2]
      have := spec_act_j1_ev l h (fileAtI l name) kind name text dst (Or.inr ⟨h1, h2, h3⟩) ht (fileOf l name) hsz
      rw [hf] at this ⊢
      exact this
theorem act_badname {l : List S99} (h : diskOk l = true) (kind : Int) {name : ByteArray} (text dst : ByteArray) (hn : ¬ (1 ≤ (name.size : Int) ∧ (name.size : Int) ≤ 8)) : actOut l kind name text dst (fileAtI l name) (fileOf l name) = ([], false) := by
  have c : fileAtI l name < 0 := by
    rcases fileAtI_range l name with h1 | ⟨h1, h2, h3⟩
    · omega
    · exfalso
      have hg := (diskGood_of h).2 _ (List.getElem_mem (show (fileAtI l name).toNat < l.length by omega))
      simp only [nameAt, decide_eq_true_eq, List.getD_eq_getElem?_getD, List.getElem?_eq_getElem (show (fileAtI l name).toNat < l.length by omega), Option.getD_some] at h3
      have := str_ext h3
      rw [← this] at hn
      exact hn ⟨by have := hg.1; omega, by have := hg.2.1; omega⟩
  have hf : fileOf l name = newFile name := by unfold fileOf; rw [if_pos c]
  rw [hf]
  unfold actOut
  by_cases c1 : kind = 1
  · rw [if_pos c1]
    refine finish_bad (fun hg => hn ?_)
    have h1 := hg.1
    have h2 := hg.2.1
    simp only [newFile] at h1 h2
    omega
  · rw [if_neg c1, if_pos c]
theorem spec_DoAct_ev (l : List S99) (kind : Int) (name text dst : ByteArray) (ht : text.size ≤ 1048576) : Ev (fun k => spec_DoAct.f k l kind name text dst) (actP l kind name text dst) := by
  have bad : Ev (fun k => spec_DoAct.j0 k true l kind name text dst) (([] : List S99), false) := by
    refine Ev.step (fun k => by rw [spec_DoAct.j0, if_pos rfl]) ?_
    exact Ev.now _
  simp only [spec_DoAct.f]
  refine Ev.bind (spec_DiskOk_ev l) ?_
  unfold actP
  by_cases h : diskOk l = true
  · have good := spec_act_j0_ev l h kind name text dst ht
    simp only [if_pos h, spec_l03Name_eq, Option.bind_some]
    by_cases cn : 1 ≤ (name.size : Int) ∧ (name.size : Int) ≤ 8
    · simp only [decide_eq_true cn, if_true]
      by_cases c4 : kind = 3
      · simp only [if_pos c4]
        by_cases c3 : kind = 1
        · omega
        · simp only [if_neg c3]
          by_cases c2 : text.toList = []
          · have e : (text.toList != []) = false := by simp [c2]
            rw [if_pos ⟨h, Or.inr c4, Or.inl c2⟩]
            simp only [e]
            exact good
          · have e : (text.toList != []) = true := by simp [c2]
            rw [if_neg (fun hh => by rcases hh.2.2 with hh | hh; exact c2 hh; exact c3 hh)]
            simp only [e]
            exact bad
      · simp only [if_neg c4]
        by_cases c1 : dst.toList = []
        · simp only [if_pos c1]
          by_cases c3 : kind = 1
          · simp only [if_pos c3]
            rw [if_pos ⟨h, Or.inl c1, Or.inr c3⟩]
            exact good
          · simp only [if_neg c3]
            by_cases c2 : text.toList = []
            · have e : (text.toList != []) = false := by simp [c2]
              rw [if_pos ⟨h, Or.inl c1, Or.inl c2⟩]
              simp only [e]
              exact good
            · have e : (text.toList != []) = true := by simp [c2]
              rw [if_neg (fun hh => by rcases hh.2.2 with hh | hh; exact c2 hh; exact c3 hh)]
              simp only [e]
              exact bad
        · simp only [if_neg c1]
          rw [if_neg (fun hh => by rcases hh.2.1 with hh | hh; exact c1 hh; exact c4 hh)]
          exact bad
    · simp only [decide_eq_false cn, Bool.false_eq_true, if_false]
      have e := act_badname h kind text dst cn
      rw [e]
      have : (if diskOk l = true ∧ (dst.toList = [] ∨ kind = 3) ∧ (text.toList = [] ∨ kind = 1) then ((([] : List S99), false)) else ([], false)) = ([], false) := by split <;> rfl
      rw [this]
      exact bad
  · simp only [if_neg h]
    rw [if_neg (fun hh => h hh.1)]
    exact bad

theorem laws_szAct_some (kd : Int) (a b c : ByteArray) (x : Int) (ha : a.size ≤ 9223372036854775807) (hb : b.size ≤ 9223372036854775807) (hc : c.size ≤ 9223372036854775807) (h0 : 0 ≤ x) (h1 : x ≤ 1048576) :
    ∃ t, laws_szAct.f kd a b c x = some t ∧ (t < 0 ∨ (0 ≤ t ∧ t ≤ x ∧ a.size ≤ 1048576 ∧ b.size ≤ 1048576 ∧ c.size ≤ 1048576)) := by
  unfold laws_szAct.f
  have e1 : wrap64 (x - (a.size : Int)) = x - a.size := by unfold wrap64; omega
  rw [e1]
  clear e1
  by_cases k1 : x - (a.size : Int) < 0
  · exact ⟨-1, by simp only [if_pos k1], Or.inl (by omega)⟩
  · have e2 : wrap64 (x - (a.size : Int) - (b.size : Int)) = x - a.size - b.size := by unfold wrap64; omega
    rw [e2]
    clear e2
    by_cases k2 : x - (a.size : Int) - (b.size : Int) < 0
    · exact ⟨-1, by simp only [if_neg k1, if_pos k2], Or.inl (by omega)⟩
    · have e3 : wrap64 (x - (a.size : Int) - (b.size : Int) - (c.size : Int)) = x - a.size - b.size - c.size := by unfold wrap64; omega
      rw [e3]
      clear e3
      by_cases k3 : x - (a.size : Int) - (b.size : Int) - (c.size : Int) < 0
      · exact ⟨-1, by simp only [if_neg k1, if_neg k2, if_pos k3], Or.inl (by omega)⟩
      · exact ⟨x - a.size - b.size - c.size, by simp only [if_neg k1, if_neg k2, if_neg k3], Or.inr (by omega)⟩

/-! acts in a row -/
noncomputable def actsR (list : List S60) : Nat → Nat → List S99 → List S99 × Int
  | 0, _, d => (d, (list.length : Int))
  | n + 1, i, d => if (actP d (list.getD i z60).f0 (list.getD i z60).f1 (list.getD i z60).f2 (list.getD i z60).f3).2 = true then actsR list n (i + 1) (actP d (list.getD i z60).f0 (list.getD i z60).f1 (list.getD i z60).f2 (list.getD i z60).f3).1 else (d, (i : Int))
noncomputable def actsP (d : List S99) (list : List S60) : List S99 × Int := actsR list list.length 0 d
theorem actsR_len (list : List S60) : ∀ (n i : Nat) (d : List S99), d.length ≤ 1048576 → (actsR list n i d).1.length ≤ 1048576
  | 0, _, d, h => h
  | n + 1, i, d, h => by
    rw [actsR]
    split
    · exact actsR_len list n (i + 1) _ (by have := actP_len d (list.getD i z60).f0 (list.getD i z60).f1 (list.getD i z60).f2 (list.getD i z60).f3; omega)
    · exact h
theorem spec_DoActs_ev (d : List S99) (list : List S60) (hd : d.length ≤ 1048576) (hl : list.length ≤ 1048576) (hs : ∀ a ∈ list, a.f2.size ≤ 1048576) : Ev (fun k => spec_DoActs.f k d list) (actsP d list) := by
  have key : ∀ (n i : Nat) (d : List S99), i + n = list.length → Ev (fun k => spec_DoActs.l0 k list i d) (actsR list n i d) := by
    intro n
    induction n with
    | zero =>
      intro i d hi
      refine Ev.step (fun k => by rw [spec_DoActs.l0, if_neg (by omega)]) ?_
      exact Ev.now _
    | succ n ih =>
      intro i d hi
      have hi' : i < list.length := by omega
      have hm : (list.getD i z60).f2.size ≤ 1048576 := by
        rw [List.getD_eq_getElem?_getD, List.getElem?_eq_getElem hi']
        exact hs _ (List.getElem_mem hi')
      refine Ev.step (fun k => by rw [spec_DoActs.l0, if_pos (by omega), if_pos (by omega), rd_T60, Int.toNat_natCast]) ?_
      refine Ev.bind (spec_DoAct_ev d _ _ _ _ hm) ?_
      rw [actsR]
      by_cases c : (actP d (list.getD i z60).f0 (list.getD i z60).f1 (list.getD i z60).f2 (list.getD i z60).f3).2 = true
      · simp only [if_pos c, wrap_succ hi' (show list.length ≤ 4611686018427387904 by omega)]
        exact ih (i + 1) _ (by omega)
      · simp only [if_neg c]
        exact Ev.now _
  simp only [spec_DoActs.f, Option.bind_some, List.length_nil, Nat.zero_add, List.nil_append, if_pos (show d.length < 3518437208883 by omega)]
  exact key list.length 0 d (by omega)
theorem impl_DoActs_ev (d : List S99) (list : List S60) (hd : d.length ≤ 1048576) (hl : list.length ≤ 1048576) (hs : ∀ a ∈ list, a.f2.size ≤ 1048576) : Ev (fun k => impl_DoActs.f k d list) (actsP d list) := by
  have key : ∀ (n i : Nat) (d : List S99), i + n = list.length → d.length ≤ 1048576 → Ev (fun k => impl_DoActs.l0 k list list (list.length : Int) i d) (actsR list n i d) := by
    intro n
    induction n with
    | zero =>
      intro i d hi hd
      refine Ev.step (fun k => by rw [impl_DoActs.l0, if_neg (by omega)]) ?_
      exact Ev.now _
    | succ n ih =>
      intro i d hi hd
      have hi' : i < list.length := by omega
      have hm : (list.getD i z60).f2.size ≤ 1048576 := by
        rw [List.getD_eq_getElem?_getD, List.getElem?_eq_getElem hi']
        exact hs _ (List.getElem_mem hi')
      have hal := actP_len d (list.getD i z60).f0 (list.getD i z60).f1 (list.getD i z60).f2 (list.getD i z60).f3
      refine Ev.step (fun k => by rw [impl_DoActs.l0, if_pos (by omega), if_pos (by omega), if_pos (by omega), rd_T60, Int.toNat_natCast]) ?_
      refine Ev.bind (impl_DoAct_ev d _ _ _ _ hd hm) ?_
      rw [actsR]
      by_cases c : (actP d (list.getD i z60).f0 (list.getD i z60).f1 (list.getD i z60).f2 (list.getD i z60).f3).2 = true
      · simp only [if_pos c, wrap_succ hi' (show list.length ≤ 4611686018427387904 by omega)]
        exact ih (i + 1) _ (by omega) (by omega)
      · simp only [if_neg c]
        exact Ev.now _
  simp only [impl_DoActs.f, impl_copyDisk_eq d hd, Option.bind_some]
  exact key list.length 0 d (by omega) hd

/-! the law's own functions over acts -/
def actI (e : S57) : S60 := ⟨e.f0, e.f1, e.f2, e.f3⟩
def seqA (m : Int) (n : Nat) : List S60 := (List.range n).map (fun (i : Nat) => (⟨m + 4 * i, markT (m + 4 * i + 1), markT (m + 4 * i + 2), markT (m + 4 * i + 3)⟩ : S60))
theorem laws_szActS_ev (l : List S57) (x : Int) (hx0 : 0 ≤ x) (hx : x ≤ 1048576) (hl : l.length ≤ 9223372036854775807) (hs : ∀ e ∈ l, e.f1.size ≤ 9223372036854775807 ∧ e.f2.size ≤ 9223372036854775807 ∧ e.f3.size ≤ 9223372036854775807) :
    ∃ t, Ev (fun k => laws_szActS.f k l x) t ∧ (t < 0 ∨ (0 ≤ t ∧ t ≤ x ∧ l.length ≤ 1048576 ∧ ∀ e ∈ l, e.f2.size ≤ 1048576)) := by
  have e : wrap64 (x - (l.length : Int)) = x - l.length := by unfold wrap64; omega
  simp only [laws_szActS.f, e]
  clear e
  by_cases h : x - (l.length : Int) < 0
  · refine ⟨-1, ?_, Or.inl (by omega)⟩
    simp only [if_pos h]; exact Ev.now _
  · simp only [if_neg h]
    have key : ∀ (n i : Nat) (x : Int), i + n = l.length → 0 ≤ x → x ≤ 1048576 → ∃ t, Ev (fun k => laws_szActS.l0 k l x i) t ∧ (t < 0 ∨ (0 ≤ t ∧ t ≤ x ∧ ∀ j (hj : j < l.length), i ≤ j → l[j].f2.size ≤ 1048576)) := by
      intro n
      induction n with
      | zero =>
        intro i x hi h0 h1
        refine ⟨x, Ev.step (fun k => by rw [laws_szActS.l0, if_neg (by omega)]) (Ev.now _), Or.inr ⟨h0, Int.le_refl _, fun j hj hij => by omega⟩⟩
      | succ n ih =>
        intro i x hi h0 h1
        have hil : i < l.length := by omega
        have hm := hs l[i] (List.getElem_mem hil)
        have hg : l.getD i z57 = l[i] := by simp [List.getD_eq_getElem?_getD, List.getElem?_eq_getElem hil]
        obtain ⟨u, hu, hc⟩ := laws_szAct_some l[i].f0 l[i].f1 l[i].f2 l[i].f3 x hm.1 hm.2.1 hm.2.2 h0 h1
        rcases hc with hc | ⟨hc0, hc1, _, hc2, _⟩
        · refine ⟨-1, Ev.step (fun k => by rw [laws_szActS.l0, if_pos (by omega), if_pos (by omega), rd_T57, Int.toNat_natCast, hg, hu, Option.bind_some, if_pos hc]) (Ev.now _), Or.inl (by omega)⟩
        · obtain ⟨t, ht, hd⟩ := ih (i + 1) u (by omega) hc0 (by omega)
          refine ⟨t, Ev.step (fun k => by rw [laws_szActS.l0, if_pos (by omega), if_pos (by omega), rd_T57, Int.toNat_natCast, hg, hu, Option.bind_some, if_neg (by omega), wrap_succ hil (by omega)]) ht, ?_⟩
          rcases hd with hd | ⟨hd0, hd1, hd2⟩
          · exact Or.inl hd
          · refine Or.inr ⟨hd0, by omega, fun j hj hij => ?_⟩
            by_cases hji : j = i
            · subst hji; exact hc2
            · exact hd2 j hj (by omega)
    obtain ⟨t, ht, hc⟩ := key l.length 0 (x - l.length) (by omega) (by omega) (by omega)
    refine ⟨t, ht, ?_⟩
    rcases hc with hc | ⟨h0, h1, h2⟩
    · exact Or.inl hc
    · refine Or.inr ⟨h0, by omega, by omega, fun e he => ?_⟩
      obtain ⟨j, hj, rfl⟩ := List.mem_iff_getElem.1 he
      exact h2 j hj (by omega)
theorem laws_toActS_ev (l : List S57) (hl : l.length ≤ 1048576) : Ev (fun k => laws_toActS.f k l) (l.map actI) := by
  simp only [laws_toActS.f, if_pos (show (0 : Int) ≤ (l.length : Int) by omega), Int.toNat_natCast, if_pos (show l.length ≤ 5026338869833 by omega)]
  have := Ev.setloop (L := fun k x i => laws_toActS.l0 k l x i) (n := l.length) (fun i => actI (l.getD i z57)) z60 id (by
    intro i x r hi hx h
    refine Ev.step (fun k => by rw [laws_toActS.l0, if_pos (by omega), if_pos (by omega), laws_toAct.f, Option.bind_some, if_pos (by omega), wrap_succ hi (by omega)]) ?_
    exact h) (by
    intro x hx
    refine Ev.step (fun k => by rw [laws_toActS.l0, if_neg (by omega)]) ?_
    exact Ev.now _)
  rw [range_map_getD] at this
  exact this
theorem laws_eqActS_refl (l : List S60) (hl : l.length ≤ 4611686018427387904) : Ev (fun k => laws_eqActS.f k l l) true := by
  simp only [laws_eqActS.f, if_true]
  have := Ev.allloop (L := fun k i => laws_eqActS.l0 k l l i) (n := l.length) (fun _ => true) false true (by
    intro i r hi _ h
    refine Ev.step (fun k => by rw [laws_eqActS.l0, if_pos (by omega), if_pos (by omega), if_pos (by omega), laws_eqAct.f, if_pos rfl, if_pos rfl, if_pos rfl, if_pos rfl, Option.bind_some, if_pos rfl, wrap_succ hi hl]) ?_
    exact h) (by intro i _ h; cases h) (by
    refine Ev.step (fun k => by rw [laws_eqActS.l0, if_neg (by omega)]) ?_
    exact Ev.now _)
  simpa using this
theorem laws_markActS_ev (l : List S60) (m : Int) (h0 : 0 ≤ m) (hm : m ≤ 137438953472) (hl : l.length ≤ 1048576) : Ev (fun k => laws_markActS.f k l m) (m + 4 * l.length, seqA m l.length) := by
  simp only [laws_markActS.f]
  have := Ev.setloop' (L := fun k x i => laws_markActS.l0 k x (m + 4 * i) i) (n := l.length) (fun i => (⟨m + 4 * i, markT (m + 4 * i + 1), markT (m + 4 * i + 2), markT (m + 4 * i + 3)⟩ : S60)) l rfl (fun x => (m + 4 * (l.length : Int), x)) (by
    intro i x r hi hx h
    have e1 : wrap64 (m + 4 * (i : Int) + 1) = m + 4 * i + 1 := by unfold wrap64; omega
    have e2 : wrap64 (m + 4 * (i : Int) + 1 + 1) = m + 4 * i + 2 := by unfold wrap64; omega
    have e3 : wrap64 (m + 4 * (i : Int) + 2 + 1) = m + 4 * i + 3 := by unfold wrap64; omega
    have e4 : wrap64 (m + 4 * (i : Int) + 3 + 1) = m + 4 * ((i + 1 : Nat) : Int) := by unfold wrap64; omega
    refine Ev.step (fun k => by rw [laws_markActS.l0, if_pos (by omega), if_pos (by omega), Option.bind_some, e1, e2, e3, e4]) ?_
    clear e1 e2 e3 e4
    refine Ev.bind (laws_markText_ev _ (by omega)) ?_
    simp only [Option.bind_some]
    refine Ev.bind (laws_markText_ev _ (by omega)) ?_
    refine Ev.bind (laws_markText_ev _ (by omega)) ?_
    simp only [wrap_succ hi (show l.length ≤ 4611686018427387904 by omega), rd_T60, Int.toNat_natCast, List.set_set, getD_set_self' (show i < x.length by omega)]
    exact h) (by
    intro x hx
    refine Ev.step (fun k => by rw [laws_markActS.l0, if_neg (by omega)]) ?_
    exact Ev.now _)
  simpa [seqA] using this

/-! acts cut off -/
noncomputable def cutP (d : List S99) (list : List S60) (whole : Int) (left : List Int) : List S99 × Bool :=
  if 0 ≤ whole ∧ whole ≤ (list.length : Int) then (if (actsP d (list.take whole.toNat)).2 < whole then ([], false) else loseP (actsP d (list.take whole.toNat)).1 left) else ([], false)
theorem cutP_len (d : List S99) (list : List S60) (whole : Int) (left : List Int) : (cutP d list whole left).1.length ≤ 30 := by
  unfold cutP
  by_cases c : 0 ≤ whole ∧ whole ≤ (list.length : Int)
  · rw [if_pos c]
    by_cases c2 : (actsP d (list.take whole.toNat)).2 < whole
    · rw [if_pos c2]; simp
    · rw [if_neg c2]; exact loseP_len _ _
  · rw [if_neg c]; simp
theorem take_small {list : List S60} (hs : ∀ a ∈ list, a.f2.size ≤ 1048576) (n : Nat) : ∀ a ∈ list.take n, a.f2.size ≤ 1048576 := fun a ha => hs a (List.mem_of_mem_take ha)
theorem take_len {list : List S60} (hl : list.length ≤ 1048576) (n : Nat) : (list.take n).length ≤ 1048576 := by rw [List.length_take]; omega
theorem spec_CutActs_ev (d : List S99) (list : List S60) (whole : Int) (left : List Int) (hd : d.length ≤ 1048576) (hl : list.length ≤ 1048576) (hs : ∀ a ∈ list, a.f2.size ≤ 1048576) : Ev (fun k => spec_CutActs.f k d list whole left) (cutP d list whole left) := by
  simp only [spec_CutActs.f, spec_in_eq, Option.bind_some]
  unfold cutP
  by_cases c : 0 ≤ whole ∧ whole ≤ (list.length : Int)
  · simp only [decide_eq_true c, if_true, if_pos c, if_pos c.1, if_pos c.2]
    refine Ev.bind (spec_DoActs_ev d (list.take whole.toNat) hd (take_len hl _) (take_small hs _)) ?_
    by_cases c2 : (actsP d (list.take whole.toNat)).2 < whole
    · simp only [if_pos c2]; exact Ev.now _
    · simp only [if_neg c2]
      refine Ev.bind (spec_LoseDisk_ev _ left) ?_
      exact Ev.now _
  · simp only [decide_eq_false c, Bool.false_eq_true, if_false, if_neg c]
    exact Ev.now _
theorem impl_CutActs_ev (d : List S99) (list : List S60) (whole : Int) (left : List Int) (hd : d.length ≤ 1048576) (hl : list.length ≤ 1048576) (hs : ∀ a ∈ list, a.f2.size ≤ 1048576) : Ev (fun k => impl_CutActs.f k d list whole left) (cutP d list whole left) := by
  simp only [impl_CutActs.f, impl_in_eq, Option.bind_some]
  unfold cutP
  by_cases c : 0 ≤ whole ∧ whole ≤ (list.length : Int)
  · simp only [decide_eq_true c, if_true, if_pos c, if_pos c.1, if_pos c.2]
    refine Ev.bind (impl_DoActs_ev d (list.take whole.toNat) hd (take_len hl _) (take_small hs _)) ?_
    by_cases c2 : (actsP d (list.take whole.toNat)).2 < whole
    · simp only [if_pos c2]; exact Ev.now _
    · simp only [if_neg c2]
      refine Ev.bind (impl_LoseDisk_ev _ left (actsR_len _ _ _ _ hd)) ?_
      exact Ev.now _
  · simp only [decide_eq_false c, Bool.false_eq_true, if_false, if_neg c]
    exact Ev.now _

theorem FnExactCutActs_pure (l : List S127) (la : List S57) (wh : Int) (a : List Int) (q : l.length ≤ 9223372036854775807 ∧ ∀ a ∈ l, a.f0.size ≤ 9223372036854775807 ∧ a.f1.size ≤ 9223372036854775807 ∧ (Go.Lit.int .i64 a.f2).wf = true) (qa : la.length ≤ 9223372036854775807 ∧ ∀ a ∈ la, (Go.Lit.int .i64 a.f0).wf = true ∧ a.f1.size ≤ 9223372036854775807 ∧ a.f2.size ≤ 9223372036854775807 ∧ a.f3.size ≤ 9223372036854775807) (qw : (Go.Lit.int .i64 wh).wf = true) (qi : a.length ≤ 9223372036854775807 ∧ ∀ x ∈ a, (Go.Lit.int .i64 x).wf = true) : ∃ k, laws_FnExactCutActs.f k l la wh a = some true := by
  refine Ev.rounds (g := fun k => laws_FnExactCutActs.f k l la wh a) ?_
  simp only [laws_FnExactCutActs.f]
  by_cases ha : (a.length : Int) > 1048576
  · simp only [if_pos ha]; exact Ev.now _
  · simp only [if_neg ha]
    obtain ⟨t, ht, hc⟩ := laws_szDisk_ev l 1048576 (by omega) (by omega) q.1 (fun e he => ⟨(q.2 e he).1, (q.2 e he).2.1⟩)
    refine Ev.bind ht ?_
    rcases hc with hc | ⟨hc, hc1, hl, _⟩
    · simp only [if_pos hc]; exact Ev.now _
    · simp only [if_neg (show ¬ t < 0 by omega)]
      obtain ⟨u, hu, hd⟩ := laws_szActS_ev la t hc hc1 qa.1 (fun e he => (qa.2 e he).2)
      refine Ev.bind hu ?_
      rcases hd with hd | ⟨hd, _, hla, hbs⟩
      · simp only [if_pos hd]; exact Ev.now _
      · simp only [if_neg (show ¬ u < 0 by omega)]
        have hl2 : (l.map toF).length ≤ 1048576 := by rw [List.length_map]; omega
        have hla2 : (la.map actI).length ≤ 1048576 := by rw [List.length_map]; omega
        have hbs2 : ∀ a ∈ la.map actI, a.f2.size ≤ 1048576 := by
          intro a ha
          obtain ⟨b, hb, rfl⟩ := List.mem_map.1 ha
          exact hbs b hb
        have hz := cutP_len (l.map toF) (la.map actI) wh a
        obtain ⟨R, hR⟩ : ∃ R, R = cutP (l.map toF) (la.map actI) wh a := ⟨_, rfl⟩
        have hs := spec_CutActs_ev (l.map toF) (la.map actI) wh a hl2 hla2 hbs2
        have hi := impl_CutActs_ev (l.map toF) (la.map actI) wh a hl2 hla2 hbs2
        rw [← hR] at hs hi hz
        have hself := laws_eqDisk_refl R.1 (by omega)
        have hto := laws_toActS_ev la hla
        have hti := laws_toIntS_ev a (by omega)
        refine Ev.bind (laws_toDisk_ev l hl) ?_
        refine Ev.bind hto ?_
        refine Ev.bind hti ?_
        refine Ev.bind hs ?_
        refine Ev.bind (laws_toDisk_ev l hl) ?_
        refine Ev.bind hto ?_
        refine Ev.bind hti ?_
        refine Ev.bind hi ?_
        refine Ev.bind hself ?_
        simp only [if_true, bne_self_eq_false]
        refine Ev.step (fun k => by rw [laws_FnExactCutActs.j0, if_neg (by simp)]) ?_
        refine Ev.bind (laws_toDisk_ev l hl) ?_
        refine Ev.bind (laws_eqDisk_refl (l.map toF) (by omega)) ?_
        simp only [if_true]
        refine Ev.bind hto ?_
        refine Ev.bind (laws_eqActS_refl (la.map actI) (by omega)) ?_
        simp only [if_true]
        refine Ev.bind hti ?_
        refine Ev.bind (laws_eqIntS_refl a (by omega)) ?_
        simp only [if_true]
        refine Ev.bind (laws_markDisk_ev _ 1 (by omega) (by omega) (by omega)) ?_
        refine Ev.bind (laws_markActS_ev _ _ (by omega) (by omega) (by omega)) ?_
        refine Ev.bind (laws_markIntS_ev a _ (by omega) (by omega) (by omega)) ?_
        simp only [if_neg (show ¬ (1 + 3 * ((l.map toF).length : Int) + 4 * ((la.map actI).length : Int) + (a.length : Int) < 0) by omega)]
        refine Ev.bind hself ?_
        simp only [if_true, bne_self_eq_false]
        refine Ev.step (fun k => by rw [laws_FnExactCutActs.j1, if_neg (by simp)]) ?_
        refine Ev.bind (laws_markDisk_ev _ 1 (by omega) (by omega) (by omega)) ?_
        refine Ev.bind (laws_heldDisk_ev 1 _ (by omega) (by omega) (by omega)) ?_
        simp only [if_neg (show ¬ (1 + 3 * (R.1.length : Int) < 0) by omega), if_true]
        refine Ev.bind (laws_toDisk_ev l hl) ?_
        refine Ev.bind hto ?_
        refine Ev.bind hti ?_
        refine Ev.bind hi ?_
        refine Ev.bind hself ?_
        simp only [if_true, bne_self_eq_false]
        refine Ev.step (fun k => by rw [laws_FnExactCutActs.j2, if_neg (by simp)]) ?_
        refine Ev.bind (laws_heldDisk_ev 1 _ (by omega) (by omega) (by omega)) ?_
        simp only [if_neg (show ¬ (1 + 3 * (R.1.length : Int) < 0) by omega), if_true]
        exact Ev.now _

end Go.Proofs.Ytacnlodcbbhahaa.Pure
