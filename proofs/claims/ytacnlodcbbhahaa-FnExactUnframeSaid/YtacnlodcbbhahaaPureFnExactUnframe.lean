/- For every file Unframe of the program and of the reference tell the same, in memory of its own. No condition is laid beside the statement. -/
import Derived.Test.YtacnlodcbbhahaaQFnExactUnframex4
import Derived.Laws.BitsLemmas
import Derived.Lib.Bytes
import Derived.OpenShut
namespace Go.Proofs.Ytacnlodcbbhahaa.Pure
open Go.RowKit Go.Proofs.Ytacnlodcbbhahaa.QFnExactUnframe Go.Proofs.YtacnlodcbbhahaaW.PrintWords Go.Proofs.YtacnlodcbbhahaaW.PrintLast
set_option linter.unusedVariables false
set_option linter.unusedSimpArgs false


theorem wrap_id {i : Int} (h0 : -9223372036854775808 ≤ i) (h1 : i ≤ 9223372036854775807) : wrap64 i = i := by unfold wrap64; omega
theorem toList_eq {a b : ByteArray} (h : a = b) : a.toList = b.toList := by rw [h]

/-! loops in general -/
theorem wrap_succ {i n : Nat} (h : i < n) (hn : n ≤ 4611686018427387904) : wrap64 ((i : Int) + 1) = ((i + 1 : Nat) : Int) := by unfold wrap64; omega
theorem Ev.loopR {σ β : Type} {L : Nat → σ → Int → Option β} {n : Nat} (R : Nat → σ → β) (I : Nat → σ → Prop)
    (hstep : ∀ (i : Nat) s, i < n → I i s → Ev (fun k => L k s i) (R i s) ∨ ∃ s', I (i + 1) s' ∧ R i s = R (i + 1) s' ∧ ∀ r, Ev (fun k => L k s' ((i + 1 : Nat) : Int)) r → Ev (fun k => L k s i) r)
    (hend : ∀ s, I n s → Ev (fun k => L k s n) (R n s)) : ∀ (d i : Nat) (s : σ), i + d = n → I i s → Ev (fun k => L k s i) (R i s) := by
  intro d
  induction d with
  | zero =>
    intro i s hi hI
    have : i = n := by omega
    subst this
    exact hend s hI
  | succ d ih =>
    intro i s hi hI
    rcases hstep i s (by omega) hI with h | ⟨s', h1, h2, h3⟩
    · exact h
    · rw [h2]
      exact h3 _ (ih (i + 1) s' (by omega) h1)
/-- A loop that builds by appending. -/
theorem Ev.apploop {β γ : Type} {L : Nat → List γ → Int → Option β} {n : Nat} (g : Nat → List γ) (fin : List γ → β) (a0 : List γ)
    (hstep : ∀ (i : Nat) x r, i < n → x = a0 ++ (List.range i).flatMap g → Ev (fun k => L k (x ++ g i) ((i + 1 : Nat) : Int)) r → Ev (fun k => L k x i) r)
    (hend : ∀ x, x = a0 ++ (List.range n).flatMap g → Ev (fun k => L k x n) (fin x)) : Ev (fun k => L k a0 0) (fin (a0 ++ (List.range n).flatMap g)) := by
  have key := Ev.loopR (L := L) (n := n) (fun _ _ => fin (a0 ++ (List.range n).flatMap g)) (fun i x => x = a0 ++ (List.range i).flatMap g) (by
    intro i x hi hx
    right
    refine ⟨x ++ g i, by rw [hx, List.range_succ, List.flatMap_append]; simp, rfl, fun r hr => hstep i x r hi hx hr⟩) (by
    intro x hx
    have := hend x hx
    rw [hx] at this ⊢
    exact this)
  exact key n 0 a0 (by omega) (by simp)
/-- A loop that writes every element of a row. -/
theorem Ev.setloop' {β γ : Type} {L : Nat → List γ → Int → Option β} {n : Nat} (g : Nat → γ) (x0 : List γ) (h0 : x0.length = n) (fin : List γ → β)
    (hstep : ∀ (i : Nat) x r, i < n → x.length = n → Ev (fun k => L k (x.set i (g i)) ((i + 1 : Nat) : Int)) r → Ev (fun k => L k x i) r)
    (hend : ∀ x, x.length = n → Ev (fun k => L k x n) (fin x)) : Ev (fun k => L k x0 0) (fin ((List.range n).map g)) := by
  have key := Ev.loopR (L := L) (n := n) (fun _ _ => fin ((List.range n).map g)) (fun i x => x.length = n ∧ ∀ j, j < i → x[j]? = some (g j)) (by
    intro i x hi hx
    right
    refine ⟨x.set i (g i), ⟨by rw [List.length_set]; exact hx.1, fun j hj => ?_⟩, rfl, fun r hr => hstep i x r hi hx.1 hr⟩
    by_cases hji : j = i
    · subst hji
      rw [List.getElem?_set_self (by omega)]
    · rw [List.getElem?_set_ne (by omega)]
      exact hx.2 j (by omega)) (by
    intro x hx
    have hxe : x = (List.range n).map g := by
      apply List.ext_getElem?
      intro j
      by_cases hj : j < n
      · rw [hx.2 j hj]; simp [hj]
      · rw [List.getElem?_eq_none (by omega), List.getElem?_eq_none (by simp; omega)]
    rw [← hxe]
    exact hend x hx.1)
  exact key n 0 _ (by omega) ⟨h0, fun j hj => by omega⟩
/-- A loop that fills what was made. -/
theorem Ev.setloop {β γ : Type} {L : Nat → List γ → Int → Option β} {n : Nat} (g : Nat → γ) (z : γ) (fin : List γ → β)
    (hstep : ∀ (i : Nat) x r, i < n → x.length = n → Ev (fun k => L k (x.set i (g i)) ((i + 1 : Nat) : Int)) r → Ev (fun k => L k x i) r)
    (hend : ∀ x, x.length = n → Ev (fun k => L k x n) (fin x)) : Ev (fun k => L k (List.replicate n z) 0) (fin ((List.range n).map g)) :=
  Ev.setloop' g _ (by simp) fin hstep hend
/-- A loop that asks something of each index. -/
theorem Ev.allloop {β : Type} {L : Nat → Int → Option β} {n : Nat} (p : Nat → Bool) (c fin : β)
    (hstep : ∀ (i : Nat) r, i < n → p i = true → Ev (fun k => L k ((i + 1 : Nat) : Int)) r → Ev (fun k => L k i) r)
    (hno : ∀ (i : Nat), i < n → p i = false → Ev (fun k => L k i) c)
    (hend : Ev (fun k => L k n) fin) : Ev (fun k => L k 0) (if (List.range n).all p then fin else c) := by
  have key := Ev.loopR (σ := Unit) (L := fun k _ i => L k i) (n := n) (fun i _ => if (List.range' i (n - i)).all p then fin else c) (fun _ _ => True) (by
    intro i _ hi _
    have e : List.range' i (n - i) = i :: List.range' (i + 1) (n - (i + 1)) := by
      have : n - i = (n - (i + 1)) + 1 := by omega
      rw [this, List.range'_succ]
    cases hp : p i with
    | true => right; exact ⟨(), trivial, by rw [e, List.all_cons, hp, Bool.true_and], fun r hr => hstep i r hi hp hr⟩
    | false => left; rw [e, List.all_cons, hp, Bool.false_and]; exact hno i hi hp) (by
    intro _ _
    simpa using hend)
  have := key n 0 () (by omega) trivial
  rw [List.range_eq_range']
  simpa using this
theorem range_map_getD {α β : Type} (l : List α) (d : α) (h : α → β) : (List.range l.length).map (fun i => h (l.getD i d)) = l.map h := by
  apply List.ext_getElem
  · simp
  · intro i h1 h2
    simp at h1 h2
    simp [List.getD_eq_getElem?_getD, List.getElem?_eq_getElem h2]
theorem range_flatMap_getD {α β : Type} (l : List α) (d : α) (h : α → List β) : (List.range l.length).flatMap (fun i => h (l.getD i d)) = l.flatMap h := by
  have := congrArg List.flatten (range_map_getD l d h)
  rw [List.flatMap_def, List.flatMap_def]; exact this
theorem range_all_getD {α : Type} (l : List α) (d : α) (h : α → Bool) : (List.range l.length).all (fun i => h (l.getD i d)) = l.all h := by
  have := congrArg (fun l => l.all id) (range_map_getD l d h)
  simpa [List.all_map] using this
theorem flatMap_single {α β : Type} (l : List α) (g : α → β) : l.flatMap (fun x => [g x]) = l.map g := by
  induction l with
  | nil => rfl
  | cons a l ih => simp [ih]
/-- A loop that looks for the first index. -/
def findR {β : Type} (p : Nat → Bool) (c : Nat → β) (fin : β) : Nat → Nat → β
  | 0, _ => fin
  | d + 1, i => if p i then c i else findR p c fin d (i + 1)
theorem Ev.findloop {β : Type} {L : Nat → Int → Option β} {n : Nat} (p : Nat → Bool) (c : Nat → β) (fin : β)
    (hstep : ∀ (i : Nat) r, i < n → p i = false → Ev (fun k => L k ((i + 1 : Nat) : Int)) r → Ev (fun k => L k i) r)
    (hhit : ∀ (i : Nat), i < n → p i = true → Ev (fun k => L k i) (c i))
    (hend : Ev (fun k => L k n) fin) : Ev (fun k => L k 0) (findR p c fin n 0) := by
  have key := Ev.loopR (σ := Unit) (L := fun k _ i => L k i) (n := n) (fun i _ => findR p c fin (n - i) i) (fun _ _ => True) (by
    intro i _ hi _
    have e : findR p c fin (n - i) i = if p i then c i else findR p c fin (n - (i + 1)) (i + 1) := by
      have : n - i = (n - (i + 1)) + 1 := by omega
      rw [this, findR]
    cases hp : p i with
    | false => right; exact ⟨(), trivial, by rw [e, hp]; rfl, fun r hr => hstep i r hi hp hr⟩
    | true => left; rw [e, hp]; exact hhit i hi hp) (by
    intro _ _
    simpa [findR] using hend)
  have := key n 0 () (by omega) trivial
  simpa using this

theorem spec_in_eq (a b c : Int) : spec_l01In.f a b c = some (decide (b ≤ a ∧ a ≤ c)) := by
  unfold spec_l01In.f
  by_cases h : a ≥ b
  · have h' : b ≤ a := h
    simp [h']
  · have h' : ¬ b ≤ a := h
    simp [h']
theorem impl_in_eq (a b c : Int) : impl_in.f a b c = some (decide (b ≤ a ∧ a ≤ c)) := by
  unfold impl_in.f
  by_cases h : a ≥ b
  · have h' : b ≤ a := h
    simp [h']
  · have h' : ¬ b ≤ a := h
    simp [h']

/-! strings as numbers -/
theorem toList_data' (s : ByteArray) : s.toList = s.data.toList := Go.Lib.toList_data s
theorem str_ext {a b : ByteArray} (h : a.toList = b.toList) : a = b := by
  rw [toList_data', toList_data'] at h
  cases a; cases b
  simp at h
  rw [h]
theorem toList_iff {a b : ByteArray} : a.toList = b.toList ↔ a = b := ⟨str_ext, fun h => by rw [h]⟩
def Byt (l : List Int) : Prop := ∀ x ∈ l, 0 ≤ x ∧ x < 256
theorem bytesOf_byt (s : ByteArray) : Byt (bytesOf s) := by
  intro x hx
  unfold bytesOf at hx
  simp at hx
  obtain ⟨b, _, rfl⟩ := hx
  have := b.toNat_lt
  omega
theorem bytesOf_str {l : List Int} (h : Byt l) : bytesOf (strOfNums l) = l := by
  unfold bytesOf strOfNums
  simp
  apply List.ext_getElem
  · simp
  · intro i h1 h2
    have := h l[i] (List.getElem_mem h2)
    simp
    omega
theorem str_bytesOf (s : ByteArray) : strOfNums (bytesOf s) = s := by
  unfold bytesOf strOfNums
  cases s with
  | mk d =>
    simp
    apply Array.ext'
    simp
    apply List.ext_getElem
    · simp
    · intro i h1 h2
      simp
theorem bytesOf_inj {a b : ByteArray} (h : bytesOf a = bytesOf b) : a = b := by rw [← str_bytesOf a, h, str_bytesOf]
theorem bytesOf_append (a b : ByteArray) : bytesOf (a ++ b) = bytesOf a ++ bytesOf b := by
  unfold bytesOf
  simp [ByteArray.data_append]
theorem bytesOf_extract (s : ByteArray) (a b : Nat) : bytesOf (s.extract a b) = ((bytesOf s).drop a).take (b - a) := by
  unfold bytesOf
  simp [ByteArray.data_extract, List.map_take, List.map_drop]
theorem bt_get (s : ByteArray) (i : Int) : bt s i = (bytesOf s).getD i.toNat 0 := (rd_bytesOf s i).symm
theorem str_size (l : List Int) : (strOfNums l).size = l.length := by
  show (strOfNums l).data.size = _
  unfold strOfNums
  simp

/-! sums -/
def stepS (x : Int) : Int := if x % 2 = 1 then Go.bits .xor .u32 (x / 2) 3558460437 else x / 2
def iterS : Nat → Int → Int
  | 0, x => x
  | d + 1, x => iterS d (stepS x)
def sumAt (s : ByteArray) : Nat → Int → Int → Int
  | 0, _, x => x
  | d + 1, i, x => sumAt s d (i + 1) (iterS 8 (Go.bits .xor .u32 x ((bt s i) % 4294967296)))
theorem xor_range (a b : Int) : 0 ≤ Go.bits .xor .u32 a b ∧ Go.bits .xor .u32 a b < 4294967296 := by
  simp only [Go.bits, Go.IntKind.wrap_u32]
  omega
theorem stepS_range {x : Int} (h0 : 0 ≤ x) (h1 : x < 4294967296) : 0 ≤ stepS x ∧ stepS x < 4294967296 := by
  unfold stepS
  split
  · exact xor_range _ _
  · omega
theorem iterS_range : ∀ (d : Nat) {x : Int}, 0 ≤ x → x < 4294967296 → 0 ≤ iterS d x ∧ iterS d x < 4294967296
  | 0, _, h0, h1 => ⟨h0, h1⟩
  | d + 1, _, h0, h1 => iterS_range d (stepS_range h0 h1).1 (stepS_range h0 h1).2
theorem sumAt_range (s : ByteArray) : ∀ (d : Nat) (i x : Int), 0 ≤ x → x < 4294967296 → 0 ≤ sumAt s d i x ∧ sumAt s d i x < 4294967296
  | 0, _, _, h0, h1 => ⟨h0, h1⟩
  | d + 1, _, _, _, _ => sumAt_range s d _ _ (iterS_range 8 (xor_range _ _).1 (xor_range _ _).2).1 (iterS_range 8 (xor_range _ _).1 (xor_range _ _).2).2
theorem and_one {x : Int} (h0 : 0 ≤ x) (h1 : x < 4294967296) : Go.bits .and .u32 x 1 = x % 2 := by
  have := Go.bits_mask .u32 32 (by decide) (fun n a b => by rw [Go.IntKind.wrap_u32]; omega) 1 (by decide) x h0 (by omega)
  simpa using this
theorem spec_l1_ev (s : ByteArray) (i r : Int) : ∀ (d : Nat) (x j : Int), 0 ≤ x → x < 4294967296 → 0 ≤ j → 8 - j = d →
    Ev (fun k => spec_SumMore.l0 k (iterS d x) s (wrap64 (i + 1))) r → Ev (fun k => spec_SumMore.l1 k x s i j) r := by
  intro d
  induction d with
  | zero =>
    intro x j h0 h1 hj hd h
    refine Ev.step (fun k => by rw [spec_SumMore.l1, if_neg (by omega)]) ?_
    exact h
  | succ d ih =>
    intro x j h0 h1 hj hd h
    have e1 : Int.tmod x 2 = x % 2 := Int.tmod_eq_emod_of_nonneg h0
    have e2 : (Int.tdiv x 2) % 4294967296 = x / 2 := by rw [Int.tdiv_eq_ediv_of_nonneg h0]; omega
    have e3 : wrap64 (j + 1) = j + 1 := by unfold wrap64; omega
    have hr := stepS_range h0 h1
    have h' := ih (stepS x) (j + 1) hr.1 hr.2 (by omega) (by omega) h
    refine Ev.step (fun k => by rw [spec_SumMore.l1, if_pos (by omega), e1, e2, e3]) ?_
    unfold stepS at h'
    by_cases c : x % 2 = 1
    · simp only [if_pos c] at h' ⊢; exact h'
    · simp only [if_neg c] at h' ⊢; exact h'
theorem impl_l1_ev (s : ByteArray) (n i r : Int) : ∀ (d : Nat) (x j : Int), 0 ≤ x → x < 4294967296 → 0 ≤ j → 8 - j = d →
    Ev (fun k => impl_SumMore.l0 k (iterS d x) s n (wrap64 (i + 1))) r → Ev (fun k => impl_SumMore.l1 k x s n i j) r := by
  intro d
  induction d with
  | zero =>
    intro x j h0 h1 hj hd h
    refine Ev.step (fun k => by rw [impl_SumMore.l1, if_neg (by omega)]) ?_
    exact h
  | succ d ih =>
    intro x j h0 h1 hj hd h
    have e1 := and_one h0 h1
    have e3 : wrap64 (j + 1) = j + 1 := by unfold wrap64; omega
    have hr := stepS_range h0 h1
    have h' := ih (stepS x) (j + 1) hr.1 hr.2 (by omega) (by omega) h
    refine Ev.step (fun k => by rw [impl_SumMore.l1, if_pos (by omega), e1, e3]) ?_
    unfold stepS at h'
    by_cases c : x % 2 = 1
    · simp only [if_pos c] at h' ⊢; exact h'
    · simp only [if_neg c] at h' ⊢; exact h'
theorem spec_l0_ev (s : ByteArray) (hs : s.size ≤ 140737488351232) : ∀ (d : Nat) (x i : Int), 0 ≤ x → x < 4294967296 → 0 ≤ i → (s.size : Int) - i = d →
    Ev (fun k => spec_SumMore.l0 k x s i) (sumAt s d i x) := by
  intro d
  induction d with
  | zero =>
    intro x i h0 h1 hi hd
    refine Ev.step (fun k => by rw [spec_SumMore.l0, if_neg (by omega)]) ?_
    exact Ev.now _
  | succ d ih =>
    intro x i h0 h1 hi hd
    have e3 : wrap64 (i + 1) = i + 1 := by unfold wrap64; omega
    have hx := xor_range x ((bt s i) % 4294967296)
    have hy := iterS_range 8 hx.1 hx.2
    refine Ev.step (fun k => by rw [spec_SumMore.l0, if_pos (by omega), if_pos hi]) ?_
    refine spec_l1_ev s i _ 8 _ 0 hx.1 hx.2 (by omega) (by omega) ?_
    rw [e3]
    exact ih _ _ hy.1 hy.2 (by omega) (by omega)
theorem impl_l0_ev (s : ByteArray) (hs : s.size ≤ 140737488351232) : ∀ (d : Nat) (x i : Int), 0 ≤ x → x < 4294967296 → 0 ≤ i → (s.size : Int) - i = d →
    Ev (fun k => impl_SumMore.l0 k x s s.size i) (sumAt s d i x) := by
  intro d
  induction d with
  | zero =>
    intro x i h0 h1 hi hd
    refine Ev.step (fun k => by rw [impl_SumMore.l0, if_neg (by omega)]) ?_
    exact Ev.now _
  | succ d ih =>
    intro x i h0 h1 hi hd
    have e3 : wrap64 (i + 1) = i + 1 := by unfold wrap64; omega
    have hx := xor_range x ((bt s i) % 4294967296)
    have hy := iterS_range 8 hx.1 hx.2
    refine Ev.step (fun k => by rw [impl_SumMore.l0, if_pos (by omega), if_pos hi, if_pos (by omega)]) ?_
    refine impl_l1_ev s _ i _ 8 _ 0 hx.1 hx.2 (by omega) (by omega) ?_
    rw [e3]
    exact ih _ _ hy.1 hy.2 (by omega) (by omega)
def sumMore (x : Int) (s : ByteArray) : Int := sumAt s s.size 0 x
theorem spec_SumMore_ev (x : Int) (s : ByteArray) (hs : s.size ≤ 140737488351232) (h0 : 0 ≤ x) (h1 : x < 4294967296) : Ev (fun k => spec_SumMore.f k x s) (sumMore x s) := by
  simp only [spec_SumMore.f]
  exact spec_l0_ev s hs s.size x 0 h0 h1 (by omega) (by omega)
theorem impl_SumMore_ev (x : Int) (s : ByteArray) (hs : s.size ≤ 140737488351232) (h0 : 0 ≤ x) (h1 : x < 4294967296) : Ev (fun k => impl_SumMore.f k x s) (sumMore x s) := by
  simp only [impl_SumMore.f]
  exact impl_l0_ev s hs s.size x 0 h0 h1 (by omega) (by omega)

def sumOf (s : ByteArray) : Int := sumMore 4294967295 s
theorem sumOf_range (s : ByteArray) : 0 ≤ sumOf s ∧ sumOf s < 4294967296 := sumAt_range s s.size 0 _ (by omega) (by omega)
theorem spec_SumOf_ev (s : ByteArray) (hs : s.size ≤ 140737488351232) : Ev (fun k => spec_SumOf.f k s) (sumOf s) := by
  simp only [spec_SumOf.f]
  exact Ev.bind (spec_SumMore_ev _ s hs (by omega) (by omega)) (Ev.now _)
theorem impl_SumOf_ev (s : ByteArray) (hs : s.size ≤ 140737488351232) : Ev (fun k => impl_SumOf.f k s) (sumOf s) := by
  simp only [impl_SumOf.f]
  exact Ev.bind (impl_SumMore_ev _ s hs (by omega) (by omega)) (Ev.now _)

/-! numbers in bytes -/
def varL (n : Nat) : List Int := if h : n > 127 then ((n % 128 + 128 : Nat) : Int) :: varL (n / 128) else [(n : Int)]
termination_by n
decreasing_by omega
theorem varL_big {n : Nat} (h : n > 127) : varL n = ((n % 128 + 128 : Nat) : Int) :: varL (n / 128) := by rw [varL, dif_pos h]
theorem varL_small {n : Nat} (h : ¬ n > 127) : varL n = [(n : Int)] := by rw [varL, dif_neg h]
theorem varL_len (n : Nat) : (varL n).length ≤ n + 1 := by
  induction n using Nat.strongRecOn with
  | ind n ih =>
    by_cases h : n > 127
    · rw [varL_big h]; have := ih (n / 128) (by omega); simp; omega
    · rw [varL_small h]; simp
theorem var_ev (n : Nat) : ∀ (acc : List Int), n ≤ 1000000000 → acc.length + n ≤ 3000000000 →
    Ev (fun k => spec_l01Var.l0 k (n : Int) acc) (strOfNums (acc ++ varL n)) := by
  induction n using Nat.strongRecOn with
  | ind n ih =>
    intro acc hn hl
    by_cases h : n > 127
    · have e1 : wrap64 (Int.tdiv (n : Int) 128) = ((n / 128 : Nat) : Int) := by
        rw [Int.tdiv_eq_ediv_of_nonneg (by omega)]; unfold wrap64; omega
      have e2 : (wrap64 ((Int.tmod (n : Int) 128) + 128)) % 256 = ((n % 128 + 128 : Nat) : Int) := by
        rw [Int.tmod_eq_emod_of_nonneg (by omega)]; unfold wrap64; omega
      refine Ev.step (fun k => by rw [spec_l01Var.l0, if_pos (by omega), if_pos (by omega), e1, e2]) ?_
      have := ih (n / 128) (by omega) (acc ++ [((n % 128 + 128 : Nat) : Int)]) (by omega) (by simp; omega)
      rw [varL_big h]
      rw [List.append_assoc, List.singleton_append] at this
      exact this
    · refine Ev.step (fun k => by rw [spec_l01Var.l0, if_neg (by omega), if_pos (by omega)]) ?_
      have e : (n : Int) % 256 = n := by omega
      rw [varL_small h, e]
      exact Ev.now _
theorem spec_l01Var_ev {x : Int} (h0 : 0 ≤ x) (h1 : x ≤ 1000000000) : Ev (fun k => spec_l01Var.f k x) (strOfNums (varL x.toNat)) := by
  obtain ⟨n, rfl⟩ := Int.eq_ofNat_of_zero_le h0
  simp only [spec_l01Var.f]
  exact var_ev n [] (by omega) (by simp; omega)

theorem impl_var (k : Nat) : ∀ (x : Int) (acc : List Int), impl_VarText.l0 k x acc = (spec_l01Var.l0 k x acc).map (fun s => (s, true)) := by
  induction k with
  | zero => intro x acc; simp [impl_VarText.l0, spec_l01Var.l0]
  | succ k ih =>
    intro x acc
    rw [impl_VarText.l0, spec_l01Var.l0]
    split
    · split
      · exact ih _ _
      · rfl
    · split <;> rfl
theorem impl_VarText_ev {x : Int} (h0 : 0 ≤ x) (h1 : x ≤ 1000000000) : Ev (fun k => impl_VarText.f k x) (strOfNums (varL x.toNat), true) := by
  have h := spec_l01Var_ev h0 h1
  simp only [impl_VarText.f, impl_in.f, if_pos h0, Option.bind_some, decide_eq_true h1, if_true]
  obtain ⟨K, h⟩ := h
  refine ⟨K, fun k hk => ?_⟩
  have := h k hk
  simp only [spec_l01Var.f] at this
  show impl_VarText.l0 k x [] = _
  rw [impl_var, this]
  rfl
theorem impl_VarText_no {x : Int} (h : ¬ (0 ≤ x ∧ x ≤ 1000000000)) : Ev (fun k => impl_VarText.f k x) ((⟨#[]⟩ : ByteArray), false) := by
  simp only [impl_VarText.f, impl_in.f]
  by_cases h0 : x ≥ 0
  · have h1 : ¬ x ≤ 1000000000 := fun c => h ⟨h0, c⟩
    simp only [if_pos h0, Option.bind_some, decide_eq_false h1]
    exact Ev.now _
  · simp only [if_neg h0, Option.bind_some]
    exact Ev.now _

/-! reading numbers -/
def val : List Int → Int
  | [] => 0
  | c :: l => c % 128 + 128 * val l
theorem val_nonneg : ∀ l, 0 ≤ val l
  | [] => by simp [val]
  | c :: l => by have := val_nonneg l; simp only [val]; omega
theorem val_snoc (b : Int) : ∀ l, val (l ++ [b]) = val l + b % 128 * 128 ^ l.length
  | [] => by simp [val]
  | c :: l => by
    simp only [List.cons_append, val, val_snoc b l, List.length_cons, Int.pow_succ]
    rw [Int.mul_add, ← Int.mul_assoc, Int.mul_comm 128 (b % 128), Int.mul_assoc (b % 128), Int.mul_comm 128 (128 ^ _)]
    omega
theorem varL_val (b : Int) (h0 : 0 ≤ b) (h1 : b < 128) : ∀ l : List Int, (∀ c ∈ l, 128 ≤ c ∧ c ≤ 255) → (varL (val (l ++ [b])).toNat = l ++ [b] ↔ (l = [] ∨ b ≠ 0))
  | [], _ => by
    have e : (val ([] ++ [b])).toNat = b.toNat := by simp [val]; omega
    rw [e, varL_small (by omega)]
    simp
    omega
  | c :: l, h => by
    have hc := h c (by simp)
    have ih := varL_val b h0 h1 l (fun x hx => h x (by simp [hx]))
    have hn := val_nonneg (l ++ [b])
    have e : (val (c :: l ++ [b])).toNat = (c % 128).toNat + 128 * (val (l ++ [b])).toNat := by
      simp only [List.cons_append, val]; omega
    rw [e]
    by_cases hz : val (l ++ [b]) = 0
    · rw [hz]
      rw [varL_small (by omega)]
      constructor
      · intro hh; simp at hh
      · intro hh
        rcases hh with hh | hh
        · cases hh
        · exfalso
          rw [val_snoc] at hz
          have := val_nonneg l
          have hp : (0 : Int) < 128 ^ l.length := Int.pow_pos (by omega)
          have : 0 < b % 128 * 128 ^ l.length := Int.mul_pos (by omega) hp
          omega
    · rw [varL_big (by omega)]
      have e1 : ((c % 128).toNat + 128 * (val (l ++ [b])).toNat) / 128 = (val (l ++ [b])).toNat := by omega
      have e2 : ((((c % 128).toNat + 128 * (val (l ++ [b])).toNat) % 128 + 128 : Nat) : Int) = c := by omega
      rw [e1, e2]
      have : (c :: varL (val (l ++ [b])).toNat = c :: l ++ [b]) ↔ (varL (val (l ++ [b])).toNat = l ++ [b]) := by simp
      rw [this, ih]
      constructor
      · intro hh
        rcases hh with hh | hh
        · subst hh
          right
          intro hb
          subst hb
          simp [val] at hz
        · exact Or.inr hh
      · intro hh
        rcases hh with hh | hh
        · cases hh
        · exact Or.inr hh
theorem varL_byt (n : Nat) : Byt (varL n) := by
  induction n using Nat.strongRecOn with
  | ind n ih =>
    by_cases h : n > 127
    · rw [varL_big h]
      intro x hx
      rcases List.mem_cons.mp hx with rfl | hx
      · omega
      · exact ih (n / 128) (by omega) x hx
    · rw [varL_small h]
      intro x hx
      simp at hx
      omega
def rvP (s : ByteArray) (at_ : Int) : Nat → Int → Int → Int → Int × Int × Bool
  | 0, _, _, _ => (0, 0, false)
  | d + 1, i, n, u => if i < s.size then (if bt s i < 128 then (if (bt s i = 0 ∧ i > at_) ∨ n + bt s i % 128 * u > 1000000000 then (0, 0, false) else (n + bt s i % 128 * u, i + 1, true)) else rvP s at_ d (i + 1) (n + bt s i % 128 * u) (u * 128)) else (0, 0, false)
def U5 : Nat → Int
  | 0 => 34359738368
  | 1 => 268435456
  | 2 => 2097152
  | 3 => 16384
  | 4 => 128
  | _ => 1
theorem wrap_bt (s : ByteArray) (i : Int) : wrap64 (bt s i) = bt s i := by
  have := bt_range s i
  unfold wrap64; omega
theorem tmod_bt (s : ByteArray) (i : Int) : Int.tmod (bt s i) 128 = bt s i % 128 := Int.tmod_eq_emod_of_nonneg (bt_range s i).1
theorem rv_step {s : ByteArray} {i n : Int} {d : Nat} (hd : d < 5) (hn : 0 ≤ n) (hu : n < U5 (d + 1)) :
    0 ≤ n + bt s i % 128 * U5 (d + 1) ∧ n + bt s i % 128 * U5 (d + 1) < U5 d ∧ U5 (d + 1) * 128 = U5 d ∧ wrap64 (bt s i % 128 * U5 (d + 1)) = bt s i % 128 * U5 (d + 1) ∧ wrap64 (n + bt s i % 128 * U5 (d + 1)) = n + bt s i % 128 * U5 (d + 1) ∧ wrap64 (U5 (d + 1) * 128) = U5 (d + 1) * 128 := by
  have hb : 0 ≤ bt s i % 128 ∧ bt s i % 128 ≤ 127 := by omega
  generalize bt s i % 128 = q at hb ⊢
  have : d = 0 ∨ d = 1 ∨ d = 2 ∨ d = 3 ∨ d = 4 := by omega
  rcases this with rfl | rfl | rfl | rfl | rfl <;> simp only [U5, Nat.zero_add, Nat.reduceAdd, wrap64] at hu ⊢ <;> omega
theorem impl_rv_ev (s : ByteArray) (at_ : Int) (hs : s.size ≤ 140737488351232) (h0 : 0 ≤ at_) (h1 : at_ ≤ s.size) : ∀ (d : Nat) (i n : Int), d ≤ 5 → at_ ≤ i → i ≤ s.size → at_ + 5 - i = d → 0 ≤ n → n < U5 d →
    Ev (fun k => impl_ReadVar.l0 k s at_ n (U5 d) i) (rvP s at_ d i n (U5 d)) := by
  intro d
  have ew : wrap64 (at_ + 5) = at_ + 5 := by unfold wrap64; omega
  induction d with
  | zero =>
    intro i n hd5 hi hi2 hd hn hu
    by_cases hlt : i < s.size
    · refine Ev.step (fun k => by rw [impl_ReadVar.l0, if_pos hlt, ew, decide_eq_false (by omega)]) ?_
      refine Ev.step (fun k => by rw [impl_ReadVar.j1, if_neg (by simp)]) ?_
      exact Ev.now _
    · refine Ev.step (fun k => by rw [impl_ReadVar.l0, if_neg hlt]) ?_
      refine Ev.step (fun k => by rw [impl_ReadVar.j1, if_neg (by simp)]) ?_
      exact Ev.now _
  | succ d ih =>
    intro i n hd5 hi hi2 hd hn hu
    obtain ⟨r1, r2, r3, r4, r5, r6⟩ := rv_step (s := s) (i := i) (by omega) hn hu
    by_cases hlt : i < s.size
    · have ei : wrap64 (i + 1) = i + 1 := by unfold wrap64; omega
      refine Ev.step (fun k => by rw [impl_ReadVar.l0, if_pos hlt, ew, decide_eq_true (by omega)]) ?_
      refine Ev.step (fun k => by rw [impl_ReadVar.j1, if_pos rfl, if_pos (by omega), if_pos hlt, wrap_bt, tmod_bt, r4, r5, r6, ei]) ?_
      rw [rvP, if_pos hlt]
      by_cases hb : bt s i < 128
      · simp only [if_pos hb]
        by_cases hz : bt s i = 0
        · by_cases hg : i > at_
          · simp only [if_pos hz, if_pos hg]
            rw [if_pos (Or.inl ⟨hz, hg⟩)]
            exact Ev.now _
          · simp only [if_pos hz, if_neg hg]
            by_cases hm : n + bt s i % 128 * U5 (d + 1) > 1000000000
            · simp only [if_pos hm]
              rw [if_pos (Or.inr hm)]
              exact Ev.now _
            · simp only [if_neg hm]
              rw [if_neg (by intro hh; rcases hh with hh | hh; exact hg hh.2; exact hm hh)]
              exact Ev.now _
        · simp only [if_neg hz]
          by_cases hm : n + bt s i % 128 * U5 (d + 1) > 1000000000
          · simp only [if_pos hm]
            rw [if_pos (Or.inr hm)]
            exact Ev.now _
          · simp only [if_neg hm]
            rw [if_neg (by intro hh; rcases hh with hh | hh; exact hz hh.1; exact hm hh)]
            exact Ev.now _
      · simp only [if_neg hb]
        rw [r3]
        exact ih (i + 1) _ (by omega) (by omega) (by omega) (by omega) r1 r2
    · refine Ev.step (fun k => by rw [impl_ReadVar.l0, if_neg hlt]) ?_
      refine Ev.step (fun k => by rw [impl_ReadVar.j1, if_neg (by simp)]) ?_
      rw [rvP, if_neg hlt]
      exact Ev.now _
theorem spec_rv_ev (s : ByteArray) (at_ : Int) (hs : s.size ≤ 140737488351232) (h0 : 0 ≤ at_) (h1 : at_ ≤ s.size) : ∀ (d : Nat) (i : Int) (l : List Int), d ≤ 5 → at_ ≤ i → i ≤ s.size → at_ + 5 - i = d →
    l = ((bytesOf s).drop at_.toNat).take (i - at_).toNat → (∀ c ∈ l, 128 ≤ c ∧ c ≤ 255) → (128 : Int) ^ l.length = U5 d → val l < U5 d →
    Ev (fun k => spec_ReadVar.l0 k s at_ (val l) (U5 d) i) (rvP s at_ d i (val l) (U5 d)) := by
  intro d
  have ew : wrap64 (at_ + 5) = at_ + 5 := by unfold wrap64; omega
  induction d with
  | zero =>
    intro i l hd5 hi hi2 hd hl hc hp hu
    by_cases hlt : i < s.size
    · refine Ev.step (fun k => by rw [spec_ReadVar.l0, if_pos hlt, ew, decide_eq_false (by omega)]) ?_
      refine Ev.step (fun k => by rw [spec_ReadVar.j1, if_neg (by simp)]) ?_
      exact Ev.now _
    · refine Ev.step (fun k => by rw [spec_ReadVar.l0, if_neg hlt]) ?_
      refine Ev.step (fun k => by rw [spec_ReadVar.j1, if_neg (by simp)]) ?_
      exact Ev.now _
  | succ d ih =>
    intro i l hd5 hi hi2 hd hl hc hp hu
    obtain ⟨r1, r2, r3, r4, r5, r6⟩ := rv_step (s := s) (i := i) (by omega) (val_nonneg l) hu
    by_cases hlt : i < s.size
    · have ei : wrap64 (i + 1) = i + 1 := by unfold wrap64; omega
      have hbr := bt_range s i
      have hsz : (bytesOf s).length = s.size := bytesOf_length s
      have hll : l.length = (i - at_).toNat := by rw [hl, List.length_take, List.length_drop]; omega
      have hsn : l ++ [bt s i] = ((bytesOf s).drop at_.toNat).take (i + 1 - at_).toNat := by
        have e : (i + 1 - at_).toNat = (i - at_).toNat + 1 := by omega
        have hlen : (i - at_).toNat < ((bytesOf s).drop at_.toNat).length := by rw [List.length_drop]; omega
        rw [e, List.take_succ_eq_append_getElem hlen, ← hl, bt_get]
        congr 2
        rw [List.getElem_drop, List.getD_eq_getElem?_getD, List.getElem?_eq_getElem (by omega)]
        simp
        congr 1
        omega
      have hv : val (l ++ [bt s i]) = val l + bt s i % 128 * U5 (d + 1) := by rw [val_snoc, hp]
      refine Ev.step (fun k => by rw [spec_ReadVar.l0, if_pos hlt, ew, decide_eq_true (by omega)]) ?_
      refine Ev.step (fun k => by rw [spec_ReadVar.j1, if_pos rfl, if_pos (by omega), if_pos hlt, wrap_bt, tmod_bt, r4, r5, r6, ei]) ?_
      rw [rvP, if_pos hlt]
      by_cases hb : bt s i < 128
      · simp only [if_pos hb]
        by_cases hm : val l + bt s i % 128 * U5 (d + 1) > 1000000000
        · simp only [if_pos hm]
          rw [if_pos (Or.inr hm)]
          exact Ev.now _
        · simp only [if_neg hm]
          refine Ev.bind (spec_l01Var_ev r1 (by omega)) ?_
          have hx : (strOfNums (varL (val l + bt s i % 128 * U5 (d + 1)).toNat)).toList = (s.extract at_.toNat (i + 1).toNat).toList ↔ (l = [] ∨ bt s i ≠ 0) := by
            rw [toList_iff, ← hv, ← varL_val (bt s i) hbr.1 hb l hc]
            constructor
            · intro hh
              have := congrArg bytesOf hh
              rw [bytesOf_str (varL_byt _), bytesOf_extract] at this
              rw [this, hsn]
              congr 1
              omega
            · intro hh
              apply bytesOf_inj
              rw [bytesOf_str (varL_byt _), bytesOf_extract, hh, hsn]
              congr 1
              omega
          simp only [if_pos h0, if_pos (show at_ ≤ i + 1 by omega), if_pos (show i + 1 ≤ (s.size : Int) by omega)]
          have hle : l = [] ↔ ¬ i > at_ := by
            rw [← List.length_eq_zero_iff, hll]; omega
          by_cases hq : (bt s i = 0 ∧ i > at_)
          · rw [if_pos (Or.inl hq)]
            have : ¬ (strOfNums (varL (val l + bt s i % 128 * U5 (d + 1)).toNat)).toList = (s.extract at_.toNat (i + 1).toNat).toList := by
              rw [hx, hle]; omega
            simp only [if_neg this]
            exact Ev.now _
          · rw [if_neg (show ¬ ((bt s i = 0 ∧ i > at_) ∨ val l + bt s i % 128 * U5 (d + 1) > 1000000000) by intro hh; rcases hh with hh | hh; exact hq hh; exact hm hh)]
            have : (strOfNums (varL (val l + bt s i % 128 * U5 (d + 1)).toNat)).toList = (s.extract at_.toNat (i + 1).toNat).toList := by
              rw [hx, hle]; omega
            simp only [if_pos this]
            exact Ev.now _
      · simp only [if_neg hb]
        rw [r3, ← hv]
        refine ih (i + 1) _ (by omega) (by omega) (by omega) (by omega) hsn ?_ ?_ ?_
        · intro c hcm
          rcases List.mem_append.mp hcm with h | h
          · exact hc c h
          · simp at h; omega
        · rw [List.length_append, List.length_singleton, Int.pow_succ, hp, r3]
        · rw [hv]; exact r2
    · refine Ev.step (fun k => by rw [spec_ReadVar.l0, if_neg hlt]) ?_
      refine Ev.step (fun k => by rw [spec_ReadVar.j1, if_neg (by simp)]) ?_
      rw [rvP, if_neg hlt]
      exact Ev.now _
def readVar (s : ByteArray) (at_ : Int) : Int × Int × Bool := if 0 ≤ at_ ∧ at_ ≤ s.size then rvP s at_ 5 at_ 0 1 else (0, 0, false)
theorem impl_ReadVar_ev (s : ByteArray) (at_ : Int) (hs : s.size ≤ 140737488351232) : Ev (fun k => impl_ReadVar.f k s at_) (readVar s at_) := by
  simp only [impl_ReadVar.f, impl_in.f, readVar]
  by_cases h0 : 0 ≤ at_
  · by_cases h1 : at_ ≤ s.size
    · simp only [ge_iff_le, if_pos h0, Option.bind_some, decide_eq_true h1, if_true]
      rw [if_pos ⟨h0, h1⟩]
      exact impl_rv_ev s at_ hs h0 h1 5 at_ 0 (by omega) (by omega) h1 (by omega) (by omega) (by simp [U5])
    · simp only [ge_iff_le, if_pos h0, Option.bind_some, decide_eq_false h1]
      rw [if_neg (by omega)]
      exact Ev.now _
  · simp only [ge_iff_le, if_neg h0, Option.bind_some]
    rw [if_neg (by omega)]
    exact Ev.now _
theorem spec_ReadVar_ev (s : ByteArray) (at_ : Int) (hs : s.size ≤ 140737488351232) : Ev (fun k => spec_ReadVar.f k s at_) (readVar s at_) := by
  simp only [spec_ReadVar.f, spec_l01In.f, readVar]
  by_cases h0 : 0 ≤ at_
  · by_cases h1 : at_ ≤ s.size
    · simp only [ge_iff_le, if_pos h0, Option.bind_some, decide_eq_true h1, if_true]
      rw [if_pos ⟨h0, h1⟩]
      exact spec_rv_ev s at_ hs h0 h1 5 at_ [] (by omega) (by omega) h1 (by omega) (by simp) (by simp) (by simp [U5]) (by simp [val, U5])
    · simp only [ge_iff_le, if_pos h0, Option.bind_some, decide_eq_false h1]
      rw [if_neg (by omega)]
      exact Ev.now _
  · simp only [ge_iff_le, if_neg h0, Option.bind_some]
    rw [if_neg (by omega)]
    exact Ev.now _

/-- What a number that was read is. -/
theorem rvP_ok (s : ByteArray) (at_ : Int) : ∀ (d : Nat) (i n u : Int), at_ ≤ i → i ≤ s.size → 0 ≤ n → 0 ≤ u → (rvP s at_ d i n u).2.2 = true → 0 ≤ (rvP s at_ d i n u).1 ∧ (rvP s at_ d i n u).1 ≤ 1000000000 ∧ i < (rvP s at_ d i n u).2.1 ∧ (rvP s at_ d i n u).2.1 ≤ s.size
  | 0, _, _, _, _, _, _, _, h => by simp [rvP] at h
  | d + 1, i, n, u, h1, h2, h3, h4, h => by
    have hp : 0 ≤ bt s i % 128 * u := Int.mul_nonneg (by omega) h4
    rw [rvP] at h ⊢
    split
    · rename_i hlt
      rw [if_pos hlt] at h
      split
      · rename_i hb
        rw [if_pos hb] at h
        split
        · rename_i hc; rw [if_pos hc] at h; simp at h
        · rename_i hc
          have : ¬ n + bt s i % 128 * u > 1000000000 := fun hh => hc (Or.inr hh)
          simp only
          omega
      · rename_i hb
        rw [if_neg hb] at h
        have := rvP_ok s at_ d (i + 1) _ _ (by omega) (by omega) (by omega) (by omega) h
        omega
    · rename_i hlt; rw [if_neg hlt] at h; simp at h
theorem readVar_ok {s : ByteArray} {at_ : Int} (h : (readVar s at_).2.2 = true) : 0 ≤ at_ ∧ 0 ≤ (readVar s at_).1 ∧ (readVar s at_).1 ≤ 1000000000 ∧ at_ < (readVar s at_).2.1 ∧ (readVar s at_).2.1 ≤ s.size := by
  unfold readVar at h ⊢
  split
  · rename_i hc
    rw [if_pos hc] at h
    have := rvP_ok s at_ 5 at_ 0 1 (by omega) (by omega) (by omega) (by omega) h
    omega
  · rename_i hc; rw [if_neg hc] at h; simp at h

def fourL (n : Int) : List Int := [(n / 16777216) % 256, (n / 65536) % 256, (n / 256) % 256, n % 256]
theorem spec_l02Four_ev (n : Int) : spec_l02Four.f n = some (strOfNums (fourL n)) := rfl

/-! frames -/
def frameS (s : ByteArray) : ByteArray := (strOfNums (varL s.size) ++ strOfNums (fourL (sumOf s))) ++ s
def frameP (s : ByteArray) : ByteArray × Bool := if 1 ≤ (s.size : Int) ∧ (s.size : Int) ≤ 9000 then (frameS s, true) else ((⟨#[]⟩ : ByteArray), false)
theorem size_append (a b : ByteArray) : (a ++ b).size = a.size + b.size := by
  rw [← bytesOf_length, bytesOf_append, List.length_append, bytesOf_length, bytesOf_length]
theorem spec_Frame_ev (s : ByteArray) (hs : s.size ≤ 140737488351232) : Ev (fun k => spec_Frame.f k s) (frameP s) := by
  simp only [spec_Frame.f, spec_in_eq, Option.bind_some, frameP]
  by_cases h : 1 ≤ (s.size : Int) ∧ (s.size : Int) ≤ 9000
  · simp only [decide_eq_true h, if_true, if_pos h]
    refine Ev.bind (spec_l01Var_ev (by omega) (by omega)) ?_
    refine Ev.bind (spec_SumOf_ev s hs) ?_
    have h1 := varL_len s.size
    simp only [spec_l02Four_ev, Option.bind_some, Int.toNat_natCast, size_append, str_size, fourL, List.length_cons, List.length_nil, if_pos (show (varL s.size).length + (0 + 1 + 1 + 1 + 1) ≤ 9223372036854775807 by omega), if_pos (show (varL s.size).length + (0 + 1 + 1 + 1 + 1) + s.size ≤ 9223372036854775807 by omega)]
    exact Ev.now _
  · simp only [decide_eq_false h, Bool.false_eq_true, if_false, if_neg h]
    exact Ev.now _
theorem impl_Frame_ev (s : ByteArray) (hs : s.size ≤ 140737488351232) : Ev (fun k => impl_Frame.f k s) (frameP s) := by
  simp only [impl_Frame.f, impl_in_eq, Option.bind_some, frameP]
  by_cases h : 1 ≤ (s.size : Int) ∧ (s.size : Int) ≤ 9000
  · simp only [decide_eq_true h, if_true, if_pos h]
    refine Ev.bind (impl_VarText_ev (by omega) (by omega)) ?_
    refine Ev.bind (impl_SumOf_ev s hs) ?_
    have h1 := varL_len s.size
    simp only [Option.bind_some, Int.toNat_natCast, size_append, str_size, List.length_cons, List.length_nil, if_pos (show (varL s.size).length + (0 + 1 + 1 + 1 + 1) ≤ 9223372036854775807 by omega), if_pos (show (varL s.size).length + (0 + 1 + 1 + 1 + 1) + s.size ≤ 9223372036854775807 by omega)]
    exact Ev.now _
  · simp only [decide_eq_false h, Bool.false_eq_true, if_false, if_neg h]
    exact Ev.now _

def frameNext (file : ByteArray) (at_ : Int) : Option (ByteArray × Int) :=
  if (readVar file at_).2.2 = true ∧ (1 ≤ (readVar file at_).1 ∧ (readVar file at_).1 ≤ 9000) ∧ (readVar file at_).2.1 + 4 + (readVar file at_).1 ≤ file.size ∧
    frameS (file.extract ((readVar file at_).2.1 + 4).toNat ((readVar file at_).2.1 + 4 + (readVar file at_).1).toNat) = file.extract at_.toNat ((readVar file at_).2.1 + 4 + (readVar file at_).1).toNat
  then some (file.extract ((readVar file at_).2.1 + 4).toNat ((readVar file at_).2.1 + 4 + (readVar file at_).1).toNat, (readVar file at_).2.1 + 4 + (readVar file at_).1) else none
theorem frameNext_ok {file : ByteArray} {at_ : Int} {t : ByteArray} {n : Int} (h : frameNext file at_ = some (t, n)) : 0 ≤ at_ ∧ at_ < n ∧ n ≤ file.size := by
  unfold frameNext at h
  split at h
  · rename_i hc
    have := readVar_ok hc.1
    simp only [Option.some.injEq, Prod.mk.injEq] at h
    omega
  · cases h
theorem extract_size {s : ByteArray} {a b : Nat} (h1 : a ≤ b) (h2 : b ≤ s.size) : (s.extract a b).size = b - a := by
  rw [ByteArray.size_extract]; omega
theorem impl_frameAt_ev (file : ByteArray) (hs : file.size ≤ 20000) (at_ : Int) : Ev (fun k => impl_frameAt.f k file at_) (match frameNext file at_ with | some (t, n) => (t, n, true) | none => ((⟨#[]⟩ : ByteArray), 0, false)) := by
  simp only [impl_frameAt.f]
  refine Ev.bind (impl_ReadVar_ev file at_ (by omega)) ?_
  have hno : ∀ a b, Ev (fun k => impl_frameAt.j0 k file at_ a b true) ((⟨#[]⟩ : ByteArray), 0, false) := by
    intro a b
    refine Ev.step (fun k => by rw [impl_frameAt.j0, if_pos rfl]) ?_
    exact Ev.now _
  by_cases h1 : (readVar file at_).2.2 = true
  · simp only [if_pos h1, impl_in_eq, Option.bind_some]
    have hk := readVar_ok h1
    by_cases h2 : 1 ≤ (readVar file at_).1 ∧ (readVar file at_).1 ≤ 9000
    · simp only [decide_eq_true h2, if_true]
      have e1 : wrap64 ((file.size : Int) - (readVar file at_).2.1) = (file.size : Int) - (readVar file at_).2.1 := by unfold wrap64; omega
      have e2 : wrap64 (4 + (readVar file at_).1) = 4 + (readVar file at_).1 := by unfold wrap64; omega
      have e3 : wrap64 ((readVar file at_).2.1 + 4) = (readVar file at_).2.1 + 4 := by unfold wrap64; omega
      have e4 : wrap64 ((readVar file at_).2.1 + 4 + (readVar file at_).1) = (readVar file at_).2.1 + 4 + (readVar file at_).1 := by unfold wrap64; omega
      rw [e1, e2]
      by_cases h3 : (readVar file at_).2.1 + 4 + (readVar file at_).1 ≤ file.size
      · rw [decide_eq_false (by omega)]
        refine Ev.step (fun k => by rw [impl_frameAt.j0, if_neg (by simp), e3, e4, if_pos (by omega), if_pos (by omega), if_pos h3]) ?_
        have hz : (file.extract ((readVar file at_).2.1 + 4).toNat ((readVar file at_).2.1 + 4 + (readVar file at_).1).toNat).size = (readVar file at_).1.toNat := by
          rw [extract_size (by omega) (by omega)]; omega
        refine Ev.bind (impl_Frame_ev _ (by rw [hz]; omega)) ?_
        have hf : frameP (file.extract ((readVar file at_).2.1 + 4).toNat ((readVar file at_).2.1 + 4 + (readVar file at_).1).toNat) = (frameS (file.extract ((readVar file at_).2.1 + 4).toNat ((readVar file at_).2.1 + 4 + (readVar file at_).1).toNat), true) := by
          unfold frameP; rw [if_pos (by rw [hz]; omega)]
        simp only [hf, if_pos hk.1, if_pos (show at_ ≤ (readVar file at_).2.1 + 4 + (readVar file at_).1 by omega), toList_iff]
        by_cases h4 : frameS (file.extract ((readVar file at_).2.1 + 4).toNat ((readVar file at_).2.1 + 4 + (readVar file at_).1).toNat) = file.extract at_.toNat ((readVar file at_).2.1 + 4 + (readVar file at_).1).toNat
        · have : frameNext file at_ = some (file.extract ((readVar file at_).2.1 + 4).toNat ((readVar file at_).2.1 + 4 + (readVar file at_).1).toNat, (readVar file at_).2.1 + 4 + (readVar file at_).1) := by unfold frameNext; rw [if_pos ⟨h1, h2, h3, h4⟩]
          rw [this]; simp only [if_pos h4]; exact Ev.now _
        · have : frameNext file at_ = none := by unfold frameNext; rw [if_neg (fun h => h4 h.2.2.2)]
          rw [this]; simp only [if_neg h4]; exact Ev.now _
      · have : frameNext file at_ = none := by unfold frameNext; rw [if_neg (fun h => h3 h.2.2.1)]
        rw [this, decide_eq_true (by omega)]
        exact hno _ _
    · have : frameNext file at_ = none := by unfold frameNext; rw [if_neg (fun h => h2 h.2.1)]
      rw [this]
      simp only [decide_eq_false h2, Bool.false_eq_true, if_false]
      exact hno _ _
  · have : frameNext file at_ = none := by unfold frameNext; rw [if_neg (fun h => h1 h.1)]
    rw [this]
    simp only [if_neg h1]
    exact hno _ _
def unfr (file : ByteArray) : Nat → List ByteArray → Int → List ByteArray × Int
  | 0, acc, at_ => (acc, at_)
  | d + 1, acc, at_ => match frameNext file at_ with
    | some (t, n) => unfr file d (acc ++ [t]) n
    | none => (acc, at_)
theorem impl_Unframe_l0_ev (file : ByteArray) (hs : file.size ≤ 20000) : ∀ (d : Nat) (acc : List ByteArray) (at_ : Int), 0 ≤ at_ → at_ ≤ file.size → (file.size : Int) - at_ < d → acc.length ≤ at_ →
    Ev (fun k => impl_Unframe.l0 k file acc at_) (unfr file d acc at_) := by
  intro d
  induction d with
  | zero => intro acc at_ h0 h1 h2 h3; omega
  | succ d ih =>
    intro acc at_ h0 h1 h2 h3
    have hf := impl_frameAt_ev file hs at_
    rw [unfr]
    cases hn : frameNext file at_ with
    | none =>
      rw [hn] at hf
      refine Ev.step (fun k => by rw [impl_Unframe.l0]) ?_
      refine Ev.bind hf ?_
      simp only [Bool.false_eq_true, if_false]
      exact Ev.now _
    | some p =>
      obtain ⟨t, n⟩ := p
      rw [hn] at hf
      have hk := frameNext_ok hn
      refine Ev.step (fun k => by rw [impl_Unframe.l0]) ?_
      refine Ev.bind hf ?_
      simp only [if_true, if_pos (show acc.length < 8796093022208 by omega)]
      exact ih _ _ (by omega) (by omega) (by omega) (by simp; omega)
theorem spec_Unframe_l0_ev (file : ByteArray) (hs : file.size ≤ 20000) : ∀ (d : Nat) (acc : List ByteArray) (at_ : Int), 0 ≤ at_ → at_ ≤ file.size → (file.size : Int) - at_ < d → acc.length ≤ at_ →
    Ev (fun k => spec_Unframe.l0 k file acc at_) (unfr file d acc at_) := by
  intro d
  induction d with
  | zero => intro acc at_ h0 h1 h2 h3; omega
  | succ d ih =>
    intro acc at_ h0 h1 h2 h3
    rw [unfr]
    have hno : ∀ a b, Ev (fun k => spec_Unframe.j1 k file acc at_ a b true) (acc, at_) := by
      intro a b
      refine Ev.step (fun k => by rw [spec_Unframe.j1, if_pos rfl]) ?_
      exact Ev.now _
    by_cases hlt : at_ < file.size
    · refine Ev.step (fun k => by rw [spec_Unframe.l0, if_pos hlt]) ?_
      refine Ev.bind (spec_ReadVar_ev file at_ (by omega)) ?_
      by_cases h1 : (readVar file at_).2.2 = true
      · have hk := readVar_ok h1
        simp only [if_pos h1]
        have e1 : wrap64 (wrap64 ((file.size : Int) - (readVar file at_).2.1) - 4) = (file.size : Int) - (readVar file at_).2.1 - 4 := by
          have : wrap64 ((file.size : Int) - (readVar file at_).2.1) = (file.size : Int) - (readVar file at_).2.1 := by unfold wrap64; omega
          rw [this]; unfold wrap64; omega
        have e3 : wrap64 ((readVar file at_).2.1 + 4) = (readVar file at_).2.1 + 4 := by unfold wrap64; omega
        have e4 : wrap64 ((readVar file at_).2.1 + 4 + (readVar file at_).1) = (readVar file at_).2.1 + 4 + (readVar file at_).1 := by unfold wrap64; omega
        rw [e1]
        by_cases hc : (readVar file at_).2.1 + 4 + (readVar file at_).1 ≤ file.size
        · rw [decide_eq_false (by omega)]
          refine Ev.step (fun k => by rw [spec_Unframe.j1, if_neg (by simp), e3, e4, if_pos (by omega), if_pos (by omega), if_pos hc]) ?_
          have hz : (file.extract ((readVar file at_).2.1 + 4).toNat ((readVar file at_).2.1 + 4 + (readVar file at_).1).toNat).size = (readVar file at_).1.toNat := by
            rw [extract_size (by omega) (by omega)]; omega
          refine Ev.bind (spec_Frame_ev _ (by rw [hz]; omega)) ?_
          by_cases h2 : 1 ≤ (readVar file at_).1 ∧ (readVar file at_).1 ≤ 9000
          · have hf : frameP (file.extract ((readVar file at_).2.1 + 4).toNat ((readVar file at_).2.1 + 4 + (readVar file at_).1).toNat) = (frameS (file.extract ((readVar file at_).2.1 + 4).toNat ((readVar file at_).2.1 + 4 + (readVar file at_).1).toNat), true) := by
              unfold frameP; rw [if_pos (by rw [hz]; omega)]
            simp only [hf, if_true, if_pos h0, if_pos (show at_ ≤ (readVar file at_).2.1 + 4 + (readVar file at_).1 by omega), toList_iff]
            by_cases h4 : frameS (file.extract ((readVar file at_).2.1 + 4).toNat ((readVar file at_).2.1 + 4 + (readVar file at_).1).toNat) = file.extract at_.toNat ((readVar file at_).2.1 + 4 + (readVar file at_).1).toNat
            · have : frameNext file at_ = some (file.extract ((readVar file at_).2.1 + 4).toNat ((readVar file at_).2.1 + 4 + (readVar file at_).1).toNat, (readVar file at_).2.1 + 4 + (readVar file at_).1) := by unfold frameNext; rw [if_pos ⟨h1, h2, hc, h4⟩]
              simp only [this, if_pos h4, if_pos (show acc.length < 8796093022208 by omega)]
              exact ih _ _ (by omega) (by omega) (by omega) (by simp; omega)
            · have : frameNext file at_ = none := by unfold frameNext; rw [if_neg (fun h => h4 h.2.2.2)]
              simp only [this, if_neg h4]; exact Ev.now _
          · have hf : frameP (file.extract ((readVar file at_).2.1 + 4).toNat ((readVar file at_).2.1 + 4 + (readVar file at_).1).toNat) = ((⟨#[]⟩ : ByteArray), false) := by
              unfold frameP; rw [if_neg (by rw [hz]; omega)]
            have : frameNext file at_ = none := by unfold frameNext; rw [if_neg (fun h => h2 h.2.1)]
            simp only [hf, this, Bool.false_eq_true, if_false]
            exact Ev.now _
        · have : frameNext file at_ = none := by unfold frameNext; rw [if_neg (fun h => hc h.2.2.1)]
          rw [this, decide_eq_true (by omega)]
          exact hno _ _
      · have : frameNext file at_ = none := by unfold frameNext; rw [if_neg (fun h => h1 h.1)]
        rw [this]
        simp only [if_neg h1]
        exact hno _ _
    · have : frameNext file at_ = none := by
        cases hn : frameNext file at_ with
        | none => rfl
        | some p => obtain ⟨t, n⟩ := p; have := frameNext_ok hn; omega
      rw [this]
      refine Ev.step (fun k => by rw [spec_Unframe.l0, if_neg hlt]) ?_
      exact Ev.now _
def unframeP (file : ByteArray) : List ByteArray × Int := if (file.size : Int) > 20000 then ([], 0) else unfr file (file.size + 1) [] 0
theorem spec_Unframe_ev (file : ByteArray) : Ev (fun k => spec_Unframe.f k file) (unframeP file) := by
  simp only [spec_Unframe.f, Option.bind_some, unframeP]
  by_cases h : (file.size : Int) > 20000
  · simp only [if_pos h]; exact Ev.now _
  · simp only [if_neg h]
    exact spec_Unframe_l0_ev file (by omega) _ _ _ (by omega) (by omega) (by omega) (by simp)
theorem impl_Unframe_ev (file : ByteArray) : Ev (fun k => impl_Unframe.f k file) (unframeP file) := by
  simp only [impl_Unframe.f, unframeP]
  by_cases h : (file.size : Int) > 20000
  · simp only [if_pos h]; exact Ev.now _
  · simp only [if_neg h]
    exact impl_Unframe_l0_ev file (by omega) _ _ _ (by omega) (by omega) (by omega) (by simp)
theorem unfr_len (file : ByteArray) : ∀ (d : Nat) (acc : List ByteArray) (at_ : Int), (unfr file d acc at_).1.length ≤ acc.length + d
  | 0, _, _ => by simp [unfr]
  | d + 1, acc, at_ => by
    rw [unfr]
    split
    · rename_i t n h
      have := unfr_len file d (acc ++ [t]) n
      simp at this; omega
    · simp
theorem unframeP_len (file : ByteArray) : (unframeP file).1.length ≤ 20001 := by
  unfold unframeP
  split
  · simp
  · rename_i h
    have := unfr_len file (file.size + 1) [] 0
    simp at this; omega

/-! the law's marks -/
def mtL (n : Nat) (s : ByteArray) : ByteArray := if h : n > 0 then mtL (n / 10) (strOfNums [((48 + n % 10 : Nat) : Int)] ++ s) else (⟨#[109]⟩ : ByteArray) ++ s
termination_by n
decreasing_by omega
theorem mt_l0_ev (n : Nat) : ∀ (s : ByteArray), n ≤ 1099511627776 → s.size + n ≤ 1099511627776 → Ev (fun k => laws_markText.l0 k (n : Int) s) (mtL n s) := by
  induction n using Nat.strongRecOn with
  | ind n ih =>
    intro s hn hs
    by_cases h : n > 0
    · have e1 : (wrap64 (48 + (Int.tmod (n : Int) 10))) % 256 = ((48 + n % 10 : Nat) : Int) := by
        rw [Int.tmod_eq_emod_of_nonneg (by omega)]; unfold wrap64; omega
      have e2 : wrap64 (Int.tdiv (n : Int) 10) = ((n / 10 : Nat) : Int) := by
        rw [Int.tdiv_eq_ediv_of_nonneg (by omega)]; unfold wrap64; omega
      have hz : (strOfNums [((48 + n % 10 : Nat) : Int)]).size = 1 := by rw [str_size]; rfl
      rw [mtL, dif_pos h]
      refine Ev.step (fun k => by rw [laws_markText.l0, if_pos (by omega), e1, e2, Option.bind_some, hz, if_pos (by omega)]) ?_
      exact ih (n / 10) (by omega) _ (by omega) (by rw [size_append, hz]; omega)
    · rw [mtL, dif_neg h]
      refine Ev.step (fun k => by rw [laws_markText.l0, if_neg (by omega), if_pos (by omega)]) ?_
      exact Ev.now _
def markT (m : Int) : ByteArray := if m ≤ 0 then (⟨#[109, 48]⟩ : ByteArray) else mtL m.toNat (⟨#[]⟩ : ByteArray)
theorem laws_markText_ev (m : Int) (hm : m ≤ 1099511627776) : Ev (fun k => laws_markText.f k m) (markT m) := by
  simp only [laws_markText.f, markT]
  by_cases h : m ≤ 0
  · simp only [if_pos h]; exact Ev.now _
  · simp only [if_neg h]
    have := mt_l0_ev m.toNat (⟨#[]⟩ : ByteArray) (by omega) (by show 0 + _ ≤ _; omega)
    rw [Int.toNat_of_nonneg (by omega)] at this
    exact this

theorem laws_eqStringS_refl (l : List ByteArray) (hl : l.length ≤ 4611686018427387904) : Ev (fun k => laws_eqStringS.f k l l) true := by
  simp only [laws_eqStringS.f, if_true]
  have := Ev.allloop (L := fun k i => laws_eqStringS.l0 k l l i) (n := l.length) (fun _ => true) false true (by
    intro i r hi _ h
    refine Ev.step (fun k => by rw [laws_eqStringS.l0, if_pos (by omega), if_pos (by omega), if_pos (by omega), if_pos rfl, wrap_succ hi hl]) ?_
    exact h) (by intro i _ h; cases h) (by
    refine Ev.step (fun k => by rw [laws_eqStringS.l0, if_neg (by omega)]) ?_
    exact Ev.now _)
  simpa using this
def seqT (m : Int) (n : Nat) : List ByteArray := (List.range n).map (fun (i : Nat) => markT (m + i))
theorem laws_markStringS_ev (l : List ByteArray) (m : Int) (h0 : 0 ≤ m) (hm : m ≤ 549755813888) (hl : l.length ≤ 549755813888) : Ev (fun k => laws_markStringS.f k l m) (m + l.length, seqT m l.length) := by
  simp only [laws_markStringS.f]
  have := Ev.setloop' (L := fun k x i => laws_markStringS.l0 k x (m + i) i) (n := l.length) (fun i => markT (m + i)) l rfl (fun x => (m + (l.length : Int), x)) (by
    intro i x r hi hx h
    have e : wrap64 (m + (i : Int) + 1) = m + ((i + 1 : Nat) : Int) := by unfold wrap64; omega
    refine Ev.step (fun k => by rw [laws_markStringS.l0, if_pos (by omega)]) ?_
    refine Ev.bind (laws_markText_ev _ (by omega)) ?_
    simp only [if_pos (show (0 : Int) ≤ (i : Int) by omega), if_pos (show (i : Int) < (x.length : Int) by omega), Int.toNat_natCast, wrap_succ hi (show l.length ≤ 4611686018427387904 by omega), e]
    exact h) (by
    intro x hx
    refine Ev.step (fun k => by rw [laws_markStringS.l0, if_neg (by omega)]) ?_
    exact Ev.now _)
  simpa [seqT] using this
theorem laws_heldStringS_ev (m : Int) (n : Nat) (h0 : 0 ≤ m) (hm : m ≤ 549755813888) (hl : n ≤ 549755813888) : Ev (fun k => laws_heldStringS.f k (seqT m n) m) (m + n) := by
  simp only [laws_heldStringS.f]
  have hlen : (seqT m n).length = n := by simp [seqT]
  have := Ev.allloop (L := fun k i => laws_heldStringS.l0 k (seqT m n) (m + i) i) (n := n) (fun _ => true) (-1) (m + (n : Int)) (by
    intro i r hi _ h
    have e : wrap64 (m + (i : Int) + 1) = m + ((i + 1 : Nat) : Int) := by unfold wrap64; omega
    have er : rdOf ByteArray.empty (seqT m n) (i : Int) = markT (m + i) := by
      simp [rdOf, seqT, List.getD_eq_getElem?_getD, List.getElem?_map, List.getElem?_range hi]
    refine Ev.step (fun k => by rw [laws_heldStringS.l0, if_pos (by omega), if_pos (by omega)]) ?_
    refine Ev.bind (laws_markText_ev _ (by omega)) ?_
    simp only [er, if_true, wrap_succ hi (show n ≤ 4611686018427387904 by omega), e]
    exact h) (by intro i _ h; cases h) (by
    refine Ev.step (fun k => by rw [laws_heldStringS.l0, if_neg (by omega)]) ?_
    exact Ev.now _)
  simpa using this

theorem FnExactUnframe : laws_FnExactUnframe.Pure := by
  intro a0 h0
  refine Ev.rounds (g := fun k => laws_FnExactUnframe.f k a0) ?_
  simp only [laws_FnExactUnframe.f]
  by_cases h : (a0.size : Int) > 1048576
  · simp only [if_pos h]; exact Ev.now _
  · have hl := unframeP_len a0
    simp only [if_neg h]
    refine Ev.bind (spec_Unframe_ev a0) ?_
    refine Ev.bind (impl_Unframe_ev a0) ?_
    refine Ev.bind (laws_eqStringS_refl _ (by omega)) ?_
    simp only [if_true, bne_self_eq_false]
    refine Ev.step (fun k => by rw [laws_FnExactUnframe.j0, if_neg (by simp)]) ?_
    refine Ev.bind (laws_markStringS_ev _ 1 (by omega) (by omega) (by omega)) ?_
    refine Ev.bind (laws_heldStringS_ev 1 _ (by omega) (by omega) (by omega)) ?_
    simp only [if_neg (show ¬ (1 + ((unframeP a0).1.length : Int) < 0) by omega), if_true]
    refine Ev.bind (impl_Unframe_ev a0) ?_
    refine Ev.bind (laws_eqStringS_refl _ (by omega)) ?_
    simp only [if_true, bne_self_eq_false]
    refine Ev.step (fun k => by rw [laws_FnExactUnframe.j1, if_neg (by simp)]) ?_
    refine Ev.bind (laws_heldStringS_ev 1 _ (by omega) (by omega) (by omega)) ?_
    simp only [if_neg (show ¬ (1 + ((unframeP a0).1.length : Int) < 0) by omega), if_true]
    exact Ev.now _

end Go.Proofs.Ytacnlodcbbhahaa.Pure
