/- Of every drawn right disk what is kept is never lost, of the rest a beginning is left, and lost again nothing more is lost. No condition is laid beside the statement. -/
import Derived.Test.YtmjblanhgekhpaaQFnKeepsx8
import Derived.Laws.BitsLemmas
import Derived.Lib.Bytes
import Derived.OpenShut
namespace Go.Proofs.Ytmjblanhgekhpaa.Pure
open Go.RowKit Go.Proofs.Ytmjblanhgekhpaa.QFnKeeps Go.Proofs.YtmjblanhgekhpaaW.PrintWords Go.Proofs.YtmjblanhgekhpaaW.PrintLast
set_option linter.unusedVariables false
set_option linter.unusedSimpArgs false


theorem wrap_id {i : Int} (h0 : -9223372036854775808 ≤ i) (h1 : i ≤ 9223372036854775807) : wrap64 i = i := by unfold wrap64; omega
theorem toList_eq {a b : ByteArray} (h : a = b) : a.toList = b.toList := by rw [h]

/-! strings as numbers -/
theorem toList_data' (s : ByteArray) : s.toList = s.data.toList := Go.Lib.toList_data s
theorem str_ext {a b : ByteArray} (h : a.toList = b.toList) : a = b := by
  rw [toList_data', toList_data'] at h
  cases a; cases b
  simp at h
  rw [h]
theorem toList_iff {a b : ByteArray} : a.toList = b.toList ↔ a = b := ⟨str_ext, fun h => by rw [h]⟩
def Byt (l : List Int) : Prop := ∀ x ∈ l, 0 ≤ x ∧ x < 256
theorem bytesOf_byt (s : ByteArray) : Byt (bytesOf s) := by
  intro x hx
  unfold bytesOf at hx
  simp at hx
  obtain ⟨b, _, rfl⟩ := hx
  have := b.toNat_lt
  omega
theorem bytesOf_str {l : List Int} (h : Byt l) : bytesOf (strOfNums l) = l := by
  unfold bytesOf strOfNums
  simp
  apply List.ext_getElem
  · simp
  · intro i h1 h2
    have := h l[i] (List.getElem_mem h2)
    simp
    omega
theorem str_bytesOf (s : ByteArray) : strOfNums (bytesOf s) = s := by
  unfold bytesOf strOfNums
  cases s with
  | mk d =>
    simp
    apply Array.ext'
    simp
    apply List.ext_getElem
    · simp
    · intro i h1 h2
      simp
theorem bytesOf_inj {a b : ByteArray} (h : bytesOf a = bytesOf b) : a = b := by rw [← str_bytesOf a, h, str_bytesOf]
theorem bytesOf_append (a b : ByteArray) : bytesOf (a ++ b) = bytesOf a ++ bytesOf b := by
  unfold bytesOf
  simp [ByteArray.data_append]
theorem bytesOf_extract (s : ByteArray) (a b : Nat) : bytesOf (s.extract a b) = ((bytesOf s).drop a).take (b - a) := by
  unfold bytesOf
  simp [ByteArray.data_extract, List.map_take, List.map_drop]
theorem bt_get (s : ByteArray) (i : Int) : bt s i = (bytesOf s).getD i.toNat 0 := (rd_bytesOf s i).symm
theorem str_size (l : List Int) : (strOfNums l).size = l.length := by
  show (strOfNums l).data.size = _
  unfold strOfNums
  simp

/-! loops in general -/
theorem wrap_succ {i n : Nat} (h : i < n) (hn : n ≤ 4611686018427387904) : wrap64 ((i : Int) + 1) = ((i + 1 : Nat) : Int) := by unfold wrap64; omega
theorem Ev.loopR {σ β : Type} {L : Nat → σ → Int → Option β} {n : Nat} (R : Nat → σ → β) (I : Nat → σ → Prop)
    (hstep : ∀ (i : Nat) s, i < n → I i s → Ev (fun k => L k s i) (R i s) ∨ ∃ s', I (i + 1) s' ∧ R i s = R (i + 1) s' ∧ ∀ r, Ev (fun k => L k s' ((i + 1 : Nat) : Int)) r → Ev (fun k => L k s i) r)
    (hend : ∀ s, I n s → Ev (fun k => L k s n) (R n s)) : ∀ (d i : Nat) (s : σ), i + d = n → I i s → Ev (fun k => L k s i) (R i s) := by
  intro d
  induction d with
  | zero =>
    intro i s hi hI
    have : i = n := by omega
    subst this
    exact hend s hI
  | succ d ih =>
    intro i s hi hI
    rcases hstep i s (by omega) hI with h | ⟨s', h1, h2, h3⟩
    · exact h
    · rw [h2]
      exact h3 _ (ih (i + 1) s' (by omega) h1)
/-- A loop that builds by appending. -/
theorem Ev.apploop {β γ : Type} {L : Nat → List γ → Int → Option β} {n : Nat} (g : Nat → List γ) (fin : List γ → β) (a0 : List γ)
    (hstep : ∀ (i : Nat) x r, i < n → x = a0 ++ (List.range i).flatMap g → Ev (fun k => L k (x ++ g i) ((i + 1 : Nat) : Int)) r → Ev (fun k => L k x i) r)
    (hend : ∀ x, x = a0 ++ (List.range n).flatMap g → Ev (fun k => L k x n) (fin x)) : Ev (fun k => L k a0 0) (fin (a0 ++ (List.range n).flatMap g)) := by
  have key := Ev.loopR (L := L) (n := n) (fun _ _ => fin (a0 ++ (List.range n).flatMap g)) (fun i x => x = a0 ++ (List.range i).flatMap g) (by
    intro i x hi hx
    right
    refine ⟨x ++ g i, by rw [hx, List.range_succ, List.flatMap_append]; simp, rfl, fun r hr => hstep i x r hi hx hr⟩) (by
    intro x hx
    have := hend x hx
    rw [hx] at this ⊢
    exact this)
  exact key n 0 a0 (by omega) (by simp)
/-- A loop that writes every element of a row. -/
theorem Ev.setloop' {β γ : Type} {L : Nat → List γ → Int → Option β} {n : Nat} (g : Nat → γ) (x0 : List γ) (h0 : x0.length = n) (fin : List γ → β)
    (hstep : ∀ (i : Nat) x r, i < n → x.length = n → Ev (fun k => L k (x.set i (g i)) ((i + 1 : Nat) : Int)) r → Ev (fun k => L k x i) r)
    (hend : ∀ x, x.length = n → Ev (fun k => L k x n) (fin x)) : Ev (fun k => L k x0 0) (fin ((List.range n).map g)) := by
  have key := Ev.loopR (L := L) (n := n) (fun _ _ => fin ((List.range n).map g)) (fun i x => x.length = n ∧ ∀ j, j < i → x[j]? = some (g j)) (by
    intro i x hi hx
    right
    refine ⟨x.set i (g i), ⟨by rw [List.length_set]; exact hx.1, fun j hj => ?_⟩, rfl, fun r hr => hstep i x r hi hx.1 hr⟩
    by_cases hji : j = i
    · subst hji
      rw [List.getElem?_set_self (by omega)]
    · rw [List.getElem?_set_ne (by omega)]
      exact hx.2 j (by omega)) (by
    intro x hx
    have hxe : x = (List.range n).map g := by
      apply List.ext_getElem?
      intro j
      by_cases hj : j < n
      · rw [hx.2 j hj]; simp [hj]
      · rw [List.getElem?_eq_none (by omega), List.getElem?_eq_none (by simp; omega)]
    rw [← hxe]
    exact hend x hx.1)
  exact key n 0 _ (by omega) ⟨h0, fun j hj => by omega⟩
/-- A loop that fills what was made. -/
theorem Ev.setloop {β γ : Type} {L : Nat → List γ → Int → Option β} {n : Nat} (g : Nat → γ) (z : γ) (fin : List γ → β)
    (hstep : ∀ (i : Nat) x r, i < n → x.length = n → Ev (fun k => L k (x.set i (g i)) ((i + 1 : Nat) : Int)) r → Ev (fun k => L k x i) r)
    (hend : ∀ x, x.length = n → Ev (fun k => L k x n) (fin x)) : Ev (fun k => L k (List.replicate n z) 0) (fin ((List.range n).map g)) :=
  Ev.setloop' g _ (by simp) fin hstep hend
/-- A loop that asks something of each index. -/
theorem Ev.allloop {β : Type} {L : Nat → Int → Option β} {n : Nat} (p : Nat → Bool) (c fin : β)
    (hstep : ∀ (i : Nat) r, i < n → p i = true → Ev (fun k => L k ((i + 1 : Nat) : Int)) r → Ev (fun k => L k i) r)
    (hno : ∀ (i : Nat), i < n → p i = false → Ev (fun k => L k i) c)
    (hend : Ev (fun k => L k n) fin) : Ev (fun k => L k 0) (if (List.range n).all p then fin else c) := by
  have key := Ev.loopR (σ := Unit) (L := fun k _ i => L k i) (n := n) (fun i _ => if (List.range' i (n - i)).all p then fin else c) (fun _ _ => True) (by
    intro i _ hi _
    have e : List.range' i (n - i) = i :: List.range' (i + 1) (n - (i + 1)) := by
      have : n - i = (n - (i + 1)) + 1 := by omega
      rw [this, List.range'_succ]
    cases hp : p i with
    | true => right; exact ⟨(), trivial, by rw [e, List.all_cons, hp, Bool.true_and], fun r hr => hstep i r hi hp hr⟩
    | false => left; rw [e, List.all_cons, hp, Bool.false_and]; exact hno i hi hp) (by
    intro _ _
    simpa using hend)
  have := key n 0 () (by omega) trivial
  rw [List.range_eq_range']
  simpa using this
theorem range_map_getD {α β : Type} (l : List α) (d : α) (h : α → β) : (List.range l.length).map (fun i => h (l.getD i d)) = l.map h := by
  apply List.ext_getElem
  · simp
  · intro i h1 h2
    simp at h1 h2
    simp [List.getD_eq_getElem?_getD, List.getElem?_eq_getElem h2]
theorem range_flatMap_getD {α β : Type} (l : List α) (d : α) (h : α → List β) : (List.range l.length).flatMap (fun i => h (l.getD i d)) = l.flatMap h := by
  have := congrArg List.flatten (range_map_getD l d h)
  rw [List.flatMap_def, List.flatMap_def]; exact this
theorem range_all_getD {α : Type} (l : List α) (d : α) (h : α → Bool) : (List.range l.length).all (fun i => h (l.getD i d)) = l.all h := by
  have := congrArg (fun l => l.all id) (range_map_getD l d h)
  simpa [List.all_map] using this
theorem flatMap_single {α β : Type} (l : List α) (g : α → β) : l.flatMap (fun x => [g x]) = l.map g := by
  induction l with
  | nil => rfl
  | cons a l ih => simp [ih]
/-- A loop that looks for the first index. -/
def findR {β : Type} (p : Nat → Bool) (c : Nat → β) (fin : β) : Nat → Nat → β
  | 0, _ => fin
  | d + 1, i => if p i then c i else findR p c fin d (i + 1)
theorem Ev.findloop {β : Type} {L : Nat → Int → Option β} {n : Nat} (p : Nat → Bool) (c : Nat → β) (fin : β)
    (hstep : ∀ (i : Nat) r, i < n → p i = false → Ev (fun k => L k ((i + 1 : Nat) : Int)) r → Ev (fun k => L k i) r)
    (hhit : ∀ (i : Nat), i < n → p i = true → Ev (fun k => L k i) (c i))
    (hend : Ev (fun k => L k n) fin) : Ev (fun k => L k 0) (findR p c fin n 0) := by
  have key := Ev.loopR (σ := Unit) (L := fun k _ i => L k i) (n := n) (fun i _ => findR p c fin (n - i) i) (fun _ _ => True) (by
    intro i _ hi _
    have e : findR p c fin (n - i) i = if p i then c i else findR p c fin (n - (i + 1)) (i + 1) := by
      have : n - i = (n - (i + 1)) + 1 := by omega
      rw [this, findR]
    cases hp : p i with
    | false => right; exact ⟨(), trivial, by rw [e, hp]; rfl, fun r hr => hstep i r hi hp hr⟩
    | true => left; rw [e, hp]; exact hhit i hi hp) (by
    intro _ _
    simpa [findR] using hend)
  have := key n 0 () (by omega) trivial
  simpa using this

/-- A loop that asks something of each index; what comes behind it is known where the answer is yes. -/
theorem Ev.allloop3 {β : Type} {L : Nat → Int → Option β} {n : Nat} (p : Nat → Bool) (c fin : β)
    (hstep : ∀ (i : Nat) r, i < n → (∀ j, j < i → p j = true) → (p i = true → Ev (fun k => L k ((i + 1 : Nat) : Int)) r) → Ev (fun k => L k i) (if p i = true then r else c))
    (hend : (∀ j, j < n → p j = true) → Ev (fun k => L k n) fin) : Ev (fun k => L k 0) (if (List.range n).all p = true then fin else c) := by
  have key : ∀ (d i : Nat), i + d = n → (∀ j, j < i → p j = true) → Ev (fun k => L k i) (if (List.range' i d).all p = true then fin else c) := by
    intro d
    induction d with
    | zero => intro i hi hp; have : i = n := by omega
              subst this; simpa using hend hp
    | succ d ih =>
      intro i hi hp
      rw [List.range'_succ, List.all_cons]
      by_cases hpi : p i = true
      · have := hstep i _ (by omega) hp (fun _ => ih (i + 1) (by omega) (fun j hj => by
          by_cases hji : j = i
          · rw [hji]; exact hpi
          · exact hp j (by omega)))
        rw [if_pos hpi] at this
        rw [hpi, Bool.true_and]; exact this
      · have := hstep i c (by omega) hp (fun h => absurd h hpi)
        rw [if_neg hpi] at this
        rw [Bool.eq_false_iff.2 hpi, Bool.false_and]; exact this
  have := key n 0 (by omega) (fun j hj => by omega)
  rw [List.range_eq_range']
  exact this

/-! draws -/
theorem and255 (x : Int) : 0 ≤ Go.bits .and .i64 x 255 ∧ Go.bits .and .i64 x 255 ≤ 255 := by
  simp only [Go.bits, BitVec.toNat_and]
  have h : (BitVec.ofInt Go.IntKind.i64.bits x).toNat &&& (BitVec.ofInt Go.IntKind.i64.bits 255).toNat ≤ 255 := Nat.le_trans Nat.and_le_right (by decide)
  rw [Go.IntKind.wrap_i64]
  omega
theorem l01Byte_some (l : List Int) (p s : Int) (hp : 0 ≤ p) (hl : l.length ≤ 4611686018427387904) : ∃ v q t, spec_l01Byte.f l p s = some (v, q, t) ∧ 0 ≤ v ∧ v ≤ 255 ∧ 0 ≤ q := by
  unfold spec_l01Byte.f
  by_cases h : p < (l.length : Int)
  · rw [if_pos h, if_pos hp]
    refine ⟨_, _, _, rfl, (and255 _).1, (and255 _).2, ?_⟩
    unfold wrap64; omega
  · rw [if_neg h]
    exact ⟨_, _, _, rfl, (and255 _).1, (and255 _).2, hp⟩
theorem l01Below_some (l : List Int) (p s a : Int) (hp : 0 ≤ p) (hl : l.length ≤ 4611686018427387904) (ha : 1 ≤ a) (ha2 : a ≤ 256) : ∃ v q t, spec_l01Below.f l p s a = some (v, q, t) ∧ 0 ≤ v ∧ v < a ∧ 0 ≤ q := by
  unfold spec_l01Below.f
  obtain ⟨v, q, t, h1, h2, h3, h4⟩ := l01Byte_some l p s hp hl
  rw [if_neg (by omega), if_pos ha2, h1, Option.bind_some, if_neg (by omega)]
  refine ⟨_, _, _, rfl, Int.tmod_nonneg _ h2, Int.tmod_lt_of_pos _ (by omega), h4⟩
theorem spec_l01New_ev (l : List Int) (hl : l.length ≤ 4611686018427387904) : ∃ s, Ev (fun k => spec_l01New.f k l) (l, 0, s) := by
  have key : ∀ (d i : Nat) (s : Int), i + d = l.length → ∃ s', Ev (fun k => spec_l01New.l0 k l s i) (l, 0, s') := by
    intro d
    induction d with
    | zero =>
      intro i s hi
      refine ⟨s, Ev.step (fun k => by rw [spec_l01New.l0, if_neg (by omega)]) ?_⟩
      exact Ev.now _
    | succ d ih =>
      intro i s hi
      by_cases h : (i : Int) < 4000
      · obtain ⟨s', hs⟩ := ih (i + 1) _ (by omega)
        refine ⟨s', Ev.step (fun k => by rw [spec_l01New.l0, if_pos (by omega), if_pos h, if_pos (by omega), wrap_succ (show i < l.length by omega) hl]) hs⟩
      · refine ⟨s, Ev.step (fun k => by rw [spec_l01New.l0, if_pos (by omega), if_neg h]) ?_⟩
        exact Ev.now _
  exact key l.length 0 _ (by omega)

theorem l01Below_big (l : List Int) (p s a : Int) (hp : 0 ≤ p) (hl : l.length ≤ 4611686018427387904) (ha : 256 < a) (ha2 : a ≤ 1000000) : ∃ v q t, spec_l01Below.f l p s a = some (v, q, t) ∧ 0 ≤ v ∧ v < a ∧ 0 ≤ q := by
  unfold spec_l01Below.f
  obtain ⟨v1, q1, t1, h1, a1, b1, c1⟩ := l01Byte_some l p s hp hl
  obtain ⟨v2, q2, t2, h2, a2, b2, c2⟩ := l01Byte_some l q1 t1 c1 hl
  obtain ⟨v3, q3, t3, h3, a3, b3, c3⟩ := l01Byte_some l q2 t2 c2 hl
  obtain ⟨v4, q4, t4, h4, a4, b4, c4⟩ := l01Byte_some l q3 t3 c3 hl
  rw [if_neg (by omega), if_neg (by omega)]
  simp only [h1, h2, h3, h4, Option.bind_some]
  rw [if_neg (by omega)]
  have w1 : wrap64 (v1 * 16777216) = v1 * 16777216 := by unfold wrap64; omega
  have w2 : wrap64 (v2 * 65536) = v2 * 65536 := by unfold wrap64; omega
  have w3 : wrap64 (v3 * 256) = v3 * 256 := by unfold wrap64; omega
  have w4 : wrap64 (v1 * 16777216 + v2 * 65536) = v1 * 16777216 + v2 * 65536 := by unfold wrap64; omega
  have w5 : wrap64 (v1 * 16777216 + v2 * 65536 + v3 * 256) = v1 * 16777216 + v2 * 65536 + v3 * 256 := by unfold wrap64; omega
  have w6 : wrap64 (v1 * 16777216 + v2 * 65536 + v3 * 256 + v4) = v1 * 16777216 + v2 * 65536 + v3 * 256 + v4 := by unfold wrap64; omega
  rw [w1, w2, w3, w4, w5, w6]
  exact ⟨_, _, _, rfl, Int.tmod_nonneg _ (by omega), Int.tmod_lt_of_pos _ (by omega), c4⟩
theorem spec_DrawPlaces_ev (l : List Int) (hl : l.length ≤ 4611686018427387904) : ∃ p, Ev (fun k => spec_DrawPlaces.f k l) p ∧ p.length = 12 ∧ ∀ x ∈ p, 0 ≤ x ∧ x < 10000 := by
  obtain ⟨s, hs⟩ := spec_l01New_ev l hl
  obtain ⟨v, q, t, h1, _, _, hq⟩ := l01Byte_some l 0 s (by omega) hl
  have key : ∀ (d i : Nat) (acc : List Int) (q t : Int), i + d = 12 → acc.length = i → (∀ x ∈ acc, 0 ≤ x ∧ x < 10000) → 0 ≤ q → ∃ p, Ev (fun k => spec_DrawPlaces.l0 k acc i l q t) p ∧ p.length = 12 ∧ ∀ x ∈ p, 0 ≤ x ∧ x < 10000 := by
    intro d
    induction d with
    | zero =>
      intro i acc q t hi ha hx hq
      refine ⟨acc, Ev.step (fun k => by rw [spec_DrawPlaces.l0, if_neg (by omega)]) (Ev.now _), by omega, hx⟩
    | succ d ih =>
      intro i acc q t hi ha hx hq
      obtain ⟨v, q2, t2, g1, g2, g3, g4⟩ := l01Below_big l q t 10000 hq hl (by omega) (by omega)
      obtain ⟨p, hp, h2, h3⟩ := ih (i + 1) (acc ++ [v]) q2 t2 (by omega) (by simp; omega) (fun x hx2 => by
        rcases List.mem_append.mp hx2 with h | h
        · exact hx x h
        · simp only [List.mem_singleton] at h; omega) g4
      refine ⟨p, Ev.step (fun k => by rw [spec_DrawPlaces.l0, if_pos (by omega), g1, Option.bind_some, if_pos (by omega), wrap_succ (show i < 12 by omega) (by omega)]) hp, h2, h3⟩
  obtain ⟨p, hp, h2, h3⟩ := key 12 0 [] q t (by omega) rfl (by simp) hq
  refine ⟨p, ?_, h2, h3⟩
  simp only [spec_DrawPlaces.f]
  refine Ev.bind hs ?_
  simp only [h1, Option.bind_some]
  exact hp
theorem spec_l01Text_ev (l : List Int) (p s : Int) (n : Int) (hp : 0 ≤ p) (hl : l.length ≤ 4611686018427387904) (hn : n ≤ 5000) : ∃ t q u, Ev (fun k => spec_l01Text.f k l p s n) (t, q, u) ∧ t.size ≤ 5000 ∧ 0 ≤ q := by
  have key : ∀ (d i : Nat) (acc : List Int) (q u : Int), (n.toNat - i) = d → i ≤ 5000 → acc.length = i → 0 ≤ q → ∃ t q' u', Ev (fun k => spec_l01Text.l0 k n acc i l q u) (t, q', u') ∧ t.size ≤ 5000 ∧ 0 ≤ q' := by
    intro d
    induction d with
    | zero =>
      intro i acc q u hi hi2 ha hq
      refine ⟨strOfNums acc, q, u, Ev.step (fun k => by rw [spec_l01Text.l0, if_neg (by omega)]) (Ev.now _), by rw [str_size]; omega, hq⟩
    | succ d ih =>
      intro i acc q u hi hi2 ha hq
      obtain ⟨v, q2, u2, g1, _, _, g4⟩ := l01Byte_some l q u hq hl
      obtain ⟨t, q', u', h1, h2, h3⟩ := ih (i + 1) (acc ++ [v % 256]) q2 u2 (by omega) (by omega) (by simp; omega) g4
      refine ⟨t, q', u', Ev.step (fun k => by rw [spec_l01Text.l0, if_pos (by omega), g1, Option.bind_some, if_pos (by omega), wrap_succ (show i < 5000 by omega) (by omega)]) h1, h2, h3⟩
  obtain ⟨t, q, u, h1, h2, h3⟩ := key n.toNat 0 [] p s (by omega) (by omega) rfl hp
  refine ⟨t, q, u, ?_, h2, h3⟩
  simp only [spec_l01Text.f, if_neg (show ¬ n > 5000 by omega)]
  refine Ev.step (fun k => by rw [spec_l01Text.j0]) ?_
  exact h1
theorem impl_in_eq (a b c : Int) : impl_in.f a b c = some (decide (b ≤ a ∧ a ≤ c)) := by
  unfold impl_in.f
  by_cases h : a ≥ b
  · have h' : b ≤ a := h
    simp [h']
  · have h' : ¬ b ≤ a := h
    simp [h']

/-! is a number in a row? -/
theorem mem_range_getD {l : List Int} {v : Int} : (∀ i, i < l.length → (!decide (l.getD i 0 = v)) = true) ↔ v ∉ l := by
  constructor
  · intro h hv
    obtain ⟨i, hi, rfl⟩ := List.mem_iff_getElem.1 hv
    have := h i hi
    simp [List.getD_eq_getElem?_getD, List.getElem?_eq_getElem hi] at this
  · intro h i hi
    simp only [Bool.not_eq_true', decide_eq_false_iff_not]
    intro he
    apply h
    rw [← he]
    simp [List.getD_eq_getElem?_getD, List.getElem?_eq_getElem hi]
theorem all_not_mem (l : List Int) (v : Int) : (if (List.range l.length).all (fun i => !decide (l.getD i 0 = v)) then false else true) = decide (v ∈ l) := by
  by_cases h : v ∈ l
  · have : ¬ (List.range l.length).all (fun i => !decide (l.getD i 0 = v)) = true := by
      rw [List.all_eq_true]
      intro hh
      exact mem_range_getD.1 (fun i hi => hh i (List.mem_range.2 hi)) h
    rw [if_neg this, decide_eq_true h]
  · have : (List.range l.length).all (fun i => !decide (l.getD i 0 = v)) = true := by
      rw [List.all_eq_true]
      intro i hi
      exact mem_range_getD.2 h i (List.mem_range.1 hi)
    rw [if_pos this, decide_eq_false h]

/-! disks that are right -/
def nameLess (a b : ByteArray) : Bool := Op.bytesLess a.toList b.toList
def fileOk (l : List S94) (i : Nat) : Bool :=
  decide ((1 ≤ ((l.getD i z94).f0.size : Int) ∧ ((l.getD i z94).f0.size : Int) ≤ 8)) && (!decide (((l.getD i z94).f1.size : Int) > 20000)) && decide (0 ≤ (l.getD i z94).f2 ∧ (l.getD i z94).f2 ≤ ((l.getD i z94).f1.size : Int)) && (decide (i = 0) || nameLess (l.getD (i - 1) z94).f0 (l.getD i z94).f0)
def diskOk (l : List S94) : Bool := (List.range l.length).all (fileOk l) && decide ((l.length : Int) ≤ 30)
theorem impl_DiskOk_ev (l : List S94) (hl : l.length ≤ 4611686018427387904) : Ev (fun k => impl_DiskOk.f k l) (diskOk l) := by
  simp only [impl_DiskOk.f, diskOk]
  have := Ev.allloop (L := fun k i => impl_DiskOk.l0 k l l.length i l) (n := l.length) (fileOk l) false (decide ((l.length : Int) ≤ 30)) ?_ ?_ ?_
  · have e : ((List.range l.length).all (fileOk l) && decide ((l.length : Int) ≤ 30)) = if (List.range l.length).all (fileOk l) = true then decide ((l.length : Int) ≤ 30) else false := by
      cases (List.range l.length).all (fileOk l) <;> rfl
    rw [e]; exact this
  · intro i r hi hp h
    simp only [fileOk, Bool.and_eq_true, Bool.or_eq_true, Bool.not_eq_true', decide_eq_true_eq, decide_eq_false_iff_not] at hp
    refine Ev.step (fun k => by rw [impl_DiskOk.l0, if_pos (by omega), if_pos (by omega), if_pos (by omega)]) ?_
    simp only [rd_T94, Int.toNat_natCast]
    simp only [impl_in_eq, Option.bind_some]
    simp only [decide_eq_true hp.1.1.1, if_true, if_neg hp.1.1.2, impl_in_eq, Option.bind_some, decide_eq_true hp.1.2, wrap_succ hi hl]
    by_cases hz : (i : Int) > 0
    · have e : wrap64 ((i : Int) - 1) = ((i - 1 : Nat) : Int) := by unfold wrap64; omega
      have hq : nameLess (l.getD (i - 1) z94).f0 (l.getD i z94).f0 = true := by
        rcases hp.2 with h0 | h0
        · omega
        · exact h0
      unfold nameLess at hq
      simp only [if_pos hz, e, if_pos (show (0 : Int) ≤ ((i - 1 : Nat) : Int) by omega), if_pos (show ((i - 1 : Nat) : Int) < (l.length : Int) by omega), Int.toNat_natCast, if_pos hq]
      exact h
    · simp only [if_neg hz]
      exact h
  · intro i hi hp
    refine Ev.step (fun k => by rw [impl_DiskOk.l0, if_pos (by omega), if_pos (by omega), if_pos (by omega)]) ?_
    simp only [rd_T94, Int.toNat_natCast]
    simp only [impl_in_eq, Option.bind_some]
    by_cases c1 : (1 ≤ ((l.getD i z94).f0.size : Int) ∧ ((l.getD i z94).f0.size : Int) ≤ 8)
    · simp only [decide_eq_true c1, if_true]
      by_cases c2 : ((l.getD i z94).f1.size : Int) > 20000
      · simp only [if_pos c2]; exact Ev.now _
      · simp only [if_neg c2]
        by_cases c3 : 0 ≤ (l.getD i z94).f2 ∧ (l.getD i z94).f2 ≤ ((l.getD i z94).f1.size : Int)
        · simp only [decide_eq_true c3, if_true]
          simp only [fileOk, decide_eq_true c1, decide_eq_false c2, decide_eq_true c3, Bool.true_and, Bool.not_false, Bool.or_eq_false_iff] at hp
          have hz : (i : Int) > 0 := by have := of_decide_eq_false hp.1; omega
          have e : wrap64 ((i : Int) - 1) = ((i - 1 : Nat) : Int) := by unfold wrap64; omega
          have hq := hp.2
          unfold nameLess at hq
          simp only [if_pos hz, e, if_pos (show (0 : Int) ≤ ((i - 1 : Nat) : Int) by omega), if_pos (show ((i - 1 : Nat) : Int) < (l.length : Int) by omega), Int.toNat_natCast, hq, Bool.false_eq_true, if_false]
          exact Ev.now _
        · simp only [decide_eq_false c3, Bool.false_eq_true, if_false]; exact Ev.now _
    · simp only [decide_eq_false c1, Bool.false_eq_true, if_false]; exact Ev.now _
  · refine Ev.step (fun k => by rw [impl_DiskOk.l0, if_neg (by omega)]) ?_
    exact Ev.now _

def keptAt (l : List S94) (i : Nat) : Bool := decide ((l.getD i z94).f2 = ((l.getD i z94).f1.size : Int))
def allKept (l : List S94) : Bool := (List.range l.length).all (keptAt l) && diskOk l
theorem diskOk_kept {l : List S94} (h : diskOk l = true) {i : Nat} (hi : i < l.length) : (l.getD i z94).f2 ≤ ((l.getD i z94).f1.size : Int) := by
  simp only [diskOk, Bool.and_eq_true, List.all_eq_true, List.mem_range] at h
  have := h.1 i hi
  simp only [fileOk, Bool.and_eq_true, decide_eq_true_eq] at this
  omega
theorem impl_AllKept_ev (l : List S94) (hl : l.length ≤ 4611686018427387904) : Ev (fun k => impl_AllKept.f k l) (allKept l) := by
  simp only [impl_AllKept.f, allKept]
  have := Ev.allloop (L := fun k i => impl_AllKept.l0 k l l.length i l) (n := l.length) (keptAt l) false (diskOk l) ?_ ?_ ?_
  · have e : ((List.range l.length).all (keptAt l) && diskOk l) = if (List.range l.length).all (keptAt l) = true then diskOk l else false := by
      cases (List.range l.length).all (keptAt l) <;> rfl
    rw [e]; exact this
  · intro i r hi hp h
    simp only [keptAt, decide_eq_true_eq] at hp
    refine Ev.step (fun k => by rw [impl_AllKept.l0, if_pos (by omega), if_pos (by omega), if_pos (by omega), rd_T94, Int.toNat_natCast, if_pos hp, wrap_succ hi hl]) ?_
    exact h
  · intro i hi hp
    simp only [keptAt, decide_eq_false_iff_not] at hp
    refine Ev.step (fun k => by rw [impl_AllKept.l0, if_pos (by omega), if_pos (by omega), if_pos (by omega), rd_T94, Int.toNat_natCast, if_neg hp]) ?_
    exact Ev.now _
  · refine Ev.step (fun k => by rw [impl_AllKept.l0, if_neg (by omega)]) ?_
    exact Ev.bind (impl_DiskOk_ev l hl) (Ev.now _)

/-- A loop that turns every element of a row, each by what it was. -/
theorem Ev.modloop {β γ : Type} {L : Nat → List γ → Int → Option β} (l : List γ) (z : γ) (g : Nat → γ → γ) (fin : List γ → β)
    (hstep : ∀ (i : Nat) x r, i < l.length → x.length = l.length → x.getD i z = l.getD i z → Ev (fun k => L k (x.set i (g i (l.getD i z))) ((i + 1 : Nat) : Int)) r → Ev (fun k => L k x i) r)
    (hend : ∀ x, x.length = l.length → Ev (fun k => L k x l.length) (fin x)) : Ev (fun k => L k l 0) (fin ((List.range l.length).map (fun i => g i (l.getD i z)))) := by
  have key := Ev.loopR (L := L) (n := l.length) (fun _ _ => fin ((List.range l.length).map (fun i => g i (l.getD i z)))) (fun i x => x.length = l.length ∧ (∀ j, j < i → x[j]? = some (g j (l.getD j z))) ∧ ∀ j, i ≤ j → x[j]? = l[j]?) (by
    intro i x hi hx
    right
    refine ⟨x.set i (g i (l.getD i z)), ⟨by rw [List.length_set]; exact hx.1, fun j hj => ?_, fun j hj => ?_⟩, rfl, fun r hr => hstep i x r hi hx.1 ?_ hr⟩
    · by_cases hji : j = i
      · subst hji
        rw [List.getElem?_set_self (by omega)]
      · rw [List.getElem?_set_ne (by omega)]
        exact hx.2.1 j (by omega)
    · rw [List.getElem?_set_ne (by omega)]
      exact hx.2.2 j (by omega)
    · rw [List.getD_eq_getElem?_getD, List.getD_eq_getElem?_getD, hx.2.2 i (by omega)]) (by
    intro x hx
    have hxe : x = (List.range l.length).map (fun i => g i (l.getD i z)) := by
      apply List.ext_getElem?
      intro j
      by_cases hj : j < l.length
      · rw [hx.2.1 j hj]; simp [hj]
      · rw [List.getElem?_eq_none (by omega), List.getElem?_eq_none (by simp; omega)]
    rw [← hxe]
    exact hend x hx.1)
  exact key l.length 0 _ (by omega) ⟨rfl, fun j hj => by omega, fun j _ => rfl⟩
theorem getD_set_self' {α : Type} {l : List α} {i : Nat} {v d : α} (h : i < l.length) : (l.set i v).getD i d = v := by
  rw [List.getD_eq_getElem?_getD, List.getElem?_set_self h]; rfl

/-! a disk when the power goes -/
def lostN (f : S94) (n : Int) : Int := max (min (max n 0) (f.f1.size : Int)) f.f2
def lostF (f : S94) (n : Int) : S94 := ⟨f.f0, f.f1.extract 0 (lostN f n).toNat, lostN f n⟩
def leftAt (left : List Int) (i : Nat) : Int := if i < left.length then left.getD i 0 else 0
def lostL (l : List S94) (left : List Int) : List S94 := (List.range l.length).map (fun i => lostF (l.getD i z94) (leftAt left i))
def loseP (l : List S94) (left : List Int) : List S94 × Bool := if diskOk l = true then (lostL l left, true) else ([], false)
theorem lostL_len (l : List S94) (left : List Int) : (lostL l left).length = l.length := by simp [lostL]
theorem diskOk_len {l : List S94} (h : diskOk l = true) : l.length ≤ 30 := by
  simp only [diskOk, Bool.and_eq_true, decide_eq_true_eq] at h
  omega
theorem loseP_len (l : List S94) (left : List Int) : (loseP l left).1.length ≤ 30 := by
  unfold loseP
  by_cases h : diskOk l = true
  · rw [if_pos h, lostL_len]; exact diskOk_len h
  · rw [if_neg h]; simp
theorem diskOk_keptAt {l : List S94} (h : diskOk l = true) {i : Nat} (hi : i < l.length) : 0 ≤ (l.getD i z94).f2 ∧ (l.getD i z94).f2 ≤ ((l.getD i z94).f1.size : Int) := by
  simp only [diskOk, Bool.and_eq_true, List.all_eq_true, List.mem_range] at h
  have := h.1 i hi
  simp only [fileOk, Bool.and_eq_true, decide_eq_true_eq] at this
  exact this.1.2
theorem lostN_range {f : S94} (h0 : 0 ≤ f.f2) (h1 : f.f2 ≤ (f.f1.size : Int)) (n : Int) : 0 ≤ lostN f n ∧ lostN f n ≤ (f.f1.size : Int) ∧ f.f2 ≤ lostN f n := by
  unfold lostN; omega
theorem extract_size (s : ByteArray) {n : Int} (h0 : 0 ≤ n) (h1 : n ≤ (s.size : Int)) : ((s.extract 0 n.toNat).size : Int) = n := by
  rw [ByteArray.size_extract]; omega
theorem impl_copyDisk_eq (l : List S94) (hl : l.length ≤ 1048576) : impl_copyDisk.f l = some l := by
  simp only [impl_copyDisk.f, List.length_nil, Nat.zero_add, List.nil_append, if_pos (show l.length < 3518437208883 by omega)]
theorem impl_LoseDisk_ev (l : List S94) (left : List Int) (hl : l.length ≤ 1048576) : Ev (fun k => impl_LoseDisk.f k l left) (loseP l left) := by
  simp only [impl_LoseDisk.f]
  refine Ev.bind (impl_DiskOk_ev l (by omega)) ?_
  unfold loseP
  by_cases h : diskOk l = true
  · simp only [if_pos h, impl_copyDisk_eq l hl, Option.bind_some]
    refine Ev.modloop (L := fun k x i => impl_LoseDisk.l0 k left l.length i x) l z94 (fun i f => lostF f (leftAt left i)) (fun x => (x, true)) ?_ ?_
    · intro i x r hi hx hxi hr
      obtain ⟨k0, k1⟩ := diskOk_keptAt h hi
      obtain ⟨f, hf⟩ : ∃ f, f = l.getD i z94 := ⟨_, rfl⟩
      rw [← hf] at k0 k1 hr hxi
      have hrd : rd_T94 x (i : Int) = f := by rw [rd_T94, Int.toNat_natCast, hxi]
      obtain ⟨q0, q1, q2⟩ := lostN_range k0 k1 (leftAt left i)
      have fin : ∀ m : Int, m = lostN f (leftAt left i) → Ev (fun k => if 0 ≤ m then (if m ≤ (f.f1.size : Int) then ((some (x.set (i : Int).toNat (⟨f.f0, f.f1.extract 0 m.toNat, f.f2⟩ : S94) : List (S94))).bind fun y => (impl_LoseDisk.l0 k left (l.length : Int) ((i + 1 : Nat) : Int) (y.set (i : Int).toNat (⟨(rd_T94 y i).f0, (rd_T94 y i).f1, (((rd_T94 y i).f1).size : Int)⟩ : S94)))) else none) else none) r := by
        intro m hm
        subst hm
        simp only [if_pos q0, if_pos q1, Option.bind_some, rd_T94, Int.toNat_natCast, List.set_set, getD_set_self' (show i < x.length by omega), extract_size _ q0 q1]
        exact hr
      by_cases c : (i : Int) < (left.length : Int)
      · refine Ev.step (fun k => by rw [impl_LoseDisk.l0, if_pos (by omega), if_pos (by omega), if_pos (by omega), if_pos c, hrd, wrap_succ hi (by omega)]) ?_
        refine fin _ ?_
        unfold lostN leftAt mx mn rd
        rw [if_pos (show i < left.length by omega), Int.toNat_natCast]
        repeat' split
        all_goals omega
      · refine Ev.step (fun k => by rw [impl_LoseDisk.l0, if_pos (by omega), if_pos (by omega), if_pos (by omega), if_neg c, hrd, wrap_succ hi (by omega)]) ?_
        refine fin _ ?_
        unfold lostN leftAt mx
        rw [if_neg (show ¬ i < left.length by omega)]
        split
        all_goals omega
    · intro x hx
      refine Ev.step (fun k => by rw [impl_LoseDisk.l0, if_neg (by omega)]) ?_
      exact Ev.now _
  · simp only [if_neg h]; exact Ev.now _

/-! names in order -/
theorem less_irrefl : ∀ x : List UInt8, Op.bytesLess x x = false
  | [] => rfl
  | a :: x => by
    have := less_irrefl x
    simp [Op.bytesLess, this, UInt8.lt_irrefl]
theorem less_trans : ∀ {x y z : List UInt8}, Op.bytesLess x y = true → Op.bytesLess y z = true → Op.bytesLess x z = true
  | [], [], _, h, _ => by simp [Op.bytesLess] at h
  | [], _ :: _, [], _, h => by simp [Op.bytesLess] at h
  | [], _ :: _, _ :: _, _, _ => by simp [Op.bytesLess]
  | _ :: _, [], _, h, _ => by simp [Op.bytesLess] at h
  | _ :: _, _ :: _, [], _, h => by simp [Op.bytesLess] at h
  | a :: x, b :: y, c :: z, h1, h2 => by
    simp only [Op.bytesLess, Bool.or_eq_true, Bool.and_eq_true, decide_eq_true_eq, beq_iff_eq] at h1 h2 ⊢
    rcases h1 with h1 | ⟨rfl, h1⟩
    · rcases h2 with h2 | ⟨rfl, h2⟩
      · exact Or.inl (UInt8.lt_trans h1 h2)
      · exact Or.inl h1
    · rcases h2 with h2 | ⟨rfl, h2⟩
      · exact Or.inl h2
      · exact Or.inr ⟨rfl, less_trans h1 h2⟩
theorem less_total : ∀ {x y : List UInt8}, Op.bytesLess x y = false → x ≠ y → Op.bytesLess y x = true
  | [], [], _, h => absurd rfl h
  | [], _ :: _, h, _ => by simp [Op.bytesLess] at h
  | _ :: _, [], _, _ => by simp [Op.bytesLess]
  | a :: x, b :: y, h, hne => by
    simp only [Op.bytesLess, Bool.or_eq_false_iff, Bool.and_eq_false_iff, decide_eq_false_iff_not, beq_eq_false_iff_ne] at h
    simp only [Op.bytesLess, Bool.or_eq_true, Bool.and_eq_true, decide_eq_true_eq, beq_iff_eq]
    by_cases e : a = b
    · subst e
      refine Or.inr ⟨rfl, less_total ?_ (fun e => hne (by rw [e]))⟩
      rcases h.2 with h2 | h2
      · exact absurd rfl h2
      · exact h2
    · refine Or.inl ?_
      have h1 := h.1
      rcases Nat.lt_trichotomy a.toNat b.toNat with h3 | h3 | h3
      · exact absurd h3 h1
      · exact absurd (UInt8.toNat.inj h3) e
      · exact h3

/-! a file is put into its place -/
theorem flat_le {α : Type} {g : Nat → List α} (h : ∀ i, (g i).length ≤ 1) : ∀ i, ((List.range i).flatMap g).length ≤ i
  | 0 => by simp
  | i + 1 => by
    rw [List.range_succ, List.flatMap_append, List.length_append]
    have := flat_le h i
    have := h i
    simp only [List.flatMap_cons, List.flatMap_nil, List.append_nil]
    omega
theorem flatMap_filter {α : Type} (p : α → Bool) : ∀ l : List α, l.flatMap (fun x => if p x = true then [x] else []) = l.filter p
  | [] => rfl
  | a :: l => by
    rw [List.flatMap_cons, flatMap_filter p l]
    by_cases h : p a = true
    · rw [if_pos h, List.filter_cons_of_pos h]; rfl
    · rw [if_neg h, List.filter_cons_of_neg h]; rfl
def putL (l : List S94) (f : S94) : List S94 := l.filter (fun e => nameLess e.f0 f.f0) ++ [f] ++ l.filter (fun e => !(nameLess e.f0 f.f0 || (e.f0.toList == f.f0.toList)))
theorem spec_l03Put_ev (l : List S94) (f : S94) (hl : l.length ≤ 1048576) : Ev (fun k => spec_l03Put.f k l f.f0 f.f1 f.f2) (putL l f) := by
  simp only [spec_l03Put.f]
  have h := Ev.apploop (L := fun k x i => spec_l03Put.l0 k i l f.f0 f.f1 f.f2 x) (n := l.length) (fun i => if nameLess (l.getD i z94).f0 f.f0 = true then [l.getD i z94] else []) (fun x => x ++ [f] ++ l.filter (fun e => !(nameLess e.f0 f.f0 || (e.f0.toList == f.f0.toList)))) [] ?_ ?_
  · have e := range_flatMap_getD l z94 (fun x : S94 => if nameLess x.f0 f.f0 = true then [x] else [])
    rw [flatMap_filter (fun x : S94 => nameLess x.f0 f.f0)] at e
    rw [e, List.nil_append] at h
    exact h
  · intro i x r hi hx hr
    have hxl : x.length ≤ i := by
      rw [hx, List.nil_append]
      exact flat_le (fun j => by split <;> simp) i
    by_cases c : nameLess (l.getD i z94).f0 f.f0 = true
    · simp only [if_pos c] at hr
      unfold nameLess at c
      refine Ev.step (fun k => by rw [spec_l03Put.l0, if_pos (by omega), if_pos (by omega), rd_T94, Int.toNat_natCast, if_pos c, if_pos (by omega), wrap_succ hi (by omega)]) ?_
      exact hr
    · simp only [if_neg c, List.append_nil] at hr
      unfold nameLess at c
      refine Ev.step (fun k => by rw [spec_l03Put.l0, if_pos (by omega), if_pos (by omega), rd_T94, Int.toNat_natCast, if_neg c, wrap_succ hi (by omega)]) ?_
      exact hr
  · intro x hx
    have hxl : x.length ≤ l.length := by
      rw [hx, List.nil_append]
      exact flat_le (fun j => by split <;> simp) _
    refine Ev.step (fun k => by rw [spec_l03Put.l0, if_neg (by omega), if_pos (by omega)]) ?_
    have h2 := Ev.apploop (L := fun k y i => spec_l03Put.l1 k i l f.f0 f.f1 f.f2 y) (n := l.length) (fun i => if (!(nameLess (l.getD i z94).f0 f.f0 || ((l.getD i z94).f0.toList == f.f0.toList))) = true then [l.getD i z94] else []) (fun y => y) (x ++ [f]) ?_ ?_
    · have e := range_flatMap_getD l z94 (fun x : S94 => if (!(nameLess x.f0 f.f0 || (x.f0.toList == f.f0.toList))) = true then [x] else [])
      rw [flatMap_filter (fun x : S94 => !(nameLess x.f0 f.f0 || (x.f0.toList == f.f0.toList)))] at e
      rw [e] at h2
      exact h2
    · intro i y r hi hy hr
      have hyl : y.length ≤ l.length + 1 + i := by
        rw [hy, List.length_append, List.length_append, List.length_singleton]
        have := flat_le (g := fun i => if (!(nameLess (l.getD i z94).f0 f.f0 || ((l.getD i z94).f0.toList == f.f0.toList))) = true then [l.getD i z94] else []) (fun j => by split <;> simp) i
        omega
      by_cases c : (nameLess (l.getD i z94).f0 f.f0 || ((l.getD i z94).f0.toList == f.f0.toList)) = true
      · simp only [c, Bool.not_true, Bool.false_eq_true, if_false, List.append_nil] at hr
        unfold nameLess at c
        refine Ev.step (fun k => by rw [spec_l03Put.l1, if_pos (by omega), if_pos (by omega), rd_T94, Int.toNat_natCast, if_pos c, wrap_succ hi (by omega)]) ?_
        exact hr
      · simp only [Bool.eq_false_iff.2 c, Bool.not_false, if_true] at hr
        unfold nameLess at c
        refine Ev.step (fun k => by rw [spec_l03Put.l1, if_pos (by omega), if_pos (by omega), rd_T94, Int.toNat_natCast, if_neg c, if_pos (by omega), wrap_succ hi (by omega)]) ?_
        exact hr
    · intro y hy
      refine Ev.step (fun k => by rw [spec_l03Put.l1, if_neg (by omega)]) ?_
      exact Ev.now _

/-! right disks as lists in order -/
def fileGood (f : S94) : Prop := 1 ≤ f.f0.size ∧ f.f0.size ≤ 8 ∧ f.f1.size ≤ 20000 ∧ 0 ≤ f.f2 ∧ f.f2 ≤ (f.f1.size : Int)
def diskGood (l : List S94) : Prop := l.Pairwise (fun a b => nameLess a.f0 b.f0 = true) ∧ ∀ e ∈ l, fileGood e
theorem diskOk_of {l : List S94} (h : diskGood l) (hl : l.length ≤ 30) : diskOk l = true := by
  simp only [diskOk, Bool.and_eq_true, List.all_eq_true, List.mem_range, decide_eq_true_eq]
  refine ⟨fun i hi => ?_, by omega⟩
  have hg : l.getD i z94 = l[i] := by simp [List.getD_eq_getElem?_getD, List.getElem?_eq_getElem hi]
  obtain ⟨k1, k2, k3, k4, k5⟩ := h.2 _ (List.getElem_mem hi)
  simp only [fileOk, Bool.and_eq_true, Bool.or_eq_true, Bool.not_eq_true', decide_eq_true_eq, decide_eq_false_iff_not, hg]
  refine ⟨⟨⟨⟨by omega, by omega⟩, by omega⟩, k4, k5⟩, ?_⟩
  by_cases c : i = 0
  · exact Or.inl c
  · have hg2 : l.getD (i - 1) z94 = l[i - 1] := by simp [List.getD_eq_getElem?_getD, List.getElem?_eq_getElem (show i - 1 < l.length by omega)]
    rw [hg2]
    exact Or.inr (List.pairwise_iff_getElem.1 h.1 (i - 1) i (by omega) hi (by omega))
theorem diskGood_of {l : List S94} (h : diskOk l = true) : diskGood l := by
  have hl := h
  simp only [diskOk, Bool.and_eq_true, List.all_eq_true, List.mem_range] at hl
  have at_ : ∀ i (hi : i < l.length), l.getD i z94 = l[i] := fun i hi => by simp [List.getD_eq_getElem?_getD, List.getElem?_eq_getElem hi]
  have file : ∀ i (hi : i < l.length), fileGood l[i] ∧ (i = 0 ∨ nameLess (l.getD (i - 1) z94).f0 l[i].f0 = true) := fun i hi => by
    have := hl.1 i hi
    simp only [fileOk, Bool.and_eq_true, Bool.or_eq_true, Bool.not_eq_true', decide_eq_true_eq, decide_eq_false_iff_not, at_ i hi] at this
    exact ⟨⟨by omega, by omega, by omega, this.1.2.1, this.1.2.2⟩, this.2⟩
  refine ⟨?_, fun e he => ?_⟩
  · rw [List.pairwise_iff_getElem]
    have key : ∀ (d i : Nat) (hi : i < l.length) (hj : i + d + 1 < l.length), nameLess l[i].f0 l[i + d + 1].f0 = true := by
      intro d
      induction d with
      | zero =>
        intro i hi hj
        rcases (file (i + 0 + 1) hj).2 with h0 | h0
        · omega
        · rw [show i + 0 + 1 - 1 = i by omega, at_ i hi] at h0; exact h0
      | succ d ih =>
        intro i hi hj
        have h1 := ih i hi (by omega)
        rcases (file (i + (d + 1) + 1) hj).2 with h0 | h0
        · omega
        · rw [show i + (d + 1) + 1 - 1 = i + d + 1 by omega, at_ (i + d + 1) (by omega)] at h0
          exact less_trans h1 h0
    intro i j hi hj hij
    have := key (j - i - 1) i hi (by omega)
    simpa [show i + (j - i - 1) + 1 = j by omega] using this
  · obtain ⟨i, hi, rfl⟩ := List.mem_iff_getElem.1 he
    exact (file i hi).1
theorem putL_good {l : List S94} {f : S94} (h : diskGood l) (hf : fileGood f) : diskGood (putL l f) := by
  constructor
  · unfold putL
    rw [List.append_assoc, List.pairwise_append]
    refine ⟨h.1.filter _, ?_, fun a ha b hb => ?_⟩
    · rw [List.singleton_append, List.pairwise_cons]
      refine ⟨fun b hb => ?_, h.1.filter _⟩
      simp only [List.mem_filter, Bool.not_eq_true', Bool.or_eq_false_iff, beq_eq_false_iff_ne] at hb
      exact less_total hb.2.1 hb.2.2
    · simp only [List.mem_filter] at ha
      rcases List.mem_append.1 hb with hb | hb
      · rw [List.mem_singleton.1 hb]; exact ha.2
      · simp only [List.mem_filter, Bool.not_eq_true', Bool.or_eq_false_iff, beq_eq_false_iff_ne] at hb
        exact less_trans ha.2 (less_total hb.2.1 hb.2.2)
  · intro e he
    unfold putL at he
    simp only [List.mem_append, List.mem_filter, List.mem_singleton] at he
    rcases he with (he | rfl) | he
    · exact h.2 e he.1
    · exact hf
    · exact h.2 e he.1
theorem putL_len (l : List S94) (f : S94) : (putL l f).length ≤ l.length + 1 := by
  unfold putL
  have e : l.filter (fun e => !(nameLess e.f0 f.f0 || (e.f0.toList == f.f0.toList))) = (l.filter (fun e => !nameLess e.f0 f.f0)).filter (fun e => !(e.f0.toList == f.f0.toList)) := by
    rw [List.filter_filter]
    congr 1
    funext x
    cases nameLess x.f0 f.f0 <;> cases (x.f0.toList == f.f0.toList) <;> rfl
  rw [List.length_append, List.length_append, List.length_singleton, e]
  have h1 := List.length_filter_le (fun e => !(e.f0.toList == f.f0.toList)) (l.filter (fun e => !nameLess e.f0 f.f0))
  have h2 : (l.filter (fun e => nameLess e.f0 f.f0)).length + (l.filter (fun e => !nameLess e.f0 f.f0)).length = l.length := by
    clear h1 e
    induction l with
    | nil => rfl
    | cons a l ih =>
      by_cases c : nameLess a.f0 f.f0 = true
      · rw [List.filter_cons_of_pos (p := fun e : S94 => nameLess e.f0 f.f0) c, List.filter_cons_of_neg (p := fun e : S94 => !nameLess e.f0 f.f0) (by simp [c])]
        simp only [List.length_cons]; omega
      · rw [List.filter_cons_of_neg (p := fun e : S94 => nameLess e.f0 f.f0) c, List.filter_cons_of_pos (p := fun e : S94 => !nameLess e.f0 f.f0) (by simp [c])]
        simp only [List.length_cons]; omega
  omega

/-! drawn disks -/
theorem l01Below_any (l : List Int) (p s a : Int) (hp : 0 ≤ p) (hl : l.length ≤ 4611686018427387904) (ha : 1 ≤ a) (ha2 : a ≤ 1000000) : ∃ v q t, spec_l01Below.f l p s a = some (v, q, t) ∧ 0 ≤ v ∧ v < a ∧ 0 ≤ q := by
  by_cases h : a ≤ 256
  · exact l01Below_some l p s a hp hl ha h
  · exact l01Below_big l p s a hp hl (by omega) ha2
def names8 : List ByteArray := [(⟨#[97]⟩ : ByteArray), (⟨#[98]⟩ : ByteArray), (⟨#[99]⟩ : ByteArray), (⟨#[108, 111, 103]⟩ : ByteArray), (⟨#[108, 111, 103, 43]⟩ : ByteArray), (⟨#[120]⟩ : ByteArray), (⟨#[121]⟩ : ByteArray), (⟨#[122]⟩ : ByteArray)]
theorem names8_size : ∀ m : Fin 8, 1 ≤ (names8.getD m.val ByteArray.empty).size ∧ (names8.getD m.val ByteArray.empty).size ≤ 8 := by decide
theorem spec_l03Named_some (l : List Int) (p s : Int) (hp : 0 ≤ p) (hl : l.length ≤ 4611686018427387904) : ∃ v q t, spec_l03Named.f l p s = some (v, q, t) ∧ 1 ≤ v.size ∧ v.size ≤ 8 ∧ 0 ≤ q := by
  obtain ⟨v, q, t, h1, h2, h3, h4⟩ := l01Below_some l p s 8 hp hl (by omega) (by omega)
  have hz := names8_size ⟨v.toNat, by omega⟩
  have hl8 : (names8.length : Int) = 8 := rfl
  refine ⟨rdOf ByteArray.empty names8 v, q, t, ?_, hz.1, hz.2, h4⟩
  have : spec_l01Pick.f l p s names8 = some (rdOf ByteArray.empty names8 v, q, t) := by
    simp only [spec_l01Pick.f, hl8, h1, Option.bind_some, if_pos h2, if_pos h3]
  show ((spec_l01Pick.f l p s names8).bind fun bt179 => (some (bt179.1, bt179.2.1, bt179.2.2))) = _
  rw [this]
  rfl
theorem nil_good : diskGood [] := ⟨List.Pairwise.nil, fun e he => by cases he⟩

theorem spec_DrawRightDisk_ev (l : List Int) (hl : l.length ≤ 4611686018427387904) : ∃ d, Ev (fun k => spec_DrawRightDisk.f k l) d ∧ diskGood d ∧ d.length ≤ 6 := by
  obtain ⟨s, hs⟩ := spec_l01New_ev l hl
  have key : ∀ (m i : Nat) (p t : Int) (d : List S94), i + m = 6 → 0 ≤ p → diskGood d → d.length ≤ i → ∃ d', Ev (fun k => spec_DrawRightDisk.l0 k i l p t d) d' ∧ diskGood d' ∧ d'.length ≤ 6 := by
    intro m
    induction m with
    | zero =>
      intro i p t d hi hp hd hdl
      obtain ⟨v, q, u, h1, h2, h3, h4⟩ := l01Below_some l p t 6 hp hl (by omega) (by omega)
      refine ⟨d, Ev.step (fun k => by rw [spec_DrawRightDisk.l0, h1, Option.bind_some, if_neg (by omega)]) (Ev.now _), hd, by omega⟩
    | succ m ih =>
      intro i p t d hi hp hd hdl
      obtain ⟨v, q, u, h1, h2, h3, h4⟩ := l01Below_some l p t 6 hp hl (by omega) (by omega)
      by_cases c : (i : Int) < v
      · obtain ⟨v2, q2, u2, g1, g2, g3, g4⟩ := l01Below_some l q u 30 h4 hl (by omega) (by omega)
        obtain ⟨x, q3, u3, k1, k2, k3⟩ := spec_l01Text_ev l q2 u2 v2 g4 hl (by omega)
        obtain ⟨nm, q4, u4, n1, n2, n3, n4⟩ := spec_l03Named_some l q3 u3 k3 hl
        obtain ⟨v5, q5, u5, m1, m2, m3, m4⟩ := l01Below_any l q4 u4 ((x.size : Int) + 1) n4 hl (by omega) (by omega)
        have hgood := putL_good hd (f := ⟨nm, x, v5⟩) ⟨n2, n3, by show x.size ≤ 20000; omega, m2, by show v5 ≤ (x.size : Int); omega⟩
        have hpl := putL_len d ⟨nm, x, v5⟩
        obtain ⟨d', e1, e2, e3⟩ := ih (i + 1) q5 u5 (putL d ⟨nm, x, v5⟩) (by omega) m4 hgood (by omega)
        refine ⟨d', Ev.step (fun k => by rw [spec_DrawRightDisk.l0, h1, Option.bind_some, if_pos c, g1, Option.bind_some]) ?_, e2, e3⟩
        refine Ev.bind k1 ?_
        simp only [n1, Option.bind_some, show wrap64 ((x.size : Int) + 1) = (x.size : Int) + 1 by unfold wrap64; omega, m1]
        refine Ev.bind (spec_l03Put_ev d ⟨nm, x, v5⟩ (by omega)) ?_
        rw [wrap_succ (show i < 6 by omega) (by omega)]
        exact e1
      · refine ⟨d, Ev.step (fun k => by rw [spec_DrawRightDisk.l0, h1, Option.bind_some, if_neg c]) (Ev.now _), hd, by omega⟩
  obtain ⟨d, h1, h2, h3⟩ := key 6 0 0 s [] (by omega) (by omega) nil_good (by simp)
  refine ⟨d, ?_, h2, h3⟩
  simp only [spec_DrawRightDisk.f]
  exact Ev.bind hs h1

/-! what is left of a right disk is right, and wholly kept -/
theorem lostL_get {l : List S94} {left : List Int} {i : Nat} (hi : i < l.length) : (lostL l left).getD i z94 = lostF (l.getD i z94) (leftAt left i) := by
  simp [lostL, List.getD_eq_getElem?_getD, List.getElem?_map, List.getElem?_range hi]
theorem lostL_good {l : List S94} (h : diskOk l = true) (left : List Int) : diskOk (lostL l left) = true := by
  simp only [diskOk, Bool.and_eq_true, List.all_eq_true, List.mem_range, lostL_len] at h ⊢
  refine ⟨fun i hi => ?_, h.2⟩
  have hk := h.1 i hi
  simp only [fileOk, Bool.and_eq_true, Bool.or_eq_true, Bool.not_eq_true', decide_eq_true_eq, decide_eq_false_iff_not] at hk ⊢
  obtain ⟨q0, q1, q2⟩ := lostN_range hk.1.2.1 hk.1.2.2 (leftAt left i)
  have hx := extract_size (l.getD i z94).f1 q0 q1
  rw [lostL_get hi]
  refine ⟨⟨⟨hk.1.1.1, by show ¬ (((l.getD i z94).f1.extract 0 (lostN (l.getD i z94) (leftAt left i)).toNat).size : Int) > 20000; omega⟩, q0, by show lostN _ _ ≤ ((((l.getD i z94).f1.extract 0 (lostN (l.getD i z94) (leftAt left i)).toNat).size : Nat) : Int); omega⟩, ?_⟩
  rcases hk.2 with h0 | h0
  · exact Or.inl h0
  · by_cases c : i = 0
    · exact Or.inl c
    · refine Or.inr ?_
      rw [lostL_get (show i - 1 < l.length by omega)]
      exact h0
theorem lost_kept {l : List S94} (h : diskOk l = true) (left : List Int) {i : Nat} (hi : i < l.length) : ((lostL l left).getD i z94).f2 = (((lostL l left).getD i z94).f1.size : Int) := by
  obtain ⟨k0, k1⟩ := diskOk_keptAt h hi
  obtain ⟨q0, q1, q2⟩ := lostN_range k0 k1 (leftAt left i)
  rw [lostL_get hi]
  exact (extract_size _ q0 q1).symm
theorem lost_allKept {l : List S94} (h : diskOk l = true) (left : List Int) : allKept (lostL l left) = true := by
  simp only [allKept, Bool.and_eq_true, List.all_eq_true, List.mem_range, lostL_len]
  refine ⟨fun i hi => ?_, lostL_good h left⟩
  simp only [keptAt, decide_eq_true_eq]
  exact lost_kept h left hi
theorem lost_twice {l : List S94} (h : allKept l = true) (left : List Int) : lostL l left = l := by
  simp only [allKept, Bool.and_eq_true, List.all_eq_true, List.mem_range, keptAt, decide_eq_true_eq] at h
  apply List.ext_getElem
  · exact lostL_len l left
  · intro i h1 h2
    have hk := h.1 i h2
    have hg : l.getD i z94 = l[i] := by simp [List.getD_eq_getElem?_getD, List.getElem?_eq_getElem h2]
    have hg2 := lostL_get (left := left) h2
    rw [List.getD_eq_getElem?_getD, List.getElem?_eq_getElem h1, Option.getD_some, hg] at hg2
    rw [hg2]
    rw [hg] at hk
    have e : lostN l[i] (leftAt left i) = (l[i].f1.size : Int) := by unfold lostN; omega
    unfold lostF
    rw [e, Int.toNat_natCast, show l[i].f1.extract 0 l[i].f1.size = l[i].f1 by simp, ← hk]

theorem laws_sameDisk_refl (l : List S94) (hl : l.length ≤ 1048576) : Ev (fun k => laws_sameDisk.f k l l) true := by
  simp only [laws_sameDisk.f, if_true]
  have := Ev.allloop (L := fun k i => laws_sameDisk.l0 k i l l) (n := l.length) (fun _ => true) false true (by
    intro i r hi _ h
    refine Ev.step (fun k => by rw [laws_sameDisk.l0, if_pos (by omega), if_pos (by omega), if_pos (by omega), if_neg (by simp), wrap_succ hi (by omega)]) ?_
    exact h) (by intro i _ h; cases h) (by
    refine Ev.step (fun k => by rw [laws_sameDisk.l0, if_neg (by omega)]) ?_
    exact Ev.now _)
  simpa using this
theorem laws_lefts_ev (p : List Int) (hp : 6 ≤ p.length) : ∃ r, Ev (fun k => laws_lefts.f k p) r := by
  have key : ∀ (d i : Nat) (acc : List Int), i + d = 6 → acc.length = i → ∃ r, Ev (fun k => laws_lefts.l0 k p acc i) r := by
    intro d
    induction d with
    | zero =>
      intro i acc hi ha
      exact ⟨acc, Ev.step (fun k => by rw [laws_lefts.l0, if_neg (by omega)]) (Ev.now _)⟩
    | succ d ih =>
      intro i acc hi ha
      obtain ⟨r, hr⟩ := ih (i + 1) (acc ++ [Int.tmod (rd p (i : Int)) 300]) (by omega) (by simp; omega)
      exact ⟨r, Ev.step (fun k => by rw [laws_lefts.l0, if_pos (by omega), if_pos (by omega), if_pos (by omega), if_pos (by omega), wrap_succ (show i < 6 by omega) (by omega)]) hr⟩
  exact key 6 0 [] (by omega) rfl
theorem laws_begins_cut (s : ByteArray) {m : Nat} (h : m ≤ s.size) : laws_begins.f (s.extract 0 m) s = some true := by
  have e : (s.extract 0 m).size = m := by rw [ByteArray.size_extract]; omega
  simp only [laws_begins.f, e, if_pos (show (m : Int) ≤ (s.size : Int) by omega), if_pos (show (0 : Int) ≤ (m : Int) by omega), Int.toNat_natCast, beq_self_eq_true]
theorem extract_extract0 (s : ByteArray) {m n : Nat} (h : m ≤ n) : (s.extract 0 n).extract 0 m = s.extract 0 m := by
  apply bytesOf_inj
  simp only [bytesOf_extract, List.drop_zero, Nat.sub_zero, List.take_take]
  rw [Nat.min_eq_left h]
theorem keeps_l0_ev {l : List S94} (h : diskOk l = true) (left : List Int) : Ev (fun k => laws_FnKeeps.l0 k 0 l (lostL l left)) true := by
  have hl := diskOk_len h
  have := Ev.allloop (L := fun k i => laws_FnKeeps.l0 k i l (lostL l left)) (n := l.length) (fun _ => true) false true (by
    intro i r hi _ hr
    obtain ⟨k0, k1⟩ := diskOk_keptAt h hi
    obtain ⟨q0, q1, q2⟩ := lostN_range k0 k1 (leftAt left i)
    have hg := lostL_get (left := left) hi
    obtain ⟨f, hf⟩ : ∃ f, f = l.getD i z94 := ⟨_, rfl⟩
    rw [← hf] at k0 k1 q0 q1 q2 hg
    have e1 : rd_T94 l (i : Int) = f := by rw [rd_T94, Int.toNat_natCast, ← hf]
    have e2 : rd_T94 (lostL l left) (i : Int) = lostF f (leftAt left i) := by rw [rd_T94, Int.toNat_natCast, hg]
    refine Ev.step (fun k => by rw [laws_FnKeeps.l0, if_pos (by omega), if_pos (by omega), if_pos (by rw [lostL_len]; omega), e1, e2, if_pos (show (lostF f (leftAt left i)).f0.toList = f.f0.toList from rfl)]) ?_
    have b1 : laws_begins.f (lostF f (leftAt left i)).f1 f.f1 = some true := laws_begins_cut f.f1 (by omega)
    have b2 : laws_begins.f (f.f1.extract 0 f.f2.toNat) (lostF f (leftAt left i)).f1 = some true := by
      have e3 : (lostF f (leftAt left i)).f1.extract 0 f.f2.toNat = f.f1.extract 0 f.f2.toNat := extract_extract0 f.f1 (by omega)
      rw [← e3]
      exact laws_begins_cut _ (by show f.f2.toNat ≤ (f.f1.extract 0 (lostN f (leftAt left i)).toNat).size; rw [ByteArray.size_extract]; omega)
    simp only [b1, b2, Option.bind_some, if_true, if_pos k0, if_pos k1, wrap_succ hi (show l.length ≤ 4611686018427387904 by omega)]
    exact hr) (by intro i _ h; cases h) (by
    refine Ev.step (fun k => by rw [laws_FnKeeps.l0, if_neg (by omega)]) ?_
    exact Ev.now _)
  simpa using this
theorem FnKeeps : laws_FnKeeps.Pure := by
  intro l hl hl2 hw
  refine Ev.rounds (g := fun k => laws_FnKeeps.f k l) ?_
  simp only [laws_FnKeeps.f, laws_big.f, Option.bind_some]
  by_cases hb : (l.length : Int) > 1048576
  · simp only [decide_eq_true hb, if_true]; exact Ev.now _
  · simp only [decide_eq_false hb, Bool.false_eq_true, if_false]
    obtain ⟨d, hd, hg, hdl⟩ := spec_DrawRightDisk_ev l (by omega)
    obtain ⟨p, hp, hpl, _⟩ := spec_DrawPlaces_ev l (by omega)
    obtain ⟨left, hleft⟩ := laws_lefts_ev p (by omega)
    have hok := diskOk_of hg (by omega)
    have hL := lostL_len d left
    refine Ev.bind hd ?_
    refine Ev.bind hp ?_
    refine Ev.bind hleft ?_
    have h1 := impl_LoseDisk_ev d left (by omega)
    have e1 : loseP d left = (lostL d left, true) := by unfold loseP; rw [if_pos hok]
    rw [e1] at h1
    refine Ev.bind h1 ?_
    have h2 := impl_LoseDisk_ev (lostL d left) [] (by omega)
    have e2 : loseP (lostL d left) [] = (lostL d left, true) := by unfold loseP; rw [if_pos (lostL_good hok left), lost_twice (lost_allKept hok left)]
    rw [e2] at h2
    refine Ev.bind h2 ?_
    simp only [if_true, if_pos (show ((lostL d left).length : Int) = (d.length : Int) by omega)]
    refine Ev.bind (laws_sameDisk_refl _ (by omega)) ?_
    simp only [if_true]
    have h3 := impl_AllKept_ev (lostL d left) (by omega)
    rw [lost_allKept hok left] at h3
    refine Ev.bind h3 ?_
    simp only [if_true]
    have h4 := impl_DiskOk_ev d (by omega)
    rw [hok] at h4
    refine Ev.bind h4 ?_
    refine Ev.step (fun k => by rw [laws_FnKeeps.j0, if_neg (by simp)]) ?_
    exact keeps_l0_ev hok left

end Go.Proofs.Ytmjblanhgekhpaa.Pure
