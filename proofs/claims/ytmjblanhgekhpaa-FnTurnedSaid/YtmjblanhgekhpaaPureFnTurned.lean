/- Of every drawn text: it is Unsealed as it was sealed; with one byte another it is not; SumMore goes on. No condition is laid beside the statement. -/
import Derived.Test.YtmjblanhgekhpaaHFnTurned
import Derived.Test.YtmjblanhgekhpaaQFnTurnedx2
import Derived.Laws.BitsLemmas
import Derived.Lib.Bytes
import Derived.OpenShut
namespace Go.Proofs.Ytmjblanhgekhpaa.Pure
open Go.RowKit Go.Proofs.Ytmjblanhgekhpaa.QFnTurned Go.Proofs.YtmjblanhgekhpaaW.PrintWords Go.Proofs.YtmjblanhgekhpaaW.PrintLast
set_option linter.unusedVariables false
set_option linter.unusedSimpArgs false


theorem wrap_id {i : Int} (h0 : -9223372036854775808 ≤ i) (h1 : i ≤ 9223372036854775807) : wrap64 i = i := by unfold wrap64; omega
theorem toList_eq {a b : ByteArray} (h : a = b) : a.toList = b.toList := by rw [h]

/-! loops in general -/
theorem wrap_succ {i n : Nat} (h : i < n) (hn : n ≤ 4611686018427387904) : wrap64 ((i : Int) + 1) = ((i + 1 : Nat) : Int) := by unfold wrap64; omega
theorem Ev.loopR {σ β : Type} {L : Nat → σ → Int → Option β} {n : Nat} (R : Nat → σ → β) (I : Nat → σ → Prop)
    (hstep : ∀ (i : Nat) s, i < n → I i s → Ev (fun k => L k s i) (R i s) ∨ ∃ s', I (i + 1) s' ∧ R i s = R (i + 1) s' ∧ ∀ r, Ev (fun k => L k s' ((i + 1 : Nat) : Int)) r → Ev (fun k => L k s i) r)
    (hend : ∀ s, I n s → Ev (fun k => L k s n) (R n s)) : ∀ (d i : Nat) (s : σ), i + d = n → I i s → Ev (fun k => L k s i) (R i s) := by
  intro d
  induction d with
  | zero =>
    intro i s hi hI
    have : i = n := by omega
    subst this
    exact hend s hI
  | succ d ih =>
    intro i s hi hI
    rcases hstep i s (by omega) hI with h | ⟨s', h1, h2, h3⟩
    · exact h
    · rw [h2]
      exact h3 _ (ih (i + 1) s' (by omega) h1)
/-- A loop that builds by appending. -/
theorem Ev.apploop {β γ : Type} {L : Nat → List γ → Int → Option β} {n : Nat} (g : Nat → List γ) (fin : List γ → β) (a0 : List γ)
    (hstep : ∀ (i : Nat) x r, i < n → x = a0 ++ (List.range i).flatMap g → Ev (fun k => L k (x ++ g i) ((i + 1 : Nat) : Int)) r → Ev (fun k => L k x i) r)
    (hend : ∀ x, x = a0 ++ (List.range n).flatMap g → Ev (fun k => L k x n) (fin x)) : Ev (fun k => L k a0 0) (fin (a0 ++ (List.range n).flatMap g)) := by
  have key := Ev.loopR (L := L) (n := n) (fun _ _ => fin (a0 ++ (List.range n).flatMap g)) (fun i x => x = a0 ++ (List.range i).flatMap g) (by
    intro i x hi hx
    right
    refine ⟨x ++ g i, by rw [hx, List.range_succ, List.flatMap_append]; simp, rfl, fun r hr => hstep i x r hi hx hr⟩) (by
    intro x hx
    have := hend x hx
    rw [hx] at this ⊢
    exact this)
  exact key n 0 a0 (by omega) (by simp)
/-- A loop that writes every element of a row. -/
theorem Ev.setloop' {β γ : Type} {L : Nat → List γ → Int → Option β} {n : Nat} (g : Nat → γ) (x0 : List γ) (h0 : x0.length = n) (fin : List γ → β)
    (hstep : ∀ (i : Nat) x r, i < n → x.length = n → Ev (fun k => L k (x.set i (g i)) ((i + 1 : Nat) : Int)) r → Ev (fun k => L k x i) r)
    (hend : ∀ x, x.length = n → Ev (fun k => L k x n) (fin x)) : Ev (fun k => L k x0 0) (fin ((List.range n).map g)) := by
  have key := Ev.loopR (L := L) (n := n) (fun _ _ => fin ((List.range n).map g)) (fun i x => x.length = n ∧ ∀ j, j < i → x[j]? = some (g j)) (by
    intro i x hi hx
    right
    refine ⟨x.set i (g i), ⟨by rw [List.length_set]; exact hx.1, fun j hj => ?_⟩, rfl, fun r hr => hstep i x r hi hx.1 hr⟩
    by_cases hji : j = i
    · subst hji
      rw [List.getElem?_set_self (by omega)]
    · rw [List.getElem?_set_ne (by omega)]
      exact hx.2 j (by omega)) (by
    intro x hx
    have hxe : x = (List.range n).map g := by
      apply List.ext_getElem?
      intro j
      by_cases hj : j < n
      · rw [hx.2 j hj]; simp [hj]
      · rw [List.getElem?_eq_none (by omega), List.getElem?_eq_none (by simp; omega)]
    rw [← hxe]
    exact hend x hx.1)
  exact key n 0 _ (by omega) ⟨h0, fun j hj => by omega⟩
/-- A loop that fills what was made. -/
theorem Ev.setloop {β γ : Type} {L : Nat → List γ → Int → Option β} {n : Nat} (g : Nat → γ) (z : γ) (fin : List γ → β)
    (hstep : ∀ (i : Nat) x r, i < n → x.length = n → Ev (fun k => L k (x.set i (g i)) ((i + 1 : Nat) : Int)) r → Ev (fun k => L k x i) r)
    (hend : ∀ x, x.length = n → Ev (fun k => L k x n) (fin x)) : Ev (fun k => L k (List.replicate n z) 0) (fin ((List.range n).map g)) :=
  Ev.setloop' g _ (by simp) fin hstep hend
/-- A loop that asks something of each index. -/
theorem Ev.allloop {β : Type} {L : Nat → Int → Option β} {n : Nat} (p : Nat → Bool) (c fin : β)
    (hstep : ∀ (i : Nat) r, i < n → p i = true → Ev (fun k => L k ((i + 1 : Nat) : Int)) r → Ev (fun k => L k i) r)
    (hno : ∀ (i : Nat), i < n → p i = false → Ev (fun k => L k i) c)
    (hend : Ev (fun k => L k n) fin) : Ev (fun k => L k 0) (if (List.range n).all p then fin else c) := by
  have key := Ev.loopR (σ := Unit) (L := fun k _ i => L k i) (n := n) (fun i _ => if (List.range' i (n - i)).all p then fin else c) (fun _ _ => True) (by
    intro i _ hi _
    have e : List.range' i (n - i) = i :: List.range' (i + 1) (n - (i + 1)) := by
      have : n - i = (n - (i + 1)) + 1 := by omega
      rw [this, List.range'_succ]
    cases hp : p i with
    | true => right; exact ⟨(), trivial, by rw [e, List.all_cons, hp, Bool.true_and], fun r hr => hstep i r hi hp hr⟩
    | false => left; rw [e, List.all_cons, hp, Bool.false_and]; exact hno i hi hp) (by
    intro _ _
    simpa using hend)
  have := key n 0 () (by omega) trivial
  rw [List.range_eq_range']
  simpa using this
theorem range_map_getD {α β : Type} (l : List α) (d : α) (h : α → β) : (List.range l.length).map (fun i => h (l.getD i d)) = l.map h := by
  apply List.ext_getElem
  · simp
  · intro i h1 h2
    simp at h1 h2
    simp [List.getD_eq_getElem?_getD, List.getElem?_eq_getElem h2]
theorem range_flatMap_getD {α β : Type} (l : List α) (d : α) (h : α → List β) : (List.range l.length).flatMap (fun i => h (l.getD i d)) = l.flatMap h := by
  have := congrArg List.flatten (range_map_getD l d h)
  rw [List.flatMap_def, List.flatMap_def]; exact this
theorem range_all_getD {α : Type} (l : List α) (d : α) (h : α → Bool) : (List.range l.length).all (fun i => h (l.getD i d)) = l.all h := by
  have := congrArg (fun l => l.all id) (range_map_getD l d h)
  simpa [List.all_map] using this
theorem flatMap_single {α β : Type} (l : List α) (g : α → β) : l.flatMap (fun x => [g x]) = l.map g := by
  induction l with
  | nil => rfl
  | cons a l ih => simp [ih]
/-- A loop that looks for the first index. -/
def findR {β : Type} (p : Nat → Bool) (c : Nat → β) (fin : β) : Nat → Nat → β
  | 0, _ => fin
  | d + 1, i => if p i then c i else findR p c fin d (i + 1)
theorem Ev.findloop {β : Type} {L : Nat → Int → Option β} {n : Nat} (p : Nat → Bool) (c : Nat → β) (fin : β)
    (hstep : ∀ (i : Nat) r, i < n → p i = false → Ev (fun k => L k ((i + 1 : Nat) : Int)) r → Ev (fun k => L k i) r)
    (hhit : ∀ (i : Nat), i < n → p i = true → Ev (fun k => L k i) (c i))
    (hend : Ev (fun k => L k n) fin) : Ev (fun k => L k 0) (findR p c fin n 0) := by
  have key := Ev.loopR (σ := Unit) (L := fun k _ i => L k i) (n := n) (fun i _ => findR p c fin (n - i) i) (fun _ _ => True) (by
    intro i _ hi _
    have e : findR p c fin (n - i) i = if p i then c i else findR p c fin (n - (i + 1)) (i + 1) := by
      have : n - i = (n - (i + 1)) + 1 := by omega
      rw [this, findR]
    cases hp : p i with
    | false => right; exact ⟨(), trivial, by rw [e, hp]; rfl, fun r hr => hstep i r hi hp hr⟩
    | true => left; rw [e, hp]; exact hhit i hi hp) (by
    intro _ _
    simpa [findR] using hend)
  have := key n 0 () (by omega) trivial
  simpa using this

/-! strings as numbers -/
theorem toList_data' (s : ByteArray) : s.toList = s.data.toList := Go.Lib.toList_data s
theorem str_ext {a b : ByteArray} (h : a.toList = b.toList) : a = b := by
  rw [toList_data', toList_data'] at h
  cases a; cases b
  simp at h
  rw [h]
theorem toList_iff {a b : ByteArray} : a.toList = b.toList ↔ a = b := ⟨str_ext, fun h => by rw [h]⟩
def Byt (l : List Int) : Prop := ∀ x ∈ l, 0 ≤ x ∧ x < 256
theorem bytesOf_byt (s : ByteArray) : Byt (bytesOf s) := by
  intro x hx
  unfold bytesOf at hx
  simp at hx
  obtain ⟨b, _, rfl⟩ := hx
  have := b.toNat_lt
  omega
theorem bytesOf_str {l : List Int} (h : Byt l) : bytesOf (strOfNums l) = l := by
  unfold bytesOf strOfNums
  simp
  apply List.ext_getElem
  · simp
  · intro i h1 h2
    have := h l[i] (List.getElem_mem h2)
    simp
    omega
theorem str_bytesOf (s : ByteArray) : strOfNums (bytesOf s) = s := by
  unfold bytesOf strOfNums
  cases s with
  | mk d =>
    simp
    apply Array.ext'
    simp
    apply List.ext_getElem
    · simp
    · intro i h1 h2
      simp
theorem bytesOf_inj {a b : ByteArray} (h : bytesOf a = bytesOf b) : a = b := by rw [← str_bytesOf a, h, str_bytesOf]
theorem bytesOf_append (a b : ByteArray) : bytesOf (a ++ b) = bytesOf a ++ bytesOf b := by
  unfold bytesOf
  simp [ByteArray.data_append]
theorem bytesOf_extract (s : ByteArray) (a b : Nat) : bytesOf (s.extract a b) = ((bytesOf s).drop a).take (b - a) := by
  unfold bytesOf
  simp [ByteArray.data_extract, List.map_take, List.map_drop]
theorem bt_get (s : ByteArray) (i : Int) : bt s i = (bytesOf s).getD i.toNat 0 := (rd_bytesOf s i).symm
theorem str_size (l : List Int) : (strOfNums l).size = l.length := by
  show (strOfNums l).data.size = _
  unfold strOfNums
  simp

/-! draws -/
theorem and255 (x : Int) : 0 ≤ Go.bits .and .i64 x 255 ∧ Go.bits .and .i64 x 255 ≤ 255 := by
  simp only [Go.bits, BitVec.toNat_and]
  have h : (BitVec.ofInt Go.IntKind.i64.bits x).toNat &&& (BitVec.ofInt Go.IntKind.i64.bits 255).toNat ≤ 255 := Nat.le_trans Nat.and_le_right (by decide)
  rw [Go.IntKind.wrap_i64]
  omega
theorem l01Byte_some (l : List Int) (p s : Int) (hp : 0 ≤ p) (hl : l.length ≤ 4611686018427387904) : ∃ v q t, spec_l01Byte.f l p s = some (v, q, t) ∧ 0 ≤ v ∧ v ≤ 255 ∧ 0 ≤ q := by
  unfold spec_l01Byte.f
  by_cases h : p < (l.length : Int)
  · rw [if_pos h, if_pos hp]
    refine ⟨_, _, _, rfl, (and255 _).1, (and255 _).2, ?_⟩
    unfold wrap64; omega
  · rw [if_neg h]
    exact ⟨_, _, _, rfl, (and255 _).1, (and255 _).2, hp⟩
theorem l01Below_some (l : List Int) (p s a : Int) (hp : 0 ≤ p) (hl : l.length ≤ 4611686018427387904) (ha : 1 ≤ a) (ha2 : a ≤ 256) : ∃ v q t, spec_l01Below.f l p s a = some (v, q, t) ∧ 0 ≤ v ∧ v < a ∧ 0 ≤ q := by
  unfold spec_l01Below.f
  obtain ⟨v, q, t, h1, h2, h3, h4⟩ := l01Byte_some l p s hp hl
  rw [if_neg (by omega), if_pos ha2, h1, Option.bind_some, if_neg (by omega)]
  refine ⟨_, _, _, rfl, Int.tmod_nonneg _ h2, Int.tmod_lt_of_pos _ (by omega), h4⟩
theorem spec_l01New_ev (l : List Int) (hl : l.length ≤ 4611686018427387904) : ∃ s, Ev (fun k => spec_l01New.f k l) (l, 0, s) := by
  have key : ∀ (d i : Nat) (s : Int), i + d = l.length → ∃ s', Ev (fun k => spec_l01New.l0 k l s i) (l, 0, s') := by
    intro d
    induction d with
    | zero =>
      intro i s hi
      refine ⟨s, Ev.step (fun k => by rw [spec_l01New.l0, if_neg (by omega)]) ?_⟩
      exact Ev.now _
    | succ d ih =>
      intro i s hi
      by_cases h : (i : Int) < 4000
      · obtain ⟨s', hs⟩ := ih (i + 1) _ (by omega)
        refine ⟨s', Ev.step (fun k => by rw [spec_l01New.l0, if_pos (by omega), if_pos h, if_pos (by omega), wrap_succ (show i < l.length by omega) hl]) hs⟩
      · refine ⟨s, Ev.step (fun k => by rw [spec_l01New.l0, if_pos (by omega), if_neg h]) ?_⟩
        exact Ev.now _
  exact key l.length 0 _ (by omega)

theorem l01Below_big (l : List Int) (p s a : Int) (hp : 0 ≤ p) (hl : l.length ≤ 4611686018427387904) (ha : 256 < a) (ha2 : a ≤ 1000000) : ∃ v q t, spec_l01Below.f l p s a = some (v, q, t) ∧ 0 ≤ v ∧ v < a ∧ 0 ≤ q := by
  unfold spec_l01Below.f
  obtain ⟨v1, q1, t1, h1, a1, b1, c1⟩ := l01Byte_some l p s hp hl
  obtain ⟨v2, q2, t2, h2, a2, b2, c2⟩ := l01Byte_some l q1 t1 c1 hl
  obtain ⟨v3, q3, t3, h3, a3, b3, c3⟩ := l01Byte_some l q2 t2 c2 hl
  obtain ⟨v4, q4, t4, h4, a4, b4, c4⟩ := l01Byte_some l q3 t3 c3 hl
  rw [if_neg (by omega), if_neg (by omega)]
  simp only [h1, h2, h3, h4, Option.bind_some]
  rw [if_neg (by omega)]
  have w1 : wrap64 (v1 * 16777216) = v1 * 16777216 := by unfold wrap64; omega
  have w2 : wrap64 (v2 * 65536) = v2 * 65536 := by unfold wrap64; omega
  have w3 : wrap64 (v3 * 256) = v3 * 256 := by unfold wrap64; omega
  have w4 : wrap64 (v1 * 16777216 + v2 * 65536) = v1 * 16777216 + v2 * 65536 := by unfold wrap64; omega
  have w5 : wrap64 (v1 * 16777216 + v2 * 65536 + v3 * 256) = v1 * 16777216 + v2 * 65536 + v3 * 256 := by unfold wrap64; omega
  have w6 : wrap64 (v1 * 16777216 + v2 * 65536 + v3 * 256 + v4) = v1 * 16777216 + v2 * 65536 + v3 * 256 + v4 := by unfold wrap64; omega
  rw [w1, w2, w3, w4, w5, w6]
  exact ⟨_, _, _, rfl, Int.tmod_nonneg _ (by omega), Int.tmod_lt_of_pos _ (by omega), c4⟩
theorem spec_DrawPlaces_ev (l : List Int) (hl : l.length ≤ 4611686018427387904) : ∃ p, Ev (fun k => spec_DrawPlaces.f k l) p ∧ p.length = 12 ∧ ∀ x ∈ p, 0 ≤ x ∧ x < 10000 := by
  obtain ⟨s, hs⟩ := spec_l01New_ev l hl
  obtain ⟨v, q, t, h1, _, _, hq⟩ := l01Byte_some l 0 s (by omega) hl
  have key : ∀ (d i : Nat) (acc : List Int) (q t : Int), i + d = 12 → acc.length = i → (∀ x ∈ acc, 0 ≤ x ∧ x < 10000) → 0 ≤ q → ∃ p, Ev (fun k => spec_DrawPlaces.l0 k acc i l q t) p ∧ p.length = 12 ∧ ∀ x ∈ p, 0 ≤ x ∧ x < 10000 := by
    intro d
    induction d with
    | zero =>
      intro i acc q t hi ha hx hq
      refine ⟨acc, Ev.step (fun k => by rw [spec_DrawPlaces.l0, if_neg (by omega)]) (Ev.now _), by omega, hx⟩
    | succ d ih =>
      intro i acc q t hi ha hx hq
      obtain ⟨v, q2, t2, g1, g2, g3, g4⟩ := l01Below_big l q t 10000 hq hl (by omega) (by omega)
      obtain ⟨p, hp, h2, h3⟩ := ih (i + 1) (acc ++ [v]) q2 t2 (by omega) (by simp; omega) (fun x hx2 => by
        rcases List.mem_append.mp hx2 with h | h
        · exact hx x h
        · simp only [List.mem_singleton] at h; omega) g4
      refine ⟨p, Ev.step (fun k => by rw [spec_DrawPlaces.l0, if_pos (by omega), g1, Option.bind_some, if_pos (by omega), wrap_succ (show i < 12 by omega) (by omega)]) hp, h2, h3⟩
  obtain ⟨p, hp, h2, h3⟩ := key 12 0 [] q t (by omega) rfl (by simp) hq
  refine ⟨p, ?_, h2, h3⟩
  simp only [spec_DrawPlaces.f]
  refine Ev.bind hs ?_
  simp only [h1, Option.bind_some]
  exact hp
theorem spec_l01Text_ev (l : List Int) (p s : Int) (n : Int) (hp : 0 ≤ p) (hl : l.length ≤ 4611686018427387904) (hn : n ≤ 5000) : ∃ t q u, Ev (fun k => spec_l01Text.f k l p s n) (t, q, u) ∧ t.size ≤ 5000 ∧ 0 ≤ q := by
  have key : ∀ (d i : Nat) (acc : List Int) (q u : Int), (n.toNat - i) = d → i ≤ 5000 → acc.length = i → 0 ≤ q → ∃ t q' u', Ev (fun k => spec_l01Text.l0 k n acc i l q u) (t, q', u') ∧ t.size ≤ 5000 ∧ 0 ≤ q' := by
    intro d
    induction d with
    | zero =>
      intro i acc q u hi hi2 ha hq
      refine ⟨strOfNums acc, q, u, Ev.step (fun k => by rw [spec_l01Text.l0, if_neg (by omega)]) (Ev.now _), by rw [str_size]; omega, hq⟩
    | succ d ih =>
      intro i acc q u hi hi2 ha hq
      obtain ⟨v, q2, u2, g1, _, _, g4⟩ := l01Byte_some l q u hq hl
      obtain ⟨t, q', u', h1, h2, h3⟩ := ih (i + 1) (acc ++ [v % 256]) q2 u2 (by omega) (by omega) (by simp; omega) g4
      refine ⟨t, q', u', Ev.step (fun k => by rw [spec_l01Text.l0, if_pos (by omega), g1, Option.bind_some, if_pos (by omega), wrap_succ (show i < 5000 by omega) (by omega)]) h1, h2, h3⟩
  obtain ⟨t, q, u, h1, h2, h3⟩ := key n.toNat 0 [] p s (by omega) (by omega) rfl hp
  refine ⟨t, q, u, ?_, h2, h3⟩
  simp only [spec_l01Text.f, if_neg (show ¬ n > 5000 by omega)]
  refine Ev.step (fun k => by rw [spec_l01Text.j0]) ?_
  exact h1
/-! sums -/
def stepS (x : Int) : Int := if x % 2 = 1 then Go.bits .xor .u32 (x / 2) 3558460437 else x / 2
def iterS : Nat → Int → Int
  | 0, x => x
  | d + 1, x => iterS d (stepS x)
def sumAt (s : ByteArray) : Nat → Int → Int → Int
  | 0, _, x => x
  | d + 1, i, x => sumAt s d (i + 1) (iterS 8 (Go.bits .xor .u32 x ((bt s i) % 4294967296)))
theorem xor_range (a b : Int) : 0 ≤ Go.bits .xor .u32 a b ∧ Go.bits .xor .u32 a b < 4294967296 := by
  simp only [Go.bits, Go.IntKind.wrap_u32]
  omega
theorem stepS_range {x : Int} (h0 : 0 ≤ x) (h1 : x < 4294967296) : 0 ≤ stepS x ∧ stepS x < 4294967296 := by
  unfold stepS
  split
  · exact xor_range _ _
  · omega
theorem iterS_range : ∀ (d : Nat) {x : Int}, 0 ≤ x → x < 4294967296 → 0 ≤ iterS d x ∧ iterS d x < 4294967296
  | 0, _, h0, h1 => ⟨h0, h1⟩
  | d + 1, _, h0, h1 => iterS_range d (stepS_range h0 h1).1 (stepS_range h0 h1).2
theorem sumAt_range (s : ByteArray) : ∀ (d : Nat) (i x : Int), 0 ≤ x → x < 4294967296 → 0 ≤ sumAt s d i x ∧ sumAt s d i x < 4294967296
  | 0, _, _, h0, h1 => ⟨h0, h1⟩
  | d + 1, _, _, _, _ => sumAt_range s d _ _ (iterS_range 8 (xor_range _ _).1 (xor_range _ _).2).1 (iterS_range 8 (xor_range _ _).1 (xor_range _ _).2).2
theorem and_one {x : Int} (h0 : 0 ≤ x) (h1 : x < 4294967296) : Go.bits .and .u32 x 1 = x % 2 := by
  have := Go.bits_mask .u32 32 (by decide) (fun n a b => by rw [Go.IntKind.wrap_u32]; omega) 1 (by decide) x h0 (by omega)
  simpa using this
theorem impl_l1_ev (s : ByteArray) (n i r : Int) : ∀ (d : Nat) (x j : Int), 0 ≤ x → x < 4294967296 → 0 ≤ j → 8 - j = d →
    Ev (fun k => impl_SumMore.l0 k (iterS d x) s n (wrap64 (i + 1))) r → Ev (fun k => impl_SumMore.l1 k x s n i j) r := by
  intro d
  induction d with
  | zero =>
    intro x j h0 h1 hj hd h
    refine Ev.step (fun k => by rw [impl_SumMore.l1, if_neg (by omega)]) ?_
    exact h
  | succ d ih =>
    intro x j h0 h1 hj hd h
    have e1 := and_one h0 h1
    have e3 : wrap64 (j + 1) = j + 1 := by unfold wrap64; omega
    have hr := stepS_range h0 h1
    have h' := ih (stepS x) (j + 1) hr.1 hr.2 (by omega) (by omega) h
    refine Ev.step (fun k => by rw [impl_SumMore.l1, if_pos (by omega), e1, e3]) ?_
    unfold stepS at h'
    by_cases c : x % 2 = 1
    · simp only [if_pos c] at h' ⊢; exact h'
    · simp only [if_neg c] at h' ⊢; exact h'
theorem impl_l0_ev (s : ByteArray) (hs : s.size ≤ 140737488351232) : ∀ (d : Nat) (x i : Int), 0 ≤ x → x < 4294967296 → 0 ≤ i → (s.size : Int) - i = d →
    Ev (fun k => impl_SumMore.l0 k x s s.size i) (sumAt s d i x) := by
  intro d
  induction d with
  | zero =>
    intro x i h0 h1 hi hd
    refine Ev.step (fun k => by rw [impl_SumMore.l0, if_neg (by omega)]) ?_
    exact Ev.now _
  | succ d ih =>
    intro x i h0 h1 hi hd
    have e3 : wrap64 (i + 1) = i + 1 := by unfold wrap64; omega
    have hx := xor_range x ((bt s i) % 4294967296)
    have hy := iterS_range 8 hx.1 hx.2
    refine Ev.step (fun k => by rw [impl_SumMore.l0, if_pos (by omega), if_pos hi, if_pos (by omega)]) ?_
    refine impl_l1_ev s _ i _ 8 _ 0 hx.1 hx.2 (by omega) (by omega) ?_
    rw [e3]
    exact ih _ _ hy.1 hy.2 (by omega) (by omega)
def sumMore (x : Int) (s : ByteArray) : Int := sumAt s s.size 0 x
theorem impl_SumMore_ev (x : Int) (s : ByteArray) (hs : s.size ≤ 140737488351232) (h0 : 0 ≤ x) (h1 : x < 4294967296) : Ev (fun k => impl_SumMore.f k x s) (sumMore x s) := by
  simp only [impl_SumMore.f]
  exact impl_l0_ev s hs s.size x 0 h0 h1 (by omega) (by omega)

/-! a changed byte changes the sum  -/
def stepN (n : Nat) : Nat := if n % 2 = 1 then (n / 2) ^^^ 3558460437 else n / 2
theorem half_bit {a : Nat} (h : a < 4294967296) : (a / 2).testBit 31 = false := Nat.testBit_lt_two_pow (by omega)
theorem stepN_inj {a b : Nat} (ha : a < 4294967296) (hb : b < 4294967296) (h : stepN a = stepN b) : a = b := by
  unfold stepN at h
  have pb : (3558460437 : Nat).testBit 31 = true := by decide
  by_cases ca : a % 2 = 1
  · rw [if_pos ca] at h
    by_cases cb : b % 2 = 1
    · rw [if_pos cb] at h
      have h2 := congrArg (· ^^^ 3558460437) h
      simp only [Nat.xor_assoc, Nat.xor_self, Nat.xor_zero] at h2
      omega
    · rw [if_neg cb] at h
      have h2 := congrArg (fun n => n.testBit 31) h
      simp only [Nat.testBit_xor, half_bit ha, half_bit hb, pb] at h2
      cases h2
  · rw [if_neg ca] at h
    by_cases cb : b % 2 = 1
    · rw [if_pos cb] at h
      have h2 := congrArg (fun n => n.testBit 31) h
      simp only [Nat.testBit_xor, half_bit ha, half_bit hb, pb] at h2
      cases h2
    · rw [if_neg cb] at h
      omega
theorem xor32 {a b : Nat} (ha : a < 4294967296) (hb : b < 4294967296) : Go.bits .xor .u32 (a : Int) (b : Int) = ((a ^^^ b : Nat) : Int) := by
  have ha' : a % 2 ^ 32 = a := Nat.mod_eq_of_lt ha
  have hb' : b % 2 ^ 32 = b := Nat.mod_eq_of_lt hb
  have hx : a ^^^ b < 2 ^ 32 := Nat.xor_lt_two_pow (n := 32) ha hb
  have h := Go.IntKind.wrap_u32 ((a ^^^ b : Nat) : Int)
  simp only [Go.bits, BitVec.ofInt_natCast, BitVec.toNat_xor, BitVec.toNat_ofNat]
  show Go.IntKind.u32.wrap (((a % 2 ^ 32) ^^^ (b % 2 ^ 32) : Nat) : Int) = _
  rw [ha', hb', h]
  omega
theorem xor8 {a b : Nat} (ha : a < 256) (hb : b < 256) : Go.bits .xor .u8 (a : Int) (b : Int) = ((a ^^^ b : Nat) : Int) := by
  have ha' : a % 2 ^ 8 = a := Nat.mod_eq_of_lt ha
  have hb' : b % 2 ^ 8 = b := Nat.mod_eq_of_lt hb
  have hx : a ^^^ b < 2 ^ 8 := Nat.xor_lt_two_pow (n := 8) ha hb
  have h := Go.IntKind.wrap_u8 ((a ^^^ b : Nat) : Int)
  simp only [Go.bits, BitVec.ofInt_natCast, BitVec.toNat_xor, BitVec.toNat_ofNat]
  show Go.IntKind.u8.wrap (((a % 2 ^ 8) ^^^ (b % 2 ^ 8) : Nat) : Int) = _
  rw [ha', hb', h]
  omega
theorem xor_ne {a c : Nat} (h : 0 < c) : a ^^^ c ≠ a := by
  intro e
  have h2 := congrArg (fun n => a ^^^ n) e
  simp only [← Nat.xor_assoc, Nat.xor_self, Nat.zero_xor] at h2
  omega

/-! the sum of a text tells a changed byte -/
theorem stepS_nat {n : Nat} (h : n < 4294967296) : stepS (n : Int) = ((stepN n : Nat) : Int) := by
  unfold stepS stepN
  by_cases c : n % 2 = 1
  · rw [if_pos (by omega), if_pos c]
    have e : (n : Int) / 2 = ((n / 2 : Nat) : Int) := by omega
    rw [e]
    exact xor32 (by omega) (by decide)
  · rw [if_neg (by omega), if_neg c]
    omega
theorem stepS_inj {x y : Int} (hx : 0 ≤ x ∧ x < 4294967296) (hy : 0 ≤ y ∧ y < 4294967296) (h : stepS x = stepS y) : x = y := by
  obtain ⟨a, rfl⟩ := Int.eq_ofNat_of_zero_le hx.1
  obtain ⟨b, rfl⟩ := Int.eq_ofNat_of_zero_le hy.1
  have ha : a < 4294967296 := by omega
  have hb : b < 4294967296 := by omega
  rw [stepS_nat ha, stepS_nat hb] at h
  have := stepN_inj ha hb (by omega)
  omega
theorem iterS_inj : ∀ (d : Nat) {x y : Int}, 0 ≤ x ∧ x < 4294967296 → 0 ≤ y ∧ y < 4294967296 → iterS d x = iterS d y → x = y
  | 0, _, _, _, _, h => h
  | d + 1, _, _, hx, hy, h => stepS_inj hx hy (iterS_inj d (stepS_range hx.1 hx.2) (stepS_range hy.1 hy.2) h)
theorem xor32_inj {x y b : Int} (hx : 0 ≤ x ∧ x < 4294967296) (hy : 0 ≤ y ∧ y < 4294967296) (hb : 0 ≤ b ∧ b < 4294967296) (h : Go.bits .xor .u32 x b = Go.bits .xor .u32 y b) : x = y := by
  obtain ⟨x, rfl⟩ := Int.eq_ofNat_of_zero_le hx.1
  obtain ⟨y, rfl⟩ := Int.eq_ofNat_of_zero_le hy.1
  obtain ⟨b, rfl⟩ := Int.eq_ofNat_of_zero_le hb.1
  rw [xor32 (by omega) (by omega), xor32 (by omega) (by omega)] at h
  have h2 := congrArg (fun n => n ^^^ b) (show x ^^^ b = y ^^^ b by omega)
  simp only [Nat.xor_assoc, Nat.xor_self, Nat.xor_zero] at h2
  omega

def sumOf (s : ByteArray) : Int := sumMore 4294967295 s
theorem sumOf_range (s : ByteArray) : 0 ≤ sumOf s ∧ sumOf s < 4294967296 := sumAt_range s s.size 0 _ (by omega) (by omega)
theorem impl_SumOf_ev (s : ByteArray) (hs : s.size ≤ 140737488351232) : Ev (fun k => impl_SumOf.f k s) (sumOf s) := by
  simp only [impl_SumOf.f]
  exact Ev.bind (impl_SumMore_ev _ s hs (by omega) (by omega)) (Ev.now _)

def fourL (n : Int) : List Int := [(n / 16777216) % 256, (n / 65536) % 256, (n / 256) % 256, n % 256]
def sealedS (s : ByteArray) : ByteArray := s ++ strOfNums (fourL (sumOf s))
def sealedP (s : ByteArray) : ByteArray × Bool := if (s.size : Int) > 20000 then ((⟨#[]⟩ : ByteArray), false) else (sealedS s, true)
theorem impl_Sealed_ev (s : ByteArray) (hs : s.size ≤ 140737488351232) : Ev (fun k => impl_Sealed.f k s) (sealedP s) := by
  simp only [impl_Sealed.f]
  unfold sealedP
  by_cases h : (s.size : Int) > 20000
  · simp only [if_pos h]; exact Ev.now _
  · simp only [if_neg h]
    refine Ev.bind (impl_SumOf_ev s hs) ?_
    have hz : s.size + (strOfNums [(sumOf s / 16777216) % 256, (sumOf s / 65536) % 256, (sumOf s / 256) % 256, (sumOf s) % 256]).size ≤ 9223372036854775807 := by rw [str_size]; simp; omega
    simp only [Option.bind_some, if_pos hz]
    exact Ev.now _

def unsealedP (s : ByteArray) : ByteArray × Bool := if s.size < 4 ∨ s.size > 20004 then ((⟨#[]⟩ : ByteArray), false) else (if sealedS (s.extract 0 (s.size - 4)) = s then (s.extract 0 (s.size - 4), true) else ((⟨#[]⟩ : ByteArray), false))
theorem cut_size {s : ByteArray} (h : 4 ≤ s.size) : (s.extract 0 (s.size - 4)).size = s.size - 4 := by
  rw [ByteArray.size_extract]; omega
theorem impl_Unsealed_ev (s : ByteArray) (hs : s.size ≤ 140737488351232) : Ev (fun k => impl_Unsealed.f k s) (unsealedP s) := by
  simp only [impl_Unsealed.f]
  unfold unsealedP
  by_cases h : (s.size : Int) < 4
  · simp only [if_pos h]
    rw [if_pos (Or.inl (by omega))]
    exact Ev.now _
  · have e : wrap64 ((s.size : Int) - 4) = ((s.size - 4 : Nat) : Int) := by unfold wrap64; omega
    simp only [if_neg h, e, if_pos (show (0 : Int) ≤ ((s.size - 4 : Nat) : Int) by omega), if_pos (show ((s.size - 4 : Nat) : Int) ≤ (s.size : Int) by omega), Int.toNat_natCast]
    refine Ev.bind (impl_Sealed_ev _ (by rw [cut_size (by omega)]; omega)) ?_
    unfold sealedP
    rw [cut_size (by omega)]
    by_cases h2 : ((s.size - 4 : Nat) : Int) > 20000
    · rw [if_pos h2, if_pos (Or.inr (by omega))]
      exact Ev.now _
    · rw [if_neg h2, if_neg (show ¬ (s.size < 4 ∨ s.size > 20004) by omega)]
      simp only [toList_iff, if_true]
      by_cases h3 : sealedS (s.extract 0 (s.size - 4)) = s
      · simp only [if_pos h3]; exact Ev.now _
      · simp only [if_neg h3]; exact Ev.now _

/-! a text whose one byte is another: its sum is another; sums go on -/
theorem bt_range (s : ByteArray) (i : Int) : 0 ≤ bt s i ∧ bt s i < 256 := by
  rw [bt_get, List.getD_eq_getElem?_getD]
  by_cases h : i.toNat < (bytesOf s).length
  · rw [List.getElem?_eq_getElem h]
    exact bytesOf_byt s _ (List.getElem_mem h)
  · rw [List.getElem?_eq_none (by omega)]
    simp
theorem xor32_left {x b c : Int} (hx : 0 ≤ x ∧ x < 4294967296) (hb : 0 ≤ b ∧ b < 4294967296) (hc : 0 ≤ c ∧ c < 4294967296) (h : Go.bits .xor .u32 x b = Go.bits .xor .u32 x c) : b = c := by
  obtain ⟨x, rfl⟩ := Int.eq_ofNat_of_zero_le hx.1
  obtain ⟨b, rfl⟩ := Int.eq_ofNat_of_zero_le hb.1
  obtain ⟨c, rfl⟩ := Int.eq_ofNat_of_zero_le hc.1
  rw [xor32 (by omega) (by omega), xor32 (by omega) (by omega)] at h
  have h2 := congrArg (fun n => x ^^^ n) (show x ^^^ b = x ^^^ c by omega)
  simp only [← Nat.xor_assoc, Nat.xor_self, Nat.zero_xor] at h2
  omega
theorem sumAt_inj (s t : ByteArray) : ∀ (d : Nat) (i x y : Int), 0 ≤ x ∧ x < 4294967296 → 0 ≤ y ∧ y < 4294967296 → (∀ j, i ≤ j → j < i + d → bt s j = bt t j) → sumAt s d i x = sumAt t d i y → x = y
  | 0, _, _, _, _, _, _, h => h
  | d + 1, i, x, y, hx, hy, hb, h => by
    simp only [sumAt] at h
    rw [← hb i (by omega) (by omega)] at h
    have hr := xor_range x ((bt s i) % 4294967296)
    have hr2 := xor_range y ((bt s i) % 4294967296)
    have h2 := sumAt_inj s t d (i + 1) _ _ (iterS_range 8 hr.1 hr.2) (iterS_range 8 hr2.1 hr2.2) (fun j h1 h2 => hb j (by omega) (by omega)) h
    have h3 := iterS_inj 8 hr hr2 h2
    exact xor32_inj hx hy (by omega) h3
theorem sumAt_ne (s t : ByteArray) (m : Int) (hm : bt s m ≠ bt t m) : ∀ (d : Nat) (i x : Int), 0 ≤ x ∧ x < 4294967296 → i ≤ m → m < i + d → (∀ j, i ≤ j → j < i + d → j ≠ m → bt s j = bt t j) → sumAt s d i x ≠ sumAt t d i x
  | 0, _, _, _, h1, h2, _ => by omega
  | d + 1, i, x, hx, h1, h2, hb => by
    intro h
    simp only [sumAt] at h
    have hr := xor_range x ((bt s i) % 4294967296)
    have hr2 := xor_range x ((bt t i) % 4294967296)
    by_cases e : i = m
    · subst e
      have g2 := sumAt_inj s t d (i + 1) _ _ (iterS_range 8 hr.1 hr.2) (iterS_range 8 hr2.1 hr2.2) (fun j k1 k2 => hb j (by omega) (by omega) (by omega)) h
      have g3 := iterS_inj 8 hr hr2 g2
      have g4 := xor32_left hx (by omega) (by omega) g3
      have b1 := bt_range s i
      have b2 := bt_range t i
      omega
    · rw [← hb i (by omega) (by omega) e] at h
      exact sumAt_ne s t m hm d (i + 1) _ (iterS_range 8 hr.1 hr.2) (by omega) (by omega) (fun j k1 k2 k3 => hb j (by omega) (by omega) k3) h
theorem sumAt_congr (s t : ByteArray) : ∀ (d : Nat) (i x : Int), (∀ j, i ≤ j → j < i + d → bt s j = bt t j) → sumAt s d i x = sumAt t d i x
  | 0, _, _, _ => rfl
  | d + 1, i, x, hb => by
    simp only [sumAt]
    rw [← hb i (by omega) (by omega)]
    exact sumAt_congr s t d (i + 1) _ (fun j k1 k2 => hb j (by omega) (by omega))
theorem sumAt_last (s : ByteArray) : ∀ (d : Nat) (i x : Int), sumAt s (d + 1) i x = iterS 8 (Go.bits .xor .u32 (sumAt s d i x) ((bt s (i + d)) % 4294967296))
  | 0, i, x => by
    simp only [sumAt]
    rw [show i + ((0 : Nat) : Int) = i by omega]
  | d + 1, i, x => by
    rw [sumAt, sumAt_last s d (i + 1), sumAt, show i + 1 + (d : Int) = i + ((d + 1 : Nat) : Int) by omega]
theorem sum_on (s : ByteArray) (x : ByteArray) (h : x.size = 1) : sumOf (s ++ x) = sumMore (sumOf s) x := by
  unfold sumOf sumMore
  have hz : (s ++ x).size = s.size + 1 := by rw [ByteArray.size_append, h]
  rw [hz, sumAt_last, h]
  have e1 : bt (s ++ x) (0 + (s.size : Int)) = bt x 0 := by
    rw [bt_get, bt_get, bytesOf_append, List.getD_eq_getElem?_getD, List.getD_eq_getElem?_getD, List.getElem?_append_right (by rw [bytesOf_length]; omega), bytesOf_length, show (0 + (s.size : Int)).toNat - s.size = Int.toNat 0 by omega]
  have e2 : sumAt (s ++ x) s.size 0 4294967295 = sumAt s s.size 0 4294967295 := by
    refine sumAt_congr _ _ _ _ _ (fun j h1 h2 => ?_)
    rw [bt_get, bt_get, bytesOf_append, List.getD_eq_getElem?_getD, List.getD_eq_getElem?_getD, List.getElem?_append_left (by rw [bytesOf_length]; omega)]
  rw [e1, e2]
  rfl
theorem fourL_inj {a b : Int} (ha : 0 ≤ a ∧ a < 4294967296) (hb : 0 ≤ b ∧ b < 4294967296) (h : fourL a = fourL b) : a = b := by
  simp only [fourL, List.cons.injEq, and_true] at h
  omega
theorem fourL_byt (n : Int) : Byt (fourL n) := by
  intro x hx
  simp only [fourL, List.mem_cons, List.not_mem_nil, or_false] at hx
  omega
theorem sealed_bytes (s : ByteArray) : bytesOf (sealedS s) = bytesOf s ++ fourL (sumOf s) := by
  unfold sealedS
  rw [bytesOf_append, bytesOf_str (fourL_byt _)]
theorem sealed_size (s : ByteArray) : (sealedS s).size = s.size + 4 := by
  unfold sealedS
  rw [ByteArray.size_append, str_size]
  rfl
theorem sealed_begin (s : ByteArray) : (sealedS s).extract 0 ((sealedS s).size - 4) = s := by
  apply bytesOf_inj
  rw [bytesOf_extract, sealed_bytes, sealed_size, List.drop_zero, List.take_append_of_le_length (by rw [bytesOf_length]; omega), List.take_of_length_le (by rw [bytesOf_length]; omega)]
theorem unsealed_sealed (s : ByteArray) (hs : s.size ≤ 20000) : unsealedP (sealedS s) = (s, true) := by
  unfold unsealedP
  rw [if_neg (by rw [sealed_size]; omega), sealed_begin, if_pos rfl]
theorem turned_unsealed (s : ByteArray) (i : Nat) (hi : i < s.size + 4) (x : Int) (hx : 0 ≤ x ∧ x < 256) (hne : x ≠ bt (sealedS s) i) : (unsealedP (strOfNums ((bytesOf (sealedS s)).set i x))).2 = false := by
  obtain ⟨u, hu⟩ : ∃ u, u = strOfNums ((bytesOf (sealedS s)).set i x) := ⟨_, rfl⟩
  have hb : bytesOf u = (bytesOf (sealedS s)).set i x := by
    rw [hu]
    refine bytesOf_str (fun y hy => ?_)
    rcases List.mem_or_eq_of_mem_set hy with h | h
    · exact bytesOf_byt _ _ h
    · rw [h]; exact hx
  have hz : u.size = s.size + 4 := by
    rw [hu, str_size, List.length_set, bytesOf_length, sealed_size]
  rw [← hu]
  unfold unsealedP
  by_cases hc : u.size < 4 ∨ u.size > 20004
  · rw [if_pos hc]
  · rw [if_neg hc]
    by_cases h3 : sealedS (u.extract 0 (u.size - 4)) = u
    · exfalso
      obtain ⟨v, hv⟩ : ∃ v, v = u.extract 0 (u.size - 4) := ⟨_, rfl⟩
      rw [← hv] at h3
      have hvl : v.size = s.size := by rw [hv, ByteArray.size_extract]; omega
      have h4 := congrArg bytesOf h3
      rw [sealed_bytes, hb, sealed_bytes, List.set_append, bytesOf_length] at h4
      have hxe : bt (sealedS s) i = (bytesOf s ++ fourL (sumOf s)).getD i 0 := by rw [bt_get, sealed_bytes, Int.toNat_natCast]
      by_cases c : i < s.size
      · rw [if_pos c] at h4
        obtain ⟨k1, k2⟩ := List.append_inj h4 (by rw [List.length_set, bytesOf_length, bytesOf_length, hvl])
        have k3 := fourL_inj (sumOf_range v) (sumOf_range s) k2
        rw [List.getD_eq_getElem?_getD, List.getElem?_append_left (by rw [bytesOf_length]; exact c)] at hxe
        have hat : ∀ j : Int, bt v j = ((bytesOf s).set i x).getD j.toNat 0 := fun j => by rw [bt_get, k1]
        refine sumAt_ne v s i ?_ s.size 0 4294967295 (by omega) (by omega) (by omega) (fun j j1 j2 j3 => ?_) ?_
        · rw [hat, Int.toNat_natCast, List.getD_eq_getElem?_getD, List.getElem?_set_self (by rw [bytesOf_length]; exact c), bt_get, Int.toNat_natCast, List.getD_eq_getElem?_getD, ← hxe]
          exact hne
        · rw [hat, List.getD_eq_getElem?_getD, List.getElem?_set_ne (by omega), bt_get, List.getD_eq_getElem?_getD]
        · have k4 := k3
          unfold sumOf sumMore at k4
          rw [hvl] at k4
          exact k4
      · rw [if_neg c] at h4
        obtain ⟨k1, k2⟩ := List.append_inj h4 (by rw [bytesOf_length, bytesOf_length, hvl])
        have e := bytesOf_inj k1
        rw [e] at k2
        rw [List.getD_eq_getElem?_getD, List.getElem?_append_right (by rw [bytesOf_length]; omega), bytesOf_length, k2, List.getElem?_set_self (by show i - s.size < 4; omega)] at hxe
        exact hne (by rw [hxe]; rfl)
    · rw [if_neg h3]

theorem DrawSumOf_ev (l : List Int) (hl : l.length ≤ 4611686018427387904) : ∃ t, Ev (fun k => spec_DrawSumOf.f k l) t ∧ t.size ≤ 5000 := by
  obtain ⟨s, hs⟩ := spec_l01New_ev l hl
  obtain ⟨v2, q2, t2, g1, g2, g3, g4⟩ := l01Below_some l 0 s 40 (by omega) hl (by omega) (by omega)
  obtain ⟨x, q3, u3, k1, k2, k3⟩ := spec_l01Text_ev l q2 t2 v2 g4 hl (by omega)
  refine ⟨x, ?_, by omega⟩
  simp only [spec_DrawSumOf.f]
  refine Ev.bind hs ?_
  simp only [g1, Option.bind_some]
  exact Ev.bind k1 (Ev.now _)
theorem one_size : (⟨#[120]⟩ : ByteArray).size = 1 := rfl
theorem FnTurned_pure (l : List Int) (hl : l.length ≤ 4611686018427387904) : ∃ k, laws_FnTurned.Ok k l := by
  by_cases hb : (l.length : Int) > 1048576
  · refine ⟨0, Or.inl ?_⟩
    simp only [laws_big.f, decide_eq_true hb]
  · obtain ⟨s, ⟨k1, h1⟩, hs⟩ := DrawSumOf_ev l hl
    obtain ⟨p, ⟨k2, h2⟩, hp, hpr⟩ := spec_DrawPlaces_ev l hl
    obtain ⟨k3, h3⟩ := impl_Sealed_ev s (by omega)
    have hsp : sealedP s = (sealedS s, true) := by unfold sealedP; rw [if_neg (by omega)]
    rw [hsp] at h3
    have hz := sealed_size s
    obtain ⟨k4, h4⟩ := impl_Unsealed_ev (sealedS s) (by omega)
    rw [unsealed_sealed s (by omega)] at h4
    obtain ⟨x, hx⟩ : ∃ x, x = rd p 0 := ⟨_, rfl⟩
    obtain ⟨y, hy⟩ : ∃ y, y = rd p 1 := ⟨_, rfl⟩
    have hmem : ∀ j : Nat, j < 12 → 0 ≤ rd p j ∧ rd p j < 10000 := by
      intro j hj
      have : rd p (j : Int) ∈ p := by
        unfold rd
        rw [Int.toNat_natCast, List.getD_eq_getElem?_getD, List.getElem?_eq_getElem (by omega)]
        exact List.getElem_mem _
      exact hpr _ this
    have hx1 : 0 ≤ x ∧ x < 10000 := by rw [hx]; exact hmem 0 (by omega)
    have hy1 : 0 ≤ y ∧ y < 10000 := by rw [hy]; exact hmem 1 (by omega)
    obtain ⟨i, hi⟩ : ∃ i : Int, i = Int.tmod x ((sealedS s).size : Int) := ⟨_, rfl⟩
    have hi0 : 0 ≤ i := by rw [hi]; exact Int.tmod_nonneg _ hx1.1
    have hi1 : i < ((sealedS s).size : Int) := by rw [hi]; exact Int.tmod_lt_of_pos _ (by omega)
    obtain ⟨z, hzz⟩ : ∃ z : Int, z = Int.tmod y 255 := ⟨_, rfl⟩
    have hz0 : 0 ≤ z := by rw [hzz]; exact Int.tmod_nonneg _ hy1.1
    have hz1 : z < 255 := by rw [hzz]; exact Int.tmod_lt_of_pos _ (by omega)
    have hw : IntKind.u8.wrap (wrap64 (1 + z)) = ((1 + z.toNat : Nat) : Int) := by
      rw [Go.IntKind.wrap_u8]
      unfold wrap64
      omega
    have hbr := bt_range (sealedS s) i
    obtain ⟨a, ha⟩ := Int.eq_ofNat_of_zero_le hbr.1
    have hx8 : Go.bits .xor .u8 (bt (sealedS s) i) (IntKind.u8.wrap (wrap64 (1 + z))) = ((a ^^^ (1 + z.toNat) : Nat) : Int) := by
      rw [hw, ha]
      exact xor8 (by omega) (by omega)
    have hlt : a ^^^ (1 + z.toNat) < 256 := Nat.xor_lt_two_pow (n := 8) (by omega) (by omega)
    have hne : ((a ^^^ (1 + z.toNat) : Nat) : Int) ≠ bt (sealedS s) (i.toNat : Int) := by
      rw [show ((i.toNat : Nat) : Int) = i by omega, ha]
      have := xor_ne (a := a) (c := 1 + z.toNat) (by omega)
      omega
    have hu := turned_unsealed s i.toNat (by omega) _ ⟨by omega, by omega⟩ hne
    obtain ⟨k5, h5⟩ := impl_Unsealed_ev (strOfNums ((bytesOf (sealedS s)).set i.toNat ((a ^^^ (1 + z.toNat) : Nat) : Int))) (by rw [str_size, List.length_set, bytesOf_length]; omega)
    obtain ⟨k6, h6⟩ := impl_SumOf_ev s (by omega)
    obtain ⟨k7, h7⟩ := impl_SumMore_ev (sumOf s) (⟨#[120]⟩ : ByteArray) (by rw [one_size]; omega) (sumOf_range s).1 (sumOf_range s).2
    obtain ⟨k8, h8⟩ := impl_SumOf_ev (s ++ (⟨#[120]⟩ : ByteArray)) (by rw [ByteArray.size_append, one_size]; omega)
    rw [sum_on s _ one_size] at h8
    obtain ⟨u, hue⟩ : ∃ u, u = strOfNums ((bytesOf (sealedS s)).set i.toNat ((a ^^^ (1 + z.toNat) : Nat) : Int)) := ⟨_, rfl⟩
    rw [← hue] at h5 hu
    refine ⟨k1 + k2 + k3 + k4 + k5 + k6 + k7 + k8, Or.inr ⟨?_, s, sealedS s, u, (unsealedP u).1, p, i, ((a ^^^ (1 + z.toNat) : Nat) : Int), sumOf s, sumMore (sumOf s) (⟨#[120]⟩ : ByteArray), h1 _ (by omega), h2 _ (by omega), h3 _ (by omega), h4 _ (by omega), by omega, hp, ?_, hi0, hi1, ?_, hue.symm, by omega, ?_, h6 _ (by omega), h7 _ (by omega), h8 _ (by omega)⟩⟩
    · simp only [laws_big.f, decide_eq_false hb]
    · rw [← hx, ← hi]
    · rw [← hy, ← hzz]
      exact hx8
    · rw [← hu]
      exact h5 _ (by omega)

end Go.Proofs.Ytmjblanhgekhpaa.Pure
