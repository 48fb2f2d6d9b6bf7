/- In every draw records come back from their frames; of frames cut anywhere just the whole ones do. No condition is laid beside the statement. -/
import Derived.Test.YtigeiofkbccocaaQFnFramesx4
import Derived.Laws.BitsLemmas
import Derived.Lib.Bytes
import Derived.OpenShut
namespace Go.Proofs.Ytigeiofkbccocaa.Pure
open Go.RowKit Go.Proofs.Ytigeiofkbccocaa.QFnFrames Go.Proofs.YtigeiofkbccocaaW.PrintWords Go.Proofs.YtigeiofkbccocaaW.PrintLast
set_option linter.unusedVariables false
set_option linter.unusedSimpArgs false


/-! loops in general -/
theorem wrap_succ {i n : Nat} (h : i < n) (hn : n ≤ 4611686018427387904) : wrap64 ((i : Int) + 1) = ((i + 1 : Nat) : Int) := by unfold wrap64; omega
theorem Ev.loopR {σ β : Type} {L : Nat → σ → Int → Option β} {n : Nat} (R : Nat → σ → β) (I : Nat → σ → Prop)
    (hstep : ∀ (i : Nat) s, i < n → I i s → Ev (fun k => L k s i) (R i s) ∨ ∃ s', I (i + 1) s' ∧ R i s = R (i + 1) s' ∧ ∀ r, Ev (fun k => L k s' ((i + 1 : Nat) : Int)) r → Ev (fun k => L k s i) r)
    (hend : ∀ s, I n s → Ev (fun k => L k s n) (R n s)) : ∀ (d i : Nat) (s : σ), i + d = n → I i s → Ev (fun k => L k s i) (R i s) := by
  intro d
  induction d with
  | zero =>
    intro i s hi hI
    have : i = n := by omega
    subst this
    exact hend s hI
  | succ d ih =>
    intro i s hi hI
    rcases hstep i s (by omega) hI with h | ⟨s', h1, h2, h3⟩
    · exact h
    · rw [h2]
      exact h3 _ (ih (i + 1) s' (by omega) h1)
/-- A loop that writes every element of a row. -/
theorem Ev.setloop' {β γ : Type} {L : Nat → List γ → Int → Option β} {n : Nat} (g : Nat → γ) (x0 : List γ) (h0 : x0.length = n) (fin : List γ → β)
    (hstep : ∀ (i : Nat) x r, i < n → x.length = n → Ev (fun k => L k (x.set i (g i)) ((i + 1 : Nat) : Int)) r → Ev (fun k => L k x i) r)
    (hend : ∀ x, x.length = n → Ev (fun k => L k x n) (fin x)) : Ev (fun k => L k x0 0) (fin ((List.range n).map g)) := by
  have key := Ev.loopR (L := L) (n := n) (fun _ _ => fin ((List.range n).map g)) (fun i x => x.length = n ∧ ∀ j, j < i → x[j]? = some (g j)) (by
    intro i x hi hx
    right
    refine ⟨x.set i (g i), ⟨by rw [List.length_set]; exact hx.1, fun j hj => ?_⟩, rfl, fun r hr => hstep i x r hi hx.1 hr⟩
    by_cases hji : j = i
    · subst hji
      rw [List.getElem?_set_self (by omega)]
    · rw [List.getElem?_set_ne (by omega)]
      exact hx.2 j (by omega)) (by
    intro x hx
    have hxe : x = (List.range n).map g := by
      apply List.ext_getElem?
      intro j
      by_cases hj : j < n
      · rw [hx.2 j hj]; simp [hj]
      · rw [List.getElem?_eq_none (by omega), List.getElem?_eq_none (by simp; omega)]
    rw [← hxe]
    exact hend x hx.1)
  exact key n 0 _ (by omega) ⟨h0, fun j hj => by omega⟩
/-- A loop that fills what was made. -/
theorem Ev.setloop {β γ : Type} {L : Nat → List γ → Int → Option β} {n : Nat} (g : Nat → γ) (z : γ) (fin : List γ → β)
    (hstep : ∀ (i : Nat) x r, i < n → x.length = n → Ev (fun k => L k (x.set i (g i)) ((i + 1 : Nat) : Int)) r → Ev (fun k => L k x i) r)
    (hend : ∀ x, x.length = n → Ev (fun k => L k x n) (fin x)) : Ev (fun k => L k (List.replicate n z) 0) (fin ((List.range n).map g)) :=
  Ev.setloop' g _ (by simp) fin hstep hend
/-- A loop that asks something of each index. -/
theorem Ev.allloop {β : Type} {L : Nat → Int → Option β} {n : Nat} (p : Nat → Bool) (c fin : β)
    (hstep : ∀ (i : Nat) r, i < n → p i = true → Ev (fun k => L k ((i + 1 : Nat) : Int)) r → Ev (fun k => L k i) r)
    (hno : ∀ (i : Nat), i < n → p i = false → Ev (fun k => L k i) c)
    (hend : Ev (fun k => L k n) fin) : Ev (fun k => L k 0) (if (List.range n).all p then fin else c) := by
  have key := Ev.loopR (σ := Unit) (L := fun k _ i => L k i) (n := n) (fun i _ => if (List.range' i (n - i)).all p then fin else c) (fun _ _ => True) (by
    intro i _ hi _
    have e : List.range' i (n - i) = i :: List.range' (i + 1) (n - (i + 1)) := by
      have : n - i = (n - (i + 1)) + 1 := by omega
      rw [this, List.range'_succ]
    cases hp : p i with
    | true => right; exact ⟨(), trivial, by rw [e, List.all_cons, hp, Bool.true_and], fun r hr => hstep i r hi hp hr⟩
    | false => left; rw [e, List.all_cons, hp, Bool.false_and]; exact hno i hi hp) (by
    intro _ _
    simpa using hend)
  have := key n 0 () (by omega) trivial
  rw [List.range_eq_range']
  simpa using this
theorem impl_in_eq (a b c : Int) : impl_in.f a b c = some (decide (b ≤ a ∧ a ≤ c)) := by
  unfold impl_in.f
  by_cases h : a ≥ b
  · have h' : b ≤ a := h
    simp [h']
  · have h' : ¬ b ≤ a := h
    simp [h']

/-! draws -/
theorem and255 (x : Int) : 0 ≤ Go.bits .and .i64 x 255 ∧ Go.bits .and .i64 x 255 ≤ 255 := by
  simp only [Go.bits, BitVec.toNat_and]
  have h : (BitVec.ofInt Go.IntKind.i64.bits x).toNat &&& (BitVec.ofInt Go.IntKind.i64.bits 255).toNat ≤ 255 := Nat.le_trans Nat.and_le_right (by decide)
  rw [Go.IntKind.wrap_i64]
  omega
theorem l01Byte_some (l : List Int) (p s : Int) (hp : 0 ≤ p) (hl : l.length ≤ 4611686018427387904) : ∃ v q t, spec_l01Byte.f l p s = some (v, q, t) ∧ 0 ≤ v ∧ v ≤ 255 ∧ 0 ≤ q := by
  unfold spec_l01Byte.f
  by_cases h : p < (l.length : Int)
  · rw [if_pos h, if_pos hp]
    refine ⟨_, _, _, rfl, (and255 _).1, (and255 _).2, ?_⟩
    unfold wrap64; omega
  · rw [if_neg h]
    exact ⟨_, _, _, rfl, (and255 _).1, (and255 _).2, hp⟩
theorem l01Below_some (l : List Int) (p s a : Int) (hp : 0 ≤ p) (hl : l.length ≤ 4611686018427387904) (ha : 1 ≤ a) (ha2 : a ≤ 256) : ∃ v q t, spec_l01Below.f l p s a = some (v, q, t) ∧ 0 ≤ v ∧ v < a ∧ 0 ≤ q := by
  unfold spec_l01Below.f
  obtain ⟨v, q, t, h1, h2, h3, h4⟩ := l01Byte_some l p s hp hl
  rw [if_neg (by omega), if_pos ha2, h1, Option.bind_some, if_neg (by omega)]
  refine ⟨_, _, _, rfl, Int.tmod_nonneg _ h2, Int.tmod_lt_of_pos _ (by omega), h4⟩
theorem spec_l01New_ev (l : List Int) (hl : l.length ≤ 4611686018427387904) : ∃ s, Ev (fun k => spec_l01New.f k l) (l, 0, s) := by
  have key : ∀ (d i : Nat) (s : Int), i + d = l.length → ∃ s', Ev (fun k => spec_l01New.l0 k l s i) (l, 0, s') := by
    intro d
    induction d with
    | zero =>
      intro i s hi
      refine ⟨s, Ev.step (fun k => by rw [spec_l01New.l0, if_neg (by omega)]) ?_⟩
      exact Ev.now _
    | succ d ih =>
      intro i s hi
      by_cases h : (i : Int) < 4000
      · obtain ⟨s', hs⟩ := ih (i + 1) _ (by omega)
        refine ⟨s', Ev.step (fun k => by rw [spec_l01New.l0, if_pos (by omega), if_pos h, if_pos (by omega), wrap_succ (show i < l.length by omega) hl]) hs⟩
      · refine ⟨s, Ev.step (fun k => by rw [spec_l01New.l0, if_pos (by omega), if_neg h]) ?_⟩
        exact Ev.now _
  exact key l.length 0 _ (by omega)

/-! strings as numbers -/
theorem toList_data' (s : ByteArray) : s.toList = s.data.toList := Go.Lib.toList_data s
theorem str_ext {a b : ByteArray} (h : a.toList = b.toList) : a = b := by
  rw [toList_data', toList_data'] at h
  cases a; cases b
  simp at h
  rw [h]
theorem toList_iff {a b : ByteArray} : a.toList = b.toList ↔ a = b := ⟨str_ext, fun h => by rw [h]⟩
def Byt (l : List Int) : Prop := ∀ x ∈ l, 0 ≤ x ∧ x < 256
theorem bytesOf_str {l : List Int} (h : Byt l) : bytesOf (strOfNums l) = l := by
  unfold bytesOf strOfNums
  simp
  apply List.ext_getElem
  · simp
  · intro i h1 h2
    have := h l[i] (List.getElem_mem h2)
    simp
    omega
theorem str_bytesOf (s : ByteArray) : strOfNums (bytesOf s) = s := by
  unfold bytesOf strOfNums
  cases s with
  | mk d =>
    simp
    apply Array.ext'
    simp
    apply List.ext_getElem
    · simp
    · intro i h1 h2
      simp
theorem bytesOf_inj {a b : ByteArray} (h : bytesOf a = bytesOf b) : a = b := by rw [← str_bytesOf a, h, str_bytesOf]
theorem bytesOf_append (a b : ByteArray) : bytesOf (a ++ b) = bytesOf a ++ bytesOf b := by
  unfold bytesOf
  simp [ByteArray.data_append]
theorem bytesOf_extract (s : ByteArray) (a b : Nat) : bytesOf (s.extract a b) = ((bytesOf s).drop a).take (b - a) := by
  unfold bytesOf
  simp [ByteArray.data_extract, List.map_take, List.map_drop]
theorem bt_get (s : ByteArray) (i : Int) : bt s i = (bytesOf s).getD i.toNat 0 := (rd_bytesOf s i).symm
theorem str_size (l : List Int) : (strOfNums l).size = l.length := by
  show (strOfNums l).data.size = _
  unfold strOfNums
  simp

/-! sums -/
def stepS (x : Int) : Int := if x % 2 = 1 then Go.bits .xor .u32 (x / 2) 3558460437 else x / 2
def iterS : Nat → Int → Int
  | 0, x => x
  | d + 1, x => iterS d (stepS x)
def sumAt (s : ByteArray) : Nat → Int → Int → Int
  | 0, _, x => x
  | d + 1, i, x => sumAt s d (i + 1) (iterS 8 (Go.bits .xor .u32 x ((bt s i) % 4294967296)))
theorem xor_range (a b : Int) : 0 ≤ Go.bits .xor .u32 a b ∧ Go.bits .xor .u32 a b < 4294967296 := by
  simp only [Go.bits, Go.IntKind.wrap_u32]
  omega
theorem stepS_range {x : Int} (h0 : 0 ≤ x) (h1 : x < 4294967296) : 0 ≤ stepS x ∧ stepS x < 4294967296 := by
  unfold stepS
  split
  · exact xor_range _ _
  · omega
theorem iterS_range : ∀ (d : Nat) {x : Int}, 0 ≤ x → x < 4294967296 → 0 ≤ iterS d x ∧ iterS d x < 4294967296
  | 0, _, h0, h1 => ⟨h0, h1⟩
  | d + 1, _, h0, h1 => iterS_range d (stepS_range h0 h1).1 (stepS_range h0 h1).2
theorem sumAt_range (s : ByteArray) : ∀ (d : Nat) (i x : Int), 0 ≤ x → x < 4294967296 → 0 ≤ sumAt s d i x ∧ sumAt s d i x < 4294967296
  | 0, _, _, h0, h1 => ⟨h0, h1⟩
  | d + 1, _, _, _, _ => sumAt_range s d _ _ (iterS_range 8 (xor_range _ _).1 (xor_range _ _).2).1 (iterS_range 8 (xor_range _ _).1 (xor_range _ _).2).2
theorem and_one {x : Int} (h0 : 0 ≤ x) (h1 : x < 4294967296) : Go.bits .and .u32 x 1 = x % 2 := by
  have := Go.bits_mask .u32 32 (by decide) (fun n a b => by rw [Go.IntKind.wrap_u32]; omega) 1 (by decide) x h0 (by omega)
  simpa using this
theorem impl_l1_ev (s : ByteArray) (n i r : Int) : ∀ (d : Nat) (x j : Int), 0 ≤ x → x < 4294967296 → 0 ≤ j → 8 - j = d →
    Ev (fun k => impl_SumMore.l0 k (iterS d x) s n (wrap64 (i + 1))) r → Ev (fun k => impl_SumMore.l1 k x s n i j) r := by
  intro d
  induction d with
  | zero =>
    intro x j h0 h1 hj hd h
    refine Ev.step (fun k => by rw [impl_SumMore.l1, if_neg (by omega)]) ?_
    exact h
  | succ d ih =>
    intro x j h0 h1 hj hd h
    have e1 := and_one h0 h1
    have e3 : wrap64 (j + 1) = j + 1 := by unfold wrap64; omega
    have hr := stepS_range h0 h1
    have h' := ih (stepS x) (j + 1) hr.1 hr.2 (by omega) (by omega) h
    refine Ev.step (fun k => by rw [impl_SumMore.l1, if_pos (by omega), e1, e3]) ?_
    unfold stepS at h'
    by_cases c : x % 2 = 1
    · simp only [if_pos c] at h' ⊢; exact h'
    · simp only [if_neg c] at h' ⊢; exact h'
theorem impl_l0_ev (s : ByteArray) (hs : s.size ≤ 140737488351232) : ∀ (d : Nat) (x i : Int), 0 ≤ x → x < 4294967296 → 0 ≤ i → (s.size : Int) - i = d →
    Ev (fun k => impl_SumMore.l0 k x s s.size i) (sumAt s d i x) := by
  intro d
  induction d with
  | zero =>
    intro x i h0 h1 hi hd
    refine Ev.step (fun k => by rw [impl_SumMore.l0, if_neg (by omega)]) ?_
    exact Ev.now _
  | succ d ih =>
    intro x i h0 h1 hi hd
    have e3 : wrap64 (i + 1) = i + 1 := by unfold wrap64; omega
    have hx := xor_range x ((bt s i) % 4294967296)
    have hy := iterS_range 8 hx.1 hx.2
    refine Ev.step (fun k => by rw [impl_SumMore.l0, if_pos (by omega), if_pos hi, if_pos (by omega)]) ?_
    refine impl_l1_ev s _ i _ 8 _ 0 hx.1 hx.2 (by omega) (by omega) ?_
    rw [e3]
    exact ih _ _ hy.1 hy.2 (by omega) (by omega)
def sumMore (x : Int) (s : ByteArray) : Int := sumAt s s.size 0 x
theorem impl_SumMore_ev (x : Int) (s : ByteArray) (hs : s.size ≤ 140737488351232) (h0 : 0 ≤ x) (h1 : x < 4294967296) : Ev (fun k => impl_SumMore.f k x s) (sumMore x s) := by
  simp only [impl_SumMore.f]
  exact impl_l0_ev s hs s.size x 0 h0 h1 (by omega) (by omega)

def sumOf (s : ByteArray) : Int := sumMore 4294967295 s
theorem sumOf_range (s : ByteArray) : 0 ≤ sumOf s ∧ sumOf s < 4294967296 := sumAt_range s s.size 0 _ (by omega) (by omega)
theorem impl_SumOf_ev (s : ByteArray) (hs : s.size ≤ 140737488351232) : Ev (fun k => impl_SumOf.f k s) (sumOf s) := by
  simp only [impl_SumOf.f]
  exact Ev.bind (impl_SumMore_ev _ s hs (by omega) (by omega)) (Ev.now _)

/-! numbers in bytes -/
def varL (n : Nat) : List Int := if h : n > 127 then ((n % 128 + 128 : Nat) : Int) :: varL (n / 128) else [(n : Int)]
termination_by n
decreasing_by omega
theorem varL_big {n : Nat} (h : n > 127) : varL n = ((n % 128 + 128 : Nat) : Int) :: varL (n / 128) := by rw [varL, dif_pos h]
theorem varL_small {n : Nat} (h : ¬ n > 127) : varL n = [(n : Int)] := by rw [varL, dif_neg h]
theorem varL_len (n : Nat) : (varL n).length ≤ n + 1 := by
  induction n using Nat.strongRecOn with
  | ind n ih =>
    by_cases h : n > 127
    · rw [varL_big h]; have := ih (n / 128) (by omega); simp; omega
    · rw [varL_small h]; simp
/-! the written number, without the reference's writer -/
theorem ivar_ev (n : Nat) : ∀ (acc : List Int), n ≤ 1000000000 → acc.length + n ≤ 3000000000 →
    Ev (fun k => impl_VarText.l0 k (n : Int) acc) (strOfNums (acc ++ varL n), true) := by
  induction n using Nat.strongRecOn with
  | ind n ih =>
    intro acc hn hl
    by_cases h : n > 127
    · have e1 : wrap64 (Int.tdiv (n : Int) 128) = ((n / 128 : Nat) : Int) := by
        rw [Int.tdiv_eq_ediv_of_nonneg (by omega)]; unfold wrap64; omega
      have e2 : (wrap64 ((Int.tmod (n : Int) 128) + 128)) % 256 = ((n % 128 + 128 : Nat) : Int) := by
        rw [Int.tmod_eq_emod_of_nonneg (by omega)]; unfold wrap64; omega
      refine Ev.step (fun k => by rw [impl_VarText.l0, if_pos (by omega), if_pos (by omega), e1, e2]) ?_
      have := ih (n / 128) (by omega) (acc ++ [((n % 128 + 128 : Nat) : Int)]) (by omega) (by simp; omega)
      rw [varL_big h]
      rw [List.append_assoc, List.singleton_append] at this
      exact this
    · refine Ev.step (fun k => by rw [impl_VarText.l0, if_neg (by omega), if_pos (by omega)]) ?_
      have e : (n : Int) % 256 = n := by omega
      rw [varL_small h, e]
      exact Ev.now _
theorem impl_VarText_ev {x : Int} (h0 : 0 ≤ x) (h1 : x ≤ 1000000000) : Ev (fun k => impl_VarText.f k x) (strOfNums (varL x.toNat), true) := by
  obtain ⟨n, rfl⟩ := Int.eq_ofNat_of_zero_le h0
  simp only [impl_VarText.f, impl_in.f, if_pos h0, Option.bind_some, decide_eq_true h1, if_true]
  exact ivar_ev n [] (by omega) (by simp; omega)

/-! reading numbers -/
theorem varL_byt (n : Nat) : Byt (varL n) := by
  induction n using Nat.strongRecOn with
  | ind n ih =>
    by_cases h : n > 127
    · rw [varL_big h]
      intro x hx
      rcases List.mem_cons.mp hx with rfl | hx
      · omega
      · exact ih (n / 128) (by omega) x hx
    · rw [varL_small h]
      intro x hx
      simp at hx
      omega
def rvP (s : ByteArray) (at_ : Int) : Nat → Int → Int → Int → Int × Int × Bool
  | 0, _, _, _ => (0, 0, false)
  | d + 1, i, n, u => if i < s.size then (if bt s i < 128 then (if (bt s i = 0 ∧ i > at_) ∨ n + bt s i % 128 * u > 1000000000 then (0, 0, false) else (n + bt s i % 128 * u, i + 1, true)) else rvP s at_ d (i + 1) (n + bt s i % 128 * u) (u * 128)) else (0, 0, false)
def U5 : Nat → Int
  | 0 => 34359738368
  | 1 => 268435456
  | 2 => 2097152
  | 3 => 16384
  | 4 => 128
  | _ => 1
theorem wrap_bt (s : ByteArray) (i : Int) : wrap64 (bt s i) = bt s i := by
  have := bt_range s i
  unfold wrap64; omega
theorem tmod_bt (s : ByteArray) (i : Int) : Int.tmod (bt s i) 128 = bt s i % 128 := Int.tmod_eq_emod_of_nonneg (bt_range s i).1
theorem rv_step {s : ByteArray} {i n : Int} {d : Nat} (hd : d < 5) (hn : 0 ≤ n) (hu : n < U5 (d + 1)) :
    0 ≤ n + bt s i % 128 * U5 (d + 1) ∧ n + bt s i % 128 * U5 (d + 1) < U5 d ∧ U5 (d + 1) * 128 = U5 d ∧ wrap64 (bt s i % 128 * U5 (d + 1)) = bt s i % 128 * U5 (d + 1) ∧ wrap64 (n + bt s i % 128 * U5 (d + 1)) = n + bt s i % 128 * U5 (d + 1) ∧ wrap64 (U5 (d + 1) * 128) = U5 (d + 1) * 128 := by
  have hb : 0 ≤ bt s i % 128 ∧ bt s i % 128 ≤ 127 := by omega
  generalize bt s i % 128 = q at hb ⊢
  have : d = 0 ∨ d = 1 ∨ d = 2 ∨ d = 3 ∨ d = 4 := by omega
  rcases this with rfl | rfl | rfl | rfl | rfl <;> simp only [U5, Nat.zero_add, Nat.reduceAdd, wrap64] at hu ⊢ <;> omega
theorem impl_rv_ev (s : ByteArray) (at_ : Int) (hs : s.size ≤ 140737488351232) (h0 : 0 ≤ at_) (h1 : at_ ≤ s.size) : ∀ (d : Nat) (i n : Int), d ≤ 5 → at_ ≤ i → i ≤ s.size → at_ + 5 - i = d → 0 ≤ n → n < U5 d →
    Ev (fun k => impl_ReadVar.l0 k s at_ n (U5 d) i) (rvP s at_ d i n (U5 d)) := by
  intro d
  have ew : wrap64 (at_ + 5) = at_ + 5 := by unfold wrap64; omega
  induction d with
  | zero =>
    intro i n hd5 hi hi2 hd hn hu
    by_cases hlt : i < s.size
    · refine Ev.step (fun k => by rw [impl_ReadVar.l0, if_pos hlt, ew, decide_eq_false (by omega)]) ?_
      refine Ev.step (fun k => by rw [impl_ReadVar.j1, if_neg (by simp)]) ?_
      exact Ev.now _
    · refine Ev.step (fun k => by rw [impl_ReadVar.l0, if_neg hlt]) ?_
      refine Ev.step (fun k => by rw [impl_ReadVar.j1, if_neg (by simp)]) ?_
      exact Ev.now _
  | succ d ih =>
    intro i n hd5 hi hi2 hd hn hu
    obtain ⟨r1, r2, r3, r4, r5, r6⟩ := rv_step (s := s) (i := i) (by omega) hn hu
    by_cases hlt : i < s.size
    · have ei : wrap64 (i + 1) = i + 1 := by unfold wrap64; omega
      refine Ev.step (fun k => by rw [impl_ReadVar.l0, if_pos hlt, ew, decide_eq_true (by omega)]) ?_
      refine Ev.step (fun k => by rw [impl_ReadVar.j1, if_pos rfl, if_pos (by omega), if_pos hlt, wrap_bt, tmod_bt, r4, r5, r6, ei]) ?_
      rw [rvP, if_pos hlt]
      by_cases hb : bt s i < 128
      · simp only [if_pos hb]
        by_cases hz : bt s i = 0
        · by_cases hg : i > at_
          · simp only [if_pos hz, if_pos hg]
            rw [if_pos (Or.inl ⟨hz, hg⟩)]
            exact Ev.now _
          · simp only [if_pos hz, if_neg hg]
            by_cases hm : n + bt s i % 128 * U5 (d + 1) > 1000000000
            · simp only [if_pos hm]
              rw [if_pos (Or.inr hm)]
              exact Ev.now _
            · simp only [if_neg hm]
              rw [if_neg (by intro hh; rcases hh with hh | hh; exact hg hh.2; exact hm hh)]
              exact Ev.now _
        · simp only [if_neg hz]
          by_cases hm : n + bt s i % 128 * U5 (d + 1) > 1000000000
          · simp only [if_pos hm]
            rw [if_pos (Or.inr hm)]
            exact Ev.now _
          · simp only [if_neg hm]
            rw [if_neg (by intro hh; rcases hh with hh | hh; exact hz hh.1; exact hm hh)]
            exact Ev.now _
      · simp only [if_neg hb]
        rw [r3]
        exact ih (i + 1) _ (by omega) (by omega) (by omega) (by omega) r1 r2
    · refine Ev.step (fun k => by rw [impl_ReadVar.l0, if_neg hlt]) ?_
      refine Ev.step (fun k => by rw [impl_ReadVar.j1, if_neg (by simp)]) ?_
      rw [rvP, if_neg hlt]
      exact Ev.now _
def readVar (s : ByteArray) (at_ : Int) : Int × Int × Bool := if 0 ≤ at_ ∧ at_ ≤ s.size then rvP s at_ 5 at_ 0 1 else (0, 0, false)
theorem impl_ReadVar_ev (s : ByteArray) (at_ : Int) (hs : s.size ≤ 140737488351232) : Ev (fun k => impl_ReadVar.f k s at_) (readVar s at_) := by
  simp only [impl_ReadVar.f, impl_in.f, readVar]
  by_cases h0 : 0 ≤ at_
  · by_cases h1 : at_ ≤ s.size
    · simp only [ge_iff_le, if_pos h0, Option.bind_some, decide_eq_true h1, if_true]
      rw [if_pos ⟨h0, h1⟩]
      exact impl_rv_ev s at_ hs h0 h1 5 at_ 0 (by omega) (by omega) h1 (by omega) (by omega) (by simp [U5])
    · simp only [ge_iff_le, if_pos h0, Option.bind_some, decide_eq_false h1]
      rw [if_neg (by omega)]
      exact Ev.now _
  · simp only [ge_iff_le, if_neg h0, Option.bind_some]
    rw [if_neg (by omega)]
    exact Ev.now _
/-- What a number that was read is. -/
theorem rvP_ok (s : ByteArray) (at_ : Int) : ∀ (d : Nat) (i n u : Int), at_ ≤ i → i ≤ s.size → 0 ≤ n → 0 ≤ u → (rvP s at_ d i n u).2.2 = true → 0 ≤ (rvP s at_ d i n u).1 ∧ (rvP s at_ d i n u).1 ≤ 1000000000 ∧ i < (rvP s at_ d i n u).2.1 ∧ (rvP s at_ d i n u).2.1 ≤ s.size
  | 0, _, _, _, _, _, _, _, h => by simp [rvP] at h
  | d + 1, i, n, u, h1, h2, h3, h4, h => by
    have hp : 0 ≤ bt s i % 128 * u := Int.mul_nonneg (by omega) h4
    rw [rvP] at h ⊢
    split
    · rename_i hlt
      rw [if_pos hlt] at h
      split
      · rename_i hb
        rw [if_pos hb] at h
        split
        · rename_i hc; rw [if_pos hc] at h; simp at h
        · rename_i hc
          have : ¬ n + bt s i % 128 * u > 1000000000 := fun hh => hc (Or.inr hh)
          simp only
          omega
      · rename_i hb
        rw [if_neg hb] at h
        have := rvP_ok s at_ d (i + 1) _ _ (by omega) (by omega) (by omega) (by omega) h
        omega
    · rename_i hlt; rw [if_neg hlt] at h; simp at h
theorem readVar_ok {s : ByteArray} {at_ : Int} (h : (readVar s at_).2.2 = true) : 0 ≤ at_ ∧ 0 ≤ (readVar s at_).1 ∧ (readVar s at_).1 ≤ 1000000000 ∧ at_ < (readVar s at_).2.1 ∧ (readVar s at_).2.1 ≤ s.size := by
  unfold readVar at h ⊢
  split
  · rename_i hc
    rw [if_pos hc] at h
    have := rvP_ok s at_ 5 at_ 0 1 (by omega) (by omega) (by omega) (by omega) h
    omega
  · rename_i hc; rw [if_neg hc] at h; simp at h

def fourL (n : Int) : List Int := [(n / 16777216) % 256, (n / 65536) % 256, (n / 256) % 256, n % 256]
/-! frames -/
def frameS (s : ByteArray) : ByteArray := (strOfNums (varL s.size) ++ strOfNums (fourL (sumOf s))) ++ s
def frameP (s : ByteArray) : ByteArray × Bool := if 1 ≤ (s.size : Int) ∧ (s.size : Int) ≤ 9000 then (frameS s, true) else ((⟨#[]⟩ : ByteArray), false)
theorem size_append (a b : ByteArray) : (a ++ b).size = a.size + b.size := by
  rw [← bytesOf_length, bytesOf_append, List.length_append, bytesOf_length, bytesOf_length]
theorem impl_Frame_ev (s : ByteArray) (hs : s.size ≤ 140737488351232) : Ev (fun k => impl_Frame.f k s) (frameP s) := by
  simp only [impl_Frame.f, impl_in_eq, Option.bind_some, frameP]
  by_cases h : 1 ≤ (s.size : Int) ∧ (s.size : Int) ≤ 9000
  · simp only [decide_eq_true h, if_true, if_pos h]
    refine Ev.bind (impl_VarText_ev (by omega) (by omega)) ?_
    refine Ev.bind (impl_SumOf_ev s hs) ?_
    have h1 := varL_len s.size
    simp only [Option.bind_some, Int.toNat_natCast, size_append, str_size, List.length_cons, List.length_nil, if_pos (show (varL s.size).length + (0 + 1 + 1 + 1 + 1) ≤ 9223372036854775807 by omega), if_pos (show (varL s.size).length + (0 + 1 + 1 + 1 + 1) + s.size ≤ 9223372036854775807 by omega)]
    exact Ev.now _
  · simp only [decide_eq_false h, Bool.false_eq_true, if_false, if_neg h]
    exact Ev.now _

def frameNext (file : ByteArray) (at_ : Int) : Option (ByteArray × Int) :=
  if (readVar file at_).2.2 = true ∧ (1 ≤ (readVar file at_).1 ∧ (readVar file at_).1 ≤ 9000) ∧ (readVar file at_).2.1 + 4 + (readVar file at_).1 ≤ file.size ∧
    frameS (file.extract ((readVar file at_).2.1 + 4).toNat ((readVar file at_).2.1 + 4 + (readVar file at_).1).toNat) = file.extract at_.toNat ((readVar file at_).2.1 + 4 + (readVar file at_).1).toNat
  then some (file.extract ((readVar file at_).2.1 + 4).toNat ((readVar file at_).2.1 + 4 + (readVar file at_).1).toNat, (readVar file at_).2.1 + 4 + (readVar file at_).1) else none
theorem frameNext_ok {file : ByteArray} {at_ : Int} {t : ByteArray} {n : Int} (h : frameNext file at_ = some (t, n)) : 0 ≤ at_ ∧ at_ < n ∧ n ≤ file.size := by
  unfold frameNext at h
  split at h
  · rename_i hc
    have := readVar_ok hc.1
    simp only [Option.some.injEq, Prod.mk.injEq] at h
    omega
  · cases h
theorem extract_size {s : ByteArray} {a b : Nat} (h1 : a ≤ b) (h2 : b ≤ s.size) : (s.extract a b).size = b - a := by
  rw [ByteArray.size_extract]; omega
theorem impl_frameAt_ev (file : ByteArray) (hs : file.size ≤ 20000) (at_ : Int) : Ev (fun k => impl_frameAt.f k file at_) (match frameNext file at_ with | some (t, n) => (t, n, true) | none => ((⟨#[]⟩ : ByteArray), 0, false)) := by
  simp only [impl_frameAt.f]
  refine Ev.bind (impl_ReadVar_ev file at_ (by omega)) ?_
  have hno : ∀ a b, Ev (fun k => impl_frameAt.j0 k file at_ a b true) ((⟨#[]⟩ : ByteArray), 0, false) := by
    intro a b
    refine Ev.step (fun k => by rw [impl_frameAt.j0, if_pos rfl]) ?_
    exact Ev.now _
  by_cases h1 : (readVar file at_).2.2 = true
  · simp only [if_pos h1, impl_in_eq, Option.bind_some]
    have hk := readVar_ok h1
    by_cases h2 : 1 ≤ (readVar file at_).1 ∧ (readVar file at_).1 ≤ 9000
    · simp only [decide_eq_true h2, if_true]
      have e1 : wrap64 ((file.size : Int) - (readVar file at_).2.1) = (file.size : Int) - (readVar file at_).2.1 := by unfold wrap64; omega
      have e2 : wrap64 (4 + (readVar file at_).1) = 4 + (readVar file at_).1 := by unfold wrap64; omega
      have e3 : wrap64 ((readVar file at_).2.1 + 4) = (readVar file at_).2.1 + 4 := by unfold wrap64; omega
      have e4 : wrap64 ((readVar file at_).2.1 + 4 + (readVar file at_).1) = (readVar file at_).2.1 + 4 + (readVar file at_).1 := by unfold wrap64; omega
      rw [e1, e2]
      by_cases h3 : (readVar file at_).2.1 + 4 + (readVar file at_).1 ≤ file.size
      · rw [decide_eq_false (by omega)]
        refine Ev.step (fun k => by rw [impl_frameAt.j0, if_neg (by simp), e3, e4, if_pos (by omega), if_pos (by omega), if_pos h3]) ?_
        have hz : (file.extract ((readVar file at_).2.1 + 4).toNat ((readVar file at_).2.1 + 4 + (readVar file at_).1).toNat).size = (readVar file at_).1.toNat := by
          rw [extract_size (by omega) (by omega)]; omega
        refine Ev.bind (impl_Frame_ev _ (by rw [hz]; omega)) ?_
        have hf : frameP (file.extract ((readVar file at_).2.1 + 4).toNat ((readVar file at_).2.1 + 4 + (readVar file at_).1).toNat) = (frameS (file.extract ((readVar file at_).2.1 + 4).toNat ((readVar file at_).2.1 + 4 + (readVar file at_).1).toNat), true) := by
          unfold frameP; rw [if_pos (by rw [hz]; omega)]
        simp only [hf, if_pos hk.1, if_pos (show at_ ≤ (readVar file at_).2.1 + 4 + (readVar file at_).1 by omega), toList_iff]
        by_cases h4 : frameS (file.extract ((readVar file at_).2.1 + 4).toNat ((readVar file at_).2.1 + 4 + (readVar file at_).1).toNat) = file.extract at_.toNat ((readVar file at_).2.1 + 4 + (readVar file at_).1).toNat
        · have : frameNext file at_ = some (file.extract ((readVar file at_).2.1 + 4).toNat ((readVar file at_).2.1 + 4 + (readVar file at_).1).toNat, (readVar file at_).2.1 + 4 + (readVar file at_).1) := by unfold frameNext; rw [if_pos ⟨h1, h2, h3, h4⟩]
          rw [this]; simp only [if_pos h4]; exact Ev.now _
        · have : frameNext file at_ = none := by unfold frameNext; rw [if_neg (fun h => h4 h.2.2.2)]
          rw [this]; simp only [if_neg h4]; exact Ev.now _
      · have : frameNext file at_ = none := by unfold frameNext; rw [if_neg (fun h => h3 h.2.2.1)]
        rw [this, decide_eq_true (by omega)]
        exact hno _ _
    · have : frameNext file at_ = none := by unfold frameNext; rw [if_neg (fun h => h2 h.2.1)]
      rw [this]
      simp only [decide_eq_false h2, Bool.false_eq_true, if_false]
      exact hno _ _
  · have : frameNext file at_ = none := by unfold frameNext; rw [if_neg (fun h => h1 h.1)]
    rw [this]
    simp only [if_neg h1]
    exact hno _ _
def unfr (file : ByteArray) : Nat → List ByteArray → Int → List ByteArray × Int
  | 0, acc, at_ => (acc, at_)
  | d + 1, acc, at_ => match frameNext file at_ with
    | some (t, n) => unfr file d (acc ++ [t]) n
    | none => (acc, at_)
theorem impl_Unframe_l0_ev (file : ByteArray) (hs : file.size ≤ 20000) : ∀ (d : Nat) (acc : List ByteArray) (at_ : Int), 0 ≤ at_ → at_ ≤ file.size → (file.size : Int) - at_ < d → acc.length ≤ at_ →
    Ev (fun k => impl_Unframe.l0 k file acc at_) (unfr file d acc at_) := by
  intro d
  induction d with
  | zero => intro acc at_ h0 h1 h2 h3; omega
  | succ d ih =>
    intro acc at_ h0 h1 h2 h3
    have hf := impl_frameAt_ev file hs at_
    rw [unfr]
    cases hn : frameNext file at_ with
    | none =>
      rw [hn] at hf
      refine Ev.step (fun k => by rw [impl_Unframe.l0]) ?_
      refine Ev.bind hf ?_
      simp only [Bool.false_eq_true, if_false]
      exact Ev.now _
    | some p =>
      obtain ⟨t, n⟩ := p
      rw [hn] at hf
      have hk := frameNext_ok hn
      refine Ev.step (fun k => by rw [impl_Unframe.l0]) ?_
      refine Ev.bind hf ?_
      simp only [if_true, if_pos (show acc.length < 8796093022208 by omega)]
      exact ih _ _ (by omega) (by omega) (by omega) (by simp; omega)
def unframeP (file : ByteArray) : List ByteArray × Int := if (file.size : Int) > 20000 then ([], 0) else unfr file (file.size + 1) [] 0
theorem impl_Unframe_ev (file : ByteArray) : Ev (fun k => impl_Unframe.f k file) (unframeP file) := by
  simp only [impl_Unframe.f, unframeP]
  by_cases h : (file.size : Int) > 20000
  · simp only [if_pos h]; exact Ev.now _
  · simp only [if_neg h]
    exact impl_Unframe_l0_ev file (by omega) _ _ _ (by omega) (by omega) (by omega) (by simp)
/-! numbers and frames read where they stand -/
def AtB (s : ByteArray) (i : Int) (l : List Int) : Prop := ∀ j : Nat, j < l.length → i + j < s.size ∧ bt s (i + j) = l.getD j 0
theorem atB_tail {s : ByteArray} {i b : Int} {l : List Int} (h : AtB s i (b :: l)) : AtB s (i + 1) l := by
  intro j hj
  have := h (j + 1) (by simp; omega)
  have e : i + ((j + 1 : Nat) : Int) = i + 1 + j := by omega
  rw [e] at this
  simpa using this
theorem varL_len_le : ∀ (d m : Nat), m < 128 ^ (d + 1) → (varL m).length ≤ d + 1
  | 0, m, h => by rw [varL_small (by simp at h; omega)]; simp
  | d + 1, m, h => by
    by_cases c : m > 127
    · rw [varL_big c]
      have := varL_len_le d (m / 128) (by rw [Nat.pow_succ] at h; omega)
      simp; omega
    · rw [varL_small c]; simp
theorem rv_read (s : ByteArray) (at_ : Int) (m : Nat) : ∀ (d : Nat) (i n u : Int), AtB s i (varL m) → (varL m).length ≤ d → at_ ≤ i → (m ≠ 0 ∨ i = at_) → 0 ≤ n → 0 ≤ u → n + m * u ≤ 1000000000 →
    rvP s at_ d i n u = (n + m * u, i + (varL m).length, true) := by
  induction m using Nat.strongRecOn with
  | ind m ih =>
    intro d i n u hb hd hi hm hn hu hle
    by_cases c : m > 127
    · rw [varL_big c] at hb hd ⊢
      have h0 := hb 0 (by simp)
      have hb1 := atB_tail hb
      simp only [List.getD_cons_zero, Int.natCast_zero, Int.add_zero] at h0
      simp only [List.length_cons] at hd ⊢
      obtain ⟨d, rfl⟩ : ∃ e, d = e + 1 := ⟨d - 1, by omega⟩
      have e1 : ((m % 128 + 128 : Nat) : Int) % 128 = ((m % 128 : Nat) : Int) := by omega
      have e2 : n + ((m % 128 : Nat) : Int) * u + ((m / 128 : Nat) : Int) * (u * 128) = n + m * u := by
        have h1 : ((m / 128 : Nat) : Int) * (u * 128) = (128 * ((m / 128 : Nat) : Int)) * u := by
          rw [← Int.mul_assoc, Int.mul_comm (((m / 128 : Nat) : Int) * u) 128, Int.mul_assoc]
        rw [h1, Int.add_assoc, ← Int.add_mul]
        have h2 : ((m % 128 : Nat) : Int) + 128 * ((m / 128 : Nat) : Int) = m := by omega
        rw [h2]
      have hp : 0 ≤ ((m % 128 : Nat) : Int) * u := Int.mul_nonneg (by omega) hu
      rw [rvP, if_pos h0.1, h0.2, if_neg (by omega), e1, ih (m / 128) (by omega) d (i + 1) _ _ hb1 (by omega) (by omega) (.inl (by omega)) (by omega) (by omega) (by rw [e2]; exact hle), e2]
      congr 2; omega
    · rw [varL_small c] at hb hd ⊢
      have h0 := hb 0 (by simp)
      simp only [List.getD_cons_zero, Int.natCast_zero, Int.add_zero] at h0
      simp only [List.length_cons, List.length_nil] at hd ⊢
      obtain ⟨d, rfl⟩ : ∃ e, d = e + 1 := ⟨d - 1, by omega⟩
      have e1 : (m : Int) % 128 = m := by omega
      rw [rvP, if_pos h0.1, h0.2, if_pos (by omega), e1, if_neg]
      · rfl
      · rintro (⟨h1, h2⟩ | h1)
        · rcases hm with hm | hm <;> omega
        · omega
theorem rv_cut (s : ByteArray) (at_ : Int) (m : Nat) : ∀ (d j : Nat) (i n u : Int), AtB s i ((varL m).take j) → j < (varL m).length → (s.size : Int) = i + j → rvP s at_ d i n u = (0, 0, false) := by
  induction m using Nat.strongRecOn with
  | ind m ih =>
    intro d j i n u hb hj hs
    cases d with
    | zero => rfl
    | succ d =>
      cases j with
      | zero => rw [rvP, if_neg (by omega)]
      | succ j =>
        by_cases c : m > 127
        · rw [varL_big c] at hb hj
          rw [List.take_succ_cons] at hb
          have h0 := hb 0 (by simp)
          simp only [List.getD_cons_zero, Int.natCast_zero, Int.add_zero] at h0
          simp only [List.length_cons] at hj
          rw [rvP, if_pos h0.1, h0.2, if_neg (by omega)]
          exact ih (m / 128) (by omega) d j (i + 1) _ _ (atB_tail hb) (by omega) (by omega)
        · rw [varL_small c] at hj
          simp at hj
theorem atB_of {F : ByteArray} {P Q R : List Int} (h : bytesOf F = P ++ Q ++ R) : AtB F P.length Q := by
  intro j hj
  have hs : F.size = P.length + Q.length + R.length := by rw [← bytesOf_length, h]; simp; omega
  refine ⟨by omega, ?_⟩
  rw [bt_get, h]
  have e : ((P.length : Int) + j).toNat = P.length + j := by omega
  rw [e, List.append_assoc, List.getD_eq_getElem?_getD, List.getElem?_append_right (by omega), List.getElem?_append_left (by omega), List.getD_eq_getElem?_getD]
  congr 2; omega
theorem varL_pos (n : Nat) : 1 ≤ (varL n).length := by
  by_cases c : n > 127
  · rw [varL_big c]; simp
  · rw [varL_small c]; simp
theorem readVar_at {F : ByteArray} {P R : List Int} {m : Nat} (h : bytesOf F = P ++ varL m ++ R) (hm : m ≤ 1000000000) : readVar F P.length = ((m : Int), (P.length : Int) + (varL m).length, true) := by
  have hs : F.size = P.length + (varL m).length + R.length := by rw [← bytesOf_length, h]; simp; omega
  unfold readVar
  rw [if_pos (by omega), rv_read F P.length m 5 P.length 0 1 (atB_of h) (varL_len_le 4 m (by omega)) (Int.le_refl _) (.inr rfl) (by omega) (by omega) (by omega)]
  congr 1; omega
theorem bytesOf_frame (t : ByteArray) : bytesOf (frameS t) = varL t.size ++ fourL (sumOf t) ++ bytesOf t := by
  have hr := sumOf_range t
  unfold frameS
  rw [bytesOf_append, bytesOf_append, bytesOf_str (varL_byt _), bytesOf_str]
  intro x hx
  simp only [fourL, List.mem_cons, List.not_mem_nil, or_false] at hx
  omega
theorem frameS_size (t : ByteArray) : (frameS t).size = (varL t.size).length + 4 + t.size := by
  rw [← bytesOf_length, bytesOf_frame]; simp [fourL, bytesOf_length]; omega
theorem frame_next {F t : ByteArray} {P R : List Int} (h : bytesOf F = P ++ bytesOf (frameS t) ++ R) (ht : 1 ≤ t.size ∧ t.size ≤ 9000) : frameNext F P.length = some (t, (P.length : Int) + (frameS t).size) := by
  have hf := bytesOf_frame t
  have h1 : bytesOf F = P ++ varL t.size ++ (fourL (sumOf t) ++ bytesOf t ++ R) := by rw [h, hf]; simp
  have hr := readVar_at h1 (by omega)
  have hsz := frameS_size t
  have hF : F.size = P.length + (frameS t).size + R.length := by rw [← bytesOf_length, h]; simp [bytesOf_length]; omega
  have hl4 : (fourL (sumOf t)).length = 4 := rfl
  unfold frameNext
  rw [hr]
  simp only
  have ex1 : F.extract ((P.length : Int) + ((varL t.size).length : Int) + 4).toNat ((P.length : Int) + ((varL t.size).length : Int) + 4 + (t.size : Int)).toNat = t := by
    apply bytesOf_inj
    rw [bytesOf_extract]
    have e1 : ((P.length : Int) + ((varL t.size).length : Int) + 4).toNat = (P ++ varL t.size ++ fourL (sumOf t)).length := by simp [hl4]; omega
    have e2 : ((P.length : Int) + ((varL t.size).length : Int) + 4 + (t.size : Int)).toNat - ((P.length : Int) + ((varL t.size).length : Int) + 4).toNat = (bytesOf t).length := by rw [bytesOf_length]; omega
    have e3 : bytesOf F = (P ++ varL t.size ++ fourL (sumOf t)) ++ (bytesOf t ++ R) := by rw [h1]; simp
    rw [e2, e1, e3, List.drop_left' rfl, List.take_left' rfl]
  have ex2 : F.extract (P.length : Int).toNat ((P.length : Int) + ((varL t.size).length : Int) + 4 + (t.size : Int)).toNat = frameS t := by
    apply bytesOf_inj
    rw [bytesOf_extract]
    have e1 : (P.length : Int).toNat = P.length := by omega
    have e2 : ((P.length : Int) + ((varL t.size).length : Int) + 4 + (t.size : Int)).toNat - P.length = (bytesOf (frameS t)).length := by rw [bytesOf_length]; omega
    rw [e1, e2, h, List.append_assoc, List.drop_left' rfl, List.take_left' rfl]
  rw [ex1, ex2, if_pos ⟨by trivial, by omega, by omega, rfl⟩]
  congr 2; omega
theorem frame_cut {F t : ByteArray} {P : List Int} {j : Nat} (h : bytesOf F = P ++ (bytesOf (frameS t)).take j) (ht : 1 ≤ t.size ∧ t.size ≤ 9000) (hj : j < (frameS t).size) : frameNext F P.length = none := by
  have hf := bytesOf_frame t
  have hsz := frameS_size t
  have hF : F.size = P.length + j := by rw [← bytesOf_length, h]; simp [bytesOf_length]; omega
  unfold frameNext
  by_cases c : j < (varL t.size).length
  · have h1 : bytesOf F = P ++ (varL t.size).take j ++ [] := by
      rw [h, hf, List.append_assoc, List.take_append_of_le_length (by omega)]; simp
    have : readVar F P.length = (0, 0, false) := by
      unfold readVar
      rw [if_pos (by omega), rv_cut F P.length t.size 5 j P.length 0 1 (atB_of h1) c (by omega)]
    rw [this, if_neg (fun hh => by cases hh.1)]
  · have h1 : bytesOf F = P ++ varL t.size ++ ((fourL (sumOf t) ++ bytesOf t).take (j - (varL t.size).length)) := by
      rw [h, hf, List.append_assoc (varL t.size), List.take_append, List.take_of_length_le (by omega), List.append_assoc]
    rw [readVar_at h1 (by omega), if_neg]
    rintro ⟨_, _, h3, _⟩
    simp only at h3
    omega
theorem unfr_more (F : ByteArray) : ∀ (ts : List ByteArray) (d : Nat) (acc : List ByteArray) (P R : List Int), bytesOf F = P ++ ts.flatMap (fun t => bytesOf (frameS t)) ++ R → (∀ t ∈ ts, 1 ≤ t.size ∧ t.size ≤ 9000) → ts.length < d →
    frameNext F ((P.length + (ts.flatMap (fun t => bytesOf (frameS t))).length : Nat) : Int) = none → unfr F d acc P.length = (acc ++ ts, ((P.length + (ts.flatMap (fun t => bytesOf (frameS t))).length : Nat) : Int))
  | [], d, acc, P, R, h, _, hd, hn => by
    obtain ⟨d, rfl⟩ : ∃ e, d = e + 1 := ⟨d - 1, by simp at hd; omega⟩
    simp only [List.flatMap_nil, List.length_nil, Nat.add_zero] at hn ⊢
    rw [unfr, hn]; simp
  | t :: ts, d, acc, P, R, h, ht, hd, hn => by
    obtain ⟨d, rfl⟩ : ∃ e, d = e + 1 := ⟨d - 1, by simp at hd; omega⟩
    have h1 : bytesOf F = P ++ bytesOf (frameS t) ++ (ts.flatMap (fun t => bytesOf (frameS t)) ++ R) := by rw [h]; simp
    have hnx := frame_next h1 (ht t List.mem_cons_self)
    rw [unfr, hnx]
    have h2 : bytesOf F = (P ++ bytesOf (frameS t)) ++ ts.flatMap (fun t => bytesOf (frameS t)) ++ R := by rw [h]; simp
    have e : (P.length : Int) + ((frameS t).size : Int) = ((P ++ bytesOf (frameS t)).length : Nat) := by simp [bytesOf_length]
    have e2 : (P.length + ((t :: ts).flatMap (fun t => bytesOf (frameS t))).length : Nat) = ((P ++ bytesOf (frameS t)).length + (ts.flatMap (fun t => bytesOf (frameS t))).length : Nat) := by simp; omega
    rw [e2] at hn ⊢
    simp only
    rw [e, unfr_more F ts d (acc ++ [t]) _ R h2 (fun x hx => ht x (List.mem_cons_of_mem _ hx)) (by simp at hd; omega) hn]
    simp
theorem frame_end {F : ByteArray} {P : List Int} (h : bytesOf F = P) : frameNext F P.length = none := by
  have hF : F.size = P.length := by rw [← bytesOf_length, h]
  cases hn : frameNext F P.length with
  | none => rfl
  | some p => obtain ⟨t, n⟩ := p; have := frameNext_ok hn; omega

theorem l01Below_big (l : List Int) (p s a : Int) (hp : 0 ≤ p) (hl : l.length ≤ 4611686018427387904) (ha : 256 < a) (ha2 : a ≤ 1000000) : ∃ v q t, spec_l01Below.f l p s a = some (v, q, t) ∧ 0 ≤ v ∧ v < a ∧ 0 ≤ q := by
  unfold spec_l01Below.f
  obtain ⟨v1, q1, t1, h1, a1, b1, c1⟩ := l01Byte_some l p s hp hl
  obtain ⟨v2, q2, t2, h2, a2, b2, c2⟩ := l01Byte_some l q1 t1 c1 hl
  obtain ⟨v3, q3, t3, h3, a3, b3, c3⟩ := l01Byte_some l q2 t2 c2 hl
  obtain ⟨v4, q4, t4, h4, a4, b4, c4⟩ := l01Byte_some l q3 t3 c3 hl
  rw [if_neg (by omega), if_neg (by omega)]
  simp only [h1, h2, h3, h4, Option.bind_some]
  rw [if_neg (by omega)]
  have w1 : wrap64 (v1 * 16777216) = v1 * 16777216 := by unfold wrap64; omega
  have w2 : wrap64 (v2 * 65536) = v2 * 65536 := by unfold wrap64; omega
  have w3 : wrap64 (v3 * 256) = v3 * 256 := by unfold wrap64; omega
  have w4 : wrap64 (v1 * 16777216 + v2 * 65536) = v1 * 16777216 + v2 * 65536 := by unfold wrap64; omega
  have w5 : wrap64 (v1 * 16777216 + v2 * 65536 + v3 * 256) = v1 * 16777216 + v2 * 65536 + v3 * 256 := by unfold wrap64; omega
  have w6 : wrap64 (v1 * 16777216 + v2 * 65536 + v3 * 256 + v4) = v1 * 16777216 + v2 * 65536 + v3 * 256 + v4 := by unfold wrap64; omega
  rw [w1, w2, w3, w4, w5, w6]
  exact ⟨_, _, _, rfl, Int.tmod_nonneg _ (by omega), Int.tmod_lt_of_pos _ (by omega), c4⟩
theorem spec_DrawPlaces_ev (l : List Int) (hl : l.length ≤ 4611686018427387904) : ∃ p, Ev (fun k => spec_DrawPlaces.f k l) p ∧ p.length = 12 ∧ ∀ x ∈ p, 0 ≤ x ∧ x < 10000 := by
  obtain ⟨s, hs⟩ := spec_l01New_ev l hl
  obtain ⟨v, q, t, h1, _, _, hq⟩ := l01Byte_some l 0 s (by omega) hl
  have key : ∀ (d i : Nat) (acc : List Int) (q t : Int), i + d = 12 → acc.length = i → (∀ x ∈ acc, 0 ≤ x ∧ x < 10000) → 0 ≤ q → ∃ p, Ev (fun k => spec_DrawPlaces.l0 k acc i l q t) p ∧ p.length = 12 ∧ ∀ x ∈ p, 0 ≤ x ∧ x < 10000 := by
    intro d
    induction d with
    | zero =>
      intro i acc q t hi ha hx hq
      refine ⟨acc, Ev.step (fun k => by rw [spec_DrawPlaces.l0, if_neg (by omega)]) (Ev.now _), by omega, hx⟩
    | succ d ih =>
      intro i acc q t hi ha hx hq
      obtain ⟨v, q2, t2, g1, g2, g3, g4⟩ := l01Below_big l q t 10000 hq hl (by omega) (by omega)
      obtain ⟨p, hp, h2, h3⟩ := ih (i + 1) (acc ++ [v]) q2 t2 (by omega) (by simp; omega) (fun x hx2 => by
        rcases List.mem_append.mp hx2 with h | h
        · exact hx x h
        · simp only [List.mem_singleton] at h; omega) g4
      refine ⟨p, Ev.step (fun k => by rw [spec_DrawPlaces.l0, if_pos (by omega), g1, Option.bind_some, if_pos (by omega), wrap_succ (show i < 12 by omega) (by omega)]) hp, h2, h3⟩
  obtain ⟨p, hp, h2, h3⟩ := key 12 0 [] q t (by omega) rfl (by simp) hq
  refine ⟨p, ?_, h2, h3⟩
  simp only [spec_DrawPlaces.f]
  refine Ev.bind hs ?_
  simp only [h1, Option.bind_some]
  exact hp
theorem spec_l01Long_ev (n : Nat) (x : Int) (hn : n ≤ 1000000) : Ev (fun k => spec_l01Long.f k n x) (strOfNums (List.replicate n x)) := by
  simp only [spec_l01Long.f, if_pos (show (0 : Int) ≤ n by omega), Int.toNat_natCast, if_pos (show n ≤ 281474976710656 by omega)]
  have := Ev.setloop (L := fun k y i => spec_l01Long.l0 k n x y i) (n := n) (fun _ => x) 0 strOfNums (by
    intro i y r hi hy h
    refine Ev.step (fun k => by rw [spec_l01Long.l0, if_pos (by omega), if_pos (by omega), if_pos (by omega), Int.toNat_natCast, wrap_succ hi (by omega)]) ?_
    exact h) (by
    intro y hy
    refine Ev.step (fun k => by rw [spec_l01Long.l0, if_neg (by omega)]) ?_
    exact Ev.now _)
  have e : (List.range n).map (fun _ => x) = List.replicate n x := by simp [List.map_const']
  rw [e] at this
  exact this
theorem spec_l01Text_ev (l : List Int) (p s : Int) (n : Int) (hp : 0 ≤ p) (hl : l.length ≤ 4611686018427387904) (hn : n ≤ 5000) : ∃ t q u, Ev (fun k => spec_l01Text.f k l p s n) (t, q, u) ∧ t.size ≤ 5000 ∧ 0 ≤ q := by
  have key : ∀ (d i : Nat) (acc : List Int) (q u : Int), (n.toNat - i) = d → i ≤ 5000 → acc.length = i → 0 ≤ q → ∃ t q' u', Ev (fun k => spec_l01Text.l0 k n acc i l q u) (t, q', u') ∧ t.size ≤ 5000 ∧ 0 ≤ q' := by
    intro d
    induction d with
    | zero =>
      intro i acc q u hi hi2 ha hq
      refine ⟨strOfNums acc, q, u, Ev.step (fun k => by rw [spec_l01Text.l0, if_neg (by omega)]) (Ev.now _), by rw [str_size]; omega, hq⟩
    | succ d ih =>
      intro i acc q u hi hi2 ha hq
      obtain ⟨v, q2, u2, g1, _, _, g4⟩ := l01Byte_some l q u hq hl
      obtain ⟨t, q', u', h1, h2, h3⟩ := ih (i + 1) (acc ++ [v % 256]) q2 u2 (by omega) (by omega) (by simp; omega) g4
      refine ⟨t, q', u', Ev.step (fun k => by rw [spec_l01Text.l0, if_pos (by omega), g1, Option.bind_some, if_pos (by omega), wrap_succ (show i < 5000 by omega) (by omega)]) h1, h2, h3⟩
  obtain ⟨t, q, u, h1, h2, h3⟩ := key n.toNat 0 [] p s (by omega) (by omega) rfl hp
  refine ⟨t, q, u, ?_, h2, h3⟩
  simp only [spec_l01Text.f, if_neg (show ¬ n > 5000 by omega)]
  refine Ev.step (fun k => by rw [spec_l01Text.j0]) ?_
  exact h1
theorem spec_DrawHex_ev (l : List Int) (hl : l.length ≤ 4611686018427387904) : ∃ t, Ev (fun k => spec_DrawHex.f k l) t ∧ t.size ≤ 20001 := by
  obtain ⟨s, hs⟩ := spec_l01New_ev l hl
  obtain ⟨v, q, t, h1, h2, h3, h4⟩ := l01Below_some l 0 s 60 (by omega) hl (by omega) (by omega)
  by_cases c : (v == 0) = true
  · obtain ⟨v2, q2, t2, g1, g2, g3, g4⟩ := l01Below_some l q t 2 h4 hl (by omega) (by omega)
    have hw : wrap64 (20000 + v2) = ((20000 + v2.toNat : Nat) : Int) := by unfold wrap64; omega
    have hL := spec_l01Long_ev (20000 + v2.toNat) 200 (by omega)
    refine ⟨strOfNums (List.replicate (20000 + v2.toNat) 200), ?_, by rw [str_size, List.length_replicate]; omega⟩
    simp only [spec_DrawHex.f]
    refine Ev.bind hs ?_
    simp only [spec_l01Once.f, h1, Option.bind_some, c, if_true, g1, hw]
    exact Ev.bind hL (Ev.now _)
  · obtain ⟨v2, q2, t2, g1, g2, g3, g4⟩ := l01Below_some l q t 30 h4 hl (by omega) (by omega)
    obtain ⟨x, q3, u3, k1, k2, k3⟩ := spec_l01Text_ev l q2 t2 v2 g4 hl (by omega)
    refine ⟨x, ?_, by omega⟩
    simp only [spec_DrawHex.f]
    refine Ev.bind hs ?_
    simp only [spec_l01Once.f, h1, Option.bind_some, Bool.eq_false_iff.2 c, Bool.false_eq_true, if_false, g1]
    exact Ev.bind k1 (Ev.now _)

theorem laws_sameTexts_refl (l : List ByteArray) (hl : l.length ≤ 4611686018427387904) : Ev (fun k => laws_sameTexts.f k l l) true := by
  simp only [laws_sameTexts.f, if_true]
  have := Ev.allloop (L := fun k i => laws_sameTexts.l0 k l l i) (n := l.length) (fun _ => true) false true (by
    intro i r hi _ h
    refine Ev.step (fun k => by rw [laws_sameTexts.l0, if_pos (by omega), if_pos (by omega), if_pos (by omega), if_pos rfl, wrap_succ hi hl]) ?_
    exact h) (by intro i _ h; cases h) (by
    refine Ev.step (fun k => by rw [laws_sameTexts.l0, if_neg (by omega)]) ?_
    exact Ev.now _)
  simpa using this
theorem frameS_small {t : ByteArray} (h : t.size ≤ 900) : (frameS t).size ≤ 910 := by
  have h1 := frameS_size t
  have h2 := varL_len_le 4 t.size (by omega)
  omega
theorem frameS_pos (t : ByteArray) : 5 ≤ (frameS t).size := by
  have h1 := frameS_size t
  have h2 := varL_pos t.size
  omega
theorem unframe_cut {a b c F : ByteArray} (ha : 1 ≤ a.size ∧ a.size ≤ 900) (hb : 1 ≤ b.size ∧ b.size ≤ 900) (hc : 1 ≤ c.size ∧ c.size ≤ 900) {k : Nat} (hk : k ≤ (frameS a).size + (frameS b).size + (frameS c).size)
    (hF : bytesOf F = (bytesOf (frameS a) ++ bytesOf (frameS b) ++ bytesOf (frameS c)).take k) :
    ∃ m e e' : Nat, m ≤ 3 ∧ unframeP F = ([a, b, c].take m, (e : Int)) ∧ e ≤ k ∧ [0, (frameS a).size, (frameS a).size + (frameS b).size, (frameS a).size + (frameS b).size + (frameS c).size][m]? = some e ∧ (m = 3 ∨ ([0, (frameS a).size, (frameS a).size + (frameS b).size, (frameS a).size + (frameS b).size + (frameS c).size][m + 1]? = some e' ∧ k < e')) := by
  have sa := frameS_small ha.2
  have sb := frameS_small hb.2
  have sc := frameS_small hc.2
  have pa := frameS_pos a
  have pb := frameS_pos b
  have pc := frameS_pos c
  have la : (bytesOf (frameS a)).length = (frameS a).size := bytesOf_length _
  have lb : (bytesOf (frameS b)).length = (frameS b).size := bytesOf_length _
  have lc : (bytesOf (frameS c)).length = (frameS c).size := bytesOf_length _
  have hsz : F.size = k := by
    rw [← bytesOf_length, hF, List.length_take]
    simp only [List.length_append]
    omega
  have hu : unframeP F = unfr F (F.size + 1) [] 0 := by unfold unframeP; rw [if_neg (by omega)]
  have run : ∀ (ts : List ByteArray) (R : List Int), bytesOf F = ts.flatMap (fun t => bytesOf (frameS t)) ++ R → (∀ t ∈ ts, 1 ≤ t.size ∧ t.size ≤ 9000) → ts.length ≤ F.size → frameNext F (((ts.flatMap (fun t => bytesOf (frameS t))).length : Nat) : Int) = none →
      unframeP F = (ts, (((ts.flatMap (fun t => bytesOf (frameS t))).length : Nat) : Int)) := by
    intro ts R h1 h2 h3 h4
    have := unfr_more F ts (F.size + 1) [] [] R (by rw [h1]; simp) h2 (by omega) (by simpa using h4)
    rw [hu]
    simpa using this
  by_cases c1 : k < (frameS a).size
  · refine ⟨0, 0, (frameS a).size, by omega, ?_, by omega, rfl, .inr ⟨rfl, c1⟩⟩
    have h1 : bytesOf F = ([] : List Int) ++ (bytesOf (frameS a)).take k := by
      rw [hF, List.append_assoc, List.take_append_of_le_length (by omega)]; rfl
    have h2 := frame_cut h1 (by omega) c1
    exact run [] _ (by simp; rfl) (by simp) (by simp) (by simpa using h2)
  · by_cases c2 : k < (frameS a).size + (frameS b).size
    · refine ⟨1, (frameS a).size, (frameS a).size + (frameS b).size, by omega, ?_, by omega, rfl, .inr ⟨rfl, c2⟩⟩
      have h1 : bytesOf F = bytesOf (frameS a) ++ (bytesOf (frameS b)).take (k - (frameS a).size) := by
        rw [hF, List.append_assoc, List.take_append, List.take_of_length_le (by omega), la, List.take_append_of_le_length (by omega)]
      have h2 := frame_cut h1 (by omega) (by omega)
      have := run [a] ((bytesOf (frameS b)).take (k - (frameS a).size)) (by rw [h1]; simp) (by simp; omega) (by simp; omega) (by simpa using h2)
      rw [this]
      simp [la]
    · by_cases c3 : k < (frameS a).size + (frameS b).size + (frameS c).size
      · refine ⟨2, (frameS a).size + (frameS b).size, (frameS a).size + (frameS b).size + (frameS c).size, by omega, ?_, by omega, rfl, .inr ⟨rfl, c3⟩⟩
        have h1 : bytesOf F = (bytesOf (frameS a) ++ bytesOf (frameS b)) ++ (bytesOf (frameS c)).take (k - ((frameS a).size + (frameS b).size)) := by
          rw [hF, List.take_append, List.take_of_length_le (by simp; omega), List.length_append, la, lb]
        have h2 := frame_cut h1 (by omega) (by omega)
        have := run [a, b] ((bytesOf (frameS c)).take (k - ((frameS a).size + (frameS b).size))) (by rw [h1]; simp) (by intro t ht; simp at ht; rcases ht with rfl | rfl <;> omega) (by simp; omega) (by simpa using h2)
        rw [this]
        simp [la, lb]
      · refine ⟨3, (frameS a).size + (frameS b).size + (frameS c).size, 0, by omega, ?_, by omega, rfl, .inl rfl⟩
        have h1 : bytesOf F = bytesOf (frameS a) ++ bytesOf (frameS b) ++ bytesOf (frameS c) := by
          rw [hF, List.take_of_length_le (by simp; omega)]
        have h2 := frame_end h1
        have := run [a, b, c] [] (by rw [h1]; simp) (by intro t ht; simp at ht; rcases ht with rfl | rfl | rfl <;> omega) (by simp; omega) (by
          have e : ([a, b, c].flatMap (fun t => bytesOf (frameS t))) = bytesOf (frameS a) ++ bytesOf (frameS b) ++ bytesOf (frameS c) := by simp
          rw [e]; exact h2)
        rw [this]
        simp [la, lb, lc]; omega
theorem wr_small {e : Nat} (h : e ≤ 3000) : wrap64 ((e : Int) + 1) = (e : Int) + 1 := by unfold wrap64; omega
theorem wr_small' {e : Nat} (h : e ≤ 3000) : wrap64 ((e : Int) + 1) = ((e + 1 : Nat) : Int) := by unfold wrap64; omega
theorem tm_pos (e : Nat) : (0 : Int) < (e : Int) + 1 := by omega
theorem tm_le {x : Int} {e : Nat} (h : x < (e : Int) + 1) : x ≤ (e : Int) := by omega
theorem nat_lt1 {k e : Nat} (h : (k : Int) < (e : Int) + 1) : k ≤ e := by omega
theorem m_0 (m : Nat) : (0 : Int) ≤ ((m + 1 : Nat) : Int) := by omega
theorem m_5 {m : Nat} (h : m ≤ 3) (h2 : ¬ (m : Int) = 3) : ((m + 1 : Nat) : Int) < ((0 + 1 + 1 + 1 + 1 : Nat) : Int) := by omega
theorem hgt_ {A B D e k f m : Nat} (he : D = e) (hm : m ≤ 3) (cm : ¬ (m : Int) = 3) (h : m = 3 ∨ ([0, A, A + B, D][m + 1]? = some f ∧ k < f)) : rd [0, (A : Int), (A : Int) + (B : Int), (e : Int)] ((m + 1 : Nat) : Int) > (k : Int) := by
  rcases h with h | ⟨h1, h2⟩
  · exact absurd (by rw [h]; rfl) cm
  · have : m = 0 ∨ m = 1 ∨ m = 2 := by omega
    rcases this with rfl | rfl | rfl <;> simp [rd] at h1 ⊢ <;> omega
theorem tm_ne (e : Nat) : ¬ (e : Int) + 1 = 0 := by omega
set_option maxHeartbeats 8000000 in
theorem FnFrames : laws_FnFrames.Pure := by
  intro code h0 _ _
  refine Ev.rounds (g := fun k => laws_FnFrames.f k code) ?_
  have hlen : code.length ≤ 4611686018427387904 := by unfold maxLen at h0; omega
  simp only [laws_FnFrames.f, laws_big.f, Option.bind_some, decide_eq_true_eq]
  by_cases hbig : (code.length : Int) > 1048576
  · simp only [if_pos hbig]; exact Ev.now _
  · simp only [if_neg hbig]
    obtain ⟨p, hp, hpl, hpx⟩ := spec_DrawPlaces_ev code hlen
    obtain ⟨t, ht, hts⟩ := spec_DrawHex_ev code hlen
    refine Ev.bind hp ?_
    refine Ev.bind ht ?_
    have hb2 : (⟨#[116, 119, 111]⟩ : ByteArray).size = 3 := rfl
    have hc2 : (⟨#[116, 104, 114, 101, 101, 32, 97, 110, 100, 32, 109, 111, 114, 101]⟩ : ByteArray).size = 14 := rfl
    have ho2 : (⟨#[111, 110, 101]⟩ : ByteArray).size = 3 := rfl
    generalize (⟨#[116, 119, 111]⟩ : ByteArray) = b at hb2 ⊢
    generalize (⟨#[116, 104, 114, 101, 101, 32, 97, 110, 100, 32, 109, 111, 114, 101]⟩ : ByteArray) = c at hc2 ⊢
    simp only [Option.bind_some, List.length_cons, List.length_nil]
    -- what comes behind the first text
    have main : ∀ a : ByteArray, 1 ≤ a.size ∧ a.size ≤ 900 → Ev (fun k => laws_FnFrames.l0 k p [a, b, c] (⟨#[]⟩ : ByteArray) [0] 0) true := by
      intro a ha
      have sa := frameS_small ha.2
      have sb := frameS_small (t := b) (by omega)
      have sc := frameS_small (t := c) (by omega)
      have fr : ∀ s : ByteArray, 1 ≤ s.size → s.size ≤ 900 → Ev (fun k => impl_Frame.f k s) (frameS s, true) := by
        intro s h1 h2
        have := impl_Frame_ev s (by omega)
        unfold frameP at this
        rw [if_pos (by omega)] at this
        exact this
      have e0 : (⟨#[]⟩ : ByteArray) ++ frameS a = frameS a := by apply bytesOf_inj; rw [bytesOf_append]; rfl
      have z0 : (⟨#[]⟩ : ByteArray).size = 0 := rfl
      -- three rounds
      refine Ev.step (fun k => by rw [laws_FnFrames.l0, if_pos (by simp), if_pos (by omega)]) ?_
      refine Ev.bind (fr a ha.1 ha.2) ?_
      simp only [if_true, if_pos (show (⟨#[]⟩ : ByteArray).size + (frameS a).size ≤ 9223372036854775807 by omega), List.length_cons, List.length_nil, if_pos (show 0 + 1 < 17592186044416 by omega), e0, show wrap64 (0 + 1) = 1 by unfold wrap64; omega]
      refine Ev.step (fun k => by rw [laws_FnFrames.l0, if_pos (by simp), if_pos (by omega)]) ?_
      refine Ev.bind (fr b (by omega) (by omega)) ?_
      simp only [if_true, if_pos (show (frameS a).size + (frameS b).size ≤ 9223372036854775807 by omega), List.length_append, List.length_cons, List.length_nil, if_pos (show 0 + 1 + (0 + 1) < 17592186044416 by omega), show wrap64 (1 + 1) = 2 by unfold wrap64; omega]
      refine Ev.step (fun k => by rw [laws_FnFrames.l0, if_pos (by simp), if_pos (by omega)]) ?_
      refine Ev.bind (fr c (by omega) (by omega)) ?_
      have sz2 : (frameS a ++ frameS b).size = (frameS a).size + (frameS b).size := size_append _ _
      have sz3 : (frameS a ++ frameS b ++ frameS c).size = (frameS a).size + (frameS b).size + (frameS c).size := by rw [size_append, size_append]
      simp only [if_true, if_pos (show (frameS a ++ frameS b).size + (frameS c).size ≤ 9223372036854775807 by omega), List.length_append, List.length_cons, List.length_nil, if_pos (show 0 + 1 + (0 + 1) + (0 + 1) < 17592186044416 by omega), show wrap64 (2 + 1) = 3 by unfold wrap64; omega]
      refine Ev.step (fun k => by rw [laws_FnFrames.l0, if_neg (by simp)]) ?_
      have hbytes : bytesOf (frameS a ++ frameS b ++ frameS c) = bytesOf (frameS a) ++ bytesOf (frameS b) ++ bytesOf (frameS c) := by rw [bytesOf_append, bytesOf_append]
      -- the whole file
      obtain ⟨m, e, e', hm, hu, _, he, hlast⟩ := unframe_cut (a := a) (b := b) (c := c) (F := frameS a ++ frameS b ++ frameS c) ha (by omega) (by omega) (k := (frameS a).size + (frameS b).size + (frameS c).size) (Nat.le_refl _) (by
        rw [hbytes, List.take_of_length_le]
        simp only [List.length_append, bytesOf_length]; omega)
      have pa := frameS_pos a
      have pb := frameS_pos b
      have pc := frameS_pos c
      have hm3 : m = 3 := by
        rcases hlast with h | ⟨h1, h2⟩
        · exact h
        · have : m = 0 ∨ m = 1 ∨ m = 2 ∨ m = 3 := by omega
          rcases this with rfl | rfl | rfl | rfl
          · simp at h1; omega
          · simp at h1; omega
          · simp at h1; omega
          · rfl
      subst hm3
      have he3 : (frameS a).size + (frameS b).size + (frameS c).size = e := by simpa using he
      have hwhole := impl_Unframe_ev (frameS a ++ frameS b ++ frameS c)
      rw [hu] at hwhole
      have ht3 : [a, b, c].take 3 = [a, b, c] := rfl
      rw [ht3] at hwhole
      refine Ev.bind hwhole ?_
      simp only [sz3, he3, if_true]
      refine Ev.bind (laws_sameTexts_refl [a, b, c] (by simp)) ?_
      simp only [Bool.not_true]
      refine Ev.step (fun k => by rw [laws_FnFrames.j3, if_neg (by simp), if_pos (by omega)]) ?_
      have hp0 : 0 ≤ rd p 0 := by
        have : rd p 0 ∈ p := by
          simp only [rd, List.getD_eq_getElem?_getD]
          rw [List.getElem?_eq_getElem (by simp; omega)]
          exact List.getElem_mem _
        exact (hpx _ this).1
      have hle : e ≤ 3000 := by omega
      have hw : wrap64 ((e : Int) + 1) = (e : Int) + 1 := wr_small hle
      have hk0 : 0 ≤ Int.tmod (rd p 0) ((e : Int) + 1) := Int.tmod_nonneg _ hp0
      have hk1 : Int.tmod (rd p 0) ((e : Int) + 1) < (e : Int) + 1 := Int.tmod_lt_of_pos _ (tm_pos e)
      simp only [sz3, he3, hw, if_neg (tm_ne e), if_pos hk0, if_pos (tm_le hk1)]
      obtain ⟨k, hk⟩ := Int.eq_ofNat_of_zero_le hk0
      rw [hk] at hk1 ⊢
      have hke : k ≤ e := nat_lt1 hk1
      simp only [Int.toNat_natCast]
      clear hk hk0 hk1 hw hp0 hpx hp hpl
      obtain ⟨m, f, f', hm, hu2, hf1, hf2, hf3⟩ := unframe_cut (a := a) (b := b) (c := c) (F := (frameS a ++ frameS b ++ frameS c).extract 0 k) ha (by omega) (by omega) (k := k) (by omega) (by
        rw [bytesOf_extract, hbytes]; simp)
      have hcut := impl_Unframe_ev ((frameS a ++ frameS b ++ frameS c).extract 0 k)
      rw [hu2] at hcut
      refine Ev.bind hcut ?_
      have hml : ([a, b, c].take m).length = m := by rw [List.length_take]; simp; omega
      have hends : rd [0, ((frameS a).size : Int), ((frameS a).size : Int) + ((frameS b).size : Int), (e : Int)] (m : Int) = (f : Int) := by
        have : m = 0 ∨ m = 1 ∨ m = 2 ∨ m = 3 := by omega
        rcases this with rfl | rfl | rfl | rfl <;> simp [rd] at hf2 ⊢ <;> omega
      have hen : ([0] ++ [((frameS a).size : Int)] ++ [((frameS a ++ frameS b).size : Int)] ++ [(e : Int)] : List Int) = [0, ((frameS a).size : Int), ((frameS a).size : Int) + ((frameS b).size : Int), (e : Int)] := by
        simp [sz2]
      simp only [hml, hen, if_pos (show (m : Int) ≤ 3 by omega), if_pos (show (0 : Int) ≤ m by omega), List.length_cons, List.length_nil, Int.toNat_natCast, hends]
      simp only [if_true, if_pos (show (m : Int) < ((0 + 1 + 1 + 1 + 1 : Nat) : Int) by omega), if_pos (show (f : Int) ≤ (k : Int) by omega), if_pos (show (m : Int) ≤ ((0 + 1 + 1 + 1 : Nat) : Int) by omega)]
      refine Ev.bind (laws_sameTexts_refl _ (by rw [hml]; omega)) ?_
      simp only [if_true]
      by_cases cm : (m : Int) = 3
      · simp only [if_pos cm]; exact Ev.now _
      · have hwm : wrap64 ((m : Int) + 1) = ((m + 1 : Nat) : Int) := wr_small' (by omega)
        simp only [if_neg cm, hwm, if_pos (m_0 m), if_pos (m_5 hm cm)]
        have hgt : rd [0, ((frameS a).size : Int), ((frameS a).size : Int) + ((frameS b).size : Int), (e : Int)] ((m + 1 : Nat) : Int) > (k : Int) := hgt_ he3 hm cm hf3
        rw [decide_eq_true hgt]
        exact Ev.now _
    have hset : [t, b, c].set (0 : Int).toNat (⟨#[111, 110, 101]⟩ : ByteArray) = [(⟨#[111, 110, 101]⟩ : ByteArray), b, c] := rfl
    have hg0 : rdOf ByteArray.empty [t, b, c] 0 = t := rfl
    have yes : Ev (fun k => laws_FnFrames.j0 k p [t, b, c] true) true := by
      refine Ev.step (fun k => by rw [laws_FnFrames.j0, if_pos rfl, if_pos (by simp), hset]) ?_
      refine Ev.step (fun k => by rw [laws_FnFrames.j1]) ?_
      exact main _ (by rw [ho2]; omega)
    simp only [hg0]
    simp only [if_pos (show (0 : Int) < ((0 + 1 + 1 + 1 : Nat) : Int) by omega)]
    by_cases c1 : (t.size : Int) = 0
    · simp only [if_pos c1]; exact yes
    · simp only [if_neg c1]
      by_cases c2 : (t.size : Int) > 900
      · simp only [decide_eq_true c2]; exact yes
      · simp only [decide_eq_false c2]
        refine Ev.step (fun k => by rw [laws_FnFrames.j0, if_neg (by simp)]) ?_
        refine Ev.step (fun k => by rw [laws_FnFrames.j1]) ?_
        exact main t (by omega)

end Go.Proofs.Ytigeiofkbccocaa.Pure
