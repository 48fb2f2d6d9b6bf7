/- For every text Frame of the program and of the reference tell the same. No condition is laid beside the statement. -/
import Derived.Test.YtmjblanhgekhpaaQFnExactFramex2
import Derived.Laws.BitsLemmas
import Derived.Lib.Bytes
import Derived.OpenShut
namespace Go.Proofs.Ytmjblanhgekhpaa.Pure
open Go.RowKit Go.Proofs.Ytmjblanhgekhpaa.QFnExactFrame Go.Proofs.YtmjblanhgekhpaaW.PrintWords Go.Proofs.YtmjblanhgekhpaaW.PrintLast
set_option linter.unusedVariables false
set_option linter.unusedSimpArgs false


theorem wrap_id {i : Int} (h0 : -9223372036854775808 ≤ i) (h1 : i ≤ 9223372036854775807) : wrap64 i = i := by unfold wrap64; omega
theorem toList_eq {a b : ByteArray} (h : a = b) : a.toList = b.toList := by rw [h]

theorem spec_in_eq (a b c : Int) : spec_l01In.f a b c = some (decide (b ≤ a ∧ a ≤ c)) := by
  unfold spec_l01In.f
  by_cases h : a ≥ b
  · have h' : b ≤ a := h
    simp [h']
  · have h' : ¬ b ≤ a := h
    simp [h']
theorem impl_in_eq (a b c : Int) : impl_in.f a b c = some (decide (b ≤ a ∧ a ≤ c)) := by
  unfold impl_in.f
  by_cases h : a ≥ b
  · have h' : b ≤ a := h
    simp [h']
  · have h' : ¬ b ≤ a := h
    simp [h']

/-! strings as numbers -/
theorem toList_data' (s : ByteArray) : s.toList = s.data.toList := Go.Lib.toList_data s
theorem str_ext {a b : ByteArray} (h : a.toList = b.toList) : a = b := by
  rw [toList_data', toList_data'] at h
  cases a; cases b
  simp at h
  rw [h]
theorem toList_iff {a b : ByteArray} : a.toList = b.toList ↔ a = b := ⟨str_ext, fun h => by rw [h]⟩
def Byt (l : List Int) : Prop := ∀ x ∈ l, 0 ≤ x ∧ x < 256
theorem bytesOf_byt (s : ByteArray) : Byt (bytesOf s) := by
  intro x hx
  unfold bytesOf at hx
  simp at hx
  obtain ⟨b, _, rfl⟩ := hx
  have := b.toNat_lt
  omega
theorem bytesOf_str {l : List Int} (h : Byt l) : bytesOf (strOfNums l) = l := by
  unfold bytesOf strOfNums
  simp
  apply List.ext_getElem
  · simp
  · intro i h1 h2
    have := h l[i] (List.getElem_mem h2)
    simp
    omega
theorem str_bytesOf (s : ByteArray) : strOfNums (bytesOf s) = s := by
  unfold bytesOf strOfNums
  cases s with
  | mk d =>
    simp
    apply Array.ext'
    simp
    apply List.ext_getElem
    · simp
    · intro i h1 h2
      simp
theorem bytesOf_inj {a b : ByteArray} (h : bytesOf a = bytesOf b) : a = b := by rw [← str_bytesOf a, h, str_bytesOf]
theorem bytesOf_append (a b : ByteArray) : bytesOf (a ++ b) = bytesOf a ++ bytesOf b := by
  unfold bytesOf
  simp [ByteArray.data_append]
theorem bytesOf_extract (s : ByteArray) (a b : Nat) : bytesOf (s.extract a b) = ((bytesOf s).drop a).take (b - a) := by
  unfold bytesOf
  simp [ByteArray.data_extract, List.map_take, List.map_drop]
theorem bt_get (s : ByteArray) (i : Int) : bt s i = (bytesOf s).getD i.toNat 0 := (rd_bytesOf s i).symm
theorem str_size (l : List Int) : (strOfNums l).size = l.length := by
  show (strOfNums l).data.size = _
  unfold strOfNums
  simp

/-! sums -/
def stepS (x : Int) : Int := if x % 2 = 1 then Go.bits .xor .u32 (x / 2) 3558460437 else x / 2
def iterS : Nat → Int → Int
  | 0, x => x
  | d + 1, x => iterS d (stepS x)
def sumAt (s : ByteArray) : Nat → Int → Int → Int
  | 0, _, x => x
  | d + 1, i, x => sumAt s d (i + 1) (iterS 8 (Go.bits .xor .u32 x ((bt s i) % 4294967296)))
theorem xor_range (a b : Int) : 0 ≤ Go.bits .xor .u32 a b ∧ Go.bits .xor .u32 a b < 4294967296 := by
  simp only [Go.bits, Go.IntKind.wrap_u32]
  omega
theorem stepS_range {x : Int} (h0 : 0 ≤ x) (h1 : x < 4294967296) : 0 ≤ stepS x ∧ stepS x < 4294967296 := by
  unfold stepS
  split
  · exact xor_range _ _
  · omega
theorem iterS_range : ∀ (d : Nat) {x : Int}, 0 ≤ x → x < 4294967296 → 0 ≤ iterS d x ∧ iterS d x < 4294967296
  | 0, _, h0, h1 => ⟨h0, h1⟩
  | d + 1, _, h0, h1 => iterS_range d (stepS_range h0 h1).1 (stepS_range h0 h1).2
theorem sumAt_range (s : ByteArray) : ∀ (d : Nat) (i x : Int), 0 ≤ x → x < 4294967296 → 0 ≤ sumAt s d i x ∧ sumAt s d i x < 4294967296
  | 0, _, _, h0, h1 => ⟨h0, h1⟩
  | d + 1, _, _, _, _ => sumAt_range s d _ _ (iterS_range 8 (xor_range _ _).1 (xor_range _ _).2).1 (iterS_range 8 (xor_range _ _).1 (xor_range _ _).2).2
theorem and_one {x : Int} (h0 : 0 ≤ x) (h1 : x < 4294967296) : Go.bits .and .u32 x 1 = x % 2 := by
  have := Go.bits_mask .u32 32 (by decide) (fun n a b => by rw [Go.IntKind.wrap_u32]; omega) 1 (by decide) x h0 (by omega)
  simpa using this
theorem spec_l1_ev (s : ByteArray) (i r : Int) : ∀ (d : Nat) (x j : Int), 0 ≤ x → x < 4294967296 → 0 ≤ j → 8 - j = d →
    Ev (fun k => spec_SumMore.l0 k (iterS d x) s (wrap64 (i + 1))) r → Ev (fun k => spec_SumMore.l1 k x s i j) r := by
  intro d
  induction d with
  | zero =>
    intro x j h0 h1 hj hd h
    refine Ev.step (fun k => by rw [spec_SumMore.l1, if_neg (by omega)]) ?_
    exact h
  | succ d ih =>
    intro x j h0 h1 hj hd h
    have e1 : Int.tmod x 2 = x % 2 := Int.tmod_eq_emod_of_nonneg h0
    have e2 : (Int.tdiv x 2) % 4294967296 = x / 2 := by rw [Int.tdiv_eq_ediv_of_nonneg h0]; omega
    have e3 : wrap64 (j + 1) = j + 1 := by unfold wrap64; omega
    have hr := stepS_range h0 h1
    have h' := ih (stepS x) (j + 1) hr.1 hr.2 (by omega) (by omega) h
    refine Ev.step (fun k => by rw [spec_SumMore.l1, if_pos (by omega), e1, e2, e3]) ?_
    unfold stepS at h'
    by_cases c : x % 2 = 1
    · simp only [if_pos c] at h' ⊢; exact h'
    · simp only [if_neg c] at h' ⊢; exact h'
theorem impl_l1_ev (s : ByteArray) (n i r : Int) : ∀ (d : Nat) (x j : Int), 0 ≤ x → x < 4294967296 → 0 ≤ j → 8 - j = d →
    Ev (fun k => impl_SumMore.l0 k (iterS d x) s n (wrap64 (i + 1))) r → Ev (fun k => impl_SumMore.l1 k x s n i j) r := by
  intro d
  induction d with
  | zero =>
    intro x j h0 h1 hj hd h
    refine Ev.step (fun k => by rw [impl_SumMore.l1, if_neg (by omega)]) ?_
    exact h
  | succ d ih =>
    intro x j h0 h1 hj hd h
    have e1 := and_one h0 h1
    have e3 : wrap64 (j + 1) = j + 1 := by unfold wrap64; omega
    have hr := stepS_range h0 h1
    have h' := ih (stepS x) (j + 1) hr.1 hr.2 (by omega) (by omega) h
    refine Ev.step (fun k => by rw [impl_SumMore.l1, if_pos (by omega), e1, e3]) ?_
    unfold stepS at h'
    by_cases c : x % 2 = 1
    · simp only [if_pos c] at h' ⊢; exact h'
    · simp only [if_neg c] at h' ⊢; exact h'
theorem spec_l0_ev (s : ByteArray) (hs : s.size ≤ 140737488351232) : ∀ (d : Nat) (x i : Int), 0 ≤ x → x < 4294967296 → 0 ≤ i → (s.size : Int) - i = d →
    Ev (fun k => spec_SumMore.l0 k x s i) (sumAt s d i x) := by
  intro d
  induction d with
  | zero =>
    intro x i h0 h1 hi hd
    refine Ev.step (fun k => by rw [spec_SumMore.l0, if_neg (by omega)]) ?_
    exact Ev.now _
  | succ d ih =>
    intro x i h0 h1 hi hd
    have e3 : wrap64 (i + 1) = i + 1 := by unfold wrap64; omega
    have hx := xor_range x ((bt s i) % 4294967296)
    have hy := iterS_range 8 hx.1 hx.2
    refine Ev.step (fun k => by rw [spec_SumMore.l0, if_pos (by omega), if_pos hi]) ?_
    refine spec_l1_ev s i _ 8 _ 0 hx.1 hx.2 (by omega) (by omega) ?_
    rw [e3]
    exact ih _ _ hy.1 hy.2 (by omega) (by omega)
theorem impl_l0_ev (s : ByteArray) (hs : s.size ≤ 140737488351232) : ∀ (d : Nat) (x i : Int), 0 ≤ x → x < 4294967296 → 0 ≤ i → (s.size : Int) - i = d →
    Ev (fun k => impl_SumMore.l0 k x s s.size i) (sumAt s d i x) := by
  intro d
  induction d with
  | zero =>
    intro x i h0 h1 hi hd
    refine Ev.step (fun k => by rw [impl_SumMore.l0, if_neg (by omega)]) ?_
    exact Ev.now _
  | succ d ih =>
    intro x i h0 h1 hi hd
    have e3 : wrap64 (i + 1) = i + 1 := by unfold wrap64; omega
    have hx := xor_range x ((bt s i) % 4294967296)
    have hy := iterS_range 8 hx.1 hx.2
    refine Ev.step (fun k => by rw [impl_SumMore.l0, if_pos (by omega), if_pos hi, if_pos (by omega)]) ?_
    refine impl_l1_ev s _ i _ 8 _ 0 hx.1 hx.2 (by omega) (by omega) ?_
    rw [e3]
    exact ih _ _ hy.1 hy.2 (by omega) (by omega)
def sumMore (x : Int) (s : ByteArray) : Int := sumAt s s.size 0 x
theorem spec_SumMore_ev (x : Int) (s : ByteArray) (hs : s.size ≤ 140737488351232) (h0 : 0 ≤ x) (h1 : x < 4294967296) : Ev (fun k => spec_SumMore.f k x s) (sumMore x s) := by
  simp only [spec_SumMore.f]
  exact spec_l0_ev s hs s.size x 0 h0 h1 (by omega) (by omega)
theorem impl_SumMore_ev (x : Int) (s : ByteArray) (hs : s.size ≤ 140737488351232) (h0 : 0 ≤ x) (h1 : x < 4294967296) : Ev (fun k => impl_SumMore.f k x s) (sumMore x s) := by
  simp only [impl_SumMore.f]
  exact impl_l0_ev s hs s.size x 0 h0 h1 (by omega) (by omega)

def sumOf (s : ByteArray) : Int := sumMore 4294967295 s
theorem sumOf_range (s : ByteArray) : 0 ≤ sumOf s ∧ sumOf s < 4294967296 := sumAt_range s s.size 0 _ (by omega) (by omega)
theorem spec_SumOf_ev (s : ByteArray) (hs : s.size ≤ 140737488351232) : Ev (fun k => spec_SumOf.f k s) (sumOf s) := by
  simp only [spec_SumOf.f]
  exact Ev.bind (spec_SumMore_ev _ s hs (by omega) (by omega)) (Ev.now _)
theorem impl_SumOf_ev (s : ByteArray) (hs : s.size ≤ 140737488351232) : Ev (fun k => impl_SumOf.f k s) (sumOf s) := by
  simp only [impl_SumOf.f]
  exact Ev.bind (impl_SumMore_ev _ s hs (by omega) (by omega)) (Ev.now _)

/-! numbers in bytes -/
def varL (n : Nat) : List Int := if h : n > 127 then ((n % 128 + 128 : Nat) : Int) :: varL (n / 128) else [(n : Int)]
termination_by n
decreasing_by omega
theorem varL_big {n : Nat} (h : n > 127) : varL n = ((n % 128 + 128 : Nat) : Int) :: varL (n / 128) := by rw [varL, dif_pos h]
theorem varL_small {n : Nat} (h : ¬ n > 127) : varL n = [(n : Int)] := by rw [varL, dif_neg h]
theorem varL_len (n : Nat) : (varL n).length ≤ n + 1 := by
  induction n using Nat.strongRecOn with
  | ind n ih =>
    by_cases h : n > 127
    · rw [varL_big h]; have := ih (n / 128) (by omega); simp; omega
    · rw [varL_small h]; simp
theorem var_ev (n : Nat) : ∀ (acc : List Int), n ≤ 1000000000 → acc.length + n ≤ 3000000000 →
    Ev (fun k => spec_l01Var.l0 k (n : Int) acc) (strOfNums (acc ++ varL n)) := by
  induction n using Nat.strongRecOn with
  | ind n ih =>
    intro acc hn hl
    by_cases h : n > 127
    · have e1 : wrap64 (Int.tdiv (n : Int) 128) = ((n / 128 : Nat) : Int) := by
        rw [Int.tdiv_eq_ediv_of_nonneg (by omega)]; unfold wrap64; omega
      have e2 : (wrap64 ((Int.tmod (n : Int) 128) + 128)) % 256 = ((n % 128 + 128 : Nat) : Int) := by
        rw [Int.tmod_eq_emod_of_nonneg (by omega)]; unfold wrap64; omega
      refine Ev.step (fun k => by rw [spec_l01Var.l0, if_pos (by omega), if_pos (by omega), e1, e2]) ?_
      have := ih (n / 128) (by omega) (acc ++ [((n % 128 + 128 : Nat) : Int)]) (by omega) (by simp; omega)
      rw [varL_big h]
      rw [List.append_assoc, List.singleton_append] at this
      exact this
    · refine Ev.step (fun k => by rw [spec_l01Var.l0, if_neg (by omega), if_pos (by omega)]) ?_
      have e : (n : Int) % 256 = n := by omega
      rw [varL_small h, e]
      exact Ev.now _
theorem spec_l01Var_ev {x : Int} (h0 : 0 ≤ x) (h1 : x ≤ 1000000000) : Ev (fun k => spec_l01Var.f k x) (strOfNums (varL x.toNat)) := by
  obtain ⟨n, rfl⟩ := Int.eq_ofNat_of_zero_le h0
  simp only [spec_l01Var.f]
  exact var_ev n [] (by omega) (by simp; omega)

theorem impl_var (k : Nat) : ∀ (x : Int) (acc : List Int), impl_VarText.l0 k x acc = (spec_l01Var.l0 k x acc).map (fun s => (s, true)) := by
  induction k with
  | zero => intro x acc; simp [impl_VarText.l0, spec_l01Var.l0]
  | succ k ih =>
    intro x acc
    rw [impl_VarText.l0, spec_l01Var.l0]
    split
    · split
      · exact ih _ _
      · rfl
    · split <;> rfl
theorem impl_VarText_ev {x : Int} (h0 : 0 ≤ x) (h1 : x ≤ 1000000000) : Ev (fun k => impl_VarText.f k x) (strOfNums (varL x.toNat), true) := by
  have h := spec_l01Var_ev h0 h1
  simp only [impl_VarText.f, impl_in.f, if_pos h0, Option.bind_some, decide_eq_true h1, if_true]
  obtain ⟨K, h⟩ := h
  refine ⟨K, fun k hk => ?_⟩
  have := h k hk
  simp only [spec_l01Var.f] at this
  show impl_VarText.l0 k x [] = _
  rw [impl_var, this]
  rfl
theorem impl_VarText_no {x : Int} (h : ¬ (0 ≤ x ∧ x ≤ 1000000000)) : Ev (fun k => impl_VarText.f k x) ((⟨#[]⟩ : ByteArray), false) := by
  simp only [impl_VarText.f, impl_in.f]
  by_cases h0 : x ≥ 0
  · have h1 : ¬ x ≤ 1000000000 := fun c => h ⟨h0, c⟩
    simp only [if_pos h0, Option.bind_some, decide_eq_false h1]
    exact Ev.now _
  · simp only [if_neg h0, Option.bind_some]
    exact Ev.now _

def fourL (n : Int) : List Int := [(n / 16777216) % 256, (n / 65536) % 256, (n / 256) % 256, n % 256]
theorem spec_l02Four_ev (n : Int) : spec_l02Four.f n = some (strOfNums (fourL n)) := rfl

/-! frames -/
def frameS (s : ByteArray) : ByteArray := (strOfNums (varL s.size) ++ strOfNums (fourL (sumOf s))) ++ s
def frameP (s : ByteArray) : ByteArray × Bool := if 1 ≤ (s.size : Int) ∧ (s.size : Int) ≤ 9000 then (frameS s, true) else ((⟨#[]⟩ : ByteArray), false)
theorem size_append (a b : ByteArray) : (a ++ b).size = a.size + b.size := by
  rw [← bytesOf_length, bytesOf_append, List.length_append, bytesOf_length, bytesOf_length]
theorem spec_Frame_ev (s : ByteArray) (hs : s.size ≤ 140737488351232) : Ev (fun k => spec_Frame.f k s) (frameP s) := by
  simp only [spec_Frame.f, spec_in_eq, Option.bind_some, frameP]
  by_cases h : 1 ≤ (s.size : Int) ∧ (s.size : Int) ≤ 9000
  · simp only [decide_eq_true h, if_true, if_pos h]
    refine Ev.bind (spec_l01Var_ev (by omega) (by omega)) ?_
    refine Ev.bind (spec_SumOf_ev s hs) ?_
    have h1 := varL_len s.size
    simp only [spec_l02Four_ev, Option.bind_some, Int.toNat_natCast, size_append, str_size, fourL, List.length_cons, List.length_nil, if_pos (show (varL s.size).length + (0 + 1 + 1 + 1 + 1) ≤ 9223372036854775807 by omega), if_pos (show (varL s.size).length + (0 + 1 + 1 + 1 + 1) + s.size ≤ 9223372036854775807 by omega)]
    exact Ev.now _
  · simp only [decide_eq_false h, Bool.false_eq_true, if_false, if_neg h]
    exact Ev.now _
theorem impl_Frame_ev (s : ByteArray) (hs : s.size ≤ 140737488351232) : Ev (fun k => impl_Frame.f k s) (frameP s) := by
  simp only [impl_Frame.f, impl_in_eq, Option.bind_some, frameP]
  by_cases h : 1 ≤ (s.size : Int) ∧ (s.size : Int) ≤ 9000
  · simp only [decide_eq_true h, if_true, if_pos h]
    refine Ev.bind (impl_VarText_ev (by omega) (by omega)) ?_
    refine Ev.bind (impl_SumOf_ev s hs) ?_
    have h1 := varL_len s.size
    simp only [Option.bind_some, Int.toNat_natCast, size_append, str_size, List.length_cons, List.length_nil, if_pos (show (varL s.size).length + (0 + 1 + 1 + 1 + 1) ≤ 9223372036854775807 by omega), if_pos (show (varL s.size).length + (0 + 1 + 1 + 1 + 1) + s.size ≤ 9223372036854775807 by omega)]
    exact Ev.now _
  · simp only [decide_eq_false h, Bool.false_eq_true, if_false, if_neg h]
    exact Ev.now _

theorem FnExactFrame : laws_FnExactFrame.Pure := by
  intro a0 h0
  refine Ev.rounds (g := fun k => laws_FnExactFrame.f k a0) ?_
  simp only [laws_FnExactFrame.f]
  by_cases h : (a0.size : Int) > 1048576
  · simp only [if_pos h]; exact Ev.now _
  · simp only [if_neg h]
    refine Ev.bind (spec_Frame_ev a0 h0) ?_
    refine Ev.bind (impl_Frame_ev a0 h0) ?_
    simp only [if_true, bne_self_eq_false, Bool.false_eq_true, if_false]
    exact Ev.now _

end Go.Proofs.Ytmjblanhgekhpaa.Pure
