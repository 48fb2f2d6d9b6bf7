/- For every text Unsealed of the program and of the reference tell the same. No condition is laid beside the statement. -/
import Derived.Test.YtgjnolnaajopmaaPFnExactUnsealedx2
import Derived.Laws.BitsLemmas
import Derived.Lib.Bytes
import Derived.OpenShut
namespace Go.Proofs.Ytgjnolnaajopmaa.Pure
open Go.RowKit Go.Proofs.Ytgjnolnaajopmaa.PFnExactUnsealed Go.Proofs.YtgjnolnaajopmaaW.PrintWords Go.Proofs.YtgjnolnaajopmaaW.PrintLast
set_option linter.unusedVariables false
set_option linter.unusedSimpArgs false


theorem wrap_id {i : Int} (h0 : -9223372036854775808 ≤ i) (h1 : i ≤ 9223372036854775807) : wrap64 i = i := by unfold wrap64; omega
theorem toList_eq {a b : ByteArray} (h : a = b) : a.toList = b.toList := by rw [h]

/-! strings as numbers -/
theorem toList_data' (s : ByteArray) : s.toList = s.data.toList := Go.Lib.toList_data s
theorem str_ext {a b : ByteArray} (h : a.toList = b.toList) : a = b := by
  rw [toList_data', toList_data'] at h
  cases a; cases b
  simp at h
  rw [h]
theorem toList_iff {a b : ByteArray} : a.toList = b.toList ↔ a = b := ⟨str_ext, fun h => by rw [h]⟩
def Byt (l : List Int) : Prop := ∀ x ∈ l, 0 ≤ x ∧ x < 256
theorem bytesOf_byt (s : ByteArray) : Byt (bytesOf s) := by
  intro x hx
  unfold bytesOf at hx
  simp at hx
  obtain ⟨b, _, rfl⟩ := hx
  have := b.toNat_lt
  omega
theorem bytesOf_str {l : List Int} (h : Byt l) : bytesOf (strOfNums l) = l := by
  unfold bytesOf strOfNums
  simp
  apply List.ext_getElem
  · simp
  · intro i h1 h2
    have := h l[i] (List.getElem_mem h2)
    simp
    omega
theorem str_bytesOf (s : ByteArray) : strOfNums (bytesOf s) = s := by
  unfold bytesOf strOfNums
  cases s with
  | mk d =>
    simp
    apply Array.ext'
    simp
    apply List.ext_getElem
    · simp
    · intro i h1 h2
      simp
theorem bytesOf_inj {a b : ByteArray} (h : bytesOf a = bytesOf b) : a = b := by rw [← str_bytesOf a, h, str_bytesOf]
theorem bytesOf_append (a b : ByteArray) : bytesOf (a ++ b) = bytesOf a ++ bytesOf b := by
  unfold bytesOf
  simp [ByteArray.data_append]
theorem bytesOf_extract (s : ByteArray) (a b : Nat) : bytesOf (s.extract a b) = ((bytesOf s).drop a).take (b - a) := by
  unfold bytesOf
  simp [ByteArray.data_extract, List.map_take, List.map_drop]
theorem bt_get (s : ByteArray) (i : Int) : bt s i = (bytesOf s).getD i.toNat 0 := (rd_bytesOf s i).symm
theorem str_size (l : List Int) : (strOfNums l).size = l.length := by
  show (strOfNums l).data.size = _
  unfold strOfNums
  simp

/-! sums -/
def stepS (x : Int) : Int := if x % 2 = 1 then Go.bits .xor .u32 (x / 2) 3558460437 else x / 2
def iterS : Nat → Int → Int
  | 0, x => x
  | d + 1, x => iterS d (stepS x)
def sumAt (s : ByteArray) : Nat → Int → Int → Int
  | 0, _, x => x
  | d + 1, i, x => sumAt s d (i + 1) (iterS 8 (Go.bits .xor .u32 x ((bt s i) % 4294967296)))
theorem xor_range (a b : Int) : 0 ≤ Go.bits .xor .u32 a b ∧ Go.bits .xor .u32 a b < 4294967296 := by
  simp only [Go.bits, Go.IntKind.wrap_u32]
  omega
theorem stepS_range {x : Int} (h0 : 0 ≤ x) (h1 : x < 4294967296) : 0 ≤ stepS x ∧ stepS x < 4294967296 := by
  unfold stepS
  split
  · exact xor_range _ _
  · omega
theorem iterS_range : ∀ (d : Nat) {x : Int}, 0 ≤ x → x < 4294967296 → 0 ≤ iterS d x ∧ iterS d x < 4294967296
  | 0, _, h0, h1 => ⟨h0, h1⟩
  | d + 1, _, h0, h1 => iterS_range d (stepS_range h0 h1).1 (stepS_range h0 h1).2
theorem sumAt_range (s : ByteArray) : ∀ (d : Nat) (i x : Int), 0 ≤ x → x < 4294967296 → 0 ≤ sumAt s d i x ∧ sumAt s d i x < 4294967296
  | 0, _, _, h0, h1 => ⟨h0, h1⟩
  | d + 1, _, _, _, _ => sumAt_range s d _ _ (iterS_range 8 (xor_range _ _).1 (xor_range _ _).2).1 (iterS_range 8 (xor_range _ _).1 (xor_range _ _).2).2
theorem and_one {x : Int} (h0 : 0 ≤ x) (h1 : x < 4294967296) : Go.bits .and .u32 x 1 = x % 2 := by
  have := Go.bits_mask .u32 32 (by decide) (fun n a b => by rw [Go.IntKind.wrap_u32]; omega) 1 (by decide) x h0 (by omega)
  simpa using this
theorem spec_l1_ev (s : ByteArray) (i r : Int) : ∀ (d : Nat) (x j : Int), 0 ≤ x → x < 4294967296 → 0 ≤ j → 8 - j = d →
    Ev (fun k => spec_SumMore.l0 k (iterS d x) s (wrap64 (i + 1))) r → Ev (fun k => spec_SumMore.l1 k x s i j) r := by
  intro d
  induction d with
  | zero =>
    intro x j h0 h1 hj hd h
    refine Ev.step (fun k => by rw [spec_SumMore.l1, if_neg (by omega)]) ?_
    exact h
  | succ d ih =>
    intro x j h0 h1 hj hd h
    have e1 : Int.tmod x 2 = x % 2 := Int.tmod_eq_emod_of_nonneg h0
    have e2 : (Int.tdiv x 2) % 4294967296 = x / 2 := by rw [Int.tdiv_eq_ediv_of_nonneg h0]; omega
    have e3 : wrap64 (j + 1) = j + 1 := by unfold wrap64; omega
    have hr := stepS_range h0 h1
    have h' := ih (stepS x) (j + 1) hr.1 hr.2 (by omega) (by omega) h
    refine Ev.step (fun k => by rw [spec_SumMore.l1, if_pos (by omega), e1, e2, e3]) ?_
    unfold stepS at h'
    by_cases c : x % 2 = 1
    · simp only [if_pos c] at h' ⊢; exact h'
    · simp only [if_neg c] at h' ⊢; exact h'
theorem impl_l1_ev (s : ByteArray) (n i r : Int) : ∀ (d : Nat) (x j : Int), 0 ≤ x → x < 4294967296 → 0 ≤ j → 8 - j = d →
    Ev (fun k => impl_SumMore.l0 k (iterS d x) s n (wrap64 (i + 1))) r → Ev (fun k => impl_SumMore.l1 k x s n i j) r := by
  intro d
  induction d with
  | zero =>
    intro x j h0 h1 hj hd h
    refine Ev.step (fun k => by rw [impl_SumMore.l1, if_neg (by omega)]) ?_
    exact h
  | succ d ih =>
    intro x j h0 h1 hj hd h
    have e1 := and_one h0 h1
    have e3 : wrap64 (j + 1) = j + 1 := by unfold wrap64; omega
    have hr := stepS_range h0 h1
    have h' := ih (stepS x) (j + 1) hr.1 hr.2 (by omega) (by omega) h
    refine Ev.step (fun k => by rw [impl_SumMore.l1, if_pos (by omega), e1, e3]) ?_
    unfold stepS at h'
    by_cases c : x % 2 = 1
    · simp only [if_pos c] at h' ⊢; exact h'
    · simp only [if_neg c] at h' ⊢; exact h'
theorem spec_l0_ev (s : ByteArray) (hs : s.size ≤ 140737488351232) : ∀ (d : Nat) (x i : Int), 0 ≤ x → x < 4294967296 → 0 ≤ i → (s.size : Int) - i = d →
    Ev (fun k => spec_SumMore.l0 k x s i) (sumAt s d i x) := by
  intro d
  induction d with
  | zero =>
    intro x i h0 h1 hi hd
    refine Ev.step (fun k => by rw [spec_SumMore.l0, if_neg (by omega)]) ?_
    exact Ev.now _
  | succ d ih =>
    intro x i h0 h1 hi hd
    have e3 : wrap64 (i + 1) = i + 1 := by unfold wrap64; omega
    have hx := xor_range x ((bt s i) % 4294967296)
    have hy := iterS_range 8 hx.1 hx.2
    refine Ev.step (fun k => by rw [spec_SumMore.l0, if_pos (by omega), if_pos hi]) ?_
    refine spec_l1_ev s i _ 8 _ 0 hx.1 hx.2 (by omega) (by omega) ?_
    rw [e3]
    exact ih _ _ hy.1 hy.2 (by omega) (by omega)
theorem impl_l0_ev (s : ByteArray) (hs : s.size ≤ 140737488351232) : ∀ (d : Nat) (x i : Int), 0 ≤ x → x < 4294967296 → 0 ≤ i → (s.size : Int) - i = d →
    Ev (fun k => impl_SumMore.l0 k x s s.size i) (sumAt s d i x) := by
  intro d
  induction d with
  | zero =>
    intro x i h0 h1 hi hd
    refine Ev.step (fun k => by rw [impl_SumMore.l0, if_neg (by omega)]) ?_
    exact Ev.now _
  | succ d ih =>
    intro x i h0 h1 hi hd
    have e3 : wrap64 (i + 1) = i + 1 := by unfold wrap64; omega
    have hx := xor_range x ((bt s i) % 4294967296)
    have hy := iterS_range 8 hx.1 hx.2
    refine Ev.step (fun k => by rw [impl_SumMore.l0, if_pos (by omega), if_pos hi, if_pos (by omega)]) ?_
    refine impl_l1_ev s _ i _ 8 _ 0 hx.1 hx.2 (by omega) (by omega) ?_
    rw [e3]
    exact ih _ _ hy.1 hy.2 (by omega) (by omega)
def sumMore (x : Int) (s : ByteArray) : Int := sumAt s s.size 0 x
theorem spec_SumMore_ev (x : Int) (s : ByteArray) (hs : s.size ≤ 140737488351232) (h0 : 0 ≤ x) (h1 : x < 4294967296) : Ev (fun k => spec_SumMore.f k x s) (sumMore x s) := by
  simp only [spec_SumMore.f]
  exact spec_l0_ev s hs s.size x 0 h0 h1 (by omega) (by omega)
theorem impl_SumMore_ev (x : Int) (s : ByteArray) (hs : s.size ≤ 140737488351232) (h0 : 0 ≤ x) (h1 : x < 4294967296) : Ev (fun k => impl_SumMore.f k x s) (sumMore x s) := by
  simp only [impl_SumMore.f]
  exact impl_l0_ev s hs s.size x 0 h0 h1 (by omega) (by omega)

def sumOf (s : ByteArray) : Int := sumMore 4294967295 s
theorem sumOf_range (s : ByteArray) : 0 ≤ sumOf s ∧ sumOf s < 4294967296 := sumAt_range s s.size 0 _ (by omega) (by omega)
theorem spec_SumOf_ev (s : ByteArray) (hs : s.size ≤ 140737488351232) : Ev (fun k => spec_SumOf.f k s) (sumOf s) := by
  simp only [spec_SumOf.f]
  exact Ev.bind (spec_SumMore_ev _ s hs (by omega) (by omega)) (Ev.now _)
theorem impl_SumOf_ev (s : ByteArray) (hs : s.size ≤ 140737488351232) : Ev (fun k => impl_SumOf.f k s) (sumOf s) := by
  simp only [impl_SumOf.f]
  exact Ev.bind (impl_SumMore_ev _ s hs (by omega) (by omega)) (Ev.now _)

def fourL (n : Int) : List Int := [(n / 16777216) % 256, (n / 65536) % 256, (n / 256) % 256, n % 256]
def sealedS (s : ByteArray) : ByteArray := s ++ strOfNums (fourL (sumOf s))
def sealedP (s : ByteArray) : ByteArray × Bool := if (s.size : Int) > 20000 then ((⟨#[]⟩ : ByteArray), false) else (sealedS s, true)
theorem spec_l02Four_ev (n : Int) : spec_l02Four.f n = some (strOfNums (fourL n)) := rfl
theorem impl_Sealed_ev (s : ByteArray) (hs : s.size ≤ 140737488351232) : Ev (fun k => impl_Sealed.f k s) (sealedP s) := by
  simp only [impl_Sealed.f]
  unfold sealedP
  by_cases h : (s.size : Int) > 20000
  · simp only [if_pos h]; exact Ev.now _
  · simp only [if_neg h]
    refine Ev.bind (impl_SumOf_ev s hs) ?_
    have hz : s.size + (strOfNums [(sumOf s / 16777216) % 256, (sumOf s / 65536) % 256, (sumOf s / 256) % 256, (sumOf s) % 256]).size ≤ 9223372036854775807 := by rw [str_size]; simp; omega
    simp only [Option.bind_some, if_pos hz]
    exact Ev.now _

def unsealedP (s : ByteArray) : ByteArray × Bool := if s.size < 4 ∨ s.size > 20004 then ((⟨#[]⟩ : ByteArray), false) else (if sealedS (s.extract 0 (s.size - 4)) = s then (s.extract 0 (s.size - 4), true) else ((⟨#[]⟩ : ByteArray), false))
theorem cut_size {s : ByteArray} (h : 4 ≤ s.size) : (s.extract 0 (s.size - 4)).size = s.size - 4 := by
  rw [ByteArray.size_extract]; omega
theorem impl_Unsealed_ev (s : ByteArray) (hs : s.size ≤ 140737488351232) : Ev (fun k => impl_Unsealed.f k s) (unsealedP s) := by
  simp only [impl_Unsealed.f]
  unfold unsealedP
  by_cases h : (s.size : Int) < 4
  · simp only [if_pos h]
    rw [if_pos (Or.inl (by omega))]
    exact Ev.now _
  · have e : wrap64 ((s.size : Int) - 4) = ((s.size - 4 : Nat) : Int) := by unfold wrap64; omega
    simp only [if_neg h, e, if_pos (show (0 : Int) ≤ ((s.size - 4 : Nat) : Int) by omega), if_pos (show ((s.size - 4 : Nat) : Int) ≤ (s.size : Int) by omega), Int.toNat_natCast]
    refine Ev.bind (impl_Sealed_ev _ (by rw [cut_size (by omega)]; omega)) ?_
    unfold sealedP
    rw [cut_size (by omega)]
    by_cases h2 : ((s.size - 4 : Nat) : Int) > 20000
    · rw [if_pos h2, if_pos (Or.inr (by omega))]
      exact Ev.now _
    · rw [if_neg h2, if_neg (show ¬ (s.size < 4 ∨ s.size > 20004) by omega)]
      simp only [toList_iff, if_true]
      by_cases h3 : sealedS (s.extract 0 (s.size - 4)) = s
      · simp only [if_pos h3]; exact Ev.now _
      · simp only [if_neg h3]; exact Ev.now _

theorem cut_append (s : ByteArray) (m : Nat) (h : m ≤ s.size) : s.extract 0 m ++ s.extract m s.size = s := by
  apply bytesOf_inj
  rw [bytesOf_append, bytesOf_extract, bytesOf_extract]
  simp
  rw [List.take_of_length_le (l := (bytesOf s).drop m) (by rw [List.length_drop, bytesOf_length]; omega), List.take_append_drop]
theorem append_left_inj {a b c : ByteArray} (h : a ++ b = a ++ c) : b = c := by
  have := congrArg bytesOf h
  rw [bytesOf_append, bytesOf_append] at this
  exact bytesOf_inj (List.append_cancel_left this)
theorem spec_Unsealed_ev (s : ByteArray) (hs : s.size ≤ 140737488351232) : Ev (fun k => spec_Unsealed.f k s) (unsealedP s) := by
  simp only [spec_Unsealed.f]
  unfold unsealedP
  by_cases h : (s.size : Int) < 4
  · have : wrap64 ((s.size : Int) - 4) < 0 := by unfold wrap64; omega
    simp only [if_pos this]
    rw [if_pos (Or.inl (by omega))]
    exact Ev.now _
  · have e : wrap64 ((s.size : Int) - 4) = ((s.size - 4 : Nat) : Int) := by unfold wrap64; omega
    simp only [e, if_neg (show ¬ ((s.size - 4 : Nat) : Int) < 0 by omega)]
    by_cases h2 : ((s.size - 4 : Nat) : Int) > 20000
    · simp only [if_pos h2]
      rw [if_pos (Or.inr (by omega))]
      exact Ev.now _
    · simp only [if_neg h2, if_pos (show (0 : Int) ≤ ((s.size - 4 : Nat) : Int) by omega), if_pos (show ((s.size - 4 : Nat) : Int) ≤ (s.size : Int) by omega), Int.toNat_natCast]
      rw [if_neg (by omega)]
      refine Ev.bind (spec_SumOf_ev _ (by rw [cut_size (by omega)]; omega)) ?_
      simp only [spec_l02Four_ev, Option.bind_some, toList_iff]
      have hx : s.extract (s.size - 4) s.size = strOfNums (fourL (sumOf (s.extract 0 (s.size - 4)))) ↔ sealedS (s.extract 0 (s.size - 4)) = s := by
        unfold sealedS
        constructor
        · intro hh; rw [← hh]; exact cut_append s _ (by omega)
        · intro hh
          have := (cut_append s (s.size - 4) (by omega)).trans hh.symm
          exact append_left_inj this
      by_cases h3 : sealedS (s.extract 0 (s.size - 4)) = s
      · rw [if_pos h3]; simp only [if_pos (hx.2 h3)]; exact Ev.now _
      · rw [if_neg h3]; simp only [if_neg (fun hh => h3 (hx.1 hh))]; exact Ev.now _

theorem FnExactUnsealed : laws_FnExactUnsealed.Pure := by
  intro a0 h0
  refine Ev.rounds (g := fun k => laws_FnExactUnsealed.f k a0) ?_
  simp only [laws_FnExactUnsealed.f]
  by_cases h : (a0.size : Int) > 1048576
  · simp only [if_pos h]; exact Ev.now _
  · simp only [if_neg h]
    refine Ev.bind (spec_Unsealed_ev a0 h0) ?_
    refine Ev.bind (impl_Unsealed_ev a0 h0) ?_
    simp only [if_true, bne_self_eq_false, Bool.false_eq_true, if_false]
    exact Ev.now _

end Go.Proofs.Ytgjnolnaajopmaa.Pure
