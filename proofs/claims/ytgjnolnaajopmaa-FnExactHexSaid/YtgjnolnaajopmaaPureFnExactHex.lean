/- For every text Hex of the program and of the reference tell the same. No condition is laid beside the statement. -/
import Derived.Test.YtgjnolnaajopmaaPFnExactHexx1
import Derived.Laws.BitsLemmas
import Derived.Lib.Bytes
import Derived.OpenShut
namespace Go.Proofs.Ytgjnolnaajopmaa.Pure
open Go.RowKit Go.Proofs.Ytgjnolnaajopmaa.PFnExactHex Go.Proofs.YtgjnolnaajopmaaW.PrintWords Go.Proofs.YtgjnolnaajopmaaW.PrintLast
set_option linter.unusedVariables false
set_option linter.unusedSimpArgs false


theorem wrap_id {i : Int} (h0 : -9223372036854775808 ≤ i) (h1 : i ≤ 9223372036854775807) : wrap64 i = i := by unfold wrap64; omega
theorem toList_eq {a b : ByteArray} (h : a = b) : a.toList = b.toList := by rw [h]

/-! strings as numbers -/
theorem toList_data' (s : ByteArray) : s.toList = s.data.toList := Go.Lib.toList_data s
theorem str_ext {a b : ByteArray} (h : a.toList = b.toList) : a = b := by
  rw [toList_data', toList_data'] at h
  cases a; cases b
  simp at h
  rw [h]
theorem toList_iff {a b : ByteArray} : a.toList = b.toList ↔ a = b := ⟨str_ext, fun h => by rw [h]⟩
def Byt (l : List Int) : Prop := ∀ x ∈ l, 0 ≤ x ∧ x < 256
theorem bytesOf_byt (s : ByteArray) : Byt (bytesOf s) := by
  intro x hx
  unfold bytesOf at hx
  simp at hx
  obtain ⟨b, _, rfl⟩ := hx
  have := b.toNat_lt
  omega
theorem bytesOf_str {l : List Int} (h : Byt l) : bytesOf (strOfNums l) = l := by
  unfold bytesOf strOfNums
  simp
  apply List.ext_getElem
  · simp
  · intro i h1 h2
    have := h l[i] (List.getElem_mem h2)
    simp
    omega
theorem str_bytesOf (s : ByteArray) : strOfNums (bytesOf s) = s := by
  unfold bytesOf strOfNums
  cases s with
  | mk d =>
    simp
    apply Array.ext'
    simp
    apply List.ext_getElem
    · simp
    · intro i h1 h2
      simp
theorem bytesOf_inj {a b : ByteArray} (h : bytesOf a = bytesOf b) : a = b := by rw [← str_bytesOf a, h, str_bytesOf]
theorem bytesOf_append (a b : ByteArray) : bytesOf (a ++ b) = bytesOf a ++ bytesOf b := by
  unfold bytesOf
  simp [ByteArray.data_append]
theorem bytesOf_extract (s : ByteArray) (a b : Nat) : bytesOf (s.extract a b) = ((bytesOf s).drop a).take (b - a) := by
  unfold bytesOf
  simp [ByteArray.data_extract, List.map_take, List.map_drop]
theorem bt_get (s : ByteArray) (i : Int) : bt s i = (bytesOf s).getD i.toNat 0 := (rd_bytesOf s i).symm
theorem str_size (l : List Int) : (strOfNums l).size = l.length := by
  show (strOfNums l).data.size = _
  unfold strOfNums
  simp

def fig (x : Int) : Int := if x < 10 then 48 + x else 87 + x
def figs : ByteArray := ⟨#[48, 49, 50, 51, 52, 53, 54, 55, 56, 57, 97, 98, 99, 100, 101, 102]⟩
theorem figs_at {x : Int} (h0 : 0 ≤ x) (h1 : x < 16) : bt figs x = fig x := by
  have : x = 0 ∨ x = 1 ∨ x = 2 ∨ x = 3 ∨ x = 4 ∨ x = 5 ∨ x = 6 ∨ x = 7 ∨ x = 8 ∨ x = 9 ∨ x = 10 ∨ x = 11 ∨ x = 12 ∨ x = 13 ∨ x = 14 ∨ x = 15 := by omega
  rcases this with rfl | rfl | rfl | rfl | rfl | rfl | rfl | rfl | rfl | rfl | rfl | rfl | rfl | rfl | rfl | rfl <;> rfl
theorem spec_l01Figure_eq {x : Int} (h0 : 0 ≤ x) (h1 : x < 16) : spec_l01Figure.f x = some (fig x) := by
  unfold spec_l01Figure.f fig
  split
  · rw [show wrap64 (48 + x) % 256 = 48 + x by unfold wrap64; omega]
  · rw [show wrap64 ((wrap64 (97 + x)) - 10) % 256 = 87 + x by unfold wrap64; omega]
def hexAt (s : ByteArray) : Nat → Int → List Int → List Int
  | 0, _, acc => acc
  | d + 1, i, acc => hexAt s d (i + 1) (acc ++ [fig (bt s i / 16), fig (bt s i % 16)])
theorem u8_and15' {x : Int} (h0 : 0 ≤ x) (h1 : x ≤ 255) : Go.bits .and .u8 x 15 = x % 16 := Go.u8_and15 _ h0 (by omega)

theorem spec_hex_ev (s : ByteArray) (hs : s.size ≤ 20000) : ∀ (d : Nat) (i : Int) (acc : List Int), 0 ≤ i → (s.size : Int) - i = d → acc.length ≤ 2 * i →
    Ev (fun k => spec_Hex.l0 k s acc i) (strOfNums (hexAt s d i acc), true) := by
  intro d
  induction d with
  | zero =>
    intro i acc hi hd hl
    refine Ev.step (fun k => by rw [spec_Hex.l0, if_neg (by omega)]) ?_
    exact Ev.now _
  | succ d ih =>
    intro i acc hi hd hl
    have hb := bt_range s i
    have e1 : wrap64 (Int.tdiv (wrap64 (bt s i)) 16) = bt s i / 16 := by
      rw [show wrap64 (bt s i) = bt s i by unfold wrap64; omega, Int.tdiv_eq_ediv_of_nonneg hb.1]; unfold wrap64; omega
    have e2 : Int.tmod (wrap64 (bt s i)) 16 = bt s i % 16 := by
      rw [show wrap64 (bt s i) = bt s i by unfold wrap64; omega, Int.tmod_eq_emod_of_nonneg hb.1]
    have e3 : wrap64 (i + 1) = i + 1 := by unfold wrap64; omega
    refine Ev.step (fun k => by rw [spec_Hex.l0, if_pos (by omega), if_pos hi, e1, e2, e3, spec_l01Figure_eq (by omega) (by omega), Option.bind_some, spec_l01Figure_eq (by omega) (by omega), Option.bind_some, Option.bind_some, if_pos (by simp; omega)]) ?_
    exact ih (i + 1) _ (by omega) (by omega) (by simp; omega)
def hexP (s : ByteArray) : ByteArray × Bool := if (s.size : Int) > 20000 then ((⟨#[]⟩ : ByteArray), false) else (strOfNums (hexAt s s.size 0 []), true)
theorem spec_Hex_ev (s : ByteArray) : Ev (fun k => spec_Hex.f k s) (hexP s) := by
  simp only [spec_Hex.f]
  unfold hexP
  by_cases h : (s.size : Int) > 20000
  · simp only [if_pos h]; exact Ev.now _
  · simp only [if_neg h]
    exact spec_hex_ev s (by omega) s.size 0 [] (by omega) (by omega) (by simp)

theorem impl_hex_ev (s : ByteArray) (hs : s.size ≤ 20000) : ∀ (d : Nat) (i : Int) (acc : List Int), 0 ≤ i → (s.size : Int) - i = d → acc.length ≤ 2 * i →
    Ev (fun k => impl_Hex.l0 k s acc s.size i) (strOfNums (hexAt s d i acc), true) := by
  intro d
  induction d with
  | zero =>
    intro i acc hi hd hl
    refine Ev.step (fun k => by rw [impl_Hex.l0, if_neg (by omega)]) ?_
    exact Ev.now _
  | succ d ih =>
    intro i acc hi hd hl
    have hb := bt_range s i
    have ea := u8_and15' hb.1 hb.2
    have e3 : wrap64 (i + 1) = i + 1 := by unfold wrap64; omega
    refine Ev.step (fun k => by rw [impl_Hex.l0, if_pos (by omega), if_pos hi, if_pos (by omega), ea, e3, if_pos (by omega), if_pos (by omega), if_pos (by omega), if_pos (by omega), Option.bind_some, if_pos (by simp; omega)]) ?_
    have f1 := figs_at (x := bt s i / 16) (by omega) (by omega)
    have f2 := figs_at (x := bt s i % 16) (by omega) (by omega)
    unfold figs at f1 f2
    rw [f1, f2]
    exact ih (i + 1) _ (by omega) (by omega) (by simp; omega)
theorem impl_Hex_ev (s : ByteArray) : Ev (fun k => impl_Hex.f k s) (hexP s) := by
  simp only [impl_Hex.f]
  unfold hexP
  by_cases h : (s.size : Int) > 20000
  · simp only [if_pos h]; exact Ev.now _
  · simp only [if_neg h]
    exact impl_hex_ev s (by omega) s.size 0 [] (by omega) (by omega) (by simp)

theorem FnExactHex : laws_FnExactHex.Pure := by
  intro a0 h0
  refine Ev.rounds (g := fun k => laws_FnExactHex.f k a0) ?_
  simp only [laws_FnExactHex.f]
  by_cases h : (a0.size : Int) > 1048576
  · simp only [if_pos h]; exact Ev.now _
  · simp only [if_neg h]
    refine Ev.bind (spec_Hex_ev a0) ?_
    refine Ev.bind (impl_Hex_ev a0) ?_
    simp only [if_true, bne_self_eq_false, Bool.false_eq_true, if_false]
    exact Ev.now _

end Go.Proofs.Ytgjnolnaajopmaa.Pure
