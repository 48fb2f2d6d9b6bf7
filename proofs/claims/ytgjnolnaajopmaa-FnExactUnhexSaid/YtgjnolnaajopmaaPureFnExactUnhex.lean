/- For every text Unhex of the program and of the reference tell the same. No condition is laid beside the statement. -/
import Derived.Test.YtgjnolnaajopmaaQFnExactUnhexx1
import Derived.Laws.BitsLemmas
import Derived.Lib.Bytes
import Derived.OpenShut
namespace Go.Proofs.Ytgjnolnaajopmaa.Pure
open Go.RowKit Go.Proofs.Ytgjnolnaajopmaa.QFnExactUnhex Go.Proofs.YtgjnolnaajopmaaW.PrintWords Go.Proofs.YtgjnolnaajopmaaW.PrintLast
set_option linter.unusedVariables false
set_option linter.unusedSimpArgs false


/-! strings as numbers -/
/-! a figure's value, by the reference and by its place among the figures -/
def unfig (x : Int) : Int := if 48 ≤ x ∧ x ≤ 57 then x - 48 else if 97 ≤ x ∧ x ≤ 102 then x - 87 else -1
theorem unfig_place : ∀ n : Fin 256, Lib.indexByte (⟨#[48, 49, 50, 51, 52, 53, 54, 55, 56, 57, 97, 98, 99, 100, 101, 102]⟩ : ByteArray).data.toList ((n.val : Int).toNat.toUInt8) = unfig (n.val : Int) := by decide +kernel
theorem place_eq {x : Int} (h0 : 0 ≤ x) (h1 : x ≤ 255) : strings_IndexByte.f (⟨#[48, 49, 50, 51, 52, 53, 54, 55, 56, 57, 97, 98, 99, 100, 101, 102]⟩ : ByteArray) x = some (unfig x) := by
  obtain ⟨n, rfl⟩ := Int.eq_ofNat_of_zero_le h0
  have := unfig_place ⟨n, by omega⟩
  rw [strings_IndexByte.f, this]
theorem value_ev {x : Int} (h0 : 0 ≤ x) (h1 : x ≤ 255) : Ev (fun k => spec_l01Value.f k x) (unfig x) := by
  simp only [spec_l01Value.f]
  by_cases c1 : x ≥ 48
  · simp only [if_pos c1]
    by_cases c2 : x ≤ 57
    · have e : wrap64 (wrap64 x - 48) = unfig x := by unfold wrap64 unfig; rw [if_pos ⟨c1, c2⟩]; omega
      refine Ev.step (fun k => by rw [spec_l01Value.j0, if_pos (by simpa using c2), e]) ?_
      exact Ev.now _
    · by_cases c3 : x ≥ 97
      · by_cases c4 : x ≤ 102
        · have e : wrap64 (wrap64 (wrap64 x - 97) + 10) = unfig x := by unfold wrap64 unfig; rw [if_neg (by omega), if_pos ⟨c3, c4⟩]; omega
          refine Ev.step (fun k => by rw [spec_l01Value.j0, if_neg (by simpa using c2), if_pos c3, if_pos c4, e]) ?_
          exact Ev.now _
        · have e : unfig x = -1 := by unfold unfig; rw [if_neg (by omega), if_neg (by omega)]
          refine Ev.step (fun k => by rw [spec_l01Value.j0, if_neg (by simpa using c2), if_pos c3, if_neg c4]) ?_
          rw [e]; exact Ev.now _
      · have e : unfig x = -1 := by unfold unfig; rw [if_neg (by omega), if_neg (by omega)]
        refine Ev.step (fun k => by rw [spec_l01Value.j0, if_neg (by simpa using c2), if_neg c3]) ?_
        rw [e]; exact Ev.now _
  · simp only [if_neg c1]
    have e : unfig x = -1 := by unfold unfig; rw [if_neg (by omega), if_neg (by omega)]
    refine Ev.step (fun k => by rw [spec_l01Value.j0, if_neg (by simp), if_neg (by omega)]) ?_
    rw [e]; exact Ev.now _
def unhexAt (s : ByteArray) : Nat → Int → List Int → ByteArray × Bool
  | 0, _, acc => (strOfNums acc, true)
  | d + 1, i, acc => if unfig (bt s i) < 0 then ((⟨#[]⟩ : ByteArray), false) else if unfig (bt s (i + 1)) < 0 then ((⟨#[]⟩ : ByteArray), false) else unhexAt s d (i + 2) (acc ++ [(wrap64 (wrap64 (16 * unfig (bt s i)) + unfig (bt s (i + 1)))) % 256])
def unhexP (s : ByteArray) : ByteArray × Bool := if (s.size : Int) > 40000 ∨ ¬ (s.size : Int) % 2 = 0 then ((⟨#[]⟩ : ByteArray), false) else unhexAt s (s.size / 2) 0 []
theorem spec_unhex_ev (s : ByteArray) (hs : s.size ≤ 40000) : ∀ (d : Nat) (i : Int) (acc : List Int), 0 ≤ i → (s.size : Int) - i = 2 * d → acc.length ≤ i →
    Ev (fun k => spec_Unhex.l0 k s acc i) (unhexAt s d i acc) := by
  intro d
  induction d with
  | zero =>
    intro i acc hi hd hl
    refine Ev.step (fun k => by rw [spec_Unhex.l0, if_neg (by omega)]) ?_
    exact Ev.now _
  | succ d ih =>
    intro i acc hi hd hl
    have hb := bt_range s i
    have hb2 := bt_range s (i + 1)
    have e1 : wrap64 (i + 1) = i + 1 := by unfold wrap64; omega
    have e2 : wrap64 (i + 2) = i + 2 := by unfold wrap64; omega
    refine Ev.step (fun k => by rw [spec_Unhex.l0, if_pos (by omega), if_pos hi]) ?_
    refine Ev.bind (value_ev hb.1 (by omega)) ?_
    simp only [e1, e2, if_pos (show (0 : Int) ≤ i + 1 by omega), if_pos (show i + 1 < (s.size : Int) by omega)]
    refine Ev.bind (value_ev hb2.1 (by omega)) ?_
    rw [unhexAt]
    by_cases c1 : unfig (bt s i) < 0
    · simp only [if_pos c1]; exact Ev.now _
    · simp only [if_neg c1]
      by_cases c2 : unfig (bt s (i + 1)) < 0
      · simp only [if_pos c2]; exact Ev.now _
      · simp only [if_neg c2, if_pos (show acc.length < 140737488355328 by omega)]
        exact ih (i + 2) _ (by omega) (by omega) (by simp; omega)
theorem impl_unhex_ev (s : ByteArray) (hs : s.size ≤ 40000) : ∀ (d : Nat) (i : Int) (acc : List Int), 0 ≤ i → (s.size : Int) - i = 2 * d → acc.length ≤ i →
    Ev (fun k => impl_Unhex.l0 k s acc i) (unhexAt s d i acc) := by
  intro d
  induction d with
  | zero =>
    intro i acc hi hd hl
    refine Ev.step (fun k => by rw [impl_Unhex.l0, if_neg (by omega)]) ?_
    exact Ev.now _
  | succ d ih =>
    intro i acc hi hd hl
    have hb := bt_range s i
    have hb2 := bt_range s (i + 1)
    have e1 : wrap64 (i + 1) = i + 1 := by unfold wrap64; omega
    have e2 : wrap64 (i + 2) = i + 2 := by unfold wrap64; omega
    refine Ev.step (fun k => by rw [impl_Unhex.l0, if_pos (by omega), if_pos hi, place_eq hb.1 (by omega), Option.bind_some, e1, e2, if_pos (by omega), if_pos (by omega), place_eq hb2.1 (by omega), Option.bind_some]) ?_
    rw [unhexAt]
    by_cases c1 : unfig (bt s i) < 0
    · simp only [if_pos c1]; exact Ev.now _
    · simp only [if_neg c1]
      by_cases c2 : unfig (bt s (i + 1)) < 0
      · simp only [if_pos c2]; exact Ev.now _
      · simp only [if_neg c2, if_pos (show acc.length < 140737488355328 by omega)]
        exact ih (i + 2) _ (by omega) (by omega) (by simp; omega)
theorem unhexP_long {s : ByteArray} (h : (s.size : Int) > 40000) : unhexP s = ((⟨#[]⟩ : ByteArray), false) := by unfold unhexP; rw [if_pos (.inl h)]
theorem unhexP_odd {s : ByteArray} (h : ¬ (s.size : Int) % 2 = 0) : unhexP s = ((⟨#[]⟩ : ByteArray), false) := by unfold unhexP; rw [if_pos (.inr h)]
theorem unhexP_go {s : ByteArray} (h : ¬ (s.size : Int) > 40000) (h2 : (s.size : Int) % 2 = 0) : unhexP s = unhexAt s (s.size / 2) 0 [] := by unfold unhexP; rw [if_neg (fun c => c.elim h (fun c => c h2))]
theorem spec_Unhex_ev (s : ByteArray) : Ev (fun k => spec_Unhex.f k s) (unhexP s) := by
  by_cases h : (s.size : Int) > 40000
  · rw [unhexP_long h]
    simp only [spec_Unhex.f, if_pos h]
    refine Ev.step (fun k => by rw [spec_Unhex.j0, if_pos rfl]) ?_
    exact Ev.now _
  · by_cases h2 : (s.size : Int) % 2 = 0
    · rw [unhexP_go h h2]
      simp only [spec_Unhex.f, if_neg h]
      refine Ev.step (fun k => by rw [spec_Unhex.j0, if_neg (by simpa using h2)]) ?_
      exact spec_unhex_ev s (by omega) _ 0 [] (by omega) (by omega) (by simp)
    · rw [unhexP_odd h2]
      simp only [spec_Unhex.f, if_neg h]
      refine Ev.step (fun k => by rw [spec_Unhex.j0, if_pos (bne_iff_ne.2 h2)]) ?_
      exact Ev.now _
theorem impl_Unhex_ev (s : ByteArray) : Ev (fun k => impl_Unhex.f k s) (unhexP s) := by
  by_cases h2 : (s.size : Int) % 2 = 0
  · simp only [impl_Unhex.f, if_pos h2]
    by_cases h : (s.size : Int) > 40000
    · rw [unhexP_long h]
      refine Ev.step (fun k => by rw [impl_Unhex.j0, if_pos (decide_eq_true h)]) ?_
      exact Ev.now _
    · rw [unhexP_go h h2]
      refine Ev.step (fun k => by rw [impl_Unhex.j0, if_neg (by simpa using h)]) ?_
      exact impl_unhex_ev s (by omega) _ 0 [] (by omega) (by omega) (by simp)
  · rw [unhexP_odd h2]
    simp only [impl_Unhex.f, if_neg h2]
    refine Ev.step (fun k => by rw [impl_Unhex.j0, if_pos rfl]) ?_
    exact Ev.now _

theorem FnExactUnhex : laws_FnExactUnhex.Pure := by
  intro a0 h0
  refine Ev.rounds (g := fun k => laws_FnExactUnhex.f k a0) ?_
  simp only [laws_FnExactUnhex.f]
  by_cases h : (a0.size : Int) > 1048576
  · simp only [if_pos h]; exact Ev.now _
  · simp only [if_neg h]
    refine Ev.bind (spec_Unhex_ev a0) ?_
    refine Ev.bind (impl_Unhex_ev a0) ?_
    simp only [if_true, bne_self_eq_false, Bool.false_eq_true, if_false]
    exact Ev.now _

end Go.Proofs.Ytgjnolnaajopmaa.Pure
