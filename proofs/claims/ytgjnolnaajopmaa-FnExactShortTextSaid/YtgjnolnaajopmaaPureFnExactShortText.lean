/- For every text ShortText of the program and of the reference tell the same. No condition is laid beside the statement. -/
import Derived.Test.YtgjnolnaajopmaaPFnExactShortTextx1
import Derived.Laws.BitsLemmas
import Derived.Lib.Bytes
import Derived.OpenShut
namespace Go.Proofs.Ytgjnolnaajopmaa.Pure
open Go.RowKit Go.Proofs.Ytgjnolnaajopmaa.PFnExactShortText Go.Proofs.YtgjnolnaajopmaaW.PrintWords Go.Proofs.YtgjnolnaajopmaaW.PrintLast
set_option linter.unusedVariables false
set_option linter.unusedSimpArgs false


theorem wrap_id {i : Int} (h0 : -9223372036854775808 ≤ i) (h1 : i ≤ 9223372036854775807) : wrap64 i = i := by unfold wrap64; omega
theorem toList_eq {a b : ByteArray} (h : a = b) : a.toList = b.toList := by rw [h]

/-! numbers in bytes -/
def varL (n : Nat) : List Int := if h : n > 127 then ((n % 128 + 128 : Nat) : Int) :: varL (n / 128) else [(n : Int)]
termination_by n
decreasing_by omega
theorem varL_big {n : Nat} (h : n > 127) : varL n = ((n % 128 + 128 : Nat) : Int) :: varL (n / 128) := by rw [varL, dif_pos h]
theorem varL_small {n : Nat} (h : ¬ n > 127) : varL n = [(n : Int)] := by rw [varL, dif_neg h]
theorem varL_len (n : Nat) : (varL n).length ≤ n + 1 := by
  induction n using Nat.strongRecOn with
  | ind n ih =>
    by_cases h : n > 127
    · rw [varL_big h]; have := ih (n / 128) (by omega); simp; omega
    · rw [varL_small h]; simp
theorem var_ev (n : Nat) : ∀ (acc : List Int), n ≤ 1000000000 → acc.length + n ≤ 3000000000 →
    Ev (fun k => spec_l01Var.l0 k (n : Int) acc) (strOfNums (acc ++ varL n)) := by
  induction n using Nat.strongRecOn with
  | ind n ih =>
    intro acc hn hl
    by_cases h : n > 127
    · have e1 : wrap64 (Int.tdiv (n : Int) 128) = ((n / 128 : Nat) : Int) := by
        rw [Int.tdiv_eq_ediv_of_nonneg (by omega)]; unfold wrap64; omega
      have e2 : (wrap64 ((Int.tmod (n : Int) 128) + 128)) % 256 = ((n % 128 + 128 : Nat) : Int) := by
        rw [Int.tmod_eq_emod_of_nonneg (by omega)]; unfold wrap64; omega
      refine Ev.step (fun k => by rw [spec_l01Var.l0, if_pos (by omega), if_pos (by omega), e1, e2]) ?_
      have := ih (n / 128) (by omega) (acc ++ [((n % 128 + 128 : Nat) : Int)]) (by omega) (by simp; omega)
      rw [varL_big h]
      rw [List.append_assoc, List.singleton_append] at this
      exact this
    · refine Ev.step (fun k => by rw [spec_l01Var.l0, if_neg (by omega), if_pos (by omega)]) ?_
      have e : (n : Int) % 256 = n := by omega
      rw [varL_small h, e]
      exact Ev.now _
theorem spec_l01Var_ev {x : Int} (h0 : 0 ≤ x) (h1 : x ≤ 1000000000) : Ev (fun k => spec_l01Var.f k x) (strOfNums (varL x.toNat)) := by
  obtain ⟨n, rfl⟩ := Int.eq_ofNat_of_zero_le h0
  simp only [spec_l01Var.f]
  exact var_ev n [] (by omega) (by simp; omega)

theorem impl_var (k : Nat) : ∀ (x : Int) (acc : List Int), impl_VarText.l0 k x acc = (spec_l01Var.l0 k x acc).map (fun s => (s, true)) := by
  induction k with
  | zero => intro x acc; simp [impl_VarText.l0, spec_l01Var.l0]
  | succ k ih =>
    intro x acc
    rw [impl_VarText.l0, spec_l01Var.l0]
    split
    · split
      · exact ih _ _
      · rfl
    · split <;> rfl
theorem impl_VarText_ev {x : Int} (h0 : 0 ≤ x) (h1 : x ≤ 1000000000) : Ev (fun k => impl_VarText.f k x) (strOfNums (varL x.toNat), true) := by
  have h := spec_l01Var_ev h0 h1
  simp only [impl_VarText.f, impl_in.f, if_pos h0, Option.bind_some, decide_eq_true h1, if_true]
  obtain ⟨K, h⟩ := h
  refine ⟨K, fun k hk => ?_⟩
  have := h k hk
  simp only [spec_l01Var.f] at this
  show impl_VarText.l0 k x [] = _
  rw [impl_var, this]
  rfl
theorem impl_VarText_no {x : Int} (h : ¬ (0 ≤ x ∧ x ≤ 1000000000)) : Ev (fun k => impl_VarText.f k x) ((⟨#[]⟩ : ByteArray), false) := by
  simp only [impl_VarText.f, impl_in.f]
  by_cases h0 : x ≥ 0
  · have h1 : ¬ x ≤ 1000000000 := fun c => h ⟨h0, c⟩
    simp only [if_pos h0, Option.bind_some, decide_eq_false h1]
    exact Ev.now _
  · simp only [if_neg h0, Option.bind_some]
    exact Ev.now _

def shortP (s : ByteArray) : ByteArray × Bool := if (s.size : Int) > 20000 then ((⟨#[]⟩ : ByteArray), false) else (strOfNums (varL s.size) ++ s, true)
theorem str_size' (l : List Int) : (strOfNums l).size = l.length := by
  show (strOfNums l).data.size = _
  unfold strOfNums
  simp
theorem spec_ShortText_ev (s : ByteArray) : Ev (fun k => spec_ShortText.f k s) (shortP s) := by
  simp only [spec_ShortText.f]
  unfold shortP
  by_cases h : (s.size : Int) > 20000
  · simp only [if_pos h]; exact Ev.now _
  · simp only [if_neg h]
    refine Ev.bind (spec_l01Var_ev (by omega) (by omega)) ?_
    have := varL_len s.size
    simp only [Int.toNat_natCast, str_size', if_pos (show (varL s.size).length + s.size ≤ 9223372036854775807 by omega)]
    exact Ev.now _
theorem impl_ShortText_ev (s : ByteArray) : Ev (fun k => impl_ShortText.f k s) (shortP s) := by
  simp only [impl_ShortText.f]
  unfold shortP
  by_cases h : (s.size : Int) > 20000
  · simp only [if_pos h]; exact Ev.now _
  · simp only [if_neg h]
    refine Ev.bind (impl_VarText_ev (by omega) (by omega)) ?_
    have := varL_len s.size
    simp only [Int.toNat_natCast, str_size', if_pos (show (varL s.size).length + s.size ≤ 9223372036854775807 by omega)]
    exact Ev.now _

theorem FnExactShortText : laws_FnExactShortText.Pure := by
  intro a0 h0
  refine Ev.rounds (g := fun k => laws_FnExactShortText.f k a0) ?_
  simp only [laws_FnExactShortText.f]
  by_cases h : (a0.size : Int) > 1048576
  · simp only [if_pos h]; exact Ev.now _
  · simp only [if_neg h]
    refine Ev.bind (spec_ShortText_ev a0) ?_
    refine Ev.bind (impl_ShortText_ev a0) ?_
    simp only [if_true, bne_self_eq_false, Bool.false_eq_true, if_false]
    exact Ev.now _

end Go.Proofs.Ytgjnolnaajopmaa.Pure
