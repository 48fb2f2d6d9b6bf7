/- For every number and edge EdgeOk of the program and of the reference tell the same. No condition is laid beside the statement. -/
import Derived.Test.YtgjnolnaajopmaaQFnExactEdgeOkx1
import Derived.Laws.BitsLemmas
import Derived.Lib.Bytes
import Derived.OpenShut
namespace Go.Proofs.Ytgjnolnaajopmaa.Pure
open Go.RowKit Go.Proofs.Ytgjnolnaajopmaa.QFnExactEdgeOk Go.Proofs.YtgjnolnaajopmaaW.PrintWords Go.Proofs.YtgjnolnaajopmaaW.PrintLast
set_option linter.unusedVariables false
set_option linter.unusedSimpArgs false


/-! edges that are right -/
theorem spec_in_eq (a b c : Int) : spec_l01In.f a b c = some (decide (b ≤ a ∧ a ≤ c)) := by
  unfold spec_l01In.f
  by_cases h : a ≥ b
  · have h' : b ≤ a := h
    simp [h']
  · have h' : ¬ b ≤ a := h
    simp [h']
theorem impl_in_eq (a b c : Int) : impl_in.f a b c = some (decide (b ≤ a ∧ a ≤ c)) := by
  unfold impl_in.f
  by_cases h : a ≥ b
  · have h' : b ≤ a := h
    simp [h']
  · have h' : ¬ b ≤ a := h
    simp [h']
def edgeOk (n a b : Int) : Bool := decide ((1 ≤ n ∧ n ≤ 12) ∧ (0 ≤ a ∧ a ≤ n - 1) ∧ (0 ≤ b ∧ b ≤ n - 1) ∧ a < b)
theorem spec_EdgeOk_eq (n a b : Int) : spec_EdgeOk.f n a b = some (edgeOk n a b) := by
  unfold spec_EdgeOk.f edgeOk
  simp only [spec_in_eq, Option.bind_some, decide_eq_true_eq]
  by_cases h1 : 1 ≤ n ∧ n ≤ 12
  · have e : wrap64 (n - 1) = n - 1 := by unfold wrap64; omega
    rw [if_pos h1, e]
    by_cases h2 : 0 ≤ a ∧ a ≤ n - 1
    · rw [if_pos h2]
      by_cases h3 : 0 ≤ b ∧ b ≤ n - 1
      · rw [if_pos h3]; simp [h1, h2, h3]
      · rw [if_neg h3, decide_eq_false (fun h => h3 h.2.2.1)]
    · rw [if_neg h2, decide_eq_false (fun h => h2 h.2.1)]
  · rw [if_neg h1, decide_eq_false (fun h => h1 h.1)]
theorem impl_EdgeOk_eq (n a b : Int) : impl_EdgeOk.f n a b = some (edgeOk n a b) := by
  unfold impl_EdgeOk.f edgeOk
  simp only [impl_in_eq, Option.bind_some, decide_eq_true_eq]
  by_cases h1 : 1 ≤ n ∧ n ≤ 12
  · have e : wrap64 (n - 1) = n - 1 := by unfold wrap64; omega
    rw [if_pos h1, e]
    by_cases h2 : 0 ≤ a ∧ a ≤ n - 1
    · rw [if_pos h2]
      by_cases h3 : 0 ≤ b ∧ b ≤ n - 1
      · rw [if_pos h3]; simp [h1, h2, h3]
      · rw [if_neg h3, decide_eq_false (fun h => h3 h.2.2.1)]
    · rw [if_neg h2, decide_eq_false (fun h => h2 h.2.1)]
  · rw [if_neg h1, decide_eq_false (fun h => h1 h.1)]

theorem FnExactEdgeOk_pure (a0 a1_0 a1_1 : Int) (q0 : (Go.Lit.int .i64 a0).wf = true) (q1_0 : (Go.Lit.int .i64 a1_0).wf = true) (q1_1 : (Go.Lit.int .i64 a1_1).wf = true) : laws_FnExactEdgeOk.f a0 a1_0 a1_1 = some true := by
  simp only [laws_FnExactEdgeOk.f, laws_toEdge.f, Option.bind_some, spec_EdgeOk_eq, impl_EdgeOk_eq, bne_self_eq_false, Bool.false_eq_true, if_false]

end Go.Proofs.Ytgjnolnaajopmaa.Pure
