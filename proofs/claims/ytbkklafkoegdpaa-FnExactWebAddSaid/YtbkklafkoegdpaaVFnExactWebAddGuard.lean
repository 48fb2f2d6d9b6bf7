-- of the words that the print wrote for this seat, what this claim reaches (by dce.py, a program of this session)
import Derived.Test.YtbkklafkoegdpaaVFnExactWebAddWords
import Derived.Test.YtbkklafkoegdpaaVFnExactWebAddLast
import Derived.Test.YtbkklafkoegdpaaVFnExactWebAddTab
import Derived.Test.YtbkklafkoegdpaaVFnExactWebAddApart
import Derived.Test.YtbkklafkoegdpaaVFnExactWebAddFoot
import Derived.Test.YtbkklafkoegdpaaVFnExactWebAddKept
import Derived.Test.YtbkklafkoegdpaaVFnExactWebAddShare
import Derived.Test.YtbkklafkoegdpaaVFnExactWebAddN
import Derived.Test.YtbkklafkoegdpaaVFnExactWebAddAt
import Derived.Test.YtbkklafkoegdpaaVFnExactWebAddEqStruct
import Derived.Test.YtbkklafkoegdpaaVFnExactWebAddRepsOne
/-! ### 58. A guarded operation whose guard is known to want it: the same goal without the guard -/
namespace Go.Proofs.YtbkklafkoegdpaaW.PrintWords
open Go.RowKit
section
variable {P : Program} {ops : Array Oper} {rest : List Oper} {o : Oper} {a : Act} {Q : Exit → Act → World → Prop} {W : World}
theorem gate_guard (hw : Region.wanted o (yielded ops a.tmps) = true) (h : wpList P ops Q ({ o with guard := none } :: rest) a W) : wpList P ops Q (o :: rest) a W := by
  have h1 : Region.wanted { o with guard := none } (yielded ops a.tmps) = true := rfl
  unfold wpList at h ⊢
  rw [if_pos h1] at h
  rw [if_pos hw]
  exact h
end
end Go.Proofs.YtbkklafkoegdpaaW.PrintWords
