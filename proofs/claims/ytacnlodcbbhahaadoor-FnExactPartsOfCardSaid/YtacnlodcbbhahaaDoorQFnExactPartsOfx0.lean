-- printed for this claim by a program of the session's own (no text of the kit's print)
import Derived.Test.YtacnlodcbbhahaaDoorProg
import Derived.Laws.Cover1
import Derived.Below
import Derived.Deep.Draws
import Derived.Deep.AppendLies
import Derived.Maps.AppendAt
import Derived.OwnWalk
import Derived.Laws.BytesArg
import Derived.Laws.MakeOwn
import Derived.Laws.OwnMore
import Derived.Deep.OwnRows
import Derived.Tactics
import Derived.Lib.ConvBytes
import Derived.Laws.Slices
import Derived.WalkKit
import Derived.KernelRfl
import Derived.RowKit3
import Derived.Deep.LoopGhost
import Derived.Deep.QuietTactic
import Derived.BigQuiet
import Derived.WideLaws
import Derived.Deep.DeepCutAuto
import Derived.Deep.CutBlock
import Derived.Deep.RegionHeld3
import Derived.Laws.Rows
import Derived.Lib.AppendStr
import Derived.ArgAppend
import Derived.Laws.IdiomCopy
import Derived.OrdersHeld
import Derived.Laws.BitsLemmas
import Derived.RowKit
import Derived.Lib.Strings
import Derived.Lib.Slices
import Derived.Lib.Walk
import Derived.Lib.Bytealg
import Derived.Lib.Strings
import Derived.Lib.Slices
import Derived.Lib.Walk
import Derived.Lib.Bytealg
import Derived.Lib.Strings
import Derived.Test.YtacnlodcbbhahaaDoorWWords
import Derived.Test.YtacnlodcbbhahaaDoorWLast
import Derived.Test.YtacnlodcbbhahaaDoorWTab
import Derived.Test.YtacnlodcbbhahaaDoorWFour
import Derived.Test.YtacnlodcbbhahaaDoorWQPut
import Derived.Test.YtacnlodcbbhahaaDoorWApart
import Derived.Test.YtacnlodcbbhahaaDoorWArr
import Derived.Test.YtacnlodcbbhahaaDoorWZeros
import Derived.Test.YtacnlodcbbhahaaDoorWFoot
import Derived.Test.YtacnlodcbbhahaaDoorWKept
import Derived.Test.YtacnlodcbbhahaaDoorWShare
import Derived.Test.YtacnlodcbbhahaaDoorWN
import Derived.Test.YtacnlodcbbhahaaDoorWFootNe
import Derived.Test.YtacnlodcbbhahaaDoorWAt
import Derived.Test.YtacnlodcbbhahaaDoorWEqStruct
import Derived.Test.YtacnlodcbbhahaaDoorWRepsOne
import Derived.Test.YtacnlodcbbhahaaDoorWInv
import Derived.Test.YtacnlodcbbhahaaDoorWInvWords
import Derived.Test.YtacnlodcbbhahaaDoorWGuard
import Derived.Test.YtacnlodcbbhahaaDoorWNEv
import Derived.Test.YtacnlodcbbhahaaDoorWMore
namespace Go.Proofs.YtacnlodcbbhahaaDoor.QFnExactPartsOf
open Go.RowKit Go.Proofs.YtacnlodcbbhahaaDoorW.PrintWords Go.Proofs.YtacnlodcbbhahaaDoorW.PrintLast Go.Proofs.YtacnlodcbbhahaaDoorW.PrintMore
attribute [local go_sem] max2_int min2_int max_two min_two max_three min_three max_four min_four   -- for this text's walks alone
set_option linter.unusedVariables false
set_option linter.unusedSimpArgs false



def errW : Option Int → Value
  | none => .nilIface
  | some c => .iface 0 (.int .i64 c)
def ownA (A : Option Addr) : Option Nat := A.map (·.block)
theorem own_slice (A : Option Addr) (n c : Nat) : (Value.slice A n c).ownBlock = ownA A := by cases A <;> rfl
theorem rr_len {α : Type} {R : α → List Value → Prop} {size : Nat} {w : World} {A : Option Addr} {n m : Nat} {ps : List α} (h : n = m) (k : ReadsRow R size w A n ps) : ReadsRow R size w A m ps := h ▸ k
theorem errW_none : errW none = .nilIface := rfl
theorem errW_some (c : Int) : errW (some c) = .iface 0 (.int .i64 c) := rfl

theorem info5 : (Tryd.prog.info? 5).map (fun i => (i.zero, i.size, i.bytes)) = some (some (.int .u8 0), 1, 1) := by kernel_rfl
theorem info9 : (Tryd.prog.info? 9).map (fun i => (i.zero, i.size, i.bytes)) = some (some (.string ⟨#[]⟩), 1, 16) := by kernel_rfl
-- the values' own types

end Go.Proofs.YtacnlodcbbhahaaDoor.QFnExactPartsOf
