-- printed for this claim by a program of the session's own (no text of the kit's print)
import Derived.Test.YtbkklafkoegdpaaDoorProg
import Derived.Laws.Cover1
import Derived.Below
import Derived.Deep.Draws
import Derived.Deep.AppendLies
import Derived.Maps.AppendAt
import Derived.OwnWalk
import Derived.Laws.BytesArg
import Derived.Laws.MakeOwn
import Derived.Laws.OwnMore
import Derived.Deep.OwnRows
import Derived.Tactics
import Derived.Lib.ConvBytes
import Derived.Laws.Slices
import Derived.WalkKit
import Derived.KernelRfl
import Derived.RowKit3
import Derived.Deep.LoopGhost
import Derived.Deep.QuietTactic
import Derived.BigQuiet
import Derived.WideLaws
import Derived.Deep.DeepCutAuto
import Derived.Deep.CutBlock
import Derived.Deep.RegionHeld3
import Derived.Laws.Rows
import Derived.Lib.AppendStr
import Derived.ArgAppend
import Derived.Laws.IdiomCopy
import Derived.OrdersHeld
import Derived.Laws.BitsLemmas
import Derived.RowKit
import Derived.Lib.Strings
import Derived.Lib.Slices
import Derived.Lib.Walk
import Derived.Lib.Bytealg
import Derived.Test.YtbkklafkoegdpaaDoorWWords
import Derived.Test.YtbkklafkoegdpaaDoorWLast
import Derived.Test.YtbkklafkoegdpaaDoorWTab
import Derived.Test.YtbkklafkoegdpaaDoorWFour
import Derived.Test.YtbkklafkoegdpaaDoorWQPut
import Derived.Test.YtbkklafkoegdpaaDoorWApart
import Derived.Test.YtbkklafkoegdpaaDoorWArr
import Derived.Test.YtbkklafkoegdpaaDoorWZeros
import Derived.Test.YtbkklafkoegdpaaDoorWFoot
import Derived.Test.YtbkklafkoegdpaaDoorWKept
import Derived.Test.YtbkklafkoegdpaaDoorWShare
import Derived.Test.YtbkklafkoegdpaaDoorWN
import Derived.Test.YtbkklafkoegdpaaDoorWFootNe
import Derived.Test.YtbkklafkoegdpaaDoorWAt
import Derived.Test.YtbkklafkoegdpaaDoorWEqStruct
import Derived.Test.YtbkklafkoegdpaaDoorWRepsOne
import Derived.Test.YtbkklafkoegdpaaDoorWInv
import Derived.Test.YtbkklafkoegdpaaDoorWInvWords
import Derived.Test.YtbkklafkoegdpaaDoorWGuard
import Derived.Test.YtbkklafkoegdpaaDoorWNEv
import Derived.Test.YtbkklafkoegdpaaDoorWMore
namespace Go.Proofs.YtbkklafkoegdpaaDoor.QFnNumbers
open Go.RowKit Go.Proofs.YtbkklafkoegdpaaDoorW.PrintWords Go.Proofs.YtbkklafkoegdpaaDoorW.PrintLast Go.Proofs.YtbkklafkoegdpaaDoorW.PrintMore
attribute [local go_sem] max2_int min2_int max_two min_two max_three min_three max_four min_four   -- for this text's walks alone
set_option linter.unusedVariables false
set_option linter.unusedSimpArgs false



def errW : Option Int → Value
  | none => .nilIface
  | some c => .iface 57 (.int .i64 c)
def ownA (A : Option Addr) : Option Nat := A.map (·.block)
theorem own_slice (A : Option Addr) (n c : Nat) : (Value.slice A n c).ownBlock = ownA A := by cases A <;> rfl
theorem rr_len {α : Type} {R : α → List Value → Prop} {size : Nat} {w : World} {A : Option Addr} {n m : Nat} {ps : List α} (h : n = m) (k : ReadsRow R size w A n ps) : ReadsRow R size w A m ps := h ▸ k
theorem errW_none : errW none = .nilIface := rfl
theorem errW_some (c : Int) : errW (some c) = .iface 57 (.int .i64 c) := rfl

theorem info3 : (Tryd.prog.info? 3).map (fun i => (i.zero, i.size, i.bytes)) = some (some (.int .i64 0), 1, 8) := by kernel_rfl
theorem info5 : (Tryd.prog.info? 5).map (fun i => (i.zero, i.size, i.bytes)) = some (some (.int .u8 0), 1, 1) := by kernel_rfl
-- the values' own types

end Go.Proofs.YtbkklafkoegdpaaDoor.QFnNumbers
