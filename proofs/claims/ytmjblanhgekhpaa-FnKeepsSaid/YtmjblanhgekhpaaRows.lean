/-
  No cell of these rows narrows 'for every input' (looked for: loops, veiled, ifaces, maps, wideKeys, modest, calm, conditions, laid).
  DERIVED. THE GIVEN ROWS OF THIS SEAT. 12 by the template 'for every input the law returns true; each argument reads behind the call as it read before'; 0 by the template 'total and deterministic' (their statements: YtmjblanhgekhpaaTotals.lean).
  GIVEN WITH THE SEED: the statements are not yours to turn. If you find one false, say at which input.
  Laid BY PROGRAM, IN A SANDBOX (cutbox-rows.mjs): the forced cells as the released guide's own fill.sh prints them over the translation 24b1615f71b1c787… (all of the seat's roots in one cut). By AI agents, Wed Nov 11 2026. No macro, syntax, notation, axiom, sorry.
-/
import Derived.Test.YtmjblanhgekhpaaChecked
import GoSem.Claim
import GoSem.ClaimJoined
import GoSem.ClaimMapViews
import Derived.JoinedTies
import Derived.KernelRfl
namespace Go.Proofs.Ytmjblanhgekhpaa
/- THE CELL 'sum', in the pinned program and in every row, IS THE sha256 OF THE DUMP (.gsa) THAT YtmjblanhgekhpaaProg.lean LOADS. Nothing in Lean hashes anything: it is a label: what it is worth is what the hold of that sum in a sandbox is worth. -/
noncomputable def Try.pinned : Pinned := { name := "ytmjblanhgekhpaa", sum := "24b1615f71b1c7878722f853097f98af0bf661bb055067f91c6457e567149a6f", checked := Try.checked }
namespace Rows
def none {H : Type} : Left H := { results := [], args := [] }

/-- 'laws.FnExactFrame': WHATEVER THE INPUT: true; the input reads as it did. -/
def fnExactFrameSpec : ChangeSpec := { name := "fnExactFrame", fn := fun _ => fun
  | [d] => { results := [.lit (.bool true)], args := [d] }
  | _ => none }
def fnExactFrameRow : OpenClaim := { program := "ytmjblanhgekhpaa", sum := "24b1615f71b1c7878722f853097f98af0bf661bb055067f91c6457e567149a6f", func := "loop.example/g00130/laws.FnExactFrame", spec := "fnExactFrame", apart := false }
def FnExactFrameSaid : Prop := fnExactFrameRow.holds Try.pinned (OpenSpec.ofChange fnExactFrameSpec)

/-- ITS FALSE NEIGHBOUR: 'it returns false'. Refute it at one input. -/
def fnExactFrameWrong : ChangeSpec := { name := "fnExactFrame", fn := fun _ => fun
  | [d] => { results := [.lit (.bool false)], args := [d] }
  | _ => none }
def FnExactFrameWrongFalsely : Prop := fnExactFrameRow.holds Try.pinned (OpenSpec.ofChange fnExactFrameWrong)

/-- 'laws.FnExactHasEdge': WHATEVER THE INPUT: true; the input reads as it did. -/
def fnExactHasEdgeSpec : ChangeSpec := { name := "fnExactHasEdge", fn := fun _ => fun
  | [d1, d2] => { results := [.lit (.bool true)], args := [d1, d2] }
  | _ => none }
def fnExactHasEdgeRow : OpenClaim := { program := "ytmjblanhgekhpaa", sum := "24b1615f71b1c7878722f853097f98af0bf661bb055067f91c6457e567149a6f", func := "loop.example/g00130/laws.FnExactHasEdge", spec := "fnExactHasEdge", apart := false }
def FnExactHasEdgeSaid : Prop := fnExactHasEdgeRow.holds Try.pinned (OpenSpec.ofChange fnExactHasEdgeSpec)

/-- ITS FALSE NEIGHBOUR: 'it returns false'. Refute it at one input. -/
def fnExactHasEdgeWrong : ChangeSpec := { name := "fnExactHasEdge", fn := fun _ => fun
  | [d1, d2] => { results := [.lit (.bool false)], args := [d1, d2] }
  | _ => none }
def FnExactHasEdgeWrongFalsely : Prop := fnExactHasEdgeRow.holds Try.pinned (OpenSpec.ofChange fnExactHasEdgeWrong)

/-- 'laws.FnExactTourOk': WHATEVER THE INPUT: true; the input reads as it did. -/
def fnExactTourOkSpec : ChangeSpec := { name := "fnExactTourOk", fn := fun _ => fun
  | [d] => { results := [.lit (.bool true)], args := [d] }
  | _ => none }
def fnExactTourOkRow : OpenClaim := { program := "ytmjblanhgekhpaa", sum := "24b1615f71b1c7878722f853097f98af0bf661bb055067f91c6457e567149a6f", func := "loop.example/g00130/laws.FnExactTourOk", spec := "fnExactTourOk", apart := false }
def FnExactTourOkSaid : Prop := fnExactTourOkRow.holds Try.pinned (OpenSpec.ofChange fnExactTourOkSpec)

/-- ITS FALSE NEIGHBOUR: 'it returns false'. Refute it at one input. -/
def fnExactTourOkWrong : ChangeSpec := { name := "fnExactTourOk", fn := fun _ => fun
  | [d] => { results := [.lit (.bool false)], args := [d] }
  | _ => none }
def FnExactTourOkWrongFalsely : Prop := fnExactTourOkRow.holds Try.pinned (OpenSpec.ofChange fnExactTourOkWrong)

/-- 'laws.FnTurned': WHATEVER THE INPUT: true; the input reads as it did. -/
def fnTurnedSpec : ChangeSpec := { name := "fnTurned", fn := fun _ => fun
  | [d] => { results := [.lit (.bool true)], args := [d] }
  | _ => none }
def fnTurnedRow : OpenClaim := { program := "ytmjblanhgekhpaa", sum := "24b1615f71b1c7878722f853097f98af0bf661bb055067f91c6457e567149a6f", func := "loop.example/g00130/laws.FnTurned", spec := "fnTurned", apart := false }
def FnTurnedSaid : Prop := fnTurnedRow.holds Try.pinned (OpenSpec.ofChange fnTurnedSpec)

/-- ITS FALSE NEIGHBOUR: 'it returns false'. Refute it at one input. -/
def fnTurnedWrong : ChangeSpec := { name := "fnTurned", fn := fun _ => fun
  | [d] => { results := [.lit (.bool false)], args := [d] }
  | _ => none }
def FnTurnedWrongFalsely : Prop := fnTurnedRow.holds Try.pinned (OpenSpec.ofChange fnTurnedWrong)

/-- 'laws.FnExactGraphOk': WHATEVER THE INPUT: true; the input reads as it did. -/
def fnExactGraphOkSpec : ChangeSpec := { name := "fnExactGraphOk", fn := fun _ => fun
  | [d] => { results := [.lit (.bool true)], args := [d] }
  | _ => none }
def fnExactGraphOkRow : OpenClaim := { program := "ytmjblanhgekhpaa", sum := "24b1615f71b1c7878722f853097f98af0bf661bb055067f91c6457e567149a6f", func := "loop.example/g00130/laws.FnExactGraphOk", spec := "fnExactGraphOk", apart := false }
def FnExactGraphOkSaid : Prop := fnExactGraphOkRow.holds Try.pinned (OpenSpec.ofChange fnExactGraphOkSpec)

/-- ITS FALSE NEIGHBOUR: 'it returns false'. Refute it at one input. -/
def fnExactGraphOkWrong : ChangeSpec := { name := "fnExactGraphOk", fn := fun _ => fun
  | [d] => { results := [.lit (.bool false)], args := [d] }
  | _ => none }
def FnExactGraphOkWrongFalsely : Prop := fnExactGraphOkRow.holds Try.pinned (OpenSpec.ofChange fnExactGraphOkWrong)

/-- 'laws.FnExactWebNew': WHATEVER THE INPUT: true; the input reads as it did. -/
def fnExactWebNewSpec : ChangeSpec := { name := "fnExactWebNew", fn := fun _ => fun
  | [d] => { results := [.lit (.bool true)], args := [d] }
  | _ => none }
def fnExactWebNewRow : OpenClaim := { program := "ytmjblanhgekhpaa", sum := "24b1615f71b1c7878722f853097f98af0bf661bb055067f91c6457e567149a6f", func := "loop.example/g00130/laws.FnExactWebNew", spec := "fnExactWebNew", apart := false }
def FnExactWebNewSaid : Prop := fnExactWebNewRow.holds Try.pinned (OpenSpec.ofChange fnExactWebNewSpec)

/-- ITS FALSE NEIGHBOUR: 'it returns false'. Refute it at one input. -/
def fnExactWebNewWrong : ChangeSpec := { name := "fnExactWebNew", fn := fun _ => fun
  | [d] => { results := [.lit (.bool false)], args := [d] }
  | _ => none }
def FnExactWebNewWrongFalsely : Prop := fnExactWebNewRow.holds Try.pinned (OpenSpec.ofChange fnExactWebNewWrong)

/-- 'laws.FnExactForestNew': WHATEVER THE INPUT: true; the input reads as it did. -/
def fnExactForestNewSpec : ChangeSpec := { name := "fnExactForestNew", fn := fun _ => fun
  | [d] => { results := [.lit (.bool true)], args := [d] }
  | _ => none }
def fnExactForestNewRow : OpenClaim := { program := "ytmjblanhgekhpaa", sum := "24b1615f71b1c7878722f853097f98af0bf661bb055067f91c6457e567149a6f", func := "loop.example/g00130/laws.FnExactForestNew", spec := "fnExactForestNew", apart := false }
def FnExactForestNewSaid : Prop := fnExactForestNewRow.holds Try.pinned (OpenSpec.ofChange fnExactForestNewSpec)

/-- ITS FALSE NEIGHBOUR: 'it returns false'. Refute it at one input. -/
def fnExactForestNewWrong : ChangeSpec := { name := "fnExactForestNew", fn := fun _ => fun
  | [d] => { results := [.lit (.bool false)], args := [d] }
  | _ => none }
def FnExactForestNewWrongFalsely : Prop := fnExactForestNewRow.holds Try.pinned (OpenSpec.ofChange fnExactForestNewWrong)

/-- 'laws.FnExactDiskOk': WHATEVER THE INPUT: true; the input reads as it did. -/
def fnExactDiskOkSpec : ChangeSpec := { name := "fnExactDiskOk", fn := fun _ => fun
  | [d] => { results := [.lit (.bool true)], args := [d] }
  | _ => none }
def fnExactDiskOkRow : OpenClaim := { program := "ytmjblanhgekhpaa", sum := "24b1615f71b1c7878722f853097f98af0bf661bb055067f91c6457e567149a6f", func := "loop.example/g00130/laws.FnExactDiskOk", spec := "fnExactDiskOk", apart := false }
def FnExactDiskOkSaid : Prop := fnExactDiskOkRow.holds Try.pinned (OpenSpec.ofChange fnExactDiskOkSpec)

/-- ITS FALSE NEIGHBOUR: 'it returns false'. Refute it at one input. -/
def fnExactDiskOkWrong : ChangeSpec := { name := "fnExactDiskOk", fn := fun _ => fun
  | [d] => { results := [.lit (.bool false)], args := [d] }
  | _ => none }
def FnExactDiskOkWrongFalsely : Prop := fnExactDiskOkRow.holds Try.pinned (OpenSpec.ofChange fnExactDiskOkWrong)

/-- 'laws.FnExactFileAt': WHATEVER THE INPUT: true; the input reads as it did. -/
def fnExactFileAtSpec : ChangeSpec := { name := "fnExactFileAt", fn := fun _ => fun
  | [d1, d2] => { results := [.lit (.bool true)], args := [d1, d2] }
  | _ => none }
def fnExactFileAtRow : OpenClaim := { program := "ytmjblanhgekhpaa", sum := "24b1615f71b1c7878722f853097f98af0bf661bb055067f91c6457e567149a6f", func := "loop.example/g00130/laws.FnExactFileAt", spec := "fnExactFileAt", apart := false }
def FnExactFileAtSaid : Prop := fnExactFileAtRow.holds Try.pinned (OpenSpec.ofChange fnExactFileAtSpec)

/-- ITS FALSE NEIGHBOUR: 'it returns false'. Refute it at one input. -/
def fnExactFileAtWrong : ChangeSpec := { name := "fnExactFileAt", fn := fun _ => fun
  | [d1, d2] => { results := [.lit (.bool false)], args := [d1, d2] }
  | _ => none }
def FnExactFileAtWrongFalsely : Prop := fnExactFileAtRow.holds Try.pinned (OpenSpec.ofChange fnExactFileAtWrong)

/-- 'laws.FnExactAllKept': WHATEVER THE INPUT: true; the input reads as it did. -/
def fnExactAllKeptSpec : ChangeSpec := { name := "fnExactAllKept", fn := fun _ => fun
  | [d] => { results := [.lit (.bool true)], args := [d] }
  | _ => none }
def fnExactAllKeptRow : OpenClaim := { program := "ytmjblanhgekhpaa", sum := "24b1615f71b1c7878722f853097f98af0bf661bb055067f91c6457e567149a6f", func := "loop.example/g00130/laws.FnExactAllKept", spec := "fnExactAllKept", apart := false }
def FnExactAllKeptSaid : Prop := fnExactAllKeptRow.holds Try.pinned (OpenSpec.ofChange fnExactAllKeptSpec)

/-- ITS FALSE NEIGHBOUR: 'it returns false'. Refute it at one input. -/
def fnExactAllKeptWrong : ChangeSpec := { name := "fnExactAllKept", fn := fun _ => fun
  | [d] => { results := [.lit (.bool false)], args := [d] }
  | _ => none }
def FnExactAllKeptWrongFalsely : Prop := fnExactAllKeptRow.holds Try.pinned (OpenSpec.ofChange fnExactAllKeptWrong)

/-- 'laws.FnExactOrderOk': WHATEVER THE INPUT: true; the input reads as it did. -/
def fnExactOrderOkSpec : ChangeSpec := { name := "fnExactOrderOk", fn := fun _ => fun
  | [d1, d2] => { results := [.lit (.bool true)], args := [d1, d2] }
  | _ => none }
def fnExactOrderOkRow : OpenClaim := { program := "ytmjblanhgekhpaa", sum := "24b1615f71b1c7878722f853097f98af0bf661bb055067f91c6457e567149a6f", func := "loop.example/g00130/laws.FnExactOrderOk", spec := "fnExactOrderOk", apart := false }
def FnExactOrderOkSaid : Prop := fnExactOrderOkRow.holds Try.pinned (OpenSpec.ofChange fnExactOrderOkSpec)

/-- ITS FALSE NEIGHBOUR: 'it returns false'. Refute it at one input. -/
def fnExactOrderOkWrong : ChangeSpec := { name := "fnExactOrderOk", fn := fun _ => fun
  | [d1, d2] => { results := [.lit (.bool false)], args := [d1, d2] }
  | _ => none }
def FnExactOrderOkWrongFalsely : Prop := fnExactOrderOkRow.holds Try.pinned (OpenSpec.ofChange fnExactOrderOkWrong)

/-- 'laws.FnKeeps': WHATEVER THE INPUT: true; the input reads as it did. -/
def fnKeepsSpec : ChangeSpec := { name := "fnKeeps", fn := fun _ => fun
  | [d] => { results := [.lit (.bool true)], args := [d] }
  | _ => none }
def fnKeepsRow : OpenClaim := { program := "ytmjblanhgekhpaa", sum := "24b1615f71b1c7878722f853097f98af0bf661bb055067f91c6457e567149a6f", func := "loop.example/g00130/laws.FnKeeps", spec := "fnKeeps", apart := false }
def FnKeepsSaid : Prop := fnKeepsRow.holds Try.pinned (OpenSpec.ofChange fnKeepsSpec)

/-- ITS FALSE NEIGHBOUR: 'it returns false'. Refute it at one input. -/
def fnKeepsWrong : ChangeSpec := { name := "fnKeeps", fn := fun _ => fun
  | [d] => { results := [.lit (.bool false)], args := [d] }
  | _ => none }
def FnKeepsWrongFalsely : Prop := fnKeepsRow.holds Try.pinned (OpenSpec.ofChange fnKeepsWrong)

/- THE SECOND FORM. 'bulk': how many values and letters a reading holds, each counted each time it is reached (what is shared counts as often as it is met; a slice's spare places count too). A statement '..UptoSaid' is the law's where the arguments, and the package variables that the reading takes, are together of bulk at most 1048576: NARROWER than '..Said'. Prove '..Said' where nothing that the law and all that it calls make is longer than what came in: it says more and counts as full. Else prove '..UptoSaid'. A law counts once. -/
mutual
def uptoBulk {H : Type} : DataW H → Nat
  | .lit (.string bytes) => bytes.length + 1
  | .lit _ => 1
  | .nil => 1
  | .ptr d => uptoBulk d + 1
  | .slice elems spare => uptoBulkAll elems + uptoBulkAll spare + 1
  | .agg parts => uptoBulkAll parts + 1
  | .iface _ d => uptoBulk d + 1
  | .map entries => uptoBulkEntries entries + 1
  | .held _ => 1
def uptoBulkAll {H : Type} : List (DataW H) → Nat
  | [] => 0
  | d :: r => uptoBulk d + uptoBulkAll r
def uptoBulkEntries {H : Type} : List (Lit × DataW H) → Nat
  | [] => 0
  | x :: r => uptoBulkEntry x + uptoBulkEntries r
def uptoBulkEntry {H : Type} : Lit × DataW H → Nat
  | (.string bytes, d) => bytes.length + uptoBulk d + 1
  | (_, d) => uptoBulk d + 1
 end
def uptoSmall : (H : Type) → List (DataW H) → Bool := fun _ ds => decide (uptoBulkAll ds ≤ 1048576)
def OpenSpec.upto (s : _root_.Go.ChangeSpec) : _root_.Go.OpenSpec := { _root_.Go.OpenSpec.ofChange s with cond := some uptoSmall }

/-- 'laws.FnExactFrame', WHERE WHAT IT READS IS OF BULK AT MOST 1048576: true; the input reads as it did. -/
def fnExactFrameUptoRow : OpenClaim := { program := "ytmjblanhgekhpaa", sum := "24b1615f71b1c7878722f853097f98af0bf661bb055067f91c6457e567149a6f", func := "loop.example/g00130/laws.FnExactFrame", spec := "fnExactFrame", apart := false, narrowed := true }
def FnExactFrameUptoSaid : Prop := fnExactFrameUptoRow.holds Try.pinned (OpenSpec.upto fnExactFrameSpec)

/-- 'laws.FnExactHasEdge', WHERE WHAT IT READS IS OF BULK AT MOST 1048576: true; the input reads as it did. -/
def fnExactHasEdgeUptoRow : OpenClaim := { program := "ytmjblanhgekhpaa", sum := "24b1615f71b1c7878722f853097f98af0bf661bb055067f91c6457e567149a6f", func := "loop.example/g00130/laws.FnExactHasEdge", spec := "fnExactHasEdge", apart := false, narrowed := true }
def FnExactHasEdgeUptoSaid : Prop := fnExactHasEdgeUptoRow.holds Try.pinned (OpenSpec.upto fnExactHasEdgeSpec)

/-- 'laws.FnExactTourOk', WHERE WHAT IT READS IS OF BULK AT MOST 1048576: true; the input reads as it did. -/
def fnExactTourOkUptoRow : OpenClaim := { program := "ytmjblanhgekhpaa", sum := "24b1615f71b1c7878722f853097f98af0bf661bb055067f91c6457e567149a6f", func := "loop.example/g00130/laws.FnExactTourOk", spec := "fnExactTourOk", apart := false, narrowed := true }
def FnExactTourOkUptoSaid : Prop := fnExactTourOkUptoRow.holds Try.pinned (OpenSpec.upto fnExactTourOkSpec)

/-- 'laws.FnTurned', WHERE WHAT IT READS IS OF BULK AT MOST 1048576: true; the input reads as it did. -/
def fnTurnedUptoRow : OpenClaim := { program := "ytmjblanhgekhpaa", sum := "24b1615f71b1c7878722f853097f98af0bf661bb055067f91c6457e567149a6f", func := "loop.example/g00130/laws.FnTurned", spec := "fnTurned", apart := false, narrowed := true }
def FnTurnedUptoSaid : Prop := fnTurnedUptoRow.holds Try.pinned (OpenSpec.upto fnTurnedSpec)

/-- 'laws.FnExactGraphOk', WHERE WHAT IT READS IS OF BULK AT MOST 1048576: true; the input reads as it did. -/
def fnExactGraphOkUptoRow : OpenClaim := { program := "ytmjblanhgekhpaa", sum := "24b1615f71b1c7878722f853097f98af0bf661bb055067f91c6457e567149a6f", func := "loop.example/g00130/laws.FnExactGraphOk", spec := "fnExactGraphOk", apart := false, narrowed := true }
def FnExactGraphOkUptoSaid : Prop := fnExactGraphOkUptoRow.holds Try.pinned (OpenSpec.upto fnExactGraphOkSpec)

/-- 'laws.FnExactWebNew', WHERE WHAT IT READS IS OF BULK AT MOST 1048576: true; the input reads as it did. -/
def fnExactWebNewUptoRow : OpenClaim := { program := "ytmjblanhgekhpaa", sum := "24b1615f71b1c7878722f853097f98af0bf661bb055067f91c6457e567149a6f", func := "loop.example/g00130/laws.FnExactWebNew", spec := "fnExactWebNew", apart := false, narrowed := true }
def FnExactWebNewUptoSaid : Prop := fnExactWebNewUptoRow.holds Try.pinned (OpenSpec.upto fnExactWebNewSpec)

/-- 'laws.FnExactForestNew', WHERE WHAT IT READS IS OF BULK AT MOST 1048576: true; the input reads as it did. -/
def fnExactForestNewUptoRow : OpenClaim := { program := "ytmjblanhgekhpaa", sum := "24b1615f71b1c7878722f853097f98af0bf661bb055067f91c6457e567149a6f", func := "loop.example/g00130/laws.FnExactForestNew", spec := "fnExactForestNew", apart := false, narrowed := true }
def FnExactForestNewUptoSaid : Prop := fnExactForestNewUptoRow.holds Try.pinned (OpenSpec.upto fnExactForestNewSpec)

/-- 'laws.FnExactDiskOk', WHERE WHAT IT READS IS OF BULK AT MOST 1048576: true; the input reads as it did. -/
def fnExactDiskOkUptoRow : OpenClaim := { program := "ytmjblanhgekhpaa", sum := "24b1615f71b1c7878722f853097f98af0bf661bb055067f91c6457e567149a6f", func := "loop.example/g00130/laws.FnExactDiskOk", spec := "fnExactDiskOk", apart := false, narrowed := true }
def FnExactDiskOkUptoSaid : Prop := fnExactDiskOkUptoRow.holds Try.pinned (OpenSpec.upto fnExactDiskOkSpec)

/-- 'laws.FnExactFileAt', WHERE WHAT IT READS IS OF BULK AT MOST 1048576: true; the input reads as it did. -/
def fnExactFileAtUptoRow : OpenClaim := { program := "ytmjblanhgekhpaa", sum := "24b1615f71b1c7878722f853097f98af0bf661bb055067f91c6457e567149a6f", func := "loop.example/g00130/laws.FnExactFileAt", spec := "fnExactFileAt", apart := false, narrowed := true }
def FnExactFileAtUptoSaid : Prop := fnExactFileAtUptoRow.holds Try.pinned (OpenSpec.upto fnExactFileAtSpec)

/-- 'laws.FnExactAllKept', WHERE WHAT IT READS IS OF BULK AT MOST 1048576: true; the input reads as it did. -/
def fnExactAllKeptUptoRow : OpenClaim := { program := "ytmjblanhgekhpaa", sum := "24b1615f71b1c7878722f853097f98af0bf661bb055067f91c6457e567149a6f", func := "loop.example/g00130/laws.FnExactAllKept", spec := "fnExactAllKept", apart := false, narrowed := true }
def FnExactAllKeptUptoSaid : Prop := fnExactAllKeptUptoRow.holds Try.pinned (OpenSpec.upto fnExactAllKeptSpec)

/-- 'laws.FnExactOrderOk', WHERE WHAT IT READS IS OF BULK AT MOST 1048576: true; the input reads as it did. -/
def fnExactOrderOkUptoRow : OpenClaim := { program := "ytmjblanhgekhpaa", sum := "24b1615f71b1c7878722f853097f98af0bf661bb055067f91c6457e567149a6f", func := "loop.example/g00130/laws.FnExactOrderOk", spec := "fnExactOrderOk", apart := false, narrowed := true }
def FnExactOrderOkUptoSaid : Prop := fnExactOrderOkUptoRow.holds Try.pinned (OpenSpec.upto fnExactOrderOkSpec)

/-- 'laws.FnKeeps', WHERE WHAT IT READS IS OF BULK AT MOST 1048576: true; the input reads as it did. -/
def fnKeepsUptoRow : OpenClaim := { program := "ytmjblanhgekhpaa", sum := "24b1615f71b1c7878722f853097f98af0bf661bb055067f91c6457e567149a6f", func := "loop.example/g00130/laws.FnKeeps", spec := "fnKeeps", apart := false, narrowed := true }
def FnKeepsUptoSaid : Prop := fnKeepsUptoRow.holds Try.pinned (OpenSpec.upto fnKeepsSpec)

end Rows
end Go.Proofs.Ytmjblanhgekhpaa
