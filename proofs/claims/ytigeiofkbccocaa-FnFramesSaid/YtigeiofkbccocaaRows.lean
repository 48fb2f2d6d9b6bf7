/-
  No cell of these rows narrows 'for every input' (looked for: loops, veiled, ifaces, maps, wideKeys, modest, calm, conditions, laid).
  DERIVED. THE GIVEN ROWS OF THIS SEAT. 12 by the template 'for every input the law returns true; each argument reads behind the call as it read before'; 0 by the template 'total and deterministic' (their statements: YtigeiofkbccocaaTotals.lean).
  GIVEN WITH THE SEED: the statements are not yours to turn. If you find one false, say at which input.
  Laid BY PROGRAM, IN A SANDBOX (cutbox-rows.mjs): the forced cells as the released guide's own fill.sh prints them over the translation 7f8da882b3faf43a… (all of the seat's roots in one cut). By AI agents, Wed Nov 11 2026. No macro, syntax, notation, axiom, sorry.
-/
import Derived.Test.YtigeiofkbccocaaChecked
import GoSem.Claim
import GoSem.ClaimJoined
import GoSem.ClaimMapViews
import Derived.JoinedTies
import Derived.KernelRfl
namespace Go.Proofs.Ytigeiofkbccocaa
/- THE CELL 'sum', in the pinned program and in every row, IS THE sha256 OF THE DUMP (.gsa) THAT YtigeiofkbccocaaProg.lean LOADS. Nothing in Lean hashes anything: it is a label: what it is worth is what the hold of that sum in a sandbox is worth. -/
noncomputable def Try.pinned : Pinned := { name := "ytigeiofkbccocaa", sum := "7f8da882b3faf43a7bf2edcfaf753c8578605b9128c419dd2d45a8007ceb9e56", checked := Try.checked }
namespace Rows
def none {H : Type} : Left H := { results := [], args := [] }

/-- 'laws.FnExactReroot': WHATEVER THE INPUT: true; the input reads as it did. -/
def fnExactRerootSpec : ChangeSpec := { name := "fnExactReroot", fn := fun _ => fun
  | [d1, d2] => { results := [.lit (.bool true)], args := [d1, d2] }
  | _ => none }
def fnExactRerootRow : OpenClaim := { program := "ytigeiofkbccocaa", sum := "7f8da882b3faf43a7bf2edcfaf753c8578605b9128c419dd2d45a8007ceb9e56", func := "loop.example/g00130/laws.FnExactReroot", spec := "fnExactReroot", apart := false }
def FnExactRerootSaid : Prop := fnExactRerootRow.holds Try.pinned (OpenSpec.ofChange fnExactRerootSpec)

/-- ITS FALSE NEIGHBOUR: 'it returns false'. Refute it at one input. -/
def fnExactRerootWrong : ChangeSpec := { name := "fnExactReroot", fn := fun _ => fun
  | [d1, d2] => { results := [.lit (.bool false)], args := [d1, d2] }
  | _ => none }
def FnExactRerootWrongFalsely : Prop := fnExactRerootRow.holds Try.pinned (OpenSpec.ofChange fnExactRerootWrong)

/-- 'laws.FnExactSplitTour': WHATEVER THE INPUT: true; the input reads as it did. -/
def fnExactSplitTourSpec : ChangeSpec := { name := "fnExactSplitTour", fn := fun _ => fun
  | [d1, d2, d3] => { results := [.lit (.bool true)], args := [d1, d2, d3] }
  | _ => none }
def fnExactSplitTourRow : OpenClaim := { program := "ytigeiofkbccocaa", sum := "7f8da882b3faf43a7bf2edcfaf753c8578605b9128c419dd2d45a8007ceb9e56", func := "loop.example/g00130/laws.FnExactSplitTour", spec := "fnExactSplitTour", apart := false }
def FnExactSplitTourSaid : Prop := fnExactSplitTourRow.holds Try.pinned (OpenSpec.ofChange fnExactSplitTourSpec)

/-- ITS FALSE NEIGHBOUR: 'it returns false'. Refute it at one input. -/
def fnExactSplitTourWrong : ChangeSpec := { name := "fnExactSplitTour", fn := fun _ => fun
  | [d1, d2, d3] => { results := [.lit (.bool false)], args := [d1, d2, d3] }
  | _ => none }
def FnExactSplitTourWrongFalsely : Prop := fnExactSplitTourRow.holds Try.pinned (OpenSpec.ofChange fnExactSplitTourWrong)

/-- 'laws.FnExactAnswerOk': WHATEVER THE INPUT: true; the input reads as it did. -/
def fnExactAnswerOkSpec : ChangeSpec := { name := "fnExactAnswerOk", fn := fun _ => fun
  | [d1, d2] => { results := [.lit (.bool true)], args := [d1, d2] }
  | _ => none }
def fnExactAnswerOkRow : OpenClaim := { program := "ytigeiofkbccocaa", sum := "7f8da882b3faf43a7bf2edcfaf753c8578605b9128c419dd2d45a8007ceb9e56", func := "loop.example/g00130/laws.FnExactAnswerOk", spec := "fnExactAnswerOk", apart := false }
def FnExactAnswerOkSaid : Prop := fnExactAnswerOkRow.holds Try.pinned (OpenSpec.ofChange fnExactAnswerOkSpec)

/-- ITS FALSE NEIGHBOUR: 'it returns false'. Refute it at one input. -/
def fnExactAnswerOkWrong : ChangeSpec := { name := "fnExactAnswerOk", fn := fun _ => fun
  | [d1, d2] => { results := [.lit (.bool false)], args := [d1, d2] }
  | _ => none }
def FnExactAnswerOkWrongFalsely : Prop := fnExactAnswerOkRow.holds Try.pinned (OpenSpec.ofChange fnExactAnswerOkWrong)

/-- 'laws.FnFrames': WHATEVER THE INPUT: true; the input reads as it did. -/
def fnFramesSpec : ChangeSpec := { name := "fnFrames", fn := fun _ => fun
  | [d] => { results := [.lit (.bool true)], args := [d] }
  | _ => none }
def fnFramesRow : OpenClaim := { program := "ytigeiofkbccocaa", sum := "7f8da882b3faf43a7bf2edcfaf753c8578605b9128c419dd2d45a8007ceb9e56", func := "loop.example/g00130/laws.FnFrames", spec := "fnFrames", apart := false }
def FnFramesSaid : Prop := fnFramesRow.holds Try.pinned (OpenSpec.ofChange fnFramesSpec)

/-- ITS FALSE NEIGHBOUR: 'it returns false'. Refute it at one input. -/
def fnFramesWrong : ChangeSpec := { name := "fnFrames", fn := fun _ => fun
  | [d] => { results := [.lit (.bool false)], args := [d] }
  | _ => none }
def FnFramesWrongFalsely : Prop := fnFramesRow.holds Try.pinned (OpenSpec.ofChange fnFramesWrong)

/-- 'laws.FnExactTogether': WHATEVER THE INPUT: true; the input reads as it did. -/
def fnExactTogetherSpec : ChangeSpec := { name := "fnExactTogether", fn := fun _ => fun
  | [d1, d2, d3] => { results := [.lit (.bool true)], args := [d1, d2, d3] }
  | _ => none }
def fnExactTogetherRow : OpenClaim := { program := "ytigeiofkbccocaa", sum := "7f8da882b3faf43a7bf2edcfaf753c8578605b9128c419dd2d45a8007ceb9e56", func := "loop.example/g00130/laws.FnExactTogether", spec := "fnExactTogether", apart := false }
def FnExactTogetherSaid : Prop := fnExactTogetherRow.holds Try.pinned (OpenSpec.ofChange fnExactTogetherSpec)

/-- ITS FALSE NEIGHBOUR: 'it returns false'. Refute it at one input. -/
def fnExactTogetherWrong : ChangeSpec := { name := "fnExactTogether", fn := fun _ => fun
  | [d1, d2, d3] => { results := [.lit (.bool false)], args := [d1, d2, d3] }
  | _ => none }
def FnExactTogetherWrongFalsely : Prop := fnExactTogetherRow.holds Try.pinned (OpenSpec.ofChange fnExactTogetherWrong)

/-- 'laws.FnExactGraphOf': WHATEVER THE INPUT: true; the input reads as it did. -/
def fnExactGraphOfSpec : ChangeSpec := { name := "fnExactGraphOf", fn := fun _ => fun
  | [d] => { results := [.lit (.bool true)], args := [d] }
  | _ => none }
def fnExactGraphOfRow : OpenClaim := { program := "ytigeiofkbccocaa", sum := "7f8da882b3faf43a7bf2edcfaf753c8578605b9128c419dd2d45a8007ceb9e56", func := "loop.example/g00130/laws.FnExactGraphOf", spec := "fnExactGraphOf", apart := false }
def FnExactGraphOfSaid : Prop := fnExactGraphOfRow.holds Try.pinned (OpenSpec.ofChange fnExactGraphOfSpec)

/-- ITS FALSE NEIGHBOUR: 'it returns false'. Refute it at one input. -/
def fnExactGraphOfWrong : ChangeSpec := { name := "fnExactGraphOf", fn := fun _ => fun
  | [d] => { results := [.lit (.bool false)], args := [d] }
  | _ => none }
def FnExactGraphOfWrongFalsely : Prop := fnExactGraphOfRow.holds Try.pinned (OpenSpec.ofChange fnExactGraphOfWrong)

/-- 'laws.FnExactTakeEdge': WHATEVER THE INPUT: true; the input reads as it did. -/
def fnExactTakeEdgeSpec : ChangeSpec := { name := "fnExactTakeEdge", fn := fun _ => fun
  | [d1, d2] => { results := [.lit (.bool true)], args := [d1, d2] }
  | _ => none }
def fnExactTakeEdgeRow : OpenClaim := { program := "ytigeiofkbccocaa", sum := "7f8da882b3faf43a7bf2edcfaf753c8578605b9128c419dd2d45a8007ceb9e56", func := "loop.example/g00130/laws.FnExactTakeEdge", spec := "fnExactTakeEdge", apart := false }
def FnExactTakeEdgeSaid : Prop := fnExactTakeEdgeRow.holds Try.pinned (OpenSpec.ofChange fnExactTakeEdgeSpec)

/-- ITS FALSE NEIGHBOUR: 'it returns false'. Refute it at one input. -/
def fnExactTakeEdgeWrong : ChangeSpec := { name := "fnExactTakeEdge", fn := fun _ => fun
  | [d1, d2] => { results := [.lit (.bool false)], args := [d1, d2] }
  | _ => none }
def FnExactTakeEdgeWrongFalsely : Prop := fnExactTakeEdgeRow.holds Try.pinned (OpenSpec.ofChange fnExactTakeEdgeWrong)

/-- 'laws.FnExactJoinTours': WHATEVER THE INPUT: true; the input reads as it did. -/
def fnExactJoinToursSpec : ChangeSpec := { name := "fnExactJoinTours", fn := fun _ => fun
  | [d1, d2, d3, d4] => { results := [.lit (.bool true)], args := [d1, d2, d3, d4] }
  | _ => none }
def fnExactJoinToursRow : OpenClaim := { program := "ytigeiofkbccocaa", sum := "7f8da882b3faf43a7bf2edcfaf753c8578605b9128c419dd2d45a8007ceb9e56", func := "loop.example/g00130/laws.FnExactJoinTours", spec := "fnExactJoinTours", apart := false }
def FnExactJoinToursSaid : Prop := fnExactJoinToursRow.holds Try.pinned (OpenSpec.ofChange fnExactJoinToursSpec)

/-- ITS FALSE NEIGHBOUR: 'it returns false'. Refute it at one input. -/
def fnExactJoinToursWrong : ChangeSpec := { name := "fnExactJoinTours", fn := fun _ => fun
  | [d1, d2, d3, d4] => { results := [.lit (.bool false)], args := [d1, d2, d3, d4] }
  | _ => none }
def FnExactJoinToursWrongFalsely : Prop := fnExactJoinToursRow.holds Try.pinned (OpenSpec.ofChange fnExactJoinToursWrong)

/-- 'laws.FnExactAddEdge': WHATEVER THE INPUT: true; the input reads as it did. -/
def fnExactAddEdgeSpec : ChangeSpec := { name := "fnExactAddEdge", fn := fun _ => fun
  | [d1, d2] => { results := [.lit (.bool true)], args := [d1, d2] }
  | _ => none }
def fnExactAddEdgeRow : OpenClaim := { program := "ytigeiofkbccocaa", sum := "7f8da882b3faf43a7bf2edcfaf753c8578605b9128c419dd2d45a8007ceb9e56", func := "loop.example/g00130/laws.FnExactAddEdge", spec := "fnExactAddEdge", apart := false }
def FnExactAddEdgeSaid : Prop := fnExactAddEdgeRow.holds Try.pinned (OpenSpec.ofChange fnExactAddEdgeSpec)

/-- ITS FALSE NEIGHBOUR: 'it returns false'. Refute it at one input. -/
def fnExactAddEdgeWrong : ChangeSpec := { name := "fnExactAddEdge", fn := fun _ => fun
  | [d1, d2] => { results := [.lit (.bool false)], args := [d1, d2] }
  | _ => none }
def FnExactAddEdgeWrongFalsely : Prop := fnExactAddEdgeRow.holds Try.pinned (OpenSpec.ofChange fnExactAddEdgeWrong)

/-- 'laws.FnExactAround': WHATEVER THE INPUT: true; the input reads as it did. -/
def fnExactAroundSpec : ChangeSpec := { name := "fnExactAround", fn := fun _ => fun
  | [d1, d2] => { results := [.lit (.bool true)], args := [d1, d2] }
  | _ => none }
def fnExactAroundRow : OpenClaim := { program := "ytigeiofkbccocaa", sum := "7f8da882b3faf43a7bf2edcfaf753c8578605b9128c419dd2d45a8007ceb9e56", func := "loop.example/g00130/laws.FnExactAround", spec := "fnExactAround", apart := false }
def FnExactAroundSaid : Prop := fnExactAroundRow.holds Try.pinned (OpenSpec.ofChange fnExactAroundSpec)

/-- ITS FALSE NEIGHBOUR: 'it returns false'. Refute it at one input. -/
def fnExactAroundWrong : ChangeSpec := { name := "fnExactAround", fn := fun _ => fun
  | [d1, d2] => { results := [.lit (.bool false)], args := [d1, d2] }
  | _ => none }
def FnExactAroundWrongFalsely : Prop := fnExactAroundRow.holds Try.pinned (OpenSpec.ofChange fnExactAroundWrong)

/-- 'laws.FnForestNew': WHATEVER THE INPUT: true; the input reads as it did. -/
def fnForestNewSpec : ChangeSpec := { name := "fnForestNew", fn := fun _ => fun
  | [d] => { results := [.lit (.bool true)], args := [d] }
  | _ => none }
def fnForestNewRow : OpenClaim := { program := "ytigeiofkbccocaa", sum := "7f8da882b3faf43a7bf2edcfaf753c8578605b9128c419dd2d45a8007ceb9e56", func := "loop.example/g00130/laws.FnForestNew", spec := "fnForestNew", apart := false }
def FnForestNewSaid : Prop := fnForestNewRow.holds Try.pinned (OpenSpec.ofChange fnForestNewSpec)

/-- ITS FALSE NEIGHBOUR: 'it returns false'. Refute it at one input. -/
def fnForestNewWrong : ChangeSpec := { name := "fnForestNew", fn := fun _ => fun
  | [d] => { results := [.lit (.bool false)], args := [d] }
  | _ => none }
def FnForestNewWrongFalsely : Prop := fnForestNewRow.holds Try.pinned (OpenSpec.ofChange fnForestNewWrong)

/-- 'laws.FnExactLabels': WHATEVER THE INPUT: true; the input reads as it did. -/
def fnExactLabelsSpec : ChangeSpec := { name := "fnExactLabels", fn := fun _ => fun
  | [d] => { results := [.lit (.bool true)], args := [d] }
  | _ => none }
def fnExactLabelsRow : OpenClaim := { program := "ytigeiofkbccocaa", sum := "7f8da882b3faf43a7bf2edcfaf753c8578605b9128c419dd2d45a8007ceb9e56", func := "loop.example/g00130/laws.FnExactLabels", spec := "fnExactLabels", apart := false }
def FnExactLabelsSaid : Prop := fnExactLabelsRow.holds Try.pinned (OpenSpec.ofChange fnExactLabelsSpec)

/-- ITS FALSE NEIGHBOUR: 'it returns false'. Refute it at one input. -/
def fnExactLabelsWrong : ChangeSpec := { name := "fnExactLabels", fn := fun _ => fun
  | [d] => { results := [.lit (.bool false)], args := [d] }
  | _ => none }
def FnExactLabelsWrongFalsely : Prop := fnExactLabelsRow.holds Try.pinned (OpenSpec.ofChange fnExactLabelsWrong)

/- THE SECOND FORM. 'bulk': how many values and letters a reading holds, each counted each time it is reached (what is shared counts as often as it is met; a slice's spare places count too). A statement '..UptoSaid' is the law's where the arguments, and the package variables that the reading takes, are together of bulk at most 1048576: NARROWER than '..Said'. Prove '..Said' where nothing that the law and all that it calls make is longer than what came in: it says more and counts as full. Else prove '..UptoSaid'. A law counts once. -/
mutual
def uptoBulk {H : Type} : DataW H → Nat
  | .lit (.string bytes) => bytes.length + 1
  | .lit _ => 1
  | .nil => 1
  | .ptr d => uptoBulk d + 1
  | .slice elems spare => uptoBulkAll elems + uptoBulkAll spare + 1
  | .agg parts => uptoBulkAll parts + 1
  | .iface _ d => uptoBulk d + 1
  | .map entries => uptoBulkEntries entries + 1
  | .held _ => 1
def uptoBulkAll {H : Type} : List (DataW H) → Nat
  | [] => 0
  | d :: r => uptoBulk d + uptoBulkAll r
def uptoBulkEntries {H : Type} : List (Lit × DataW H) → Nat
  | [] => 0
  | x :: r => uptoBulkEntry x + uptoBulkEntries r
def uptoBulkEntry {H : Type} : Lit × DataW H → Nat
  | (.string bytes, d) => bytes.length + uptoBulk d + 1
  | (_, d) => uptoBulk d + 1
 end
def uptoSmall : (H : Type) → List (DataW H) → Bool := fun _ ds => decide (uptoBulkAll ds ≤ 1048576)
def OpenSpec.upto (s : _root_.Go.ChangeSpec) : _root_.Go.OpenSpec := { _root_.Go.OpenSpec.ofChange s with cond := some uptoSmall }

/-- 'laws.FnExactReroot', WHERE WHAT IT READS IS OF BULK AT MOST 1048576: true; the input reads as it did. -/
def fnExactRerootUptoRow : OpenClaim := { program := "ytigeiofkbccocaa", sum := "7f8da882b3faf43a7bf2edcfaf753c8578605b9128c419dd2d45a8007ceb9e56", func := "loop.example/g00130/laws.FnExactReroot", spec := "fnExactReroot", apart := false, narrowed := true }
def FnExactRerootUptoSaid : Prop := fnExactRerootUptoRow.holds Try.pinned (OpenSpec.upto fnExactRerootSpec)

/-- 'laws.FnExactSplitTour', WHERE WHAT IT READS IS OF BULK AT MOST 1048576: true; the input reads as it did. -/
def fnExactSplitTourUptoRow : OpenClaim := { program := "ytigeiofkbccocaa", sum := "7f8da882b3faf43a7bf2edcfaf753c8578605b9128c419dd2d45a8007ceb9e56", func := "loop.example/g00130/laws.FnExactSplitTour", spec := "fnExactSplitTour", apart := false, narrowed := true }
def FnExactSplitTourUptoSaid : Prop := fnExactSplitTourUptoRow.holds Try.pinned (OpenSpec.upto fnExactSplitTourSpec)

/-- 'laws.FnExactAnswerOk', WHERE WHAT IT READS IS OF BULK AT MOST 1048576: true; the input reads as it did. -/
def fnExactAnswerOkUptoRow : OpenClaim := { program := "ytigeiofkbccocaa", sum := "7f8da882b3faf43a7bf2edcfaf753c8578605b9128c419dd2d45a8007ceb9e56", func := "loop.example/g00130/laws.FnExactAnswerOk", spec := "fnExactAnswerOk", apart := false, narrowed := true }
def FnExactAnswerOkUptoSaid : Prop := fnExactAnswerOkUptoRow.holds Try.pinned (OpenSpec.upto fnExactAnswerOkSpec)

/-- 'laws.FnFrames', WHERE WHAT IT READS IS OF BULK AT MOST 1048576: true; the input reads as it did. -/
def fnFramesUptoRow : OpenClaim := { program := "ytigeiofkbccocaa", sum := "7f8da882b3faf43a7bf2edcfaf753c8578605b9128c419dd2d45a8007ceb9e56", func := "loop.example/g00130/laws.FnFrames", spec := "fnFrames", apart := false, narrowed := true }
def FnFramesUptoSaid : Prop := fnFramesUptoRow.holds Try.pinned (OpenSpec.upto fnFramesSpec)

/-- 'laws.FnExactTogether', WHERE WHAT IT READS IS OF BULK AT MOST 1048576: true; the input reads as it did. -/
def fnExactTogetherUptoRow : OpenClaim := { program := "ytigeiofkbccocaa", sum := "7f8da882b3faf43a7bf2edcfaf753c8578605b9128c419dd2d45a8007ceb9e56", func := "loop.example/g00130/laws.FnExactTogether", spec := "fnExactTogether", apart := false, narrowed := true }
def FnExactTogetherUptoSaid : Prop := fnExactTogetherUptoRow.holds Try.pinned (OpenSpec.upto fnExactTogetherSpec)

/-- 'laws.FnExactGraphOf', WHERE WHAT IT READS IS OF BULK AT MOST 1048576: true; the input reads as it did. -/
def fnExactGraphOfUptoRow : OpenClaim := { program := "ytigeiofkbccocaa", sum := "7f8da882b3faf43a7bf2edcfaf753c8578605b9128c419dd2d45a8007ceb9e56", func := "loop.example/g00130/laws.FnExactGraphOf", spec := "fnExactGraphOf", apart := false, narrowed := true }
def FnExactGraphOfUptoSaid : Prop := fnExactGraphOfUptoRow.holds Try.pinned (OpenSpec.upto fnExactGraphOfSpec)

/-- 'laws.FnExactTakeEdge', WHERE WHAT IT READS IS OF BULK AT MOST 1048576: true; the input reads as it did. -/
def fnExactTakeEdgeUptoRow : OpenClaim := { program := "ytigeiofkbccocaa", sum := "7f8da882b3faf43a7bf2edcfaf753c8578605b9128c419dd2d45a8007ceb9e56", func := "loop.example/g00130/laws.FnExactTakeEdge", spec := "fnExactTakeEdge", apart := false, narrowed := true }
def FnExactTakeEdgeUptoSaid : Prop := fnExactTakeEdgeUptoRow.holds Try.pinned (OpenSpec.upto fnExactTakeEdgeSpec)

/-- 'laws.FnExactJoinTours', WHERE WHAT IT READS IS OF BULK AT MOST 1048576: true; the input reads as it did. -/
def fnExactJoinToursUptoRow : OpenClaim := { program := "ytigeiofkbccocaa", sum := "7f8da882b3faf43a7bf2edcfaf753c8578605b9128c419dd2d45a8007ceb9e56", func := "loop.example/g00130/laws.FnExactJoinTours", spec := "fnExactJoinTours", apart := false, narrowed := true }
def FnExactJoinToursUptoSaid : Prop := fnExactJoinToursUptoRow.holds Try.pinned (OpenSpec.upto fnExactJoinToursSpec)

/-- 'laws.FnExactAddEdge', WHERE WHAT IT READS IS OF BULK AT MOST 1048576: true; the input reads as it did. -/
def fnExactAddEdgeUptoRow : OpenClaim := { program := "ytigeiofkbccocaa", sum := "7f8da882b3faf43a7bf2edcfaf753c8578605b9128c419dd2d45a8007ceb9e56", func := "loop.example/g00130/laws.FnExactAddEdge", spec := "fnExactAddEdge", apart := false, narrowed := true }
def FnExactAddEdgeUptoSaid : Prop := fnExactAddEdgeUptoRow.holds Try.pinned (OpenSpec.upto fnExactAddEdgeSpec)

/-- 'laws.FnExactAround', WHERE WHAT IT READS IS OF BULK AT MOST 1048576: true; the input reads as it did. -/
def fnExactAroundUptoRow : OpenClaim := { program := "ytigeiofkbccocaa", sum := "7f8da882b3faf43a7bf2edcfaf753c8578605b9128c419dd2d45a8007ceb9e56", func := "loop.example/g00130/laws.FnExactAround", spec := "fnExactAround", apart := false, narrowed := true }
def FnExactAroundUptoSaid : Prop := fnExactAroundUptoRow.holds Try.pinned (OpenSpec.upto fnExactAroundSpec)

/-- 'laws.FnForestNew', WHERE WHAT IT READS IS OF BULK AT MOST 1048576: true; the input reads as it did. -/
def fnForestNewUptoRow : OpenClaim := { program := "ytigeiofkbccocaa", sum := "7f8da882b3faf43a7bf2edcfaf753c8578605b9128c419dd2d45a8007ceb9e56", func := "loop.example/g00130/laws.FnForestNew", spec := "fnForestNew", apart := false, narrowed := true }
def FnForestNewUptoSaid : Prop := fnForestNewUptoRow.holds Try.pinned (OpenSpec.upto fnForestNewSpec)

/-- 'laws.FnExactLabels', WHERE WHAT IT READS IS OF BULK AT MOST 1048576: true; the input reads as it did. -/
def fnExactLabelsUptoRow : OpenClaim := { program := "ytigeiofkbccocaa", sum := "7f8da882b3faf43a7bf2edcfaf753c8578605b9128c419dd2d45a8007ceb9e56", func := "loop.example/g00130/laws.FnExactLabels", spec := "fnExactLabels", apart := false, narrowed := true }
def FnExactLabelsUptoSaid : Prop := fnExactLabelsUptoRow.holds Try.pinned (OpenSpec.upto fnExactLabelsSpec)

end Rows
end Go.Proofs.Ytigeiofkbccocaa
