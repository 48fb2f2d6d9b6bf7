/-
  No cell of these rows narrows 'for every input' (looked for: loops, veiled, ifaces, maps, wideKeys, modest, calm, conditions, laid).
  DERIVED. THE GIVEN ROWS OF THIS SEAT. 10 by the template 'for every input the law returns true; each argument reads behind the call as it read before'; 0 by the template 'total and deterministic' (their statements: YtbkklafkoegdpaaTotals.lean).
  GIVEN WITH THE SEED: the statements are not yours to turn. If you find one false, say at which input.
  Laid BY PROGRAM, IN A SANDBOX (cutbox-rows.mjs): the forced cells as the released guide's own fill.sh prints them over the translation 68abc0b8ea328ab7… (all of the seat's roots in one cut). By AI agents, Wed Nov 11 2026. No macro, syntax, notation, axiom, sorry.
-/
import Derived.Test.YtbkklafkoegdpaaChecked
import GoSem.Claim
import GoSem.ClaimJoined
import GoSem.ClaimMapViews
import Derived.JoinedTies
import Derived.KernelRfl
namespace Go.Proofs.Ytbkklafkoegdpaa
/- THE CELL 'sum', in the pinned program and in every row, IS THE sha256 OF THE DUMP (.gsa) THAT YtbkklafkoegdpaaProg.lean LOADS. Nothing in Lean hashes anything: it is a label: what it is worth is what the hold of that sum in a sandbox is worth. -/
noncomputable def Try.pinned : Pinned := { name := "ytbkklafkoegdpaa", sum := "68abc0b8ea328ab7fa7aa31298939a8321c52205a24f9ab6f1a6ac4f32ecdcfe", checked := Try.checked }
namespace Rows
def none {H : Type} : Left H := { results := [], args := [] }

/-- 'laws.FnExactWebOk': WHATEVER THE INPUT: true; the input reads as it did. -/
def fnExactWebOkSpec : ChangeSpec := { name := "fnExactWebOk", fn := fun _ => fun
  | [d] => { results := [.lit (.bool true)], args := [d] }
  | _ => none }
def fnExactWebOkRow : OpenClaim := { program := "ytbkklafkoegdpaa", sum := "68abc0b8ea328ab7fa7aa31298939a8321c52205a24f9ab6f1a6ac4f32ecdcfe", func := "loop.example/g00130/laws.FnExactWebOk", spec := "fnExactWebOk", recurses := true, apart := false }
def FnExactWebOkSaid : Prop := fnExactWebOkRow.holds Try.pinned (OpenSpec.ofChange fnExactWebOkSpec)

/-- ITS FALSE NEIGHBOUR: 'it returns false'. Refute it at one input. -/
def fnExactWebOkWrong : ChangeSpec := { name := "fnExactWebOk", fn := fun _ => fun
  | [d] => { results := [.lit (.bool false)], args := [d] }
  | _ => none }
def FnExactWebOkWrongFalsely : Prop := fnExactWebOkRow.holds Try.pinned (OpenSpec.ofChange fnExactWebOkWrong)

/-- 'laws.FnExactCut': WHATEVER THE INPUT: true; the input reads as it did. -/
def fnExactCutSpec : ChangeSpec := { name := "fnExactCut", fn := fun _ => fun
  | [d1, d2] => { results := [.lit (.bool true)], args := [d1, d2] }
  | _ => none }
def fnExactCutRow : OpenClaim := { program := "ytbkklafkoegdpaa", sum := "68abc0b8ea328ab7fa7aa31298939a8321c52205a24f9ab6f1a6ac4f32ecdcfe", func := "loop.example/g00130/laws.FnExactCut", spec := "fnExactCut", apart := false }
def FnExactCutSaid : Prop := fnExactCutRow.holds Try.pinned (OpenSpec.ofChange fnExactCutSpec)

/-- ITS FALSE NEIGHBOUR: 'it returns false'. Refute it at one input. -/
def fnExactCutWrong : ChangeSpec := { name := "fnExactCut", fn := fun _ => fun
  | [d1, d2] => { results := [.lit (.bool false)], args := [d1, d2] }
  | _ => none }
def FnExactCutWrongFalsely : Prop := fnExactCutRow.holds Try.pinned (OpenSpec.ofChange fnExactCutWrong)

/-- 'laws.FnExactHeightOf': WHATEVER THE INPUT: true; the input reads as it did. -/
def fnExactHeightOfSpec : ChangeSpec := { name := "fnExactHeightOf", fn := fun _ => fun
  | [d] => { results := [.lit (.bool true)], args := [d] }
  | _ => none }
def fnExactHeightOfRow : OpenClaim := { program := "ytbkklafkoegdpaa", sum := "68abc0b8ea328ab7fa7aa31298939a8321c52205a24f9ab6f1a6ac4f32ecdcfe", func := "loop.example/g00130/laws.FnExactHeightOf", spec := "fnExactHeightOf", recurses := true, apart := false }
def FnExactHeightOfSaid : Prop := fnExactHeightOfRow.holds Try.pinned (OpenSpec.ofChange fnExactHeightOfSpec)

/-- ITS FALSE NEIGHBOUR: 'it returns false'. Refute it at one input. -/
def fnExactHeightOfWrong : ChangeSpec := { name := "fnExactHeightOf", fn := fun _ => fun
  | [d] => { results := [.lit (.bool false)], args := [d] }
  | _ => none }
def FnExactHeightOfWrongFalsely : Prop := fnExactHeightOfRow.holds Try.pinned (OpenSpec.ofChange fnExactHeightOfWrong)

/-- 'laws.FnExactWebTogether': WHATEVER THE INPUT: true; the input reads as it did. -/
def fnExactWebTogetherSpec : ChangeSpec := { name := "fnExactWebTogether", fn := fun _ => fun
  | [d1, d2, d3] => { results := [.lit (.bool true)], args := [d1, d2, d3] }
  | _ => none }
def fnExactWebTogetherRow : OpenClaim := { program := "ytbkklafkoegdpaa", sum := "68abc0b8ea328ab7fa7aa31298939a8321c52205a24f9ab6f1a6ac4f32ecdcfe", func := "loop.example/g00130/laws.FnExactWebTogether", spec := "fnExactWebTogether", recurses := true, apart := false }
def FnExactWebTogetherSaid : Prop := fnExactWebTogetherRow.holds Try.pinned (OpenSpec.ofChange fnExactWebTogetherSpec)

/-- ITS FALSE NEIGHBOUR: 'it returns false'. Refute it at one input. -/
def fnExactWebTogetherWrong : ChangeSpec := { name := "fnExactWebTogether", fn := fun _ => fun
  | [d1, d2, d3] => { results := [.lit (.bool false)], args := [d1, d2, d3] }
  | _ => none }
def FnExactWebTogetherWrongFalsely : Prop := fnExactWebTogetherRow.holds Try.pinned (OpenSpec.ofChange fnExactWebTogetherWrong)

/-- 'laws.FnExactLink': WHATEVER THE INPUT: true; the input reads as it did. -/
def fnExactLinkSpec : ChangeSpec := { name := "fnExactLink", fn := fun _ => fun
  | [d1, d2] => { results := [.lit (.bool true)], args := [d1, d2] }
  | _ => none }
def fnExactLinkRow : OpenClaim := { program := "ytbkklafkoegdpaa", sum := "68abc0b8ea328ab7fa7aa31298939a8321c52205a24f9ab6f1a6ac4f32ecdcfe", func := "loop.example/g00130/laws.FnExactLink", spec := "fnExactLink", apart := false }
def FnExactLinkSaid : Prop := fnExactLinkRow.holds Try.pinned (OpenSpec.ofChange fnExactLinkSpec)

/-- ITS FALSE NEIGHBOUR: 'it returns false'. Refute it at one input. -/
def fnExactLinkWrong : ChangeSpec := { name := "fnExactLink", fn := fun _ => fun
  | [d1, d2] => { results := [.lit (.bool false)], args := [d1, d2] }
  | _ => none }
def FnExactLinkWrongFalsely : Prop := fnExactLinkRow.holds Try.pinned (OpenSpec.ofChange fnExactLinkWrong)

/-- 'laws.FnExactWebLabels': WHATEVER THE INPUT: true; the input reads as it did. -/
def fnExactWebLabelsSpec : ChangeSpec := { name := "fnExactWebLabels", fn := fun _ => fun
  | [d] => { results := [.lit (.bool true)], args := [d] }
  | _ => none }
def fnExactWebLabelsRow : OpenClaim := { program := "ytbkklafkoegdpaa", sum := "68abc0b8ea328ab7fa7aa31298939a8321c52205a24f9ab6f1a6ac4f32ecdcfe", func := "loop.example/g00130/laws.FnExactWebLabels", spec := "fnExactWebLabels", recurses := true, apart := false }
def FnExactWebLabelsSaid : Prop := fnExactWebLabelsRow.holds Try.pinned (OpenSpec.ofChange fnExactWebLabelsSpec)

/-- ITS FALSE NEIGHBOUR: 'it returns false'. Refute it at one input. -/
def fnExactWebLabelsWrong : ChangeSpec := { name := "fnExactWebLabels", fn := fun _ => fun
  | [d] => { results := [.lit (.bool false)], args := [d] }
  | _ => none }
def FnExactWebLabelsWrongFalsely : Prop := fnExactWebLabelsRow.holds Try.pinned (OpenSpec.ofChange fnExactWebLabelsWrong)

/-- 'laws.FnExactWebAdd': WHATEVER THE INPUT: true; the input reads as it did. -/
def fnExactWebAddSpec : ChangeSpec := { name := "fnExactWebAdd", fn := fun _ => fun
  | [d1, d2] => { results := [.lit (.bool true)], args := [d1, d2] }
  | _ => none }
def fnExactWebAddRow : OpenClaim := { program := "ytbkklafkoegdpaa", sum := "68abc0b8ea328ab7fa7aa31298939a8321c52205a24f9ab6f1a6ac4f32ecdcfe", func := "loop.example/g00130/laws.FnExactWebAdd", spec := "fnExactWebAdd", recurses := true, apart := false }
def FnExactWebAddSaid : Prop := fnExactWebAddRow.holds Try.pinned (OpenSpec.ofChange fnExactWebAddSpec)

/-- ITS FALSE NEIGHBOUR: 'it returns false'. Refute it at one input. -/
def fnExactWebAddWrong : ChangeSpec := { name := "fnExactWebAdd", fn := fun _ => fun
  | [d1, d2] => { results := [.lit (.bool false)], args := [d1, d2] }
  | _ => none }
def FnExactWebAddWrongFalsely : Prop := fnExactWebAddRow.holds Try.pinned (OpenSpec.ofChange fnExactWebAddWrong)

/-- 'laws.FnExactWebTake': WHATEVER THE INPUT: true; the input reads as it did. -/
def fnExactWebTakeSpec : ChangeSpec := { name := "fnExactWebTake", fn := fun _ => fun
  | [d1, d2] => { results := [.lit (.bool true)], args := [d1, d2] }
  | _ => none }
def fnExactWebTakeRow : OpenClaim := { program := "ytbkklafkoegdpaa", sum := "68abc0b8ea328ab7fa7aa31298939a8321c52205a24f9ab6f1a6ac4f32ecdcfe", func := "loop.example/g00130/laws.FnExactWebTake", spec := "fnExactWebTake", recurses := true, apart := false }
def FnExactWebTakeSaid : Prop := fnExactWebTakeRow.holds Try.pinned (OpenSpec.ofChange fnExactWebTakeSpec)

/-- ITS FALSE NEIGHBOUR: 'it returns false'. Refute it at one input. -/
def fnExactWebTakeWrong : ChangeSpec := { name := "fnExactWebTake", fn := fun _ => fun
  | [d1, d2] => { results := [.lit (.bool false)], args := [d1, d2] }
  | _ => none }
def FnExactWebTakeWrongFalsely : Prop := fnExactWebTakeRow.holds Try.pinned (OpenSpec.ofChange fnExactWebTakeWrong)

/-- 'laws.FnTakes': WHATEVER THE INPUT: true; the input reads as it did. -/
def fnTakesSpec : ChangeSpec := { name := "fnTakes", fn := fun _ => fun
  | [d] => { results := [.lit (.bool true)], args := [d] }
  | _ => none }
def fnTakesRow : OpenClaim := { program := "ytbkklafkoegdpaa", sum := "68abc0b8ea328ab7fa7aa31298939a8321c52205a24f9ab6f1a6ac4f32ecdcfe", func := "loop.example/g00130/laws.FnTakes", spec := "fnTakes", recurses := true, apart := false }
def FnTakesSaid : Prop := fnTakesRow.holds Try.pinned (OpenSpec.ofChange fnTakesSpec)

/-- ITS FALSE NEIGHBOUR: 'it returns false'. Refute it at one input. -/
def fnTakesWrong : ChangeSpec := { name := "fnTakes", fn := fun _ => fun
  | [d] => { results := [.lit (.bool false)], args := [d] }
  | _ => none }
def FnTakesWrongFalsely : Prop := fnTakesRow.holds Try.pinned (OpenSpec.ofChange fnTakesWrong)

/-- 'laws.FnLevels': WHATEVER THE INPUT: true; the input reads as it did. -/
def fnLevelsSpec : ChangeSpec := { name := "fnLevels", fn := fun _ => fun
  | [d] => { results := [.lit (.bool true)], args := [d] }
  | _ => none }
def fnLevelsRow : OpenClaim := { program := "ytbkklafkoegdpaa", sum := "68abc0b8ea328ab7fa7aa31298939a8321c52205a24f9ab6f1a6ac4f32ecdcfe", func := "loop.example/g00130/laws.FnLevels", spec := "fnLevels", recurses := true, apart := false }
def FnLevelsSaid : Prop := fnLevelsRow.holds Try.pinned (OpenSpec.ofChange fnLevelsSpec)

/-- ITS FALSE NEIGHBOUR: 'it returns false'. Refute it at one input. -/
def fnLevelsWrong : ChangeSpec := { name := "fnLevels", fn := fun _ => fun
  | [d] => { results := [.lit (.bool false)], args := [d] }
  | _ => none }
def FnLevelsWrongFalsely : Prop := fnLevelsRow.holds Try.pinned (OpenSpec.ofChange fnLevelsWrong)

/- THE SECOND FORM. 'bulk': how many values and letters a reading holds, each counted each time it is reached (what is shared counts as often as it is met; a slice's spare places count too). A statement '..UptoSaid' is the law's where the arguments, and the package variables that the reading takes, are together of bulk at most 1048576: NARROWER than '..Said'. Prove '..Said' where nothing that the law and all that it calls make is longer than what came in: it says more and counts as full. Else prove '..UptoSaid'. A law counts once. -/
mutual
def uptoBulk {H : Type} : DataW H → Nat
  | .lit (.string bytes) => bytes.length + 1
  | .lit _ => 1
  | .nil => 1
  | .ptr d => uptoBulk d + 1
  | .slice elems spare => uptoBulkAll elems + uptoBulkAll spare + 1
  | .agg parts => uptoBulkAll parts + 1
  | .iface _ d => uptoBulk d + 1
  | .map entries => uptoBulkEntries entries + 1
  | .held _ => 1
def uptoBulkAll {H : Type} : List (DataW H) → Nat
  | [] => 0
  | d :: r => uptoBulk d + uptoBulkAll r
def uptoBulkEntries {H : Type} : List (Lit × DataW H) → Nat
  | [] => 0
  | x :: r => uptoBulkEntry x + uptoBulkEntries r
def uptoBulkEntry {H : Type} : Lit × DataW H → Nat
  | (.string bytes, d) => bytes.length + uptoBulk d + 1
  | (_, d) => uptoBulk d + 1
 end
def uptoSmall : (H : Type) → List (DataW H) → Bool := fun _ ds => decide (uptoBulkAll ds ≤ 1048576)
def OpenSpec.upto (s : _root_.Go.ChangeSpec) : _root_.Go.OpenSpec := { _root_.Go.OpenSpec.ofChange s with cond := some uptoSmall }

/-- 'laws.FnExactWebOk', WHERE WHAT IT READS IS OF BULK AT MOST 1048576: true; the input reads as it did. -/
def fnExactWebOkUptoRow : OpenClaim := { program := "ytbkklafkoegdpaa", sum := "68abc0b8ea328ab7fa7aa31298939a8321c52205a24f9ab6f1a6ac4f32ecdcfe", func := "loop.example/g00130/laws.FnExactWebOk", spec := "fnExactWebOk", recurses := true, apart := false, narrowed := true }
def FnExactWebOkUptoSaid : Prop := fnExactWebOkUptoRow.holds Try.pinned (OpenSpec.upto fnExactWebOkSpec)

/-- 'laws.FnExactCut', WHERE WHAT IT READS IS OF BULK AT MOST 1048576: true; the input reads as it did. -/
def fnExactCutUptoRow : OpenClaim := { program := "ytbkklafkoegdpaa", sum := "68abc0b8ea328ab7fa7aa31298939a8321c52205a24f9ab6f1a6ac4f32ecdcfe", func := "loop.example/g00130/laws.FnExactCut", spec := "fnExactCut", apart := false, narrowed := true }
def FnExactCutUptoSaid : Prop := fnExactCutUptoRow.holds Try.pinned (OpenSpec.upto fnExactCutSpec)

/-- 'laws.FnExactHeightOf', WHERE WHAT IT READS IS OF BULK AT MOST 1048576: true; the input reads as it did. -/
def fnExactHeightOfUptoRow : OpenClaim := { program := "ytbkklafkoegdpaa", sum := "68abc0b8ea328ab7fa7aa31298939a8321c52205a24f9ab6f1a6ac4f32ecdcfe", func := "loop.example/g00130/laws.FnExactHeightOf", spec := "fnExactHeightOf", recurses := true, apart := false, narrowed := true }
def FnExactHeightOfUptoSaid : Prop := fnExactHeightOfUptoRow.holds Try.pinned (OpenSpec.upto fnExactHeightOfSpec)

/-- 'laws.FnExactWebTogether', WHERE WHAT IT READS IS OF BULK AT MOST 1048576: true; the input reads as it did. -/
def fnExactWebTogetherUptoRow : OpenClaim := { program := "ytbkklafkoegdpaa", sum := "68abc0b8ea328ab7fa7aa31298939a8321c52205a24f9ab6f1a6ac4f32ecdcfe", func := "loop.example/g00130/laws.FnExactWebTogether", spec := "fnExactWebTogether", recurses := true, apart := false, narrowed := true }
def FnExactWebTogetherUptoSaid : Prop := fnExactWebTogetherUptoRow.holds Try.pinned (OpenSpec.upto fnExactWebTogetherSpec)

/-- 'laws.FnExactLink', WHERE WHAT IT READS IS OF BULK AT MOST 1048576: true; the input reads as it did. -/
def fnExactLinkUptoRow : OpenClaim := { program := "ytbkklafkoegdpaa", sum := "68abc0b8ea328ab7fa7aa31298939a8321c52205a24f9ab6f1a6ac4f32ecdcfe", func := "loop.example/g00130/laws.FnExactLink", spec := "fnExactLink", apart := false, narrowed := true }
def FnExactLinkUptoSaid : Prop := fnExactLinkUptoRow.holds Try.pinned (OpenSpec.upto fnExactLinkSpec)

/-- 'laws.FnExactWebLabels', WHERE WHAT IT READS IS OF BULK AT MOST 1048576: true; the input reads as it did. -/
def fnExactWebLabelsUptoRow : OpenClaim := { program := "ytbkklafkoegdpaa", sum := "68abc0b8ea328ab7fa7aa31298939a8321c52205a24f9ab6f1a6ac4f32ecdcfe", func := "loop.example/g00130/laws.FnExactWebLabels", spec := "fnExactWebLabels", recurses := true, apart := false, narrowed := true }
def FnExactWebLabelsUptoSaid : Prop := fnExactWebLabelsUptoRow.holds Try.pinned (OpenSpec.upto fnExactWebLabelsSpec)

/-- 'laws.FnExactWebAdd', WHERE WHAT IT READS IS OF BULK AT MOST 1048576: true; the input reads as it did. -/
def fnExactWebAddUptoRow : OpenClaim := { program := "ytbkklafkoegdpaa", sum := "68abc0b8ea328ab7fa7aa31298939a8321c52205a24f9ab6f1a6ac4f32ecdcfe", func := "loop.example/g00130/laws.FnExactWebAdd", spec := "fnExactWebAdd", recurses := true, apart := false, narrowed := true }
def FnExactWebAddUptoSaid : Prop := fnExactWebAddUptoRow.holds Try.pinned (OpenSpec.upto fnExactWebAddSpec)

/-- 'laws.FnExactWebTake', WHERE WHAT IT READS IS OF BULK AT MOST 1048576: true; the input reads as it did. -/
def fnExactWebTakeUptoRow : OpenClaim := { program := "ytbkklafkoegdpaa", sum := "68abc0b8ea328ab7fa7aa31298939a8321c52205a24f9ab6f1a6ac4f32ecdcfe", func := "loop.example/g00130/laws.FnExactWebTake", spec := "fnExactWebTake", recurses := true, apart := false, narrowed := true }
def FnExactWebTakeUptoSaid : Prop := fnExactWebTakeUptoRow.holds Try.pinned (OpenSpec.upto fnExactWebTakeSpec)

/-- 'laws.FnTakes', WHERE WHAT IT READS IS OF BULK AT MOST 1048576: true; the input reads as it did. -/
def fnTakesUptoRow : OpenClaim := { program := "ytbkklafkoegdpaa", sum := "68abc0b8ea328ab7fa7aa31298939a8321c52205a24f9ab6f1a6ac4f32ecdcfe", func := "loop.example/g00130/laws.FnTakes", spec := "fnTakes", recurses := true, apart := false, narrowed := true }
def FnTakesUptoSaid : Prop := fnTakesUptoRow.holds Try.pinned (OpenSpec.upto fnTakesSpec)

/-- 'laws.FnLevels', WHERE WHAT IT READS IS OF BULK AT MOST 1048576: true; the input reads as it did. -/
def fnLevelsUptoRow : OpenClaim := { program := "ytbkklafkoegdpaa", sum := "68abc0b8ea328ab7fa7aa31298939a8321c52205a24f9ab6f1a6ac4f32ecdcfe", func := "loop.example/g00130/laws.FnLevels", spec := "fnLevels", recurses := true, apart := false, narrowed := true }
def FnLevelsUptoSaid : Prop := fnLevelsUptoRow.holds Try.pinned (OpenSpec.upto fnLevelsSpec)

end Rows
end Go.Proofs.Ytbkklafkoegdpaa
