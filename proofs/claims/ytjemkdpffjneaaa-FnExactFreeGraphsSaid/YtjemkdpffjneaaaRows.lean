/-
  No cell of these rows narrows 'for every input' (looked for: loops, veiled, ifaces, maps, wideKeys, modest, calm, conditions, laid).
  DERIVED. THE GIVEN ROWS OF THIS SEAT. 12 by the template 'for every input the law returns true; each argument reads behind the call as it read before'; 0 by the template 'total and deterministic' (their statements: YtjemkdpffjneaaaTotals.lean).
  GIVEN WITH THE SEED: the statements are not yours to turn. If you find one false, say at which input.
  Laid BY PROGRAM, IN A SANDBOX (cutbox-rows.mjs): the forced cells as the released guide's own fill.sh prints them over the translation 95364dfcce5859b4… (all of the seat's roots in one cut). By AI agents, Wed Nov 11 2026. No macro, syntax, notation, axiom, sorry.
-/
import Derived.Test.YtjemkdpffjneaaaChecked
import GoSem.Claim
import GoSem.ClaimJoined
import GoSem.ClaimMapViews
import Derived.JoinedTies
import Derived.KernelRfl
namespace Go.Proofs.Ytjemkdpffjneaaa
/- THE CELL 'sum', in the pinned program and in every row, IS THE sha256 OF THE DUMP (.gsa) THAT YtjemkdpffjneaaaProg.lean LOADS. Nothing in Lean hashes anything: it is a label: what it is worth is what the hold of that sum in a sandbox is worth. -/
noncomputable def Try.pinned : Pinned := { name := "ytjemkdpffjneaaa", sum := "95364dfcce5859b4a164b0fe16da1f1aab4ecded6ae5591f5fdad0dff33af8b3", checked := Try.checked }
namespace Rows
def none {H : Type} : Left H := { results := [], args := [] }

/-- 'laws.FnExactAllGraphs': WHATEVER THE INPUT: true; the input reads as it did. -/
def fnExactAllGraphsSpec : ChangeSpec := { name := "fnExactAllGraphs", fn := fun _ => fun
  | [d] => { results := [.lit (.bool true)], args := [d] }
  | _ => none }
def fnExactAllGraphsRow : OpenClaim := { program := "ytjemkdpffjneaaa", sum := "95364dfcce5859b4a164b0fe16da1f1aab4ecded6ae5591f5fdad0dff33af8b3", func := "loop.example/g01169/laws.FnExactAllGraphs", spec := "fnExactAllGraphs", unfollowed := true, recurses := true, apart := false }
def FnExactAllGraphsSaid : Prop := fnExactAllGraphsRow.holds Try.pinned (OpenSpec.ofChange fnExactAllGraphsSpec)

/-- ITS FALSE NEIGHBOUR: 'it returns false'. Refute it at one input. -/
def fnExactAllGraphsWrong : ChangeSpec := { name := "fnExactAllGraphs", fn := fun _ => fun
  | [d] => { results := [.lit (.bool false)], args := [d] }
  | _ => none }
def FnExactAllGraphsWrongFalsely : Prop := fnExactAllGraphsRow.holds Try.pinned (OpenSpec.ofChange fnExactAllGraphsWrong)

/-- 'laws.FnExactForgetLabels': WHATEVER THE INPUT: true; the input reads as it did. -/
def fnExactForgetLabelsSpec : ChangeSpec := { name := "fnExactForgetLabels", fn := fun _ => fun
  | [d1, d2] => { results := [.lit (.bool true)], args := [d1, d2] }
  | _ => none }
def fnExactForgetLabelsRow : OpenClaim := { program := "ytjemkdpffjneaaa", sum := "95364dfcce5859b4a164b0fe16da1f1aab4ecded6ae5591f5fdad0dff33af8b3", func := "loop.example/g01169/laws.FnExactForgetLabels", spec := "fnExactForgetLabels", unfollowed := true, recurses := true, apart := false }
def FnExactForgetLabelsSaid : Prop := fnExactForgetLabelsRow.holds Try.pinned (OpenSpec.ofChange fnExactForgetLabelsSpec)

/-- ITS FALSE NEIGHBOUR: 'it returns false'. Refute it at one input. -/
def fnExactForgetLabelsWrong : ChangeSpec := { name := "fnExactForgetLabels", fn := fun _ => fun
  | [d1, d2] => { results := [.lit (.bool false)], args := [d1, d2] }
  | _ => none }
def FnExactForgetLabelsWrongFalsely : Prop := fnExactForgetLabelsRow.holds Try.pinned (OpenSpec.ofChange fnExactForgetLabelsWrong)

/-- 'laws.FnExactIndexOfGraph': WHATEVER THE INPUT: true; the input reads as it did. -/
def fnExactIndexOfGraphSpec : ChangeSpec := { name := "fnExactIndexOfGraph", fn := fun _ => fun
  | [d] => { results := [.lit (.bool true)], args := [d] }
  | _ => none }
def fnExactIndexOfGraphRow : OpenClaim := { program := "ytjemkdpffjneaaa", sum := "95364dfcce5859b4a164b0fe16da1f1aab4ecded6ae5591f5fdad0dff33af8b3", func := "loop.example/g01169/laws.FnExactIndexOfGraph", spec := "fnExactIndexOfGraph", unfollowed := true, recurses := true, apart := false }
def FnExactIndexOfGraphSaid : Prop := fnExactIndexOfGraphRow.holds Try.pinned (OpenSpec.ofChange fnExactIndexOfGraphSpec)

/-- ITS FALSE NEIGHBOUR: 'it returns false'. Refute it at one input. -/
def fnExactIndexOfGraphWrong : ChangeSpec := { name := "fnExactIndexOfGraph", fn := fun _ => fun
  | [d] => { results := [.lit (.bool false)], args := [d] }
  | _ => none }
def FnExactIndexOfGraphWrongFalsely : Prop := fnExactIndexOfGraphRow.holds Try.pinned (OpenSpec.ofChange fnExactIndexOfGraphWrong)

/-- 'laws.FnExactFreeGraphs': WHATEVER THE INPUT: true; the input reads as it did. -/
def fnExactFreeGraphsSpec : ChangeSpec := { name := "fnExactFreeGraphs", fn := fun _ => fun
  | [d1, d2] => { results := [.lit (.bool true)], args := [d1, d2] }
  | _ => none }
def fnExactFreeGraphsRow : OpenClaim := { program := "ytjemkdpffjneaaa", sum := "95364dfcce5859b4a164b0fe16da1f1aab4ecded6ae5591f5fdad0dff33af8b3", func := "loop.example/g01169/laws.FnExactFreeGraphs", spec := "fnExactFreeGraphs", unfollowed := true, recurses := true, apart := false }
def FnExactFreeGraphsSaid : Prop := fnExactFreeGraphsRow.holds Try.pinned (OpenSpec.ofChange fnExactFreeGraphsSpec)

/-- ITS FALSE NEIGHBOUR: 'it returns false'. Refute it at one input. -/
def fnExactFreeGraphsWrong : ChangeSpec := { name := "fnExactFreeGraphs", fn := fun _ => fun
  | [d1, d2] => { results := [.lit (.bool false)], args := [d1, d2] }
  | _ => none }
def FnExactFreeGraphsWrongFalsely : Prop := fnExactFreeGraphsRow.holds Try.pinned (OpenSpec.ofChange fnExactFreeGraphsWrong)

/-- 'laws.FnExactAllTypes': WHATEVER THE INPUT: true; the input reads as it did. -/
def fnExactAllTypesSpec : ChangeSpec := { name := "fnExactAllTypes", fn := fun _ => fun
  | [d1, d2] => { results := [.lit (.bool true)], args := [d1, d2] }
  | _ => none }
def fnExactAllTypesRow : OpenClaim := { program := "ytjemkdpffjneaaa", sum := "95364dfcce5859b4a164b0fe16da1f1aab4ecded6ae5591f5fdad0dff33af8b3", func := "loop.example/g01169/laws.FnExactAllTypes", spec := "fnExactAllTypes", unfollowed := true, recurses := true, apart := false }
def FnExactAllTypesSaid : Prop := fnExactAllTypesRow.holds Try.pinned (OpenSpec.ofChange fnExactAllTypesSpec)

/-- ITS FALSE NEIGHBOUR: 'it returns false'. Refute it at one input. -/
def fnExactAllTypesWrong : ChangeSpec := { name := "fnExactAllTypes", fn := fun _ => fun
  | [d1, d2] => { results := [.lit (.bool false)], args := [d1, d2] }
  | _ => none }
def FnExactAllTypesWrongFalsely : Prop := fnExactAllTypesRow.holds Try.pinned (OpenSpec.ofChange fnExactAllTypesWrong)

/-- 'laws.FnExactAllFlags': WHATEVER THE INPUT: true; the input reads as it did. -/
def fnExactAllFlagsSpec : ChangeSpec := { name := "fnExactAllFlags", fn := fun _ => fun
  | [d1, d2, d3] => { results := [.lit (.bool true)], args := [d1, d2, d3] }
  | _ => none }
def fnExactAllFlagsRow : OpenClaim := { program := "ytjemkdpffjneaaa", sum := "95364dfcce5859b4a164b0fe16da1f1aab4ecded6ae5591f5fdad0dff33af8b3", func := "loop.example/g01169/laws.FnExactAllFlags", spec := "fnExactAllFlags", unfollowed := true, recurses := true, apart := false }
def FnExactAllFlagsSaid : Prop := fnExactAllFlagsRow.holds Try.pinned (OpenSpec.ofChange fnExactAllFlagsSpec)

/-- ITS FALSE NEIGHBOUR: 'it returns false'. Refute it at one input. -/
def fnExactAllFlagsWrong : ChangeSpec := { name := "fnExactAllFlags", fn := fun _ => fun
  | [d1, d2, d3] => { results := [.lit (.bool false)], args := [d1, d2, d3] }
  | _ => none }
def FnExactAllFlagsWrongFalsely : Prop := fnExactAllFlagsRow.holds Try.pinned (OpenSpec.ofChange fnExactAllFlagsWrong)

/-- 'laws.FnExactIndexOfFlag': WHATEVER THE INPUT: true; the input reads as it did. -/
def fnExactIndexOfFlagSpec : ChangeSpec := { name := "fnExactIndexOfFlag", fn := fun _ => fun
  | [d1, d2] => { results := [.lit (.bool true)], args := [d1, d2] }
  | _ => none }
def fnExactIndexOfFlagRow : OpenClaim := { program := "ytjemkdpffjneaaa", sum := "95364dfcce5859b4a164b0fe16da1f1aab4ecded6ae5591f5fdad0dff33af8b3", func := "loop.example/g01169/laws.FnExactIndexOfFlag", spec := "fnExactIndexOfFlag", unfollowed := true, recurses := true, apart := false }
def FnExactIndexOfFlagSaid : Prop := fnExactIndexOfFlagRow.holds Try.pinned (OpenSpec.ofChange fnExactIndexOfFlagSpec)

/-- ITS FALSE NEIGHBOUR: 'it returns false'. Refute it at one input. -/
def fnExactIndexOfFlagWrong : ChangeSpec := { name := "fnExactIndexOfFlag", fn := fun _ => fun
  | [d1, d2] => { results := [.lit (.bool false)], args := [d1, d2] }
  | _ => none }
def FnExactIndexOfFlagWrongFalsely : Prop := fnExactIndexOfFlagRow.holds Try.pinned (OpenSpec.ofChange fnExactIndexOfFlagWrong)

/-- 'laws.FnExactTurnLabels': WHATEVER THE INPUT: true; the input reads as it did. -/
def fnExactTurnLabelsSpec : ChangeSpec := { name := "fnExactTurnLabels", fn := fun _ => fun
  | [d1, d2] => { results := [.lit (.bool true)], args := [d1, d2] }
  | _ => none }
def fnExactTurnLabelsRow : OpenClaim := { program := "ytjemkdpffjneaaa", sum := "95364dfcce5859b4a164b0fe16da1f1aab4ecded6ae5591f5fdad0dff33af8b3", func := "loop.example/g01169/laws.FnExactTurnLabels", spec := "fnExactTurnLabels", unfollowed := true, recurses := true, apart := false }
def FnExactTurnLabelsSaid : Prop := fnExactTurnLabelsRow.holds Try.pinned (OpenSpec.ofChange fnExactTurnLabelsSpec)

/-- ITS FALSE NEIGHBOUR: 'it returns false'. Refute it at one input. -/
def fnExactTurnLabelsWrong : ChangeSpec := { name := "fnExactTurnLabels", fn := fun _ => fun
  | [d1, d2] => { results := [.lit (.bool false)], args := [d1, d2] }
  | _ => none }
def FnExactTurnLabelsWrongFalsely : Prop := fnExactTurnLabelsRow.holds Try.pinned (OpenSpec.ofChange fnExactTurnLabelsWrong)

/-- 'laws.FnExactPartOfFlag': WHATEVER THE INPUT: true; the input reads as it did. -/
def fnExactPartOfFlagSpec : ChangeSpec := { name := "fnExactPartOfFlag", fn := fun _ => fun
  | [d1, d2] => { results := [.lit (.bool true)], args := [d1, d2] }
  | _ => none }
def fnExactPartOfFlagRow : OpenClaim := { program := "ytjemkdpffjneaaa", sum := "95364dfcce5859b4a164b0fe16da1f1aab4ecded6ae5591f5fdad0dff33af8b3", func := "loop.example/g01169/laws.FnExactPartOfFlag", spec := "fnExactPartOfFlag", unfollowed := true, recurses := true, apart := false }
def FnExactPartOfFlagSaid : Prop := fnExactPartOfFlagRow.holds Try.pinned (OpenSpec.ofChange fnExactPartOfFlagSpec)

/-- ITS FALSE NEIGHBOUR: 'it returns false'. Refute it at one input. -/
def fnExactPartOfFlagWrong : ChangeSpec := { name := "fnExactPartOfFlag", fn := fun _ => fun
  | [d1, d2] => { results := [.lit (.bool false)], args := [d1, d2] }
  | _ => none }
def FnExactPartOfFlagWrongFalsely : Prop := fnExactPartOfFlagRow.holds Try.pinned (OpenSpec.ofChange fnExactPartOfFlagWrong)

/-- 'laws.FnExactCountLabelings': WHATEVER THE INPUT: true; the input reads as it did. -/
def fnExactCountLabelingsSpec : ChangeSpec := { name := "fnExactCountLabelings", fn := fun _ => fun
  | [d] => { results := [.lit (.bool true)], args := [d] }
  | _ => none }
def fnExactCountLabelingsRow : OpenClaim := { program := "ytjemkdpffjneaaa", sum := "95364dfcce5859b4a164b0fe16da1f1aab4ecded6ae5591f5fdad0dff33af8b3", func := "loop.example/g01169/laws.FnExactCountLabelings", spec := "fnExactCountLabelings", unfollowed := true, recurses := true, apart := false }
def FnExactCountLabelingsSaid : Prop := fnExactCountLabelingsRow.holds Try.pinned (OpenSpec.ofChange fnExactCountLabelingsSpec)

/-- ITS FALSE NEIGHBOUR: 'it returns false'. Refute it at one input. -/
def fnExactCountLabelingsWrong : ChangeSpec := { name := "fnExactCountLabelings", fn := fun _ => fun
  | [d] => { results := [.lit (.bool false)], args := [d] }
  | _ => none }
def FnExactCountLabelingsWrongFalsely : Prop := fnExactCountLabelingsRow.holds Try.pinned (OpenSpec.ofChange fnExactCountLabelingsWrong)

/-- 'laws.FnExactAverageFactor': WHATEVER THE INPUT: true; the input reads as it did. -/
def fnExactAverageFactorSpec : ChangeSpec := { name := "fnExactAverageFactor", fn := fun _ => fun
  | [d] => { results := [.lit (.bool true)], args := [d] }
  | _ => none }
def fnExactAverageFactorRow : OpenClaim := { program := "ytjemkdpffjneaaa", sum := "95364dfcce5859b4a164b0fe16da1f1aab4ecded6ae5591f5fdad0dff33af8b3", func := "loop.example/g01169/laws.FnExactAverageFactor", spec := "fnExactAverageFactor", unfollowed := true, recurses := true, apart := false }
def FnExactAverageFactorSaid : Prop := fnExactAverageFactorRow.holds Try.pinned (OpenSpec.ofChange fnExactAverageFactorSpec)

/-- ITS FALSE NEIGHBOUR: 'it returns false'. Refute it at one input. -/
def fnExactAverageFactorWrong : ChangeSpec := { name := "fnExactAverageFactor", fn := fun _ => fun
  | [d] => { results := [.lit (.bool false)], args := [d] }
  | _ => none }
def FnExactAverageFactorWrongFalsely : Prop := fnExactAverageFactorRow.holds Try.pinned (OpenSpec.ofChange fnExactAverageFactorWrong)

/-- 'laws.FnBuilt': WHATEVER THE INPUT: true; the input reads as it did. -/
def fnBuiltSpec : ChangeSpec := { name := "fnBuilt", fn := fun _ => fun
  | [d] => { results := [.lit (.bool true)], args := [d] }
  | _ => none }
def fnBuiltRow : OpenClaim := { program := "ytjemkdpffjneaaa", sum := "95364dfcce5859b4a164b0fe16da1f1aab4ecded6ae5591f5fdad0dff33af8b3", func := "loop.example/g01169/laws.FnBuilt", spec := "fnBuilt", unfollowed := true, recurses := true, apart := false }
def FnBuiltSaid : Prop := fnBuiltRow.holds Try.pinned (OpenSpec.ofChange fnBuiltSpec)

/-- ITS FALSE NEIGHBOUR: 'it returns false'. Refute it at one input. -/
def fnBuiltWrong : ChangeSpec := { name := "fnBuilt", fn := fun _ => fun
  | [d] => { results := [.lit (.bool false)], args := [d] }
  | _ => none }
def FnBuiltWrongFalsely : Prop := fnBuiltRow.holds Try.pinned (OpenSpec.ofChange fnBuiltWrong)

/- THE SECOND FORM. 'bulk': how many values and letters a reading holds, each counted each time it is reached (what is shared counts as often as it is met; a slice's spare places count too). A statement '..UptoSaid' is the law's where the arguments, and the package variables that the reading takes, are together of bulk at most 1048576: NARROWER than '..Said'. Prove '..Said' where nothing that the law and all that it calls make is longer than what came in: it says more and counts as full. Else prove '..UptoSaid'. A law counts once. -/
mutual
def uptoBulk {H : Type} : DataW H → Nat
  | .lit (.string bytes) => bytes.length + 1
  | .lit _ => 1
  | .nil => 1
  | .ptr d => uptoBulk d + 1
  | .slice elems spare => uptoBulkAll elems + uptoBulkAll spare + 1
  | .agg parts => uptoBulkAll parts + 1
  | .iface _ d => uptoBulk d + 1
  | .map entries => uptoBulkEntries entries + 1
  | .held _ => 1
def uptoBulkAll {H : Type} : List (DataW H) → Nat
  | [] => 0
  | d :: r => uptoBulk d + uptoBulkAll r
def uptoBulkEntries {H : Type} : List (Lit × DataW H) → Nat
  | [] => 0
  | x :: r => uptoBulkEntry x + uptoBulkEntries r
def uptoBulkEntry {H : Type} : Lit × DataW H → Nat
  | (.string bytes, d) => bytes.length + uptoBulk d + 1
  | (_, d) => uptoBulk d + 1
 end
def uptoSmall : (H : Type) → List (DataW H) → Bool := fun _ ds => decide (uptoBulkAll ds ≤ 1048576)
def OpenSpec.upto (s : _root_.Go.ChangeSpec) : _root_.Go.OpenSpec := { _root_.Go.OpenSpec.ofChange s with cond := some uptoSmall }

/-- 'laws.FnExactAllGraphs', WHERE WHAT IT READS IS OF BULK AT MOST 1048576: true; the input reads as it did. -/
def fnExactAllGraphsUptoRow : OpenClaim := { program := "ytjemkdpffjneaaa", sum := "95364dfcce5859b4a164b0fe16da1f1aab4ecded6ae5591f5fdad0dff33af8b3", func := "loop.example/g01169/laws.FnExactAllGraphs", spec := "fnExactAllGraphs", unfollowed := true, recurses := true, apart := false, narrowed := true }
def FnExactAllGraphsUptoSaid : Prop := fnExactAllGraphsUptoRow.holds Try.pinned (OpenSpec.upto fnExactAllGraphsSpec)

/-- 'laws.FnExactForgetLabels', WHERE WHAT IT READS IS OF BULK AT MOST 1048576: true; the input reads as it did. -/
def fnExactForgetLabelsUptoRow : OpenClaim := { program := "ytjemkdpffjneaaa", sum := "95364dfcce5859b4a164b0fe16da1f1aab4ecded6ae5591f5fdad0dff33af8b3", func := "loop.example/g01169/laws.FnExactForgetLabels", spec := "fnExactForgetLabels", unfollowed := true, recurses := true, apart := false, narrowed := true }
def FnExactForgetLabelsUptoSaid : Prop := fnExactForgetLabelsUptoRow.holds Try.pinned (OpenSpec.upto fnExactForgetLabelsSpec)

/-- 'laws.FnExactIndexOfGraph', WHERE WHAT IT READS IS OF BULK AT MOST 1048576: true; the input reads as it did. -/
def fnExactIndexOfGraphUptoRow : OpenClaim := { program := "ytjemkdpffjneaaa", sum := "95364dfcce5859b4a164b0fe16da1f1aab4ecded6ae5591f5fdad0dff33af8b3", func := "loop.example/g01169/laws.FnExactIndexOfGraph", spec := "fnExactIndexOfGraph", unfollowed := true, recurses := true, apart := false, narrowed := true }
def FnExactIndexOfGraphUptoSaid : Prop := fnExactIndexOfGraphUptoRow.holds Try.pinned (OpenSpec.upto fnExactIndexOfGraphSpec)

/-- 'laws.FnExactFreeGraphs', WHERE WHAT IT READS IS OF BULK AT MOST 1048576: true; the input reads as it did. -/
def fnExactFreeGraphsUptoRow : OpenClaim := { program := "ytjemkdpffjneaaa", sum := "95364dfcce5859b4a164b0fe16da1f1aab4ecded6ae5591f5fdad0dff33af8b3", func := "loop.example/g01169/laws.FnExactFreeGraphs", spec := "fnExactFreeGraphs", unfollowed := true, recurses := true, apart := false, narrowed := true }
def FnExactFreeGraphsUptoSaid : Prop := fnExactFreeGraphsUptoRow.holds Try.pinned (OpenSpec.upto fnExactFreeGraphsSpec)

/-- 'laws.FnExactAllTypes', WHERE WHAT IT READS IS OF BULK AT MOST 1048576: true; the input reads as it did. -/
def fnExactAllTypesUptoRow : OpenClaim := { program := "ytjemkdpffjneaaa", sum := "95364dfcce5859b4a164b0fe16da1f1aab4ecded6ae5591f5fdad0dff33af8b3", func := "loop.example/g01169/laws.FnExactAllTypes", spec := "fnExactAllTypes", unfollowed := true, recurses := true, apart := false, narrowed := true }
def FnExactAllTypesUptoSaid : Prop := fnExactAllTypesUptoRow.holds Try.pinned (OpenSpec.upto fnExactAllTypesSpec)

/-- 'laws.FnExactAllFlags', WHERE WHAT IT READS IS OF BULK AT MOST 1048576: true; the input reads as it did. -/
def fnExactAllFlagsUptoRow : OpenClaim := { program := "ytjemkdpffjneaaa", sum := "95364dfcce5859b4a164b0fe16da1f1aab4ecded6ae5591f5fdad0dff33af8b3", func := "loop.example/g01169/laws.FnExactAllFlags", spec := "fnExactAllFlags", unfollowed := true, recurses := true, apart := false, narrowed := true }
def FnExactAllFlagsUptoSaid : Prop := fnExactAllFlagsUptoRow.holds Try.pinned (OpenSpec.upto fnExactAllFlagsSpec)

/-- 'laws.FnExactIndexOfFlag', WHERE WHAT IT READS IS OF BULK AT MOST 1048576: true; the input reads as it did. -/
def fnExactIndexOfFlagUptoRow : OpenClaim := { program := "ytjemkdpffjneaaa", sum := "95364dfcce5859b4a164b0fe16da1f1aab4ecded6ae5591f5fdad0dff33af8b3", func := "loop.example/g01169/laws.FnExactIndexOfFlag", spec := "fnExactIndexOfFlag", unfollowed := true, recurses := true, apart := false, narrowed := true }
def FnExactIndexOfFlagUptoSaid : Prop := fnExactIndexOfFlagUptoRow.holds Try.pinned (OpenSpec.upto fnExactIndexOfFlagSpec)

/-- 'laws.FnExactTurnLabels', WHERE WHAT IT READS IS OF BULK AT MOST 1048576: true; the input reads as it did. -/
def fnExactTurnLabelsUptoRow : OpenClaim := { program := "ytjemkdpffjneaaa", sum := "95364dfcce5859b4a164b0fe16da1f1aab4ecded6ae5591f5fdad0dff33af8b3", func := "loop.example/g01169/laws.FnExactTurnLabels", spec := "fnExactTurnLabels", unfollowed := true, recurses := true, apart := false, narrowed := true }
def FnExactTurnLabelsUptoSaid : Prop := fnExactTurnLabelsUptoRow.holds Try.pinned (OpenSpec.upto fnExactTurnLabelsSpec)

/-- 'laws.FnExactPartOfFlag', WHERE WHAT IT READS IS OF BULK AT MOST 1048576: true; the input reads as it did. -/
def fnExactPartOfFlagUptoRow : OpenClaim := { program := "ytjemkdpffjneaaa", sum := "95364dfcce5859b4a164b0fe16da1f1aab4ecded6ae5591f5fdad0dff33af8b3", func := "loop.example/g01169/laws.FnExactPartOfFlag", spec := "fnExactPartOfFlag", unfollowed := true, recurses := true, apart := false, narrowed := true }
def FnExactPartOfFlagUptoSaid : Prop := fnExactPartOfFlagUptoRow.holds Try.pinned (OpenSpec.upto fnExactPartOfFlagSpec)

/-- 'laws.FnExactCountLabelings', WHERE WHAT IT READS IS OF BULK AT MOST 1048576: true; the input reads as it did. -/
def fnExactCountLabelingsUptoRow : OpenClaim := { program := "ytjemkdpffjneaaa", sum := "95364dfcce5859b4a164b0fe16da1f1aab4ecded6ae5591f5fdad0dff33af8b3", func := "loop.example/g01169/laws.FnExactCountLabelings", spec := "fnExactCountLabelings", unfollowed := true, recurses := true, apart := false, narrowed := true }
def FnExactCountLabelingsUptoSaid : Prop := fnExactCountLabelingsUptoRow.holds Try.pinned (OpenSpec.upto fnExactCountLabelingsSpec)

/-- 'laws.FnExactAverageFactor', WHERE WHAT IT READS IS OF BULK AT MOST 1048576: true; the input reads as it did. -/
def fnExactAverageFactorUptoRow : OpenClaim := { program := "ytjemkdpffjneaaa", sum := "95364dfcce5859b4a164b0fe16da1f1aab4ecded6ae5591f5fdad0dff33af8b3", func := "loop.example/g01169/laws.FnExactAverageFactor", spec := "fnExactAverageFactor", unfollowed := true, recurses := true, apart := false, narrowed := true }
def FnExactAverageFactorUptoSaid : Prop := fnExactAverageFactorUptoRow.holds Try.pinned (OpenSpec.upto fnExactAverageFactorSpec)

/-- 'laws.FnBuilt', WHERE WHAT IT READS IS OF BULK AT MOST 1048576: true; the input reads as it did. -/
def fnBuiltUptoRow : OpenClaim := { program := "ytjemkdpffjneaaa", sum := "95364dfcce5859b4a164b0fe16da1f1aab4ecded6ae5591f5fdad0dff33af8b3", func := "loop.example/g01169/laws.FnBuilt", spec := "fnBuilt", unfollowed := true, recurses := true, apart := false, narrowed := true }
def FnBuiltUptoSaid : Prop := fnBuiltUptoRow.holds Try.pinned (OpenSpec.upto fnBuiltSpec)

end Rows
end Go.Proofs.Ytjemkdpffjneaaa
