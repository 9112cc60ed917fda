/-
  No cell of these rows narrows 'for every input' (looked for: loops, veiled, ifaces, maps, wideKeys, modest, calm, conditions, laid).
  DERIVED. THE GIVEN ROWS OF THIS SEAT. 12 by the template 'for every input the law returns true; each argument reads behind the call as it read before'; 0 by the template 'total and deterministic' (their statements: YtijbdgijagmbfaaTotals.lean).
  GIVEN WITH THE SEED: the statements are not yours to turn. If you find one false, say at which input.
  Laid BY PROGRAM, IN A SANDBOX (cutbox-rows.mjs): the forced cells as the released guide's own fill.sh prints them over the translation 3b2930f5c7885390… (all of the seat's roots in one cut). By AI agents, Wed Nov 11 2026. No macro, syntax, notation, axiom, sorry.
-/
import Derived.Test.YtijbdgijagmbfaaChecked
import GoSem.Claim
import GoSem.ClaimJoined
import GoSem.ClaimMapViews
import Derived.JoinedTies
import Derived.KernelRfl
namespace Go.Proofs.Ytijbdgijagmbfaa
/- THE CELL 'sum', in the pinned program and in every row, IS THE sha256 OF THE DUMP (.gsa) THAT YtijbdgijagmbfaaProg.lean LOADS. Nothing in Lean hashes anything: it is a label: what it is worth is what the hold of that sum in a sandbox is worth. -/
noncomputable def Try.pinned : Pinned := { name := "ytijbdgijagmbfaa", sum := "3b2930f5c7885390d779db6760d8b8ca3b3aa8af3413b3d444e64b84f4de1d5c", checked := Try.checked }
namespace Rows
def none {H : Type} : Left H := { results := [], args := [] }

/-- 'laws.FnExactConstants': WHATEVER THE INPUT: true; the input reads as it did. -/
def fnExactConstantsSpec : ChangeSpec := { name := "fnExactConstants", fn := fun _ => fun
  | [] => { results := [.lit (.bool true)], args := [] }
  | _ => none }
def fnExactConstantsRow : OpenClaim := { program := "ytijbdgijagmbfaa", sum := "3b2930f5c7885390d779db6760d8b8ca3b3aa8af3413b3d444e64b84f4de1d5c", func := "loop.example/g01169/laws.FnExactConstants", spec := "fnExactConstants", apart := false }
def FnExactConstantsSaid : Prop := fnExactConstantsRow.holds Try.pinned (OpenSpec.ofChange fnExactConstantsSpec)

/-- ITS FALSE NEIGHBOUR: 'it returns false'. Refute it at one input. -/
def fnExactConstantsWrong : ChangeSpec := { name := "fnExactConstants", fn := fun _ => fun
  | [] => { results := [.lit (.bool false)], args := [] }
  | _ => none }
def FnExactConstantsWrongFalsely : Prop := fnExactConstantsRow.holds Try.pinned (OpenSpec.ofChange fnExactConstantsWrong)

/-- 'laws.FnExactCodeName': WHATEVER THE INPUT: true; the input reads as it did. -/
def fnExactCodeNameSpec : ChangeSpec := { name := "fnExactCodeName", fn := fun _ => fun
  | [d] => { results := [.lit (.bool true)], args := [d] }
  | _ => none }
def fnExactCodeNameRow : OpenClaim := { program := "ytijbdgijagmbfaa", sum := "3b2930f5c7885390d779db6760d8b8ca3b3aa8af3413b3d444e64b84f4de1d5c", func := "loop.example/g01169/laws.FnExactCodeName", spec := "fnExactCodeName", apart := false }
def FnExactCodeNameSaid : Prop := fnExactCodeNameRow.holds Try.pinned (OpenSpec.ofChange fnExactCodeNameSpec)

/-- ITS FALSE NEIGHBOUR: 'it returns false'. Refute it at one input. -/
def fnExactCodeNameWrong : ChangeSpec := { name := "fnExactCodeName", fn := fun _ => fun
  | [d] => { results := [.lit (.bool false)], args := [d] }
  | _ => none }
def FnExactCodeNameWrongFalsely : Prop := fnExactCodeNameRow.holds Try.pinned (OpenSpec.ofChange fnExactCodeNameWrong)

/-- 'laws.FnExactValidGraph': WHATEVER THE INPUT: true; the input reads as it did. -/
def fnExactValidGraphSpec : ChangeSpec := { name := "fnExactValidGraph", fn := fun _ => fun
  | [d] => { results := [.lit (.bool true)], args := [d] }
  | _ => none }
def fnExactValidGraphRow : OpenClaim := { program := "ytijbdgijagmbfaa", sum := "3b2930f5c7885390d779db6760d8b8ca3b3aa8af3413b3d444e64b84f4de1d5c", func := "loop.example/g01169/laws.FnExactValidGraph", spec := "fnExactValidGraph", apart := false }
def FnExactValidGraphSaid : Prop := fnExactValidGraphRow.holds Try.pinned (OpenSpec.ofChange fnExactValidGraphSpec)

/-- ITS FALSE NEIGHBOUR: 'it returns false'. Refute it at one input. -/
def fnExactValidGraphWrong : ChangeSpec := { name := "fnExactValidGraph", fn := fun _ => fun
  | [d] => { results := [.lit (.bool false)], args := [d] }
  | _ => none }
def FnExactValidGraphWrongFalsely : Prop := fnExactValidGraphRow.holds Try.pinned (OpenSpec.ofChange fnExactValidGraphWrong)

/-- 'laws.FnExactValidFlag': WHATEVER THE INPUT: true; the input reads as it did. -/
def fnExactValidFlagSpec : ChangeSpec := { name := "fnExactValidFlag", fn := fun _ => fun
  | [d] => { results := [.lit (.bool true)], args := [d] }
  | _ => none }
def fnExactValidFlagRow : OpenClaim := { program := "ytijbdgijagmbfaa", sum := "3b2930f5c7885390d779db6760d8b8ca3b3aa8af3413b3d444e64b84f4de1d5c", func := "loop.example/g01169/laws.FnExactValidFlag", spec := "fnExactValidFlag", apart := false }
def FnExactValidFlagSaid : Prop := fnExactValidFlagRow.holds Try.pinned (OpenSpec.ofChange fnExactValidFlagSpec)

/-- ITS FALSE NEIGHBOUR: 'it returns false'. Refute it at one input. -/
def fnExactValidFlagWrong : ChangeSpec := { name := "fnExactValidFlag", fn := fun _ => fun
  | [d] => { results := [.lit (.bool false)], args := [d] }
  | _ => none }
def FnExactValidFlagWrongFalsely : Prop := fnExactValidFlagRow.holds Try.pinned (OpenSpec.ofChange fnExactValidFlagWrong)

/-- 'laws.FnExactValidFraction': WHATEVER THE INPUT: true; the input reads as it did. -/
def fnExactValidFractionSpec : ChangeSpec := { name := "fnExactValidFraction", fn := fun _ => fun
  | [d] => { results := [.lit (.bool true)], args := [d] }
  | _ => none }
def fnExactValidFractionRow : OpenClaim := { program := "ytijbdgijagmbfaa", sum := "3b2930f5c7885390d779db6760d8b8ca3b3aa8af3413b3d444e64b84f4de1d5c", func := "loop.example/g01169/laws.FnExactValidFraction", spec := "fnExactValidFraction", apart := false }
def FnExactValidFractionSaid : Prop := fnExactValidFractionRow.holds Try.pinned (OpenSpec.ofChange fnExactValidFractionSpec)

/-- ITS FALSE NEIGHBOUR: 'it returns false'. Refute it at one input. -/
def fnExactValidFractionWrong : ChangeSpec := { name := "fnExactValidFraction", fn := fun _ => fun
  | [d] => { results := [.lit (.bool false)], args := [d] }
  | _ => none }
def FnExactValidFractionWrongFalsely : Prop := fnExactValidFractionRow.holds Try.pinned (OpenSpec.ofChange fnExactValidFractionWrong)

/-- 'laws.FnExactSizeOf': WHATEVER THE INPUT: true; the input reads as it did. -/
def fnExactSizeOfSpec : ChangeSpec := { name := "fnExactSizeOf", fn := fun _ => fun
  | [d] => { results := [.lit (.bool true)], args := [d] }
  | _ => none }
def fnExactSizeOfRow : OpenClaim := { program := "ytijbdgijagmbfaa", sum := "3b2930f5c7885390d779db6760d8b8ca3b3aa8af3413b3d444e64b84f4de1d5c", func := "loop.example/g01169/laws.FnExactSizeOf", spec := "fnExactSizeOf", apart := false }
def FnExactSizeOfSaid : Prop := fnExactSizeOfRow.holds Try.pinned (OpenSpec.ofChange fnExactSizeOfSpec)

/-- ITS FALSE NEIGHBOUR: 'it returns false'. Refute it at one input. -/
def fnExactSizeOfWrong : ChangeSpec := { name := "fnExactSizeOf", fn := fun _ => fun
  | [d] => { results := [.lit (.bool false)], args := [d] }
  | _ => none }
def FnExactSizeOfWrongFalsely : Prop := fnExactSizeOfRow.holds Try.pinned (OpenSpec.ofChange fnExactSizeOfWrong)

/-- 'laws.FnExactHasEdge': WHATEVER THE INPUT: true; the input reads as it did. -/
def fnExactHasEdgeSpec : ChangeSpec := { name := "fnExactHasEdge", fn := fun _ => fun
  | [d1, d2, d3] => { results := [.lit (.bool true)], args := [d1, d2, d3] }
  | _ => none }
def fnExactHasEdgeRow : OpenClaim := { program := "ytijbdgijagmbfaa", sum := "3b2930f5c7885390d779db6760d8b8ca3b3aa8af3413b3d444e64b84f4de1d5c", func := "loop.example/g01169/laws.FnExactHasEdge", spec := "fnExactHasEdge", recurses := true, apart := false }
def FnExactHasEdgeSaid : Prop := fnExactHasEdgeRow.holds Try.pinned (OpenSpec.ofChange fnExactHasEdgeSpec)

/-- ITS FALSE NEIGHBOUR: 'it returns false'. Refute it at one input. -/
def fnExactHasEdgeWrong : ChangeSpec := { name := "fnExactHasEdge", fn := fun _ => fun
  | [d1, d2, d3] => { results := [.lit (.bool false)], args := [d1, d2, d3] }
  | _ => none }
def FnExactHasEdgeWrongFalsely : Prop := fnExactHasEdgeRow.holds Try.pinned (OpenSpec.ofChange fnExactHasEdgeWrong)

/-- 'laws.FnExactWithEdge': WHATEVER THE INPUT: true; the input reads as it did. -/
def fnExactWithEdgeSpec : ChangeSpec := { name := "fnExactWithEdge", fn := fun _ => fun
  | [d1, d2, d3, d4] => { results := [.lit (.bool true)], args := [d1, d2, d3, d4] }
  | _ => none }
def fnExactWithEdgeRow : OpenClaim := { program := "ytijbdgijagmbfaa", sum := "3b2930f5c7885390d779db6760d8b8ca3b3aa8af3413b3d444e64b84f4de1d5c", func := "loop.example/g01169/laws.FnExactWithEdge", spec := "fnExactWithEdge", recurses := true, apart := false }
def FnExactWithEdgeSaid : Prop := fnExactWithEdgeRow.holds Try.pinned (OpenSpec.ofChange fnExactWithEdgeSpec)

/-- ITS FALSE NEIGHBOUR: 'it returns false'. Refute it at one input. -/
def fnExactWithEdgeWrong : ChangeSpec := { name := "fnExactWithEdge", fn := fun _ => fun
  | [d1, d2, d3, d4] => { results := [.lit (.bool false)], args := [d1, d2, d3, d4] }
  | _ => none }
def FnExactWithEdgeWrongFalsely : Prop := fnExactWithEdgeRow.holds Try.pinned (OpenSpec.ofChange fnExactWithEdgeWrong)

/-- 'laws.FnExactCompareFractions': WHATEVER THE INPUT: true; the input reads as it did. -/
def fnExactCompareFractionsSpec : ChangeSpec := { name := "fnExactCompareFractions", fn := fun _ => fun
  | [d1, d2] => { results := [.lit (.bool true)], args := [d1, d2] }
  | _ => none }
def fnExactCompareFractionsRow : OpenClaim := { program := "ytijbdgijagmbfaa", sum := "3b2930f5c7885390d779db6760d8b8ca3b3aa8af3413b3d444e64b84f4de1d5c", func := "loop.example/g01169/laws.FnExactCompareFractions", spec := "fnExactCompareFractions", apart := false }
def FnExactCompareFractionsSaid : Prop := fnExactCompareFractionsRow.holds Try.pinned (OpenSpec.ofChange fnExactCompareFractionsSpec)

/-- ITS FALSE NEIGHBOUR: 'it returns false'. Refute it at one input. -/
def fnExactCompareFractionsWrong : ChangeSpec := { name := "fnExactCompareFractions", fn := fun _ => fun
  | [d1, d2] => { results := [.lit (.bool false)], args := [d1, d2] }
  | _ => none }
def FnExactCompareFractionsWrongFalsely : Prop := fnExactCompareFractionsRow.holds Try.pinned (OpenSpec.ofChange fnExactCompareFractionsWrong)

/-- 'laws.FnExactSameMatrix': WHATEVER THE INPUT: true; the input reads as it did. -/
def fnExactSameMatrixSpec : ChangeSpec := { name := "fnExactSameMatrix", fn := fun _ => fun
  | [d1, d2] => { results := [.lit (.bool true)], args := [d1, d2] }
  | _ => none }
def fnExactSameMatrixRow : OpenClaim := { program := "ytijbdgijagmbfaa", sum := "3b2930f5c7885390d779db6760d8b8ca3b3aa8af3413b3d444e64b84f4de1d5c", func := "loop.example/g01169/laws.FnExactSameMatrix", spec := "fnExactSameMatrix", unfollowed := true, recurses := true, apart := false }
def FnExactSameMatrixSaid : Prop := fnExactSameMatrixRow.holds Try.pinned (OpenSpec.ofChange fnExactSameMatrixSpec)

/-- ITS FALSE NEIGHBOUR: 'it returns false'. Refute it at one input. -/
def fnExactSameMatrixWrong : ChangeSpec := { name := "fnExactSameMatrix", fn := fun _ => fun
  | [d1, d2] => { results := [.lit (.bool false)], args := [d1, d2] }
  | _ => none }
def FnExactSameMatrixWrongFalsely : Prop := fnExactSameMatrixRow.holds Try.pinned (OpenSpec.ofChange fnExactSameMatrixWrong)

/-- 'laws.FnExactUnitMatrix': WHATEVER THE INPUT: true; the input reads as it did. -/
def fnExactUnitMatrixSpec : ChangeSpec := { name := "fnExactUnitMatrix", fn := fun _ => fun
  | [d] => { results := [.lit (.bool true)], args := [d] }
  | _ => none }
def fnExactUnitMatrixRow : OpenClaim := { program := "ytijbdgijagmbfaa", sum := "3b2930f5c7885390d779db6760d8b8ca3b3aa8af3413b3d444e64b84f4de1d5c", func := "loop.example/g01169/laws.FnExactUnitMatrix", spec := "fnExactUnitMatrix", unfollowed := true, recurses := true, apart := false }
def FnExactUnitMatrixSaid : Prop := fnExactUnitMatrixRow.holds Try.pinned (OpenSpec.ofChange fnExactUnitMatrixSpec)

/-- ITS FALSE NEIGHBOUR: 'it returns false'. Refute it at one input. -/
def fnExactUnitMatrixWrong : ChangeSpec := { name := "fnExactUnitMatrix", fn := fun _ => fun
  | [d] => { results := [.lit (.bool false)], args := [d] }
  | _ => none }
def FnExactUnitMatrixWrongFalsely : Prop := fnExactUnitMatrixRow.holds Try.pinned (OpenSpec.ofChange fnExactUnitMatrixWrong)

/-- 'laws.FnExactValidMatrix': WHATEVER THE INPUT: true; the input reads as it did. -/
def fnExactValidMatrixSpec : ChangeSpec := { name := "fnExactValidMatrix", fn := fun _ => fun
  | [d] => { results := [.lit (.bool true)], args := [d] }
  | _ => none }
def fnExactValidMatrixRow : OpenClaim := { program := "ytijbdgijagmbfaa", sum := "3b2930f5c7885390d779db6760d8b8ca3b3aa8af3413b3d444e64b84f4de1d5c", func := "loop.example/g01169/laws.FnExactValidMatrix", spec := "fnExactValidMatrix", unfollowed := true, recurses := true, apart := false }
def FnExactValidMatrixSaid : Prop := fnExactValidMatrixRow.holds Try.pinned (OpenSpec.ofChange fnExactValidMatrixSpec)

/-- ITS FALSE NEIGHBOUR: 'it returns false'. Refute it at one input. -/
def fnExactValidMatrixWrong : ChangeSpec := { name := "fnExactValidMatrix", fn := fun _ => fun
  | [d] => { results := [.lit (.bool false)], args := [d] }
  | _ => none }
def FnExactValidMatrixWrongFalsely : Prop := fnExactValidMatrixRow.holds Try.pinned (OpenSpec.ofChange fnExactValidMatrixWrong)

/- THE SECOND FORM. 'bulk': how many values and letters a reading holds, each counted each time it is reached (what is shared counts as often as it is met; a slice's spare places count too). A statement '..UptoSaid' is the law's where the arguments, and the package variables that the reading takes, are together of bulk at most 1048576: NARROWER than '..Said'. Prove '..Said' where nothing that the law and all that it calls make is longer than what came in: it says more and counts as full. Else prove '..UptoSaid'. A law counts once. -/
mutual
def uptoBulk {H : Type} : DataW H → Nat
  | .lit (.string bytes) => bytes.length + 1
  | .lit _ => 1
  | .nil => 1
  | .ptr d => uptoBulk d + 1
  | .slice elems spare => uptoBulkAll elems + uptoBulkAll spare + 1
  | .agg parts => uptoBulkAll parts + 1
  | .iface _ d => uptoBulk d + 1
  | .map entries => uptoBulkEntries entries + 1
  | .held _ => 1
def uptoBulkAll {H : Type} : List (DataW H) → Nat
  | [] => 0
  | d :: r => uptoBulk d + uptoBulkAll r
def uptoBulkEntries {H : Type} : List (Lit × DataW H) → Nat
  | [] => 0
  | x :: r => uptoBulkEntry x + uptoBulkEntries r
def uptoBulkEntry {H : Type} : Lit × DataW H → Nat
  | (.string bytes, d) => bytes.length + uptoBulk d + 1
  | (_, d) => uptoBulk d + 1
 end
def uptoSmall : (H : Type) → List (DataW H) → Bool := fun _ ds => decide (uptoBulkAll ds ≤ 1048576)
def OpenSpec.upto (s : _root_.Go.ChangeSpec) : _root_.Go.OpenSpec := { _root_.Go.OpenSpec.ofChange s with cond := some uptoSmall }

/-- 'laws.FnExactConstants', WHERE WHAT IT READS IS OF BULK AT MOST 1048576: true; the input reads as it did. -/
def fnExactConstantsUptoRow : OpenClaim := { program := "ytijbdgijagmbfaa", sum := "3b2930f5c7885390d779db6760d8b8ca3b3aa8af3413b3d444e64b84f4de1d5c", func := "loop.example/g01169/laws.FnExactConstants", spec := "fnExactConstants", apart := false, narrowed := true }
def FnExactConstantsUptoSaid : Prop := fnExactConstantsUptoRow.holds Try.pinned (OpenSpec.upto fnExactConstantsSpec)

/-- 'laws.FnExactCodeName', WHERE WHAT IT READS IS OF BULK AT MOST 1048576: true; the input reads as it did. -/
def fnExactCodeNameUptoRow : OpenClaim := { program := "ytijbdgijagmbfaa", sum := "3b2930f5c7885390d779db6760d8b8ca3b3aa8af3413b3d444e64b84f4de1d5c", func := "loop.example/g01169/laws.FnExactCodeName", spec := "fnExactCodeName", apart := false, narrowed := true }
def FnExactCodeNameUptoSaid : Prop := fnExactCodeNameUptoRow.holds Try.pinned (OpenSpec.upto fnExactCodeNameSpec)

/-- 'laws.FnExactValidGraph', WHERE WHAT IT READS IS OF BULK AT MOST 1048576: true; the input reads as it did. -/
def fnExactValidGraphUptoRow : OpenClaim := { program := "ytijbdgijagmbfaa", sum := "3b2930f5c7885390d779db6760d8b8ca3b3aa8af3413b3d444e64b84f4de1d5c", func := "loop.example/g01169/laws.FnExactValidGraph", spec := "fnExactValidGraph", apart := false, narrowed := true }
def FnExactValidGraphUptoSaid : Prop := fnExactValidGraphUptoRow.holds Try.pinned (OpenSpec.upto fnExactValidGraphSpec)

/-- 'laws.FnExactValidFlag', WHERE WHAT IT READS IS OF BULK AT MOST 1048576: true; the input reads as it did. -/
def fnExactValidFlagUptoRow : OpenClaim := { program := "ytijbdgijagmbfaa", sum := "3b2930f5c7885390d779db6760d8b8ca3b3aa8af3413b3d444e64b84f4de1d5c", func := "loop.example/g01169/laws.FnExactValidFlag", spec := "fnExactValidFlag", apart := false, narrowed := true }
def FnExactValidFlagUptoSaid : Prop := fnExactValidFlagUptoRow.holds Try.pinned (OpenSpec.upto fnExactValidFlagSpec)

/-- 'laws.FnExactValidFraction', WHERE WHAT IT READS IS OF BULK AT MOST 1048576: true; the input reads as it did. -/
def fnExactValidFractionUptoRow : OpenClaim := { program := "ytijbdgijagmbfaa", sum := "3b2930f5c7885390d779db6760d8b8ca3b3aa8af3413b3d444e64b84f4de1d5c", func := "loop.example/g01169/laws.FnExactValidFraction", spec := "fnExactValidFraction", apart := false, narrowed := true }
def FnExactValidFractionUptoSaid : Prop := fnExactValidFractionUptoRow.holds Try.pinned (OpenSpec.upto fnExactValidFractionSpec)

/-- 'laws.FnExactSizeOf', WHERE WHAT IT READS IS OF BULK AT MOST 1048576: true; the input reads as it did. -/
def fnExactSizeOfUptoRow : OpenClaim := { program := "ytijbdgijagmbfaa", sum := "3b2930f5c7885390d779db6760d8b8ca3b3aa8af3413b3d444e64b84f4de1d5c", func := "loop.example/g01169/laws.FnExactSizeOf", spec := "fnExactSizeOf", apart := false, narrowed := true }
def FnExactSizeOfUptoSaid : Prop := fnExactSizeOfUptoRow.holds Try.pinned (OpenSpec.upto fnExactSizeOfSpec)

/-- 'laws.FnExactHasEdge', WHERE WHAT IT READS IS OF BULK AT MOST 1048576: true; the input reads as it did. -/
def fnExactHasEdgeUptoRow : OpenClaim := { program := "ytijbdgijagmbfaa", sum := "3b2930f5c7885390d779db6760d8b8ca3b3aa8af3413b3d444e64b84f4de1d5c", func := "loop.example/g01169/laws.FnExactHasEdge", spec := "fnExactHasEdge", recurses := true, apart := false, narrowed := true }
def FnExactHasEdgeUptoSaid : Prop := fnExactHasEdgeUptoRow.holds Try.pinned (OpenSpec.upto fnExactHasEdgeSpec)

/-- 'laws.FnExactWithEdge', WHERE WHAT IT READS IS OF BULK AT MOST 1048576: true; the input reads as it did. -/
def fnExactWithEdgeUptoRow : OpenClaim := { program := "ytijbdgijagmbfaa", sum := "3b2930f5c7885390d779db6760d8b8ca3b3aa8af3413b3d444e64b84f4de1d5c", func := "loop.example/g01169/laws.FnExactWithEdge", spec := "fnExactWithEdge", recurses := true, apart := false, narrowed := true }
def FnExactWithEdgeUptoSaid : Prop := fnExactWithEdgeUptoRow.holds Try.pinned (OpenSpec.upto fnExactWithEdgeSpec)

/-- 'laws.FnExactCompareFractions', WHERE WHAT IT READS IS OF BULK AT MOST 1048576: true; the input reads as it did. -/
def fnExactCompareFractionsUptoRow : OpenClaim := { program := "ytijbdgijagmbfaa", sum := "3b2930f5c7885390d779db6760d8b8ca3b3aa8af3413b3d444e64b84f4de1d5c", func := "loop.example/g01169/laws.FnExactCompareFractions", spec := "fnExactCompareFractions", apart := false, narrowed := true }
def FnExactCompareFractionsUptoSaid : Prop := fnExactCompareFractionsUptoRow.holds Try.pinned (OpenSpec.upto fnExactCompareFractionsSpec)

/-- 'laws.FnExactSameMatrix', WHERE WHAT IT READS IS OF BULK AT MOST 1048576: true; the input reads as it did. -/
def fnExactSameMatrixUptoRow : OpenClaim := { program := "ytijbdgijagmbfaa", sum := "3b2930f5c7885390d779db6760d8b8ca3b3aa8af3413b3d444e64b84f4de1d5c", func := "loop.example/g01169/laws.FnExactSameMatrix", spec := "fnExactSameMatrix", unfollowed := true, recurses := true, apart := false, narrowed := true }
def FnExactSameMatrixUptoSaid : Prop := fnExactSameMatrixUptoRow.holds Try.pinned (OpenSpec.upto fnExactSameMatrixSpec)

/-- 'laws.FnExactUnitMatrix', WHERE WHAT IT READS IS OF BULK AT MOST 1048576: true; the input reads as it did. -/
def fnExactUnitMatrixUptoRow : OpenClaim := { program := "ytijbdgijagmbfaa", sum := "3b2930f5c7885390d779db6760d8b8ca3b3aa8af3413b3d444e64b84f4de1d5c", func := "loop.example/g01169/laws.FnExactUnitMatrix", spec := "fnExactUnitMatrix", unfollowed := true, recurses := true, apart := false, narrowed := true }
def FnExactUnitMatrixUptoSaid : Prop := fnExactUnitMatrixUptoRow.holds Try.pinned (OpenSpec.upto fnExactUnitMatrixSpec)

/-- 'laws.FnExactValidMatrix', WHERE WHAT IT READS IS OF BULK AT MOST 1048576: true; the input reads as it did. -/
def fnExactValidMatrixUptoRow : OpenClaim := { program := "ytijbdgijagmbfaa", sum := "3b2930f5c7885390d779db6760d8b8ca3b3aa8af3413b3d444e64b84f4de1d5c", func := "loop.example/g01169/laws.FnExactValidMatrix", spec := "fnExactValidMatrix", unfollowed := true, recurses := true, apart := false, narrowed := true }
def FnExactValidMatrixUptoSaid : Prop := fnExactValidMatrixUptoRow.holds Try.pinned (OpenSpec.upto fnExactValidMatrixSpec)

end Rows
end Go.Proofs.Ytijbdgijagmbfaa
