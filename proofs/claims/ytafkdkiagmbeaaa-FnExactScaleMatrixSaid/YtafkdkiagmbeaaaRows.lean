/-
  No cell of these rows narrows 'for every input' (looked for: loops, veiled, ifaces, maps, wideKeys, modest, calm, conditions, laid).
  DERIVED. THE GIVEN ROWS OF THIS SEAT. 12 by the template 'for every input the law returns true; each argument reads behind the call as it read before'; 0 by the template 'total and deterministic' (their statements: YtafkdkiagmbeaaaTotals.lean).
  GIVEN WITH THE SEED: the statements are not yours to turn. If you find one false, say at which input.
  Laid BY PROGRAM, IN A SANDBOX (cutbox-rows.mjs): the forced cells as the released guide's own fill.sh prints them over the translation ebe08f993642120c… (all of the seat's roots in one cut). By AI agents, Wed Nov 11 2026. No macro, syntax, notation, axiom, sorry.
-/
import Derived.Test.YtafkdkiagmbeaaaChecked
import GoSem.Claim
import GoSem.ClaimJoined
import GoSem.ClaimMapViews
import Derived.JoinedTies
import Derived.KernelRfl
namespace Go.Proofs.Ytafkdkiagmbeaaa
/- THE CELL 'sum', in the pinned program and in every row, IS THE sha256 OF THE DUMP (.gsa) THAT YtafkdkiagmbeaaaProg.lean LOADS. Nothing in Lean hashes anything: it is a label: what it is worth is what the hold of that sum in a sandbox is worth. -/
noncomputable def Try.pinned : Pinned := { name := "ytafkdkiagmbeaaa", sum := "ebe08f993642120c96c8f48975a175543e73be0b8b44df2cffe3d8e4ade4df8b", checked := Try.checked }
namespace Rows
def none {H : Type} : Left H := { results := [], args := [] }

/-- 'laws.FnExactSquareMatrix': WHATEVER THE INPUT: true; the input reads as it did. -/
def fnExactSquareMatrixSpec : ChangeSpec := { name := "fnExactSquareMatrix", fn := fun _ => fun
  | [d] => { results := [.lit (.bool true)], args := [d] }
  | _ => none }
def fnExactSquareMatrixRow : OpenClaim := { program := "ytafkdkiagmbeaaa", sum := "ebe08f993642120c96c8f48975a175543e73be0b8b44df2cffe3d8e4ade4df8b", func := "loop.example/g01169/laws.FnExactSquareMatrix", spec := "fnExactSquareMatrix", unfollowed := true, recurses := true, apart := false }
def FnExactSquareMatrixSaid : Prop := fnExactSquareMatrixRow.holds Try.pinned (OpenSpec.ofChange fnExactSquareMatrixSpec)

/-- ITS FALSE NEIGHBOUR: 'it returns false'. Refute it at one input. -/
def fnExactSquareMatrixWrong : ChangeSpec := { name := "fnExactSquareMatrix", fn := fun _ => fun
  | [d] => { results := [.lit (.bool false)], args := [d] }
  | _ => none }
def FnExactSquareMatrixWrongFalsely : Prop := fnExactSquareMatrixRow.holds Try.pinned (OpenSpec.ofChange fnExactSquareMatrixWrong)

/-- 'laws.FnExactScaleMatrix': WHATEVER THE INPUT: true; the input reads as it did. -/
def fnExactScaleMatrixSpec : ChangeSpec := { name := "fnExactScaleMatrix", fn := fun _ => fun
  | [d1, d2] => { results := [.lit (.bool true)], args := [d1, d2] }
  | _ => none }
def fnExactScaleMatrixRow : OpenClaim := { program := "ytafkdkiagmbeaaa", sum := "ebe08f993642120c96c8f48975a175543e73be0b8b44df2cffe3d8e4ade4df8b", func := "loop.example/g01169/laws.FnExactScaleMatrix", spec := "fnExactScaleMatrix", unfollowed := true, recurses := true, apart := false }
def FnExactScaleMatrixSaid : Prop := fnExactScaleMatrixRow.holds Try.pinned (OpenSpec.ofChange fnExactScaleMatrixSpec)

/-- ITS FALSE NEIGHBOUR: 'it returns false'. Refute it at one input. -/
def fnExactScaleMatrixWrong : ChangeSpec := { name := "fnExactScaleMatrix", fn := fun _ => fun
  | [d1, d2] => { results := [.lit (.bool false)], args := [d1, d2] }
  | _ => none }
def FnExactScaleMatrixWrongFalsely : Prop := fnExactScaleMatrixRow.holds Try.pinned (OpenSpec.ofChange fnExactScaleMatrixWrong)

/-- 'laws.FnExactPlainFlag': WHATEVER THE INPUT: true; the input reads as it did. -/
def fnExactPlainFlagSpec : ChangeSpec := { name := "fnExactPlainFlag", fn := fun _ => fun
  | [d] => { results := [.lit (.bool true)], args := [d] }
  | _ => none }
def fnExactPlainFlagRow : OpenClaim := { program := "ytafkdkiagmbeaaa", sum := "ebe08f993642120c96c8f48975a175543e73be0b8b44df2cffe3d8e4ade4df8b", func := "loop.example/g01169/laws.FnExactPlainFlag", spec := "fnExactPlainFlag", unfollowed := true, recurses := true, apart := false }
def FnExactPlainFlagSaid : Prop := fnExactPlainFlagRow.holds Try.pinned (OpenSpec.ofChange fnExactPlainFlagSpec)

/-- ITS FALSE NEIGHBOUR: 'it returns false'. Refute it at one input. -/
def fnExactPlainFlagWrong : ChangeSpec := { name := "fnExactPlainFlag", fn := fun _ => fun
  | [d] => { results := [.lit (.bool false)], args := [d] }
  | _ => none }
def FnExactPlainFlagWrongFalsely : Prop := fnExactPlainFlagRow.holds Try.pinned (OpenSpec.ofChange fnExactPlainFlagWrong)

/-- 'laws.FnExactFlagOf': WHATEVER THE INPUT: true; the input reads as it did. -/
def fnExactFlagOfSpec : ChangeSpec := { name := "fnExactFlagOf", fn := fun _ => fun
  | [d1, d2] => { results := [.lit (.bool true)], args := [d1, d2] }
  | _ => none }
def fnExactFlagOfRow : OpenClaim := { program := "ytafkdkiagmbeaaa", sum := "ebe08f993642120c96c8f48975a175543e73be0b8b44df2cffe3d8e4ade4df8b", func := "loop.example/g01169/laws.FnExactFlagOf", spec := "fnExactFlagOf", unfollowed := true, recurses := true, apart := false }
def FnExactFlagOfSaid : Prop := fnExactFlagOfRow.holds Try.pinned (OpenSpec.ofChange fnExactFlagOfSpec)

/-- ITS FALSE NEIGHBOUR: 'it returns false'. Refute it at one input. -/
def fnExactFlagOfWrong : ChangeSpec := { name := "fnExactFlagOf", fn := fun _ => fun
  | [d1, d2] => { results := [.lit (.bool false)], args := [d1, d2] }
  | _ => none }
def FnExactFlagOfWrongFalsely : Prop := fnExactFlagOfRow.holds Try.pinned (OpenSpec.ofChange fnExactFlagOfWrong)

/-- 'laws.FnExactHasPart': WHATEVER THE INPUT: true; the input reads as it did. -/
def fnExactHasPartSpec : ChangeSpec := { name := "fnExactHasPart", fn := fun _ => fun
  | [d1, d2] => { results := [.lit (.bool true)], args := [d1, d2] }
  | _ => none }
def fnExactHasPartRow : OpenClaim := { program := "ytafkdkiagmbeaaa", sum := "ebe08f993642120c96c8f48975a175543e73be0b8b44df2cffe3d8e4ade4df8b", func := "loop.example/g01169/laws.FnExactHasPart", spec := "fnExactHasPart", unfollowed := true, recurses := true, apart := false }
def FnExactHasPartSaid : Prop := fnExactHasPartRow.holds Try.pinned (OpenSpec.ofChange fnExactHasPartSpec)

/-- ITS FALSE NEIGHBOUR: 'it returns false'. Refute it at one input. -/
def fnExactHasPartWrong : ChangeSpec := { name := "fnExactHasPart", fn := fun _ => fun
  | [d1, d2] => { results := [.lit (.bool false)], args := [d1, d2] }
  | _ => none }
def FnExactHasPartWrongFalsely : Prop := fnExactHasPartRow.holds Try.pinned (OpenSpec.ofChange fnExactHasPartWrong)

/-- 'laws.FnExactIsFree': WHATEVER THE INPUT: true; the input reads as it did. -/
def fnExactIsFreeSpec : ChangeSpec := { name := "fnExactIsFree", fn := fun _ => fun
  | [d1, d2] => { results := [.lit (.bool true)], args := [d1, d2] }
  | _ => none }
def fnExactIsFreeRow : OpenClaim := { program := "ytafkdkiagmbeaaa", sum := "ebe08f993642120c96c8f48975a175543e73be0b8b44df2cffe3d8e4ade4df8b", func := "loop.example/g01169/laws.FnExactIsFree", spec := "fnExactIsFree", unfollowed := true, recurses := true, apart := false }
def FnExactIsFreeSaid : Prop := fnExactIsFreeRow.holds Try.pinned (OpenSpec.ofChange fnExactIsFreeSpec)

/-- ITS FALSE NEIGHBOUR: 'it returns false'. Refute it at one input. -/
def fnExactIsFreeWrong : ChangeSpec := { name := "fnExactIsFree", fn := fun _ => fun
  | [d1, d2] => { results := [.lit (.bool false)], args := [d1, d2] }
  | _ => none }
def FnExactIsFreeWrongFalsely : Prop := fnExactIsFreeRow.holds Try.pinned (OpenSpec.ofChange fnExactIsFreeWrong)

/-- 'laws.FnExactCountSelf': WHATEVER THE INPUT: true; the input reads as it did. -/
def fnExactCountSelfSpec : ChangeSpec := { name := "fnExactCountSelf", fn := fun _ => fun
  | [d] => { results := [.lit (.bool true)], args := [d] }
  | _ => none }
def fnExactCountSelfRow : OpenClaim := { program := "ytafkdkiagmbeaaa", sum := "ebe08f993642120c96c8f48975a175543e73be0b8b44df2cffe3d8e4ade4df8b", func := "loop.example/g01169/laws.FnExactCountSelf", spec := "fnExactCountSelf", unfollowed := true, recurses := true, apart := false }
def FnExactCountSelfSaid : Prop := fnExactCountSelfRow.holds Try.pinned (OpenSpec.ofChange fnExactCountSelfSpec)

/-- ITS FALSE NEIGHBOUR: 'it returns false'. Refute it at one input. -/
def fnExactCountSelfWrong : ChangeSpec := { name := "fnExactCountSelf", fn := fun _ => fun
  | [d] => { results := [.lit (.bool false)], args := [d] }
  | _ => none }
def FnExactCountSelfWrongFalsely : Prop := fnExactCountSelfRow.holds Try.pinned (OpenSpec.ofChange fnExactCountSelfWrong)

/-- 'laws.FnExactAreAlike': WHATEVER THE INPUT: true; the input reads as it did. -/
def fnExactAreAlikeSpec : ChangeSpec := { name := "fnExactAreAlike", fn := fun _ => fun
  | [d1, d2] => { results := [.lit (.bool true)], args := [d1, d2] }
  | _ => none }
def fnExactAreAlikeRow : OpenClaim := { program := "ytafkdkiagmbeaaa", sum := "ebe08f993642120c96c8f48975a175543e73be0b8b44df2cffe3d8e4ade4df8b", func := "loop.example/g01169/laws.FnExactAreAlike", spec := "fnExactAreAlike", unfollowed := true, recurses := true, apart := false }
def FnExactAreAlikeSaid : Prop := fnExactAreAlikeRow.holds Try.pinned (OpenSpec.ofChange fnExactAreAlikeSpec)

/-- ITS FALSE NEIGHBOUR: 'it returns false'. Refute it at one input. -/
def fnExactAreAlikeWrong : ChangeSpec := { name := "fnExactAreAlike", fn := fun _ => fun
  | [d1, d2] => { results := [.lit (.bool false)], args := [d1, d2] }
  | _ => none }
def FnExactAreAlikeWrongFalsely : Prop := fnExactAreAlikeRow.holds Try.pinned (OpenSpec.ofChange fnExactAreAlikeWrong)

/-- 'laws.FnExactLeastGraph': WHATEVER THE INPUT: true; the input reads as it did. -/
def fnExactLeastGraphSpec : ChangeSpec := { name := "fnExactLeastGraph", fn := fun _ => fun
  | [d] => { results := [.lit (.bool true)], args := [d] }
  | _ => none }
def fnExactLeastGraphRow : OpenClaim := { program := "ytafkdkiagmbeaaa", sum := "ebe08f993642120c96c8f48975a175543e73be0b8b44df2cffe3d8e4ade4df8b", func := "loop.example/g01169/laws.FnExactLeastGraph", spec := "fnExactLeastGraph", unfollowed := true, recurses := true, apart := false }
def FnExactLeastGraphSaid : Prop := fnExactLeastGraphRow.holds Try.pinned (OpenSpec.ofChange fnExactLeastGraphSpec)

/-- ITS FALSE NEIGHBOUR: 'it returns false'. Refute it at one input. -/
def fnExactLeastGraphWrong : ChangeSpec := { name := "fnExactLeastGraph", fn := fun _ => fun
  | [d] => { results := [.lit (.bool false)], args := [d] }
  | _ => none }
def FnExactLeastGraphWrongFalsely : Prop := fnExactLeastGraphRow.holds Try.pinned (OpenSpec.ofChange fnExactLeastGraphWrong)

/-- 'laws.FnExactCountSelfFlag': WHATEVER THE INPUT: true; the input reads as it did. -/
def fnExactCountSelfFlagSpec : ChangeSpec := { name := "fnExactCountSelfFlag", fn := fun _ => fun
  | [d] => { results := [.lit (.bool true)], args := [d] }
  | _ => none }
def fnExactCountSelfFlagRow : OpenClaim := { program := "ytafkdkiagmbeaaa", sum := "ebe08f993642120c96c8f48975a175543e73be0b8b44df2cffe3d8e4ade4df8b", func := "loop.example/g01169/laws.FnExactCountSelfFlag", spec := "fnExactCountSelfFlag", unfollowed := true, recurses := true, apart := false }
def FnExactCountSelfFlagSaid : Prop := fnExactCountSelfFlagRow.holds Try.pinned (OpenSpec.ofChange fnExactCountSelfFlagSpec)

/-- ITS FALSE NEIGHBOUR: 'it returns false'. Refute it at one input. -/
def fnExactCountSelfFlagWrong : ChangeSpec := { name := "fnExactCountSelfFlag", fn := fun _ => fun
  | [d] => { results := [.lit (.bool false)], args := [d] }
  | _ => none }
def FnExactCountSelfFlagWrongFalsely : Prop := fnExactCountSelfFlagRow.holds Try.pinned (OpenSpec.ofChange fnExactCountSelfFlagWrong)

/-- 'laws.FnExactAreAlikeFlags': WHATEVER THE INPUT: true; the input reads as it did. -/
def fnExactAreAlikeFlagsSpec : ChangeSpec := { name := "fnExactAreAlikeFlags", fn := fun _ => fun
  | [d1, d2] => { results := [.lit (.bool true)], args := [d1, d2] }
  | _ => none }
def fnExactAreAlikeFlagsRow : OpenClaim := { program := "ytafkdkiagmbeaaa", sum := "ebe08f993642120c96c8f48975a175543e73be0b8b44df2cffe3d8e4ade4df8b", func := "loop.example/g01169/laws.FnExactAreAlikeFlags", spec := "fnExactAreAlikeFlags", unfollowed := true, recurses := true, apart := false }
def FnExactAreAlikeFlagsSaid : Prop := fnExactAreAlikeFlagsRow.holds Try.pinned (OpenSpec.ofChange fnExactAreAlikeFlagsSpec)

/-- ITS FALSE NEIGHBOUR: 'it returns false'. Refute it at one input. -/
def fnExactAreAlikeFlagsWrong : ChangeSpec := { name := "fnExactAreAlikeFlags", fn := fun _ => fun
  | [d1, d2] => { results := [.lit (.bool false)], args := [d1, d2] }
  | _ => none }
def FnExactAreAlikeFlagsWrongFalsely : Prop := fnExactAreAlikeFlagsRow.holds Try.pinned (OpenSpec.ofChange fnExactAreAlikeFlagsWrong)

/-- 'laws.FnExactLeastFlag': WHATEVER THE INPUT: true; the input reads as it did. -/
def fnExactLeastFlagSpec : ChangeSpec := { name := "fnExactLeastFlag", fn := fun _ => fun
  | [d] => { results := [.lit (.bool true)], args := [d] }
  | _ => none }
def fnExactLeastFlagRow : OpenClaim := { program := "ytafkdkiagmbeaaa", sum := "ebe08f993642120c96c8f48975a175543e73be0b8b44df2cffe3d8e4ade4df8b", func := "loop.example/g01169/laws.FnExactLeastFlag", spec := "fnExactLeastFlag", unfollowed := true, recurses := true, apart := false }
def FnExactLeastFlagSaid : Prop := fnExactLeastFlagRow.holds Try.pinned (OpenSpec.ofChange fnExactLeastFlagSpec)

/-- ITS FALSE NEIGHBOUR: 'it returns false'. Refute it at one input. -/
def fnExactLeastFlagWrong : ChangeSpec := { name := "fnExactLeastFlag", fn := fun _ => fun
  | [d] => { results := [.lit (.bool false)], args := [d] }
  | _ => none }
def FnExactLeastFlagWrongFalsely : Prop := fnExactLeastFlagRow.holds Try.pinned (OpenSpec.ofChange fnExactLeastFlagWrong)

/- THE SECOND FORM. 'bulk': how many values and letters a reading holds, each counted each time it is reached (what is shared counts as often as it is met; a slice's spare places count too). A statement '..UptoSaid' is the law's where the arguments, and the package variables that the reading takes, are together of bulk at most 1048576: NARROWER than '..Said'. Prove '..Said' where nothing that the law and all that it calls make is longer than what came in: it says more and counts as full. Else prove '..UptoSaid'. A law counts once. -/
mutual
def uptoBulk {H : Type} : DataW H → Nat
  | .lit (.string bytes) => bytes.length + 1
  | .lit _ => 1
  | .nil => 1
  | .ptr d => uptoBulk d + 1
  | .slice elems spare => uptoBulkAll elems + uptoBulkAll spare + 1
  | .agg parts => uptoBulkAll parts + 1
  | .iface _ d => uptoBulk d + 1
  | .map entries => uptoBulkEntries entries + 1
  | .held _ => 1
def uptoBulkAll {H : Type} : List (DataW H) → Nat
  | [] => 0
  | d :: r => uptoBulk d + uptoBulkAll r
def uptoBulkEntries {H : Type} : List (Lit × DataW H) → Nat
  | [] => 0
  | x :: r => uptoBulkEntry x + uptoBulkEntries r
def uptoBulkEntry {H : Type} : Lit × DataW H → Nat
  | (.string bytes, d) => bytes.length + uptoBulk d + 1
  | (_, d) => uptoBulk d + 1
 end
def uptoSmall : (H : Type) → List (DataW H) → Bool := fun _ ds => decide (uptoBulkAll ds ≤ 1048576)
def OpenSpec.upto (s : _root_.Go.ChangeSpec) : _root_.Go.OpenSpec := { _root_.Go.OpenSpec.ofChange s with cond := some uptoSmall }

/-- 'laws.FnExactSquareMatrix', WHERE WHAT IT READS IS OF BULK AT MOST 1048576: true; the input reads as it did. -/
def fnExactSquareMatrixUptoRow : OpenClaim := { program := "ytafkdkiagmbeaaa", sum := "ebe08f993642120c96c8f48975a175543e73be0b8b44df2cffe3d8e4ade4df8b", func := "loop.example/g01169/laws.FnExactSquareMatrix", spec := "fnExactSquareMatrix", unfollowed := true, recurses := true, apart := false, narrowed := true }
def FnExactSquareMatrixUptoSaid : Prop := fnExactSquareMatrixUptoRow.holds Try.pinned (OpenSpec.upto fnExactSquareMatrixSpec)

/-- 'laws.FnExactScaleMatrix', WHERE WHAT IT READS IS OF BULK AT MOST 1048576: true; the input reads as it did. -/
def fnExactScaleMatrixUptoRow : OpenClaim := { program := "ytafkdkiagmbeaaa", sum := "ebe08f993642120c96c8f48975a175543e73be0b8b44df2cffe3d8e4ade4df8b", func := "loop.example/g01169/laws.FnExactScaleMatrix", spec := "fnExactScaleMatrix", unfollowed := true, recurses := true, apart := false, narrowed := true }
def FnExactScaleMatrixUptoSaid : Prop := fnExactScaleMatrixUptoRow.holds Try.pinned (OpenSpec.upto fnExactScaleMatrixSpec)

/-- 'laws.FnExactPlainFlag', WHERE WHAT IT READS IS OF BULK AT MOST 1048576: true; the input reads as it did. -/
def fnExactPlainFlagUptoRow : OpenClaim := { program := "ytafkdkiagmbeaaa", sum := "ebe08f993642120c96c8f48975a175543e73be0b8b44df2cffe3d8e4ade4df8b", func := "loop.example/g01169/laws.FnExactPlainFlag", spec := "fnExactPlainFlag", unfollowed := true, recurses := true, apart := false, narrowed := true }
def FnExactPlainFlagUptoSaid : Prop := fnExactPlainFlagUptoRow.holds Try.pinned (OpenSpec.upto fnExactPlainFlagSpec)

/-- 'laws.FnExactFlagOf', WHERE WHAT IT READS IS OF BULK AT MOST 1048576: true; the input reads as it did. -/
def fnExactFlagOfUptoRow : OpenClaim := { program := "ytafkdkiagmbeaaa", sum := "ebe08f993642120c96c8f48975a175543e73be0b8b44df2cffe3d8e4ade4df8b", func := "loop.example/g01169/laws.FnExactFlagOf", spec := "fnExactFlagOf", unfollowed := true, recurses := true, apart := false, narrowed := true }
def FnExactFlagOfUptoSaid : Prop := fnExactFlagOfUptoRow.holds Try.pinned (OpenSpec.upto fnExactFlagOfSpec)

/-- 'laws.FnExactHasPart', WHERE WHAT IT READS IS OF BULK AT MOST 1048576: true; the input reads as it did. -/
def fnExactHasPartUptoRow : OpenClaim := { program := "ytafkdkiagmbeaaa", sum := "ebe08f993642120c96c8f48975a175543e73be0b8b44df2cffe3d8e4ade4df8b", func := "loop.example/g01169/laws.FnExactHasPart", spec := "fnExactHasPart", unfollowed := true, recurses := true, apart := false, narrowed := true }
def FnExactHasPartUptoSaid : Prop := fnExactHasPartUptoRow.holds Try.pinned (OpenSpec.upto fnExactHasPartSpec)

/-- 'laws.FnExactIsFree', WHERE WHAT IT READS IS OF BULK AT MOST 1048576: true; the input reads as it did. -/
def fnExactIsFreeUptoRow : OpenClaim := { program := "ytafkdkiagmbeaaa", sum := "ebe08f993642120c96c8f48975a175543e73be0b8b44df2cffe3d8e4ade4df8b", func := "loop.example/g01169/laws.FnExactIsFree", spec := "fnExactIsFree", unfollowed := true, recurses := true, apart := false, narrowed := true }
def FnExactIsFreeUptoSaid : Prop := fnExactIsFreeUptoRow.holds Try.pinned (OpenSpec.upto fnExactIsFreeSpec)

/-- 'laws.FnExactCountSelf', WHERE WHAT IT READS IS OF BULK AT MOST 1048576: true; the input reads as it did. -/
def fnExactCountSelfUptoRow : OpenClaim := { program := "ytafkdkiagmbeaaa", sum := "ebe08f993642120c96c8f48975a175543e73be0b8b44df2cffe3d8e4ade4df8b", func := "loop.example/g01169/laws.FnExactCountSelf", spec := "fnExactCountSelf", unfollowed := true, recurses := true, apart := false, narrowed := true }
def FnExactCountSelfUptoSaid : Prop := fnExactCountSelfUptoRow.holds Try.pinned (OpenSpec.upto fnExactCountSelfSpec)

/-- 'laws.FnExactAreAlike', WHERE WHAT IT READS IS OF BULK AT MOST 1048576: true; the input reads as it did. -/
def fnExactAreAlikeUptoRow : OpenClaim := { program := "ytafkdkiagmbeaaa", sum := "ebe08f993642120c96c8f48975a175543e73be0b8b44df2cffe3d8e4ade4df8b", func := "loop.example/g01169/laws.FnExactAreAlike", spec := "fnExactAreAlike", unfollowed := true, recurses := true, apart := false, narrowed := true }
def FnExactAreAlikeUptoSaid : Prop := fnExactAreAlikeUptoRow.holds Try.pinned (OpenSpec.upto fnExactAreAlikeSpec)

/-- 'laws.FnExactLeastGraph', WHERE WHAT IT READS IS OF BULK AT MOST 1048576: true; the input reads as it did. -/
def fnExactLeastGraphUptoRow : OpenClaim := { program := "ytafkdkiagmbeaaa", sum := "ebe08f993642120c96c8f48975a175543e73be0b8b44df2cffe3d8e4ade4df8b", func := "loop.example/g01169/laws.FnExactLeastGraph", spec := "fnExactLeastGraph", unfollowed := true, recurses := true, apart := false, narrowed := true }
def FnExactLeastGraphUptoSaid : Prop := fnExactLeastGraphUptoRow.holds Try.pinned (OpenSpec.upto fnExactLeastGraphSpec)

/-- 'laws.FnExactCountSelfFlag', WHERE WHAT IT READS IS OF BULK AT MOST 1048576: true; the input reads as it did. -/
def fnExactCountSelfFlagUptoRow : OpenClaim := { program := "ytafkdkiagmbeaaa", sum := "ebe08f993642120c96c8f48975a175543e73be0b8b44df2cffe3d8e4ade4df8b", func := "loop.example/g01169/laws.FnExactCountSelfFlag", spec := "fnExactCountSelfFlag", unfollowed := true, recurses := true, apart := false, narrowed := true }
def FnExactCountSelfFlagUptoSaid : Prop := fnExactCountSelfFlagUptoRow.holds Try.pinned (OpenSpec.upto fnExactCountSelfFlagSpec)

/-- 'laws.FnExactAreAlikeFlags', WHERE WHAT IT READS IS OF BULK AT MOST 1048576: true; the input reads as it did. -/
def fnExactAreAlikeFlagsUptoRow : OpenClaim := { program := "ytafkdkiagmbeaaa", sum := "ebe08f993642120c96c8f48975a175543e73be0b8b44df2cffe3d8e4ade4df8b", func := "loop.example/g01169/laws.FnExactAreAlikeFlags", spec := "fnExactAreAlikeFlags", unfollowed := true, recurses := true, apart := false, narrowed := true }
def FnExactAreAlikeFlagsUptoSaid : Prop := fnExactAreAlikeFlagsUptoRow.holds Try.pinned (OpenSpec.upto fnExactAreAlikeFlagsSpec)

/-- 'laws.FnExactLeastFlag', WHERE WHAT IT READS IS OF BULK AT MOST 1048576: true; the input reads as it did. -/
def fnExactLeastFlagUptoRow : OpenClaim := { program := "ytafkdkiagmbeaaa", sum := "ebe08f993642120c96c8f48975a175543e73be0b8b44df2cffe3d8e4ade4df8b", func := "loop.example/g01169/laws.FnExactLeastFlag", spec := "fnExactLeastFlag", unfollowed := true, recurses := true, apart := false, narrowed := true }
def FnExactLeastFlagUptoSaid : Prop := fnExactLeastFlagUptoRow.holds Try.pinned (OpenSpec.upto fnExactLeastFlagSpec)

end Rows
end Go.Proofs.Ytafkdkiagmbeaaa
