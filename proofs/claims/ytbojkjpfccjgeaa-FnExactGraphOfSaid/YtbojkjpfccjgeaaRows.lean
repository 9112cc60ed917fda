/-
  No cell of these rows narrows 'for every input' (looked for: loops, veiled, ifaces, maps, wideKeys, modest, calm, conditions, laid).
  DERIVED. THE GIVEN ROWS OF THIS SEAT. 12 by the template 'for every input the law returns true; each argument reads behind the call as it read before'; 0 by the template 'total and deterministic' (their statements: YtbojkjpfccjgeaaTotals.lean).
  GIVEN WITH THE SEED: the statements are not yours to turn. If you find one false, say at which input.
  Laid BY PROGRAM, IN A SANDBOX (cutbox-rows.mjs): the forced cells as the released guide's own fill.sh prints them over the translation 9d148734087f9934… (all of the seat's roots in one cut). By AI agents, Wed Nov 11 2026. No macro, syntax, notation, axiom, sorry.
-/
import Derived.Test.YtbojkjpfccjgeaaChecked
import GoSem.Claim
import GoSem.ClaimJoined
import GoSem.ClaimMapViews
import Derived.JoinedTies
import Derived.KernelRfl
namespace Go.Proofs.Ytbojkjpfccjgeaa
/- THE CELL 'sum', in the pinned program and in every row, IS THE sha256 OF THE DUMP (.gsa) THAT YtbojkjpfccjgeaaProg.lean LOADS. Nothing in Lean hashes anything: it is a label: what it is worth is what the hold of that sum in a sandbox is worth. -/
noncomputable def Try.pinned : Pinned := { name := "ytbojkjpfccjgeaa", sum := "9d148734087f9934a32f232b6e62856628e42d6f47c79c1f37954e2ada1b6537", checked := Try.checked }
namespace Rows
def none {H : Type} : Left H := { results := [], args := [] }

/-- 'laws.FnExactCompleteGraph': WHATEVER THE INPUT: true; the input reads as it did. -/
def fnExactCompleteGraphSpec : ChangeSpec := { name := "fnExactCompleteGraph", fn := fun _ => fun
  | [d] => { results := [.lit (.bool true)], args := [d] }
  | _ => none }
def fnExactCompleteGraphRow : OpenClaim := { program := "ytbojkjpfccjgeaa", sum := "9d148734087f9934a32f232b6e62856628e42d6f47c79c1f37954e2ada1b6537", func := "loop.example/g01169/laws.FnExactCompleteGraph", spec := "fnExactCompleteGraph", unfollowed := true, recurses := true, apart := false }
def FnExactCompleteGraphSaid : Prop := fnExactCompleteGraphRow.holds Try.pinned (OpenSpec.ofChange fnExactCompleteGraphSpec)

/-- ITS FALSE NEIGHBOUR: 'it returns false'. Refute it at one input. -/
def fnExactCompleteGraphWrong : ChangeSpec := { name := "fnExactCompleteGraph", fn := fun _ => fun
  | [d] => { results := [.lit (.bool false)], args := [d] }
  | _ => none }
def FnExactCompleteGraphWrongFalsely : Prop := fnExactCompleteGraphRow.holds Try.pinned (OpenSpec.ofChange fnExactCompleteGraphWrong)

/-- 'laws.FnExactPathGraph': WHATEVER THE INPUT: true; the input reads as it did. -/
def fnExactPathGraphSpec : ChangeSpec := { name := "fnExactPathGraph", fn := fun _ => fun
  | [d] => { results := [.lit (.bool true)], args := [d] }
  | _ => none }
def fnExactPathGraphRow : OpenClaim := { program := "ytbojkjpfccjgeaa", sum := "9d148734087f9934a32f232b6e62856628e42d6f47c79c1f37954e2ada1b6537", func := "loop.example/g01169/laws.FnExactPathGraph", spec := "fnExactPathGraph", unfollowed := true, recurses := true, apart := false }
def FnExactPathGraphSaid : Prop := fnExactPathGraphRow.holds Try.pinned (OpenSpec.ofChange fnExactPathGraphSpec)

/-- ITS FALSE NEIGHBOUR: 'it returns false'. Refute it at one input. -/
def fnExactPathGraphWrong : ChangeSpec := { name := "fnExactPathGraph", fn := fun _ => fun
  | [d] => { results := [.lit (.bool false)], args := [d] }
  | _ => none }
def FnExactPathGraphWrongFalsely : Prop := fnExactPathGraphRow.holds Try.pinned (OpenSpec.ofChange fnExactPathGraphWrong)

/-- 'laws.FnExactStarGraph': WHATEVER THE INPUT: true; the input reads as it did. -/
def fnExactStarGraphSpec : ChangeSpec := { name := "fnExactStarGraph", fn := fun _ => fun
  | [d] => { results := [.lit (.bool true)], args := [d] }
  | _ => none }
def fnExactStarGraphRow : OpenClaim := { program := "ytbojkjpfccjgeaa", sum := "9d148734087f9934a32f232b6e62856628e42d6f47c79c1f37954e2ada1b6537", func := "loop.example/g01169/laws.FnExactStarGraph", spec := "fnExactStarGraph", unfollowed := true, recurses := true, apart := false }
def FnExactStarGraphSaid : Prop := fnExactStarGraphRow.holds Try.pinned (OpenSpec.ofChange fnExactStarGraphSpec)

/-- ITS FALSE NEIGHBOUR: 'it returns false'. Refute it at one input. -/
def fnExactStarGraphWrong : ChangeSpec := { name := "fnExactStarGraph", fn := fun _ => fun
  | [d] => { results := [.lit (.bool false)], args := [d] }
  | _ => none }
def FnExactStarGraphWrongFalsely : Prop := fnExactStarGraphRow.holds Try.pinned (OpenSpec.ofChange fnExactStarGraphWrong)

/-- 'laws.FnExactCycleGraph': WHATEVER THE INPUT: true; the input reads as it did. -/
def fnExactCycleGraphSpec : ChangeSpec := { name := "fnExactCycleGraph", fn := fun _ => fun
  | [d] => { results := [.lit (.bool true)], args := [d] }
  | _ => none }
def fnExactCycleGraphRow : OpenClaim := { program := "ytbojkjpfccjgeaa", sum := "9d148734087f9934a32f232b6e62856628e42d6f47c79c1f37954e2ada1b6537", func := "loop.example/g01169/laws.FnExactCycleGraph", spec := "fnExactCycleGraph", unfollowed := true, recurses := true, apart := false }
def FnExactCycleGraphSaid : Prop := fnExactCycleGraphRow.holds Try.pinned (OpenSpec.ofChange fnExactCycleGraphSpec)

/-- ITS FALSE NEIGHBOUR: 'it returns false'. Refute it at one input. -/
def fnExactCycleGraphWrong : ChangeSpec := { name := "fnExactCycleGraph", fn := fun _ => fun
  | [d] => { results := [.lit (.bool false)], args := [d] }
  | _ => none }
def FnExactCycleGraphWrongFalsely : Prop := fnExactCycleGraphRow.holds Try.pinned (OpenSpec.ofChange fnExactCycleGraphWrong)

/-- 'laws.FnExactOppositeGraph': WHATEVER THE INPUT: true; the input reads as it did. -/
def fnExactOppositeGraphSpec : ChangeSpec := { name := "fnExactOppositeGraph", fn := fun _ => fun
  | [d] => { results := [.lit (.bool true)], args := [d] }
  | _ => none }
def fnExactOppositeGraphRow : OpenClaim := { program := "ytbojkjpfccjgeaa", sum := "9d148734087f9934a32f232b6e62856628e42d6f47c79c1f37954e2ada1b6537", func := "loop.example/g01169/laws.FnExactOppositeGraph", spec := "fnExactOppositeGraph", unfollowed := true, recurses := true, apart := false }
def FnExactOppositeGraphSaid : Prop := fnExactOppositeGraphRow.holds Try.pinned (OpenSpec.ofChange fnExactOppositeGraphSpec)

/-- ITS FALSE NEIGHBOUR: 'it returns false'. Refute it at one input. -/
def fnExactOppositeGraphWrong : ChangeSpec := { name := "fnExactOppositeGraph", fn := fun _ => fun
  | [d] => { results := [.lit (.bool false)], args := [d] }
  | _ => none }
def FnExactOppositeGraphWrongFalsely : Prop := fnExactOppositeGraphRow.holds Try.pinned (OpenSpec.ofChange fnExactOppositeGraphWrong)

/-- 'laws.FnExactDegreesOf': WHATEVER THE INPUT: true; the input reads as it did. -/
def fnExactDegreesOfSpec : ChangeSpec := { name := "fnExactDegreesOf", fn := fun _ => fun
  | [d] => { results := [.lit (.bool true)], args := [d] }
  | _ => none }
def fnExactDegreesOfRow : OpenClaim := { program := "ytbojkjpfccjgeaa", sum := "9d148734087f9934a32f232b6e62856628e42d6f47c79c1f37954e2ada1b6537", func := "loop.example/g01169/laws.FnExactDegreesOf", spec := "fnExactDegreesOf", recurses := true, apart := false }
def FnExactDegreesOfSaid : Prop := fnExactDegreesOfRow.holds Try.pinned (OpenSpec.ofChange fnExactDegreesOfSpec)

/-- ITS FALSE NEIGHBOUR: 'it returns false'. Refute it at one input. -/
def fnExactDegreesOfWrong : ChangeSpec := { name := "fnExactDegreesOf", fn := fun _ => fun
  | [d] => { results := [.lit (.bool false)], args := [d] }
  | _ => none }
def FnExactDegreesOfWrongFalsely : Prop := fnExactDegreesOfRow.holds Try.pinned (OpenSpec.ofChange fnExactDegreesOfWrong)

/-- 'laws.FnExactGraphOf': WHATEVER THE INPUT: true; the input reads as it did. -/
def fnExactGraphOfSpec : ChangeSpec := { name := "fnExactGraphOf", fn := fun _ => fun
  | [d1, d2] => { results := [.lit (.bool true)], args := [d1, d2] }
  | _ => none }
def fnExactGraphOfRow : OpenClaim := { program := "ytbojkjpfccjgeaa", sum := "9d148734087f9934a32f232b6e62856628e42d6f47c79c1f37954e2ada1b6537", func := "loop.example/g01169/laws.FnExactGraphOf", spec := "fnExactGraphOf", unfollowed := true, recurses := true, apart := false }
def FnExactGraphOfSaid : Prop := fnExactGraphOfRow.holds Try.pinned (OpenSpec.ofChange fnExactGraphOfSpec)

/-- ITS FALSE NEIGHBOUR: 'it returns false'. Refute it at one input. -/
def fnExactGraphOfWrong : ChangeSpec := { name := "fnExactGraphOf", fn := fun _ => fun
  | [d1, d2] => { results := [.lit (.bool false)], args := [d1, d2] }
  | _ => none }
def FnExactGraphOfWrongFalsely : Prop := fnExactGraphOfRow.holds Try.pinned (OpenSpec.ofChange fnExactGraphOfWrong)

/-- 'laws.FnExactPairsOf': WHATEVER THE INPUT: true; the input reads as it did. -/
def fnExactPairsOfSpec : ChangeSpec := { name := "fnExactPairsOf", fn := fun _ => fun
  | [d] => { results := [.lit (.bool true)], args := [d] }
  | _ => none }
def fnExactPairsOfRow : OpenClaim := { program := "ytbojkjpfccjgeaa", sum := "9d148734087f9934a32f232b6e62856628e42d6f47c79c1f37954e2ada1b6537", func := "loop.example/g01169/laws.FnExactPairsOf", spec := "fnExactPairsOf", recurses := true, apart := false }
def FnExactPairsOfSaid : Prop := fnExactPairsOfRow.holds Try.pinned (OpenSpec.ofChange fnExactPairsOfSpec)

/-- ITS FALSE NEIGHBOUR: 'it returns false'. Refute it at one input. -/
def fnExactPairsOfWrong : ChangeSpec := { name := "fnExactPairsOf", fn := fun _ => fun
  | [d] => { results := [.lit (.bool false)], args := [d] }
  | _ => none }
def FnExactPairsOfWrongFalsely : Prop := fnExactPairsOfRow.holds Try.pinned (OpenSpec.ofChange fnExactPairsOfWrong)

/-- 'laws.FnExactEdgeDensity': WHATEVER THE INPUT: true; the input reads as it did. -/
def fnExactEdgeDensitySpec : ChangeSpec := { name := "fnExactEdgeDensity", fn := fun _ => fun
  | [d] => { results := [.lit (.bool true)], args := [d] }
  | _ => none }
def fnExactEdgeDensityRow : OpenClaim := { program := "ytbojkjpfccjgeaa", sum := "9d148734087f9934a32f232b6e62856628e42d6f47c79c1f37954e2ada1b6537", func := "loop.example/g01169/laws.FnExactEdgeDensity", spec := "fnExactEdgeDensity", recurses := true, apart := false }
def FnExactEdgeDensitySaid : Prop := fnExactEdgeDensityRow.holds Try.pinned (OpenSpec.ofChange fnExactEdgeDensitySpec)

/-- ITS FALSE NEIGHBOUR: 'it returns false'. Refute it at one input. -/
def fnExactEdgeDensityWrong : ChangeSpec := { name := "fnExactEdgeDensity", fn := fun _ => fun
  | [d] => { results := [.lit (.bool false)], args := [d] }
  | _ => none }
def FnExactEdgeDensityWrongFalsely : Prop := fnExactEdgeDensityRow.holds Try.pinned (OpenSpec.ofChange fnExactEdgeDensityWrong)

/-- 'laws.FnExactInducedOn': WHATEVER THE INPUT: true; the input reads as it did. -/
def fnExactInducedOnSpec : ChangeSpec := { name := "fnExactInducedOn", fn := fun _ => fun
  | [d1, d2] => { results := [.lit (.bool true)], args := [d1, d2] }
  | _ => none }
def fnExactInducedOnRow : OpenClaim := { program := "ytbojkjpfccjgeaa", sum := "9d148734087f9934a32f232b6e62856628e42d6f47c79c1f37954e2ada1b6537", func := "loop.example/g01169/laws.FnExactInducedOn", spec := "fnExactInducedOn", unfollowed := true, recurses := true, apart := false }
def FnExactInducedOnSaid : Prop := fnExactInducedOnRow.holds Try.pinned (OpenSpec.ofChange fnExactInducedOnSpec)

/-- ITS FALSE NEIGHBOUR: 'it returns false'. Refute it at one input. -/
def fnExactInducedOnWrong : ChangeSpec := { name := "fnExactInducedOn", fn := fun _ => fun
  | [d1, d2] => { results := [.lit (.bool false)], args := [d1, d2] }
  | _ => none }
def FnExactInducedOnWrongFalsely : Prop := fnExactInducedOnRow.holds Try.pinned (OpenSpec.ofChange fnExactInducedOnWrong)

/-- 'laws.FnExactRenameGraph': WHATEVER THE INPUT: true; the input reads as it did. -/
def fnExactRenameGraphSpec : ChangeSpec := { name := "fnExactRenameGraph", fn := fun _ => fun
  | [d1, d2] => { results := [.lit (.bool true)], args := [d1, d2] }
  | _ => none }
def fnExactRenameGraphRow : OpenClaim := { program := "ytbojkjpfccjgeaa", sum := "9d148734087f9934a32f232b6e62856628e42d6f47c79c1f37954e2ada1b6537", func := "loop.example/g01169/laws.FnExactRenameGraph", spec := "fnExactRenameGraph", unfollowed := true, recurses := true, apart := false }
def FnExactRenameGraphSaid : Prop := fnExactRenameGraphRow.holds Try.pinned (OpenSpec.ofChange fnExactRenameGraphSpec)

/-- ITS FALSE NEIGHBOUR: 'it returns false'. Refute it at one input. -/
def fnExactRenameGraphWrong : ChangeSpec := { name := "fnExactRenameGraph", fn := fun _ => fun
  | [d1, d2] => { results := [.lit (.bool false)], args := [d1, d2] }
  | _ => none }
def FnExactRenameGraphWrongFalsely : Prop := fnExactRenameGraphRow.holds Try.pinned (OpenSpec.ofChange fnExactRenameGraphWrong)

/-- 'laws.FnExactTypeOf': WHATEVER THE INPUT: true; the input reads as it did. -/
def fnExactTypeOfSpec : ChangeSpec := { name := "fnExactTypeOf", fn := fun _ => fun
  | [d] => { results := [.lit (.bool true)], args := [d] }
  | _ => none }
def fnExactTypeOfRow : OpenClaim := { program := "ytbojkjpfccjgeaa", sum := "9d148734087f9934a32f232b6e62856628e42d6f47c79c1f37954e2ada1b6537", func := "loop.example/g01169/laws.FnExactTypeOf", spec := "fnExactTypeOf", unfollowed := true, recurses := true, apart := false }
def FnExactTypeOfSaid : Prop := fnExactTypeOfRow.holds Try.pinned (OpenSpec.ofChange fnExactTypeOfSpec)

/-- ITS FALSE NEIGHBOUR: 'it returns false'. Refute it at one input. -/
def fnExactTypeOfWrong : ChangeSpec := { name := "fnExactTypeOf", fn := fun _ => fun
  | [d] => { results := [.lit (.bool false)], args := [d] }
  | _ => none }
def FnExactTypeOfWrongFalsely : Prop := fnExactTypeOfRow.holds Try.pinned (OpenSpec.ofChange fnExactTypeOfWrong)

/- THE SECOND FORM. 'bulk': how many values and letters a reading holds, each counted each time it is reached (what is shared counts as often as it is met; a slice's spare places count too). A statement '..UptoSaid' is the law's where the arguments, and the package variables that the reading takes, are together of bulk at most 1048576: NARROWER than '..Said'. Prove '..Said' where nothing that the law and all that it calls make is longer than what came in: it says more and counts as full. Else prove '..UptoSaid'. A law counts once. -/
mutual
def uptoBulk {H : Type} : DataW H → Nat
  | .lit (.string bytes) => bytes.length + 1
  | .lit _ => 1
  | .nil => 1
  | .ptr d => uptoBulk d + 1
  | .slice elems spare => uptoBulkAll elems + uptoBulkAll spare + 1
  | .agg parts => uptoBulkAll parts + 1
  | .iface _ d => uptoBulk d + 1
  | .map entries => uptoBulkEntries entries + 1
  | .held _ => 1
def uptoBulkAll {H : Type} : List (DataW H) → Nat
  | [] => 0
  | d :: r => uptoBulk d + uptoBulkAll r
def uptoBulkEntries {H : Type} : List (Lit × DataW H) → Nat
  | [] => 0
  | x :: r => uptoBulkEntry x + uptoBulkEntries r
def uptoBulkEntry {H : Type} : Lit × DataW H → Nat
  | (.string bytes, d) => bytes.length + uptoBulk d + 1
  | (_, d) => uptoBulk d + 1
 end
def uptoSmall : (H : Type) → List (DataW H) → Bool := fun _ ds => decide (uptoBulkAll ds ≤ 1048576)
def OpenSpec.upto (s : _root_.Go.ChangeSpec) : _root_.Go.OpenSpec := { _root_.Go.OpenSpec.ofChange s with cond := some uptoSmall }

/-- 'laws.FnExactCompleteGraph', WHERE WHAT IT READS IS OF BULK AT MOST 1048576: true; the input reads as it did. -/
def fnExactCompleteGraphUptoRow : OpenClaim := { program := "ytbojkjpfccjgeaa", sum := "9d148734087f9934a32f232b6e62856628e42d6f47c79c1f37954e2ada1b6537", func := "loop.example/g01169/laws.FnExactCompleteGraph", spec := "fnExactCompleteGraph", unfollowed := true, recurses := true, apart := false, narrowed := true }
def FnExactCompleteGraphUptoSaid : Prop := fnExactCompleteGraphUptoRow.holds Try.pinned (OpenSpec.upto fnExactCompleteGraphSpec)

/-- 'laws.FnExactPathGraph', WHERE WHAT IT READS IS OF BULK AT MOST 1048576: true; the input reads as it did. -/
def fnExactPathGraphUptoRow : OpenClaim := { program := "ytbojkjpfccjgeaa", sum := "9d148734087f9934a32f232b6e62856628e42d6f47c79c1f37954e2ada1b6537", func := "loop.example/g01169/laws.FnExactPathGraph", spec := "fnExactPathGraph", unfollowed := true, recurses := true, apart := false, narrowed := true }
def FnExactPathGraphUptoSaid : Prop := fnExactPathGraphUptoRow.holds Try.pinned (OpenSpec.upto fnExactPathGraphSpec)

/-- 'laws.FnExactStarGraph', WHERE WHAT IT READS IS OF BULK AT MOST 1048576: true; the input reads as it did. -/
def fnExactStarGraphUptoRow : OpenClaim := { program := "ytbojkjpfccjgeaa", sum := "9d148734087f9934a32f232b6e62856628e42d6f47c79c1f37954e2ada1b6537", func := "loop.example/g01169/laws.FnExactStarGraph", spec := "fnExactStarGraph", unfollowed := true, recurses := true, apart := false, narrowed := true }
def FnExactStarGraphUptoSaid : Prop := fnExactStarGraphUptoRow.holds Try.pinned (OpenSpec.upto fnExactStarGraphSpec)

/-- 'laws.FnExactCycleGraph', WHERE WHAT IT READS IS OF BULK AT MOST 1048576: true; the input reads as it did. -/
def fnExactCycleGraphUptoRow : OpenClaim := { program := "ytbojkjpfccjgeaa", sum := "9d148734087f9934a32f232b6e62856628e42d6f47c79c1f37954e2ada1b6537", func := "loop.example/g01169/laws.FnExactCycleGraph", spec := "fnExactCycleGraph", unfollowed := true, recurses := true, apart := false, narrowed := true }
def FnExactCycleGraphUptoSaid : Prop := fnExactCycleGraphUptoRow.holds Try.pinned (OpenSpec.upto fnExactCycleGraphSpec)

/-- 'laws.FnExactOppositeGraph', WHERE WHAT IT READS IS OF BULK AT MOST 1048576: true; the input reads as it did. -/
def fnExactOppositeGraphUptoRow : OpenClaim := { program := "ytbojkjpfccjgeaa", sum := "9d148734087f9934a32f232b6e62856628e42d6f47c79c1f37954e2ada1b6537", func := "loop.example/g01169/laws.FnExactOppositeGraph", spec := "fnExactOppositeGraph", unfollowed := true, recurses := true, apart := false, narrowed := true }
def FnExactOppositeGraphUptoSaid : Prop := fnExactOppositeGraphUptoRow.holds Try.pinned (OpenSpec.upto fnExactOppositeGraphSpec)

/-- 'laws.FnExactDegreesOf', WHERE WHAT IT READS IS OF BULK AT MOST 1048576: true; the input reads as it did. -/
def fnExactDegreesOfUptoRow : OpenClaim := { program := "ytbojkjpfccjgeaa", sum := "9d148734087f9934a32f232b6e62856628e42d6f47c79c1f37954e2ada1b6537", func := "loop.example/g01169/laws.FnExactDegreesOf", spec := "fnExactDegreesOf", recurses := true, apart := false, narrowed := true }
def FnExactDegreesOfUptoSaid : Prop := fnExactDegreesOfUptoRow.holds Try.pinned (OpenSpec.upto fnExactDegreesOfSpec)

/-- 'laws.FnExactGraphOf', WHERE WHAT IT READS IS OF BULK AT MOST 1048576: true; the input reads as it did. -/
def fnExactGraphOfUptoRow : OpenClaim := { program := "ytbojkjpfccjgeaa", sum := "9d148734087f9934a32f232b6e62856628e42d6f47c79c1f37954e2ada1b6537", func := "loop.example/g01169/laws.FnExactGraphOf", spec := "fnExactGraphOf", unfollowed := true, recurses := true, apart := false, narrowed := true }
def FnExactGraphOfUptoSaid : Prop := fnExactGraphOfUptoRow.holds Try.pinned (OpenSpec.upto fnExactGraphOfSpec)

/-- 'laws.FnExactPairsOf', WHERE WHAT IT READS IS OF BULK AT MOST 1048576: true; the input reads as it did. -/
def fnExactPairsOfUptoRow : OpenClaim := { program := "ytbojkjpfccjgeaa", sum := "9d148734087f9934a32f232b6e62856628e42d6f47c79c1f37954e2ada1b6537", func := "loop.example/g01169/laws.FnExactPairsOf", spec := "fnExactPairsOf", recurses := true, apart := false, narrowed := true }
def FnExactPairsOfUptoSaid : Prop := fnExactPairsOfUptoRow.holds Try.pinned (OpenSpec.upto fnExactPairsOfSpec)

/-- 'laws.FnExactEdgeDensity', WHERE WHAT IT READS IS OF BULK AT MOST 1048576: true; the input reads as it did. -/
def fnExactEdgeDensityUptoRow : OpenClaim := { program := "ytbojkjpfccjgeaa", sum := "9d148734087f9934a32f232b6e62856628e42d6f47c79c1f37954e2ada1b6537", func := "loop.example/g01169/laws.FnExactEdgeDensity", spec := "fnExactEdgeDensity", recurses := true, apart := false, narrowed := true }
def FnExactEdgeDensityUptoSaid : Prop := fnExactEdgeDensityUptoRow.holds Try.pinned (OpenSpec.upto fnExactEdgeDensitySpec)

/-- 'laws.FnExactInducedOn', WHERE WHAT IT READS IS OF BULK AT MOST 1048576: true; the input reads as it did. -/
def fnExactInducedOnUptoRow : OpenClaim := { program := "ytbojkjpfccjgeaa", sum := "9d148734087f9934a32f232b6e62856628e42d6f47c79c1f37954e2ada1b6537", func := "loop.example/g01169/laws.FnExactInducedOn", spec := "fnExactInducedOn", unfollowed := true, recurses := true, apart := false, narrowed := true }
def FnExactInducedOnUptoSaid : Prop := fnExactInducedOnUptoRow.holds Try.pinned (OpenSpec.upto fnExactInducedOnSpec)

/-- 'laws.FnExactRenameGraph', WHERE WHAT IT READS IS OF BULK AT MOST 1048576: true; the input reads as it did. -/
def fnExactRenameGraphUptoRow : OpenClaim := { program := "ytbojkjpfccjgeaa", sum := "9d148734087f9934a32f232b6e62856628e42d6f47c79c1f37954e2ada1b6537", func := "loop.example/g01169/laws.FnExactRenameGraph", spec := "fnExactRenameGraph", unfollowed := true, recurses := true, apart := false, narrowed := true }
def FnExactRenameGraphUptoSaid : Prop := fnExactRenameGraphUptoRow.holds Try.pinned (OpenSpec.upto fnExactRenameGraphSpec)

/-- 'laws.FnExactTypeOf', WHERE WHAT IT READS IS OF BULK AT MOST 1048576: true; the input reads as it did. -/
def fnExactTypeOfUptoRow : OpenClaim := { program := "ytbojkjpfccjgeaa", sum := "9d148734087f9934a32f232b6e62856628e42d6f47c79c1f37954e2ada1b6537", func := "loop.example/g01169/laws.FnExactTypeOf", spec := "fnExactTypeOf", unfollowed := true, recurses := true, apart := false, narrowed := true }
def FnExactTypeOfUptoSaid : Prop := fnExactTypeOfUptoRow.holds Try.pinned (OpenSpec.upto fnExactTypeOfSpec)

end Rows
end Go.Proofs.Ytbojkjpfccjgeaa
