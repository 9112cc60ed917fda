/-
  No cell of these rows narrows 'for every input' (looked for: loops, veiled, ifaces, maps, wideKeys, modest, calm, conditions, laid).
  DERIVED. THE GIVEN ROWS OF THIS SEAT. 10 by the template 'for every input the law returns true; each argument reads behind the call as it read before'; 0 by the template 'total and deterministic' (their statements: YtcepbgffnneagaaTotals.lean).
  GIVEN WITH THE SEED: the statements are not yours to turn. If you find one false, say at which input.
  Laid BY PROGRAM, IN A SANDBOX (cutbox-rows.mjs): the forced cells as the released guide's own fill.sh prints them over the translation 7d438f113cb48a6e… (all of the seat's roots in one cut). By AI agents, Wed Nov 11 2026. No macro, syntax, notation, axiom, sorry.
-/
import Derived.Test.YtcepbgffnneagaaChecked
import GoSem.Claim
import GoSem.ClaimJoined
import GoSem.ClaimMapViews
import Derived.JoinedTies
import Derived.KernelRfl
namespace Go.Proofs.Ytcepbgffnneagaa
/- THE CELL 'sum', in the pinned program and in every row, IS THE sha256 OF THE DUMP (.gsa) THAT YtcepbgffnneagaaProg.lean LOADS. Nothing in Lean hashes anything: it is a label: what it is worth is what the hold of that sum in a sandbox is worth. -/
noncomputable def Try.pinned : Pinned := { name := "ytcepbgffnneagaa", sum := "7d438f113cb48a6e6ffb3eccb0140fd35fc42cda904288e7cf10a5a1534247ef", checked := Try.checked }
namespace Rows
def none {H : Type} : Left H := { results := [], args := [] }

/-- 'laws.FnExactCountCopies': WHATEVER THE INPUT: true; the input reads as it did. -/
def fnExactCountCopiesSpec : ChangeSpec := { name := "fnExactCountCopies", fn := fun _ => fun
  | [d1, d2] => { results := [.lit (.bool true)], args := [d1, d2] }
  | _ => none }
def fnExactCountCopiesRow : OpenClaim := { program := "ytcepbgffnneagaa", sum := "7d438f113cb48a6e6ffb3eccb0140fd35fc42cda904288e7cf10a5a1534247ef", func := "loop.example/g01169/laws.FnExactCountCopies", spec := "fnExactCountCopies", unfollowed := true, recurses := true, apart := false }
def FnExactCountCopiesSaid : Prop := fnExactCountCopiesRow.holds Try.pinned (OpenSpec.ofChange fnExactCountCopiesSpec)

/-- ITS FALSE NEIGHBOUR: 'it returns false'. Refute it at one input. -/
def fnExactCountCopiesWrong : ChangeSpec := { name := "fnExactCountCopies", fn := fun _ => fun
  | [d1, d2] => { results := [.lit (.bool false)], args := [d1, d2] }
  | _ => none }
def FnExactCountCopiesWrongFalsely : Prop := fnExactCountCopiesRow.holds Try.pinned (OpenSpec.ofChange fnExactCountCopiesWrong)

/-- 'laws.FnExactGraphDensity': WHATEVER THE INPUT: true; the input reads as it did. -/
def fnExactGraphDensitySpec : ChangeSpec := { name := "fnExactGraphDensity", fn := fun _ => fun
  | [d1, d2] => { results := [.lit (.bool true)], args := [d1, d2] }
  | _ => none }
def fnExactGraphDensityRow : OpenClaim := { program := "ytcepbgffnneagaa", sum := "7d438f113cb48a6e6ffb3eccb0140fd35fc42cda904288e7cf10a5a1534247ef", func := "loop.example/g01169/laws.FnExactGraphDensity", spec := "fnExactGraphDensity", unfollowed := true, recurses := true, apart := false }
def FnExactGraphDensitySaid : Prop := fnExactGraphDensityRow.holds Try.pinned (OpenSpec.ofChange fnExactGraphDensitySpec)

/-- ITS FALSE NEIGHBOUR: 'it returns false'. Refute it at one input. -/
def fnExactGraphDensityWrong : ChangeSpec := { name := "fnExactGraphDensity", fn := fun _ => fun
  | [d1, d2] => { results := [.lit (.bool false)], args := [d1, d2] }
  | _ => none }
def FnExactGraphDensityWrongFalsely : Prop := fnExactGraphDensityRow.holds Try.pinned (OpenSpec.ofChange fnExactGraphDensityWrong)

/-- 'laws.FnExactGraphDensities': WHATEVER THE INPUT: true; the input reads as it did. -/
def fnExactGraphDensitiesSpec : ChangeSpec := { name := "fnExactGraphDensities", fn := fun _ => fun
  | [d1, d2] => { results := [.lit (.bool true)], args := [d1, d2] }
  | _ => none }
def fnExactGraphDensitiesRow : OpenClaim := { program := "ytcepbgffnneagaa", sum := "7d438f113cb48a6e6ffb3eccb0140fd35fc42cda904288e7cf10a5a1534247ef", func := "loop.example/g01169/laws.FnExactGraphDensities", spec := "fnExactGraphDensities", unfollowed := true, recurses := true, apart := false }
def FnExactGraphDensitiesSaid : Prop := fnExactGraphDensitiesRow.holds Try.pinned (OpenSpec.ofChange fnExactGraphDensitiesSpec)

/-- ITS FALSE NEIGHBOUR: 'it returns false'. Refute it at one input. -/
def fnExactGraphDensitiesWrong : ChangeSpec := { name := "fnExactGraphDensities", fn := fun _ => fun
  | [d1, d2] => { results := [.lit (.bool false)], args := [d1, d2] }
  | _ => none }
def FnExactGraphDensitiesWrongFalsely : Prop := fnExactGraphDensitiesRow.holds Try.pinned (OpenSpec.ofChange fnExactGraphDensitiesWrong)

/-- 'laws.FnExactCountFlag': WHATEVER THE INPUT: true; the input reads as it did. -/
def fnExactCountFlagSpec : ChangeSpec := { name := "fnExactCountFlag", fn := fun _ => fun
  | [d1, d2] => { results := [.lit (.bool true)], args := [d1, d2] }
  | _ => none }
def fnExactCountFlagRow : OpenClaim := { program := "ytcepbgffnneagaa", sum := "7d438f113cb48a6e6ffb3eccb0140fd35fc42cda904288e7cf10a5a1534247ef", func := "loop.example/g01169/laws.FnExactCountFlag", spec := "fnExactCountFlag", unfollowed := true, recurses := true, apart := false }
def FnExactCountFlagSaid : Prop := fnExactCountFlagRow.holds Try.pinned (OpenSpec.ofChange fnExactCountFlagSpec)

/-- ITS FALSE NEIGHBOUR: 'it returns false'. Refute it at one input. -/
def fnExactCountFlagWrong : ChangeSpec := { name := "fnExactCountFlag", fn := fun _ => fun
  | [d1, d2] => { results := [.lit (.bool false)], args := [d1, d2] }
  | _ => none }
def FnExactCountFlagWrongFalsely : Prop := fnExactCountFlagRow.holds Try.pinned (OpenSpec.ofChange fnExactCountFlagWrong)

/-- 'laws.FnExactFlagDensity': WHATEVER THE INPUT: true; the input reads as it did. -/
def fnExactFlagDensitySpec : ChangeSpec := { name := "fnExactFlagDensity", fn := fun _ => fun
  | [d1, d2] => { results := [.lit (.bool true)], args := [d1, d2] }
  | _ => none }
def fnExactFlagDensityRow : OpenClaim := { program := "ytcepbgffnneagaa", sum := "7d438f113cb48a6e6ffb3eccb0140fd35fc42cda904288e7cf10a5a1534247ef", func := "loop.example/g01169/laws.FnExactFlagDensity", spec := "fnExactFlagDensity", unfollowed := true, recurses := true, apart := false }
def FnExactFlagDensitySaid : Prop := fnExactFlagDensityRow.holds Try.pinned (OpenSpec.ofChange fnExactFlagDensitySpec)

/-- ITS FALSE NEIGHBOUR: 'it returns false'. Refute it at one input. -/
def fnExactFlagDensityWrong : ChangeSpec := { name := "fnExactFlagDensity", fn := fun _ => fun
  | [d1, d2] => { results := [.lit (.bool false)], args := [d1, d2] }
  | _ => none }
def FnExactFlagDensityWrongFalsely : Prop := fnExactFlagDensityRow.holds Try.pinned (OpenSpec.ofChange fnExactFlagDensityWrong)

/-- 'laws.FnExactJointDensity': WHATEVER THE INPUT: true; the input reads as it did. -/
def fnExactJointDensitySpec : ChangeSpec := { name := "fnExactJointDensity", fn := fun _ => fun
  | [d1, d2, d3] => { results := [.lit (.bool true)], args := [d1, d2, d3] }
  | _ => none }
def fnExactJointDensityRow : OpenClaim := { program := "ytcepbgffnneagaa", sum := "7d438f113cb48a6e6ffb3eccb0140fd35fc42cda904288e7cf10a5a1534247ef", func := "loop.example/g01169/laws.FnExactJointDensity", spec := "fnExactJointDensity", unfollowed := true, recurses := true, apart := false }
def FnExactJointDensitySaid : Prop := fnExactJointDensityRow.holds Try.pinned (OpenSpec.ofChange fnExactJointDensitySpec)

/-- ITS FALSE NEIGHBOUR: 'it returns false'. Refute it at one input. -/
def fnExactJointDensityWrong : ChangeSpec := { name := "fnExactJointDensity", fn := fun _ => fun
  | [d1, d2, d3] => { results := [.lit (.bool false)], args := [d1, d2, d3] }
  | _ => none }
def FnExactJointDensityWrongFalsely : Prop := fnExactJointDensityRow.holds Try.pinned (OpenSpec.ofChange fnExactJointDensityWrong)

/-- 'laws.FnCopies': WHATEVER THE INPUT: true; the input reads as it did. -/
def fnCopiesSpec : ChangeSpec := { name := "fnCopies", fn := fun _ => fun
  | [d1, d2] => { results := [.lit (.bool true)], args := [d1, d2] }
  | _ => none }
def fnCopiesRow : OpenClaim := { program := "ytcepbgffnneagaa", sum := "7d438f113cb48a6e6ffb3eccb0140fd35fc42cda904288e7cf10a5a1534247ef", func := "loop.example/g01169/laws.FnCopies", spec := "fnCopies", unfollowed := true, recurses := true, apart := false }
def FnCopiesSaid : Prop := fnCopiesRow.holds Try.pinned (OpenSpec.ofChange fnCopiesSpec)

/-- ITS FALSE NEIGHBOUR: 'it returns false'. Refute it at one input. -/
def fnCopiesWrong : ChangeSpec := { name := "fnCopies", fn := fun _ => fun
  | [d1, d2] => { results := [.lit (.bool false)], args := [d1, d2] }
  | _ => none }
def FnCopiesWrongFalsely : Prop := fnCopiesRow.holds Try.pinned (OpenSpec.ofChange fnCopiesWrong)

/-- 'laws.FnLeast': WHATEVER THE INPUT: true; the input reads as it did. -/
def fnLeastSpec : ChangeSpec := { name := "fnLeast", fn := fun _ => fun
  | [d1, d2] => { results := [.lit (.bool true)], args := [d1, d2] }
  | _ => none }
def fnLeastRow : OpenClaim := { program := "ytcepbgffnneagaa", sum := "7d438f113cb48a6e6ffb3eccb0140fd35fc42cda904288e7cf10a5a1534247ef", func := "loop.example/g01169/laws.FnLeast", spec := "fnLeast", unfollowed := true, recurses := true, apart := false }
def FnLeastSaid : Prop := fnLeastRow.holds Try.pinned (OpenSpec.ofChange fnLeastSpec)

/-- ITS FALSE NEIGHBOUR: 'it returns false'. Refute it at one input. -/
def fnLeastWrong : ChangeSpec := { name := "fnLeast", fn := fun _ => fun
  | [d1, d2] => { results := [.lit (.bool false)], args := [d1, d2] }
  | _ => none }
def FnLeastWrongFalsely : Prop := fnLeastRow.holds Try.pinned (OpenSpec.ofChange fnLeastWrong)

/-- 'laws.FnLabelings': WHATEVER THE INPUT: true; the input reads as it did. -/
def fnLabelingsSpec : ChangeSpec := { name := "fnLabelings", fn := fun _ => fun
  | [d1, d2] => { results := [.lit (.bool true)], args := [d1, d2] }
  | _ => none }
def fnLabelingsRow : OpenClaim := { program := "ytcepbgffnneagaa", sum := "7d438f113cb48a6e6ffb3eccb0140fd35fc42cda904288e7cf10a5a1534247ef", func := "loop.example/g01169/laws.FnLabelings", spec := "fnLabelings", unfollowed := true, recurses := true, apart := false }
def FnLabelingsSaid : Prop := fnLabelingsRow.holds Try.pinned (OpenSpec.ofChange fnLabelingsSpec)

/-- ITS FALSE NEIGHBOUR: 'it returns false'. Refute it at one input. -/
def fnLabelingsWrong : ChangeSpec := { name := "fnLabelings", fn := fun _ => fun
  | [d1, d2] => { results := [.lit (.bool false)], args := [d1, d2] }
  | _ => none }
def FnLabelingsWrongFalsely : Prop := fnLabelingsRow.holds Try.pinned (OpenSpec.ofChange fnLabelingsWrong)

/-- 'laws.FnFree': WHATEVER THE INPUT: true; the input reads as it did. -/
def fnFreeSpec : ChangeSpec := { name := "fnFree", fn := fun _ => fun
  | [d1, d2] => { results := [.lit (.bool true)], args := [d1, d2] }
  | _ => none }
def fnFreeRow : OpenClaim := { program := "ytcepbgffnneagaa", sum := "7d438f113cb48a6e6ffb3eccb0140fd35fc42cda904288e7cf10a5a1534247ef", func := "loop.example/g01169/laws.FnFree", spec := "fnFree", unfollowed := true, recurses := true, apart := false }
def FnFreeSaid : Prop := fnFreeRow.holds Try.pinned (OpenSpec.ofChange fnFreeSpec)

/-- ITS FALSE NEIGHBOUR: 'it returns false'. Refute it at one input. -/
def fnFreeWrong : ChangeSpec := { name := "fnFree", fn := fun _ => fun
  | [d1, d2] => { results := [.lit (.bool false)], args := [d1, d2] }
  | _ => none }
def FnFreeWrongFalsely : Prop := fnFreeRow.holds Try.pinned (OpenSpec.ofChange fnFreeWrong)

/- THE SECOND FORM. 'bulk': how many values and letters a reading holds, each counted each time it is reached (what is shared counts as often as it is met; a slice's spare places count too). A statement '..UptoSaid' is the law's where the arguments, and the package variables that the reading takes, are together of bulk at most 1048576: NARROWER than '..Said'. Prove '..Said' where nothing that the law and all that it calls make is longer than what came in: it says more and counts as full. Else prove '..UptoSaid'. A law counts once. -/
mutual
def uptoBulk {H : Type} : DataW H → Nat
  | .lit (.string bytes) => bytes.length + 1
  | .lit _ => 1
  | .nil => 1
  | .ptr d => uptoBulk d + 1
  | .slice elems spare => uptoBulkAll elems + uptoBulkAll spare + 1
  | .agg parts => uptoBulkAll parts + 1
  | .iface _ d => uptoBulk d + 1
  | .map entries => uptoBulkEntries entries + 1
  | .held _ => 1
def uptoBulkAll {H : Type} : List (DataW H) → Nat
  | [] => 0
  | d :: r => uptoBulk d + uptoBulkAll r
def uptoBulkEntries {H : Type} : List (Lit × DataW H) → Nat
  | [] => 0
  | x :: r => uptoBulkEntry x + uptoBulkEntries r
def uptoBulkEntry {H : Type} : Lit × DataW H → Nat
  | (.string bytes, d) => bytes.length + uptoBulk d + 1
  | (_, d) => uptoBulk d + 1
 end
def uptoSmall : (H : Type) → List (DataW H) → Bool := fun _ ds => decide (uptoBulkAll ds ≤ 1048576)
def OpenSpec.upto (s : _root_.Go.ChangeSpec) : _root_.Go.OpenSpec := { _root_.Go.OpenSpec.ofChange s with cond := some uptoSmall }

/-- 'laws.FnExactCountCopies', WHERE WHAT IT READS IS OF BULK AT MOST 1048576: true; the input reads as it did. -/
def fnExactCountCopiesUptoRow : OpenClaim := { program := "ytcepbgffnneagaa", sum := "7d438f113cb48a6e6ffb3eccb0140fd35fc42cda904288e7cf10a5a1534247ef", func := "loop.example/g01169/laws.FnExactCountCopies", spec := "fnExactCountCopies", unfollowed := true, recurses := true, apart := false, narrowed := true }
def FnExactCountCopiesUptoSaid : Prop := fnExactCountCopiesUptoRow.holds Try.pinned (OpenSpec.upto fnExactCountCopiesSpec)

/-- 'laws.FnExactGraphDensity', WHERE WHAT IT READS IS OF BULK AT MOST 1048576: true; the input reads as it did. -/
def fnExactGraphDensityUptoRow : OpenClaim := { program := "ytcepbgffnneagaa", sum := "7d438f113cb48a6e6ffb3eccb0140fd35fc42cda904288e7cf10a5a1534247ef", func := "loop.example/g01169/laws.FnExactGraphDensity", spec := "fnExactGraphDensity", unfollowed := true, recurses := true, apart := false, narrowed := true }
def FnExactGraphDensityUptoSaid : Prop := fnExactGraphDensityUptoRow.holds Try.pinned (OpenSpec.upto fnExactGraphDensitySpec)

/-- 'laws.FnExactGraphDensities', WHERE WHAT IT READS IS OF BULK AT MOST 1048576: true; the input reads as it did. -/
def fnExactGraphDensitiesUptoRow : OpenClaim := { program := "ytcepbgffnneagaa", sum := "7d438f113cb48a6e6ffb3eccb0140fd35fc42cda904288e7cf10a5a1534247ef", func := "loop.example/g01169/laws.FnExactGraphDensities", spec := "fnExactGraphDensities", unfollowed := true, recurses := true, apart := false, narrowed := true }
def FnExactGraphDensitiesUptoSaid : Prop := fnExactGraphDensitiesUptoRow.holds Try.pinned (OpenSpec.upto fnExactGraphDensitiesSpec)

/-- 'laws.FnExactCountFlag', WHERE WHAT IT READS IS OF BULK AT MOST 1048576: true; the input reads as it did. -/
def fnExactCountFlagUptoRow : OpenClaim := { program := "ytcepbgffnneagaa", sum := "7d438f113cb48a6e6ffb3eccb0140fd35fc42cda904288e7cf10a5a1534247ef", func := "loop.example/g01169/laws.FnExactCountFlag", spec := "fnExactCountFlag", unfollowed := true, recurses := true, apart := false, narrowed := true }
def FnExactCountFlagUptoSaid : Prop := fnExactCountFlagUptoRow.holds Try.pinned (OpenSpec.upto fnExactCountFlagSpec)

/-- 'laws.FnExactFlagDensity', WHERE WHAT IT READS IS OF BULK AT MOST 1048576: true; the input reads as it did. -/
def fnExactFlagDensityUptoRow : OpenClaim := { program := "ytcepbgffnneagaa", sum := "7d438f113cb48a6e6ffb3eccb0140fd35fc42cda904288e7cf10a5a1534247ef", func := "loop.example/g01169/laws.FnExactFlagDensity", spec := "fnExactFlagDensity", unfollowed := true, recurses := true, apart := false, narrowed := true }
def FnExactFlagDensityUptoSaid : Prop := fnExactFlagDensityUptoRow.holds Try.pinned (OpenSpec.upto fnExactFlagDensitySpec)

/-- 'laws.FnExactJointDensity', WHERE WHAT IT READS IS OF BULK AT MOST 1048576: true; the input reads as it did. -/
def fnExactJointDensityUptoRow : OpenClaim := { program := "ytcepbgffnneagaa", sum := "7d438f113cb48a6e6ffb3eccb0140fd35fc42cda904288e7cf10a5a1534247ef", func := "loop.example/g01169/laws.FnExactJointDensity", spec := "fnExactJointDensity", unfollowed := true, recurses := true, apart := false, narrowed := true }
def FnExactJointDensityUptoSaid : Prop := fnExactJointDensityUptoRow.holds Try.pinned (OpenSpec.upto fnExactJointDensitySpec)

/-- 'laws.FnCopies', WHERE WHAT IT READS IS OF BULK AT MOST 1048576: true; the input reads as it did. -/
def fnCopiesUptoRow : OpenClaim := { program := "ytcepbgffnneagaa", sum := "7d438f113cb48a6e6ffb3eccb0140fd35fc42cda904288e7cf10a5a1534247ef", func := "loop.example/g01169/laws.FnCopies", spec := "fnCopies", unfollowed := true, recurses := true, apart := false, narrowed := true }
def FnCopiesUptoSaid : Prop := fnCopiesUptoRow.holds Try.pinned (OpenSpec.upto fnCopiesSpec)

/-- 'laws.FnLeast', WHERE WHAT IT READS IS OF BULK AT MOST 1048576: true; the input reads as it did. -/
def fnLeastUptoRow : OpenClaim := { program := "ytcepbgffnneagaa", sum := "7d438f113cb48a6e6ffb3eccb0140fd35fc42cda904288e7cf10a5a1534247ef", func := "loop.example/g01169/laws.FnLeast", spec := "fnLeast", unfollowed := true, recurses := true, apart := false, narrowed := true }
def FnLeastUptoSaid : Prop := fnLeastUptoRow.holds Try.pinned (OpenSpec.upto fnLeastSpec)

/-- 'laws.FnLabelings', WHERE WHAT IT READS IS OF BULK AT MOST 1048576: true; the input reads as it did. -/
def fnLabelingsUptoRow : OpenClaim := { program := "ytcepbgffnneagaa", sum := "7d438f113cb48a6e6ffb3eccb0140fd35fc42cda904288e7cf10a5a1534247ef", func := "loop.example/g01169/laws.FnLabelings", spec := "fnLabelings", unfollowed := true, recurses := true, apart := false, narrowed := true }
def FnLabelingsUptoSaid : Prop := fnLabelingsUptoRow.holds Try.pinned (OpenSpec.upto fnLabelingsSpec)

/-- 'laws.FnFree', WHERE WHAT IT READS IS OF BULK AT MOST 1048576: true; the input reads as it did. -/
def fnFreeUptoRow : OpenClaim := { program := "ytcepbgffnneagaa", sum := "7d438f113cb48a6e6ffb3eccb0140fd35fc42cda904288e7cf10a5a1534247ef", func := "loop.example/g01169/laws.FnFree", spec := "fnFree", unfollowed := true, recurses := true, apart := false, narrowed := true }
def FnFreeUptoSaid : Prop := fnFreeUptoRow.holds Try.pinned (OpenSpec.upto fnFreeSpec)

end Rows
end Go.Proofs.Ytcepbgffnneagaa
