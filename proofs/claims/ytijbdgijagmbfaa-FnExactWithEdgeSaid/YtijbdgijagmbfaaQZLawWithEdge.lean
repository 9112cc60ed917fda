/- A contract of one Go function: what it returns for its arguments; printed by the kit's print program or written by hand. -/
import Derived.Test.YtijbdgijagmbfaaQ0
import Derived.Test.YtijbdgijagmbfaaQF18
import Derived.Test.YtijbdgijagmbfaaQF30
import Derived.Test.YtijbdgijagmbfaaQF31
import Derived.Test.YtijbdgijagmbfaaQF32
import Derived.Test.YtijbdgijagmbfaaQF10
import Derived.Test.YtijbdgijagmbfaaQZBits
import Derived.Test.YtijbdgijagmbfaaQZBitsS
import Derived.Test.YtijbdgijagmbfaaQZBitsU
import Derived.Test.YtijbdgijagmbfaaQZImplValid
import Derived.Test.YtijbdgijagmbfaaQZPair
import Derived.Test.YtijbdgijagmbfaaQZPairI
import Derived.Test.YtijbdgijagmbfaaQZValid
namespace Go.Proofs.Ytijbdgijagmbfaa.Q
open Go.RowKit Go.Proofs.YtijbdgijagmbfaaW.PrintWords Go.Proofs.YtijbdgijagmbfaaW.PrintLast Go.Proofs.YtijbdgijagmbfaaW.PrintMore
attribute [local go_sem] max2_int min2_int max_two min_two max_three min_three max_four min_four   -- for this text's walks alone
set_option linter.unusedVariables false
set_option linter.unusedSimpArgs false

/-! #### pure: LawWithEdge -/
theorem FnExactWithEdge_pure (n e i j : Int) (on : Bool) (_hn : (Lit.int .i64 n).wf = true) (he : (Lit.int .u32 e).wf = true) (_hi : (Lit.int .i64 i).wf = true) (_hj : (Lit.int .i64 j).wf = true) : ∃ k, laws_FnExactWithEdge.f k n e i j on = some true := by
  refine ⟨2, ?_⟩
  have he' : 0 ≤ e ∧ e ≤ 4294967295 := by simpa [Lit.wf, IntKind.min, IntKind.max, IntKind.bits, IntKind.signed] using he
  simp only [laws_FnExactWithEdge.f, laws_toGraph.f, Option.bind_some, spec_WithEdge.f, impl_WithEdge.f, l01Ok_eq n e he'.1 he'.2, ValidGraph_eq n e he'.1 he'.2, laws_eqGraph.f]
  cases hv : validG n e
  · rfl
  · simp only [validG, decide_eq_true_eq] at hv
    simp only [if_true, l01Pair_eq hv.1 hv.2.1, isPair_eq hv.1 hv.2.1, Option.bind_some]
    cases hp : pairB n i j
    · rfl
    · simp only [pairB, decide_eq_true_eq] at hp
      obtain ⟨a, b, c, d, x⟩ := hp
      simp only [if_true, l01Bit_eq 0 a (show i ≤ 4 by omega) c (show j ≤ 4 by omega), bit_eq a (show i ≤ 4 by omega) c (show j ≤ 4 by omega), Option.bind_some]
      generalize bitI i j = b'
      cases on
      · have h : Go.bits .andNot .u32 e b' = Go.bits .xor .u32 (Go.bits .or .u32 e b') b' := by
          rw [bits_andNot32, bits_xor32, bits_or32, ofInt_toNat32]; congr 2
          ext k hk; simp only [BitVec.getElem_and, BitVec.getElem_or, BitVec.getElem_xor, BitVec.getElem_not]; generalize (BitVec.ofInt 32 e)[k] = p; generalize (BitVec.ofInt 32 b')[k] = q; cases p <;> cases q <;> rfl
        simp [h]
      · have h : Go.bits .or .u32 (Go.bits .andNot .u32 e b') b' = Go.bits .or .u32 e b' := by
          rw [bits_or32, bits_or32, bits_andNot32, ofInt_toNat32]; congr 2
          ext k hk; simp only [BitVec.getElem_and, BitVec.getElem_or, BitVec.getElem_xor, BitVec.getElem_not]; generalize (BitVec.ofInt 32 e)[k] = p; generalize (BitVec.ofInt 32 b')[k] = q; cases p <;> cases q <;> rfl
        simp [h]

end Go.Proofs.Ytijbdgijagmbfaa.Q
