/- A contract of one Go function: what it returns for its arguments; printed by the kit's print program or written by hand. -/
import Derived.Test.YtijbdgijagmbfaaQ0
import Derived.Test.YtijbdgijagmbfaaQF18
import Derived.Test.YtijbdgijagmbfaaQF54
import Derived.Test.YtijbdgijagmbfaaQF28
import Derived.Test.YtijbdgijagmbfaaQF56
import Derived.Test.YtijbdgijagmbfaaQF29
import Derived.Test.YtijbdgijagmbfaaQF9
import Derived.Test.YtijbdgijagmbfaaQZBits
import Derived.Test.YtijbdgijagmbfaaQZBitsS
import Derived.Test.YtijbdgijagmbfaaQZImplValid
import Derived.Test.YtijbdgijagmbfaaQZPair
import Derived.Test.YtijbdgijagmbfaaQZPairI
import Derived.Test.YtijbdgijagmbfaaQZValid
namespace Go.Proofs.Ytijbdgijagmbfaa.Q
open Go.RowKit Go.Proofs.YtijbdgijagmbfaaW.PrintWords Go.Proofs.YtijbdgijagmbfaaW.PrintLast Go.Proofs.YtijbdgijagmbfaaW.PrintMore
attribute [local go_sem] max2_int min2_int max_two min_two max_three min_three max_four min_four   -- for this text's walks alone
set_option linter.unusedVariables false
set_option linter.unusedSimpArgs false

/-! #### pure: LawHasEdge -/
theorem FnExactHasEdge_pure (n e i j : Int) (_hn : (Lit.int .i64 n).wf = true) (he : (Lit.int .u32 e).wf = true) (_hi : (Lit.int .i64 i).wf = true) (_hj : (Lit.int .i64 j).wf = true) : ∃ k, laws_FnExactHasEdge.f k n e i j = some true := by
  refine ⟨2, ?_⟩
  have he' : 0 ≤ e ∧ e ≤ 4294967295 := by simpa [Lit.wf, IntKind.min, IntKind.max, IntKind.bits, IntKind.signed] using he
  simp only [laws_FnExactHasEdge.f, laws_toGraph.f, Option.bind_some, spec_HasEdge.f, impl_HasEdge.f, l01Ok_eq n e he'.1 he'.2, ValidGraph_eq n e he'.1 he'.2]
  cases hv : validG n e
  · rfl
  · simp only [validG, decide_eq_true_eq] at hv
    simp only [if_true, l01Pair_eq hv.1 hv.2.1, isPair_eq hv.1 hv.2.1, Option.bind_some]
    cases hp : pairB n i j
    · rfl
    · simp only [pairB, decide_eq_true_eq] at hp
      obtain ⟨a, b, c, d, x⟩ := hp
      simp only [if_true, spec_l01Joined.f, impl_Graph_has.f, if_neg x, l01Bit_eq 0 a (show i ≤ 4 by omega) c (show j ≤ 4 by omega), bit_eq a (show i ≤ 4 by omega) c (show j ≤ 4 by omega), Option.bind_some, bne_self_eq_false, Bool.false_eq_true, if_false]

end Go.Proofs.Ytijbdgijagmbfaa.Q
