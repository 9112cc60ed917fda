/- A contract of one Go function: what it returns for its arguments; printed by the kit's print program or written by hand. -/
import Derived.Test.YtijbdgijagmbfaaQ0
import Derived.Test.YtijbdgijagmbfaaQF17
import Derived.Test.YtijbdgijagmbfaaQF18
import Derived.Test.YtijbdgijagmbfaaQF5
import Derived.Test.YtijbdgijagmbfaaQZImplValid
import Derived.Test.YtijbdgijagmbfaaQZValid
namespace Go.Proofs.Ytijbdgijagmbfaa.Q
open Go.RowKit Go.Proofs.YtijbdgijagmbfaaW.PrintWords Go.Proofs.YtijbdgijagmbfaaW.PrintLast Go.Proofs.YtijbdgijagmbfaaW.PrintMore
attribute [local go_sem] max2_int min2_int max_two min_two max_three min_three max_four min_four   -- for this text's walks alone
set_option linter.unusedVariables false
set_option linter.unusedSimpArgs false

/-! #### pure: LawValidGraph -/
theorem FnExactValidGraph_pure (n e : Int) (_hn : (Lit.int .i64 n).wf = true) (he : (Lit.int .u32 e).wf = true) : laws_FnExactValidGraph.f n e = some true := by
  have he' : 0 ≤ e ∧ e ≤ 4294967295 := by simpa [Lit.wf, IntKind.min, IntKind.max, IntKind.bits, IntKind.signed] using he
  simp only [laws_FnExactValidGraph.f, laws_toGraph.f, Option.bind_some, spec_ValidGraph.f, l01Ok_eq n e he'.1 he'.2, ValidGraph_eq n e he'.1 he'.2, bne_self_eq_false, Bool.false_eq_true, if_false]

end Go.Proofs.Ytijbdgijagmbfaa.Q
