/- A contract of one Go function: what it returns for its arguments; printed by the kit's print program or written by hand. -/
import Derived.Test.YtijbdgijagmbfaaQ0
import Derived.Test.YtijbdgijagmbfaaQF18
import Derived.Test.YtijbdgijagmbfaaQF21
import Derived.Test.YtijbdgijagmbfaaQF26
import Derived.Test.YtijbdgijagmbfaaQF27
import Derived.Test.YtijbdgijagmbfaaQF8
import Derived.Test.YtijbdgijagmbfaaQZImplValidFlag
import Derived.Test.YtijbdgijagmbfaaQZValidFlagP
namespace Go.Proofs.Ytijbdgijagmbfaa.Q
open Go.RowKit Go.Proofs.YtijbdgijagmbfaaW.PrintWords Go.Proofs.YtijbdgijagmbfaaW.PrintLast Go.Proofs.YtijbdgijagmbfaaW.PrintMore
attribute [local go_sem] max2_int min2_int max_two min_two max_three min_three max_four min_four   -- for this text's walks alone
set_option linter.unusedVariables false
set_option linter.unusedSimpArgs false

/-! #### pure: LawSizeOf -/
theorem FnExactSizeOf_pure (l n e : Int) (_hl : (Lit.int .i64 l).wf = true) (_hn : (Lit.int .i64 n).wf = true) (he : (Lit.int .u32 e).wf = true) : laws_FnExactSizeOf.f l n e = some true := by
  have he' : 0 ≤ e ∧ e ≤ 4294967295 := by simpa [Lit.wf, IntKind.min, IntKind.max, IntKind.bits, IntKind.signed] using he
  simp only [laws_FnExactSizeOf.f, laws_toFlag.f, laws_toGraph.f, Option.bind_some, spec_SizeOf.f, impl_SizeOf.f, l03Ok_eq l n e he'.1 he'.2, ValidFlag_eq l n e he'.1 he'.2]
  cases validF l n e <;> simp

end Go.Proofs.Ytijbdgijagmbfaa.Q
