/- A contract of one Go function: what it returns for its arguments; printed by the kit's print program or written by hand. -/
import Derived.Test.YtijbdgijagmbfaaQ0
import Derived.Test.YtijbdgijagmbfaaQF23
import Derived.Test.YtijbdgijagmbfaaQF24
import Derived.Test.YtijbdgijagmbfaaQF7
import Derived.Test.YtijbdgijagmbfaaQZOkF
import Derived.Test.YtijbdgijagmbfaaQZOkFI
namespace Go.Proofs.Ytijbdgijagmbfaa.Q
open Go.RowKit Go.Proofs.YtijbdgijagmbfaaW.PrintWords Go.Proofs.YtijbdgijagmbfaaW.PrintLast Go.Proofs.YtijbdgijagmbfaaW.PrintMore
attribute [local go_sem] max2_int min2_int max_two min_two max_three min_three max_four min_four   -- for this text's walks alone
set_option linter.unusedVariables false
set_option linter.unusedSimpArgs false

/-! #### pure: LawValidFraction -/
theorem FnExactValidFraction_pure (p q : Int) (_hp : (Lit.int .i64 p).wf = true) (_hq : (Lit.int .i64 q).wf = true) : ∃ k, laws_FnExactValidFraction.f k p q = some true := by
  refine ⟨1000000001, ?_⟩
  simp only [laws_FnExactValidFraction.f, laws_toFraction.f, Option.bind_some, spec_ValidFraction.f, l02Ok_eq 1000000001 (by omega), ValidFraction_eq 1000000001 (by omega), bne_self_eq_false, Bool.false_eq_true, if_false]

end Go.Proofs.Ytijbdgijagmbfaa.Q
