/- A contract of one Go function: what it returns for its arguments; printed by the kit's print program or written by hand. -/
import Derived.Test.YtijbdgijagmbfaaQ0
import Derived.Test.YtijbdgijagmbfaaQF24
import Derived.Test.YtijbdgijagmbfaaQF59
import Derived.Test.YtijbdgijagmbfaaQF33
import Derived.Test.YtijbdgijagmbfaaQF88
import Derived.Test.YtijbdgijagmbfaaQF80
import Derived.Test.YtijbdgijagmbfaaQF60
import Derived.Test.YtijbdgijagmbfaaQF34
import Derived.Test.YtijbdgijagmbfaaQF11
import Derived.Test.YtijbdgijagmbfaaQZOkF
import Derived.Test.YtijbdgijagmbfaaQZOkFI
namespace Go.Proofs.Ytijbdgijagmbfaa.Q
open Go.RowKit Go.Proofs.YtijbdgijagmbfaaW.PrintWords Go.Proofs.YtijbdgijagmbfaaW.PrintLast Go.Proofs.YtijbdgijagmbfaaW.PrintMore
attribute [local go_sem] max2_int min2_int max_two min_two max_three min_three max_four min_four   -- for this text's walks alone
set_option linter.unusedVariables false
set_option linter.unusedSimpArgs false

/-! #### pure: LawCompareFractions -/
theorem FnExactCompareFractions_pure (p q r s : Int) (_hp : (Lit.int .i64 p).wf = true) (_hq : (Lit.int .i64 q).wf = true) (_hr : (Lit.int .i64 r).wf = true) (_hs : (Lit.int .i64 s).wf = true) : ∃ k, laws_FnExactCompareFractions.f k p q r s = some true := by
  refine ⟨1000000001, ?_⟩
  simp only [laws_FnExactCompareFractions.f, laws_toFraction.f, Option.bind_some, spec_CompareFractions.f, impl_CompareFractions.f, l02Ok_eq 1000000001 (by omega), ValidFraction_eq 1000000001 (by omega)]
  cases okF p q
  · rfl
  cases okF r s
  · rfl
  simp only [if_true, spec_l02Compare.f, impl_compare.f, cmp_Compare_int64.f, cmp_isNaN_int64.f, Option.bind_some, bne_self_eq_false, Bool.false_eq_true, if_false]
  split
  · rfl
  · split <;> rfl

end Go.Proofs.Ytijbdgijagmbfaa.Q
