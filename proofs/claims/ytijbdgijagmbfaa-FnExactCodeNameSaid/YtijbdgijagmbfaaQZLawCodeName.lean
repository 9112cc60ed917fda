/- A contract of one Go function: what it returns for its arguments; printed by the kit's print program or written by hand. -/
import Derived.Test.YtijbdgijagmbfaaQ0
import Derived.Test.YtijbdgijagmbfaaQF15
import Derived.Test.YtijbdgijagmbfaaQF16
import Derived.Test.YtijbdgijagmbfaaQF4
import Derived.Test.YtijbdgijagmbfaaQZBase
namespace Go.Proofs.Ytijbdgijagmbfaa.Q
open Go.RowKit Go.Proofs.YtijbdgijagmbfaaW.PrintWords Go.Proofs.YtijbdgijagmbfaaW.PrintLast Go.Proofs.YtijbdgijagmbfaaW.PrintMore
attribute [local go_sem] max2_int min2_int max_two min_two max_three min_three max_four min_four   -- for this text's walks alone
set_option linter.unusedVariables false
set_option linter.unusedSimpArgs false

/-! #### pure: LawCodeName -/
theorem FnExactCodeName_pure (a : Int) (_ha : (Lit.int .i64 a).wf = true) : laws_FnExactCodeName.f a = some true := by
  unfold laws_FnExactCodeName.f spec_CodeName.f impl_CodeName.f
  simp only [Option.bind_some, l00In_eq]
  by_cases h : 0 ≤ a ∧ a ≤ 8
  · have h' : 0 ≤ a := h.1
    have h'' : a < 9 := by omega
    simp [h, h', h'', show ¬ a < 0 by omega, show ¬ a ≥ 9 by omega]
  · by_cases h1 : a < 0
    · simp [h1, show ¬ (0 ≤ a ∧ a ≤ 8) from h, show ¬ 0 ≤ a by omega]
    · simp [h1, show ¬ (0 ≤ a ∧ a ≤ 8) from h, show 9 ≤ a by omega, show ¬ a ≤ 8 by omega]

end Go.Proofs.Ytijbdgijagmbfaa.Q
