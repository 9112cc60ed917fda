/- A contract of one Go function: what it returns for its arguments; printed by the kit's print program or written by hand. -/
import Derived.Test.YtijbdgijagmbfaaQ0
import Derived.Test.YtijbdgijagmbfaaQF57
import Derived.Test.YtijbdgijagmbfaaQZBits
namespace Go.Proofs.Ytijbdgijagmbfaa.Q
open Go.RowKit Go.Proofs.YtijbdgijagmbfaaW.PrintWords Go.Proofs.YtijbdgijagmbfaaW.PrintLast Go.Proofs.YtijbdgijagmbfaaW.PrintMore
attribute [local go_sem] max2_int min2_int max_two min_two max_three min_three max_four min_four   -- for this text's walks alone
set_option linter.unusedVariables false
set_option linter.unusedSimpArgs false

/-! #### pure: BitsS -/
theorem l01Bit_eq (k : Nat) {i j : Int} (i0 : 0 ≤ i) (i4 : i ≤ 4) (j0 : 0 ≤ j) (j4 : j ≤ 4) : spec_l01Bit.f (k + 2) i j = some (bitI i j) := by
  rcases small4 i0 i4 with rfl | rfl | rfl | rfl | rfl <;> rcases small4 j0 j4 with rfl | rfl | rfl | rfl | rfl <;> kernel_rfl

end Go.Proofs.Ytijbdgijagmbfaa.Q
