/- A contract of one Go function: what it returns for its arguments; printed by the kit's print program or written by hand. -/
import Derived.Test.YtijbdgijagmbfaaQ0
import Derived.Test.YtijbdgijagmbfaaQF53
import Derived.Test.YtijbdgijagmbfaaQF55
import Derived.Test.YtijbdgijagmbfaaQZBase
import Derived.Test.YtijbdgijagmbfaaQZIn
import Derived.Test.YtijbdgijagmbfaaQZPair
namespace Go.Proofs.Ytijbdgijagmbfaa.Q
open Go.RowKit Go.Proofs.YtijbdgijagmbfaaW.PrintWords Go.Proofs.YtijbdgijagmbfaaW.PrintLast Go.Proofs.YtijbdgijagmbfaaW.PrintMore
attribute [local go_sem] max2_int min2_int max_two min_two max_three min_three max_four min_four   -- for this text's walks alone
set_option linter.unusedVariables false
set_option linter.unusedSimpArgs false

/-! #### pure: PairI -/
theorem isPair_eq {n i j : Int} (h0 : 0 ≤ n) (h5 : n ≤ 5) : impl_isPair.f n i j = some (pairB n i j) := by
  rw [← l01Pair_eq h0 h5]; unfold impl_isPair.f spec_l01Pair.f
  rw [in_eq, in_eq, l00In_eq, l00In_eq]

end Go.Proofs.Ytijbdgijagmbfaa.Q
