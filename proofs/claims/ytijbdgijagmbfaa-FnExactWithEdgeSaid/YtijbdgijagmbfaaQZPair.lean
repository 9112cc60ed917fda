/- A contract of one Go function: what it returns for its arguments; printed by the kit's print program or written by hand. -/
import Derived.Test.YtijbdgijagmbfaaQ0
import Derived.Test.YtijbdgijagmbfaaQF53
import Derived.Test.YtijbdgijagmbfaaQZBase
namespace Go.Proofs.Ytijbdgijagmbfaa.Q
open Go.RowKit Go.Proofs.YtijbdgijagmbfaaW.PrintWords Go.Proofs.YtijbdgijagmbfaaW.PrintLast Go.Proofs.YtijbdgijagmbfaaW.PrintMore
attribute [local go_sem] max2_int min2_int max_two min_two max_three min_three max_four min_four   -- for this text's walks alone
set_option linter.unusedVariables false
set_option linter.unusedSimpArgs false

/-! #### pure: Pair -/
def pairB (n i j : Int) : Bool := decide (0 ≤ i ∧ i < n ∧ 0 ≤ j ∧ j < n ∧ i ≠ j)
theorem l01Pair_eq {n i j : Int} (h0 : 0 ≤ n) (h5 : n ≤ 5) : spec_l01Pair.f n i j = some (pairB n i j) := by
  have hw : wrap64 (n - 1) = n - 1 := by unfold wrap64; omega
  unfold spec_l01Pair.f pairB
  rw [hw, l00In_eq, l00In_eq]; simp only [Option.bind_some]
  by_cases h : 0 ≤ i ∧ i ≤ n - 1
  · rw [if_pos (by simpa using h)]
    by_cases h' : 0 ≤ j ∧ j ≤ n - 1
    · rw [if_pos (by simpa using h')]; congr 1
      by_cases e : i = j
      · subst e; simp
      · rw [bne_iff_ne.mpr e]; symm; rw [decide_eq_true_eq]; omega
    · rw [if_neg (by simpa using h')]; congr 1; symm; rw [decide_eq_false_iff_not]; omega
  · rw [if_neg (by simpa using h)]; congr 1; symm; rw [decide_eq_false_iff_not]; omega

end Go.Proofs.Ytijbdgijagmbfaa.Q
