/- A contract of one Go function: what it returns for its arguments; printed by the kit's print program or written by hand. -/
import Derived.Test.YtbojkjpfccjgeaaQ0
import Derived.Test.YtbojkjpfccjgeaaQF54
import Derived.Test.YtbojkjpfccjgeaaQF17
import Derived.Test.YtbojkjpfccjgeaaQF18
import Derived.Test.YtbojkjpfccjgeaaQF22
import Derived.Test.YtbojkjpfccjgeaaQF23
import Derived.Test.YtbojkjpfccjgeaaQF6
import Derived.Test.YtbojkjpfccjgeaaQZBase
import Derived.Test.YtbojkjpfccjgeaaQZIn
namespace Go.Proofs.Ytbojkjpfccjgeaa.Q
open Go.RowKit Go.Proofs.YtbojkjpfccjgeaaW.PrintWords Go.Proofs.YtbojkjpfccjgeaaW.PrintLast Go.Proofs.YtbojkjpfccjgeaaW.PrintMore
attribute [local go_sem] max2_int min2_int max_two min_two max_three min_three max_four min_four   -- for this text's walks alone
set_option linter.unusedVariables false
set_option linter.unusedSimpArgs false

/-! #### pure: LawCycleGraph -/
theorem FnExactCycleGraph_pure (n : Int) (_hn : (Lit.int .i64 n).wf = true) : ∃ k, laws_FnExactCycleGraph.f k n = some true := by
  refine ⟨60, ?_⟩
  by_cases h : 0 ≤ n ∧ n ≤ 5
  · rcases small5 h.1 h.2 with rfl | rfl | rfl | rfl | rfl | rfl <;> decide +kernel
  · have h1 : decide (0 ≤ n ∧ n ≤ 5) = false := by simpa using h
    have h2 : decide (3 ≤ n ∧ n ≤ 5) = false := by rw [decide_eq_false_iff_not]; omega
    simp [laws_FnExactCycleGraph.f, spec_CycleGraph.f, spec_PathGraph.f, impl_CycleGraph.f, impl_shaped.f, l00In_eq, in_eq, h1, h2, laws_eqGraph.f]

end Go.Proofs.Ytbojkjpfccjgeaa.Q
