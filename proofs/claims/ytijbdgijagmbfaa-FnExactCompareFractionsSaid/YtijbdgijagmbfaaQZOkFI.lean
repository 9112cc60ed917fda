/- A contract of one Go function: what it returns for its arguments; printed by the kit's print program or written by hand. -/
import Derived.Test.YtijbdgijagmbfaaQ0
import Derived.Test.YtijbdgijagmbfaaQF52
import Derived.Test.YtijbdgijagmbfaaQF25
import Derived.Test.YtijbdgijagmbfaaQZGcdI
import Derived.Test.YtijbdgijagmbfaaQZOkF
namespace Go.Proofs.Ytijbdgijagmbfaa.Q
open Go.RowKit Go.Proofs.YtijbdgijagmbfaaW.PrintWords Go.Proofs.YtijbdgijagmbfaaW.PrintLast Go.Proofs.YtijbdgijagmbfaaW.PrintMore
attribute [local go_sem] max2_int min2_int max_two min_two max_three min_three max_four min_four   -- for this text's walks alone
set_option linter.unusedVariables false
set_option linter.unusedSimpArgs false

/-! #### pure: OkFI -/
theorem ValidFraction_eq (k : Nat) (hk : 1000000000 < k) (p q : Int) : impl_ValidFraction.f k p q = some (okF p q) := by
  unfold impl_ValidFraction.f okF
  by_cases h : q > 0 ∧ p ≥ -1000000000 ∧ p ≤ 1000000000 ∧ q ≤ 1000000000
  · obtain ⟨a, b, c, d⟩ := h
    rw [if_pos a, if_pos b, if_pos c, if_pos d]
    unfold impl_gcd.f
    rw [gcd_eq k p q (by omega) (by omega) (by omega)]; simp only [Option.bind_some]
    congr 1
    by_cases g : Nat.gcd p.natAbs q.natAbs = 1
    · rw [show (((Nat.gcd p.natAbs q.natAbs : Nat) : Int) == 1) = true from by rw [g]; rfl]; symm; rw [decide_eq_true_eq]; exact ⟨b, c, by omega, d, g⟩
    · rw [show (((Nat.gcd p.natAbs q.natAbs : Nat) : Int) == 1) = false from by rw [beq_eq_false_iff_ne]; omega]; symm; rw [decide_eq_false_iff_not]; exact fun x => g x.2.2.2.2
  · rw [show decide (-1000000000 ≤ p ∧ p ≤ 1000000000 ∧ 1 ≤ q ∧ q ≤ 1000000000 ∧ Nat.gcd p.natAbs q.natAbs = 1) = false from by rw [decide_eq_false_iff_not]; omega]
    split
    · split
      · split
        · split
          · omega
          · rfl
        · rfl
      · rfl
    · rfl

end Go.Proofs.Ytijbdgijagmbfaa.Q
