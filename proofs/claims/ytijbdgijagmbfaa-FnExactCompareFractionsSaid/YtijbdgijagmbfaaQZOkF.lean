/- A contract of one Go function: what it returns for its arguments; printed by the kit's print program or written by hand. -/
import Derived.Test.YtijbdgijagmbfaaQ0
import Derived.Test.YtijbdgijagmbfaaQF77
import Derived.Test.YtijbdgijagmbfaaQF78
import Derived.Test.YtijbdgijagmbfaaQF51
import Derived.Test.YtijbdgijagmbfaaQZBase
import Derived.Test.YtijbdgijagmbfaaQZGcd
namespace Go.Proofs.Ytijbdgijagmbfaa.Q
open Go.RowKit Go.Proofs.YtijbdgijagmbfaaW.PrintWords Go.Proofs.YtijbdgijagmbfaaW.PrintLast Go.Proofs.YtijbdgijagmbfaaW.PrintMore
attribute [local go_sem] max2_int min2_int max_two min_two max_three min_three max_four min_four   -- for this text's walks alone
set_option linter.unusedVariables false
set_option linter.unusedSimpArgs false

/-! #### pure: OkF -/
def okF (p q : Int) : Bool := decide (-1000000000 ≤ p ∧ p ≤ 1000000000 ∧ 1 ≤ q ∧ q ≤ 1000000000 ∧ Nat.gcd p.natAbs q.natAbs = 1)
theorem abs_eq {a : Int} (h0 : -9223372036854775807 ≤ a) (h1 : a ≤ 9223372036854775807) : spec_l02Abs.f a = some ((a.natAbs : Nat) : Int) := by
  have hw : wrap64 (-a) = -a := by unfold wrap64; omega
  unfold spec_l02Abs.f; rw [hw]; split <;> (congr 1; omega)
theorem l02Ok_eq (k : Nat) (hk : 1000000000 < k) (p q : Int) : spec_l02Ok.f k p q = some (okF p q) := by
  unfold spec_l02Ok.f okF
  rw [l00In_eq, l00In_eq]; simp only [Option.bind_some]
  by_cases h : -1000000000 ≤ p ∧ p ≤ 1000000000
  · rw [if_pos (by simpa using h)]
    by_cases h' : 1 ≤ q ∧ q ≤ 1000000000
    · obtain ⟨q', rfl⟩ : ∃ q' : Nat, q = q' := ⟨q.toNat, by omega⟩
      rw [if_pos (by simpa using h'), abs_eq (by omega) (by omega)]; simp only [Option.bind_some]
      unfold spec_l02Common.f
      rw [common_eq k _ _ (by omega)]; simp only [Option.bind_some]
      congr 1
      by_cases g : Nat.gcd p.natAbs q' = 1
      · rw [g, show (((1 : Nat) : Int) == 1) = true from rfl]; symm; rw [decide_eq_true_eq, Int.natAbs_natCast]; exact ⟨h.1, h.2, h'.1, h'.2, g⟩
      · rw [show (((Nat.gcd p.natAbs q' : Nat) : Int) == 1) = false from by rw [beq_eq_false_iff_ne]; omega]; symm; rw [decide_eq_false_iff_not, Int.natAbs_natCast]; exact fun x => g x.2.2.2.2
    · rw [if_neg (by simpa using h')]; congr 1; symm; rw [decide_eq_false_iff_not]; omega
  · rw [if_neg (by simpa using h)]; congr 1; symm; rw [decide_eq_false_iff_not]; omega

end Go.Proofs.Ytijbdgijagmbfaa.Q
