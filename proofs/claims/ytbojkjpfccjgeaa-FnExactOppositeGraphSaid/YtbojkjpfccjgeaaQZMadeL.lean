/- A contract of one Go function: what it returns for its arguments; printed by the kit's print program or written by hand. -/
import Derived.Test.YtbojkjpfccjgeaaQ0
import Derived.Test.YtbojkjpfccjgeaaQF87
import Derived.Test.YtbojkjpfccjgeaaQZBits
import Derived.Test.YtbojkjpfccjgeaaQZMadeD
namespace Go.Proofs.Ytbojkjpfccjgeaa.Q
open Go.RowKit Go.Proofs.YtbojkjpfccjgeaaW.PrintWords Go.Proofs.YtbojkjpfccjgeaaW.PrintLast Go.Proofs.YtbojkjpfccjgeaaW.PrintMore
attribute [local go_sem] max2_int min2_int max_two min_two max_three min_three max_four min_four   -- for this text's walks alone
set_option linter.unusedVariables false
set_option linter.unusedSimpArgs false

/-! #### pure: MadeL -/
theorem made_row {cb : Int → Int → Option Bool} {J : Nat → Nat → Bool} {n j : Nat} (hn : n ≤ 5) (hj : j < n) (h : ∀ i j : Nat, i < j → j < n → cb i j = some (J i j)) (N : Int) :
    ∀ (d i : Nat) (e : Int) (k : Nat), i + d = j → impl_made.l1 cb (k + (d + 1)) j n j j i N e = impl_made.l0 cb k n ((j + 1 : Nat) : Int) N (loopRow J j d i e)
  | 0, i, e, k, hd => by
    have : i = j := by omega
    subst this
    simp only [impl_made.l1, loopRow]
    rw [if_neg (by omega), show wrap64 ((i : Int) + 1) = ((i + 1 : Nat) : Int) from by unfold wrap64; omega]
  | d + 1, i, e, k, hd => by
    have hw : wrap64 ((i : Int) + 1) = ((i + 1 : Nat) : Int) := by unfold wrap64; omega
    rw [show k + (d + 1 + 1) = (k + (d + 1)) + 1 from by omega]
    simp only [impl_made.l1, loopRow]
    rw [if_pos (by omega), h i j (by omega) hj, hw]
    simp only [Option.bind_some]
    cases J i j
    · simp only [Bool.false_eq_true, if_false]
      exact made_row hn hj h N d (i + 1) e k (by omega)
    · rw [if_pos rfl, bit_eq (by omega) (by omega) (by omega) (by omega)]
      simp only [Option.bind_some, if_true]
      exact made_row hn hj h N d (i + 1) _ k (by omega)
theorem made_all {cb : Int → Int → Option Bool} {J : Nat → Nat → Bool} {n : Nat} (hn : n ≤ 5) (h : ∀ i j : Nat, i < j → j < n → cb i j = some (J i j)) (N : Int) :
    ∀ (d j : Nat) (e : Int) (k : Nat), j + d = n → 7 * d + 1 ≤ k → impl_made.l0 cb k n j N e = some (N, loopMade J d j e)
  | 0, j, e, k, hd, hk => by
    obtain ⟨k, rfl⟩ : ∃ m, k = m + 1 := ⟨k - 1, by omega⟩
    simp only [impl_made.l0, loopMade]
    rw [if_neg (by omega)]
  | d + 1, j, e, k, hd, hk => by
    obtain ⟨k, rfl⟩ : ∃ m, k = m + (j + 1) + 1 := ⟨k - (j + 2), by omega⟩
    simp only [impl_made.l0, loopMade]
    rw [if_pos (by omega)]
    have := made_row hn (show j < n by omega) h N j 0 e k (by omega)
    rw [show ((0 : Nat) : Int) = 0 from rfl] at this
    rw [this]
    exact made_all hn h N d (j + 1) _ k (by omega) (by omega)
theorem made_eq {cb : Int → Int → Option Bool} {J : Nat → Nat → Bool} {n : Nat} (hn : n ≤ 5) (h : ∀ i j : Nat, i < j → j < n → cb i j = some (J i j)) (k : Nat) (hk : 40 ≤ k) :
    impl_made.f cb k (n : Int) = some ((n : Int), madeI n J) := by
  unfold impl_made.f madeI
  exact made_all hn h n n 0 0 k (by omega) (by omega)

end Go.Proofs.Ytbojkjpfccjgeaa.Q
