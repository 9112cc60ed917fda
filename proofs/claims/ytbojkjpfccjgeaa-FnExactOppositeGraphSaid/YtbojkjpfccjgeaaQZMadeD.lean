/- A contract of one Go function: what it returns for its arguments; printed by the kit's print program or written by hand. -/
import Derived.Test.YtbojkjpfccjgeaaQ0
import Derived.Test.YtbojkjpfccjgeaaQZBits
namespace Go.Proofs.Ytbojkjpfccjgeaa.Q
open Go.RowKit Go.Proofs.YtbojkjpfccjgeaaW.PrintWords Go.Proofs.YtbojkjpfccjgeaaW.PrintLast Go.Proofs.YtbojkjpfccjgeaaW.PrintMore
attribute [local go_sem] max2_int min2_int max_two min_two max_three min_three max_four min_four   -- for this text's walks alone
set_option linter.unusedVariables false
set_option linter.unusedSimpArgs false

/-! #### pure: MadeD -/
def loopRow (J : Nat → Nat → Bool) (j : Nat) : Nat → Nat → Int → Int
  | 0, _, e => e
  | d + 1, i, e => loopRow J j d (i + 1) (if J i j then Go.bits .or .u32 e (bitI i j) else e)
def loopMade (J : Nat → Nat → Bool) : Nat → Nat → Int → Int
  | 0, _, e => e
  | d + 1, j, e => loopMade J d (j + 1) (loopRow J j j 0 e)
/-- The edges of the graph on n vertices in which i < j are joined as J tells. -/
def madeI (n : Nat) (J : Nat → Nat → Bool) : Int := loopMade J n 0 0
def hasI (e a b : Int) : Bool := Go.bits .and .u32 e (bitI a b) != 0
def onI (e : Int) (l : List Int) : Int := madeI l.length (fun i j => hasI e (rd l i) (rd l j))
theorem loopRow_congr {J J' : Nat → Nat → Bool} {j : Nat} : ∀ (d i : Nat) (e : Int), (∀ i', i ≤ i' → i' < i + d → J i' j = J' i' j) → loopRow J j d i e = loopRow J' j d i e
  | 0, _, _, _ => rfl
  | d + 1, i, e, h => by
    simp only [loopRow]; rw [h i (by omega) (by omega)]
    exact loopRow_congr d (i + 1) _ fun i' h1 h2 => h i' (by omega) (by omega)
theorem loopMade_congr {J J' : Nat → Nat → Bool} : ∀ (d j : Nat) (e : Int), (∀ i' j', i' < j' → j' < j + d → J i' j' = J' i' j') → loopMade J d j e = loopMade J' d j e
  | 0, _, _, _ => rfl
  | d + 1, j, e, h => by
    simp only [loopMade]; rw [loopRow_congr j 0 e fun i' _ h2 => h i' j (by omega) (by omega)]
    exact loopMade_congr d (j + 1) _ fun i' j' h1 h2 => h i' j' h1 (by omega)
theorem madeI_congr {n : Nat} {J J' : Nat → Nat → Bool} (h : ∀ i j, i < j → j < n → J i j = J' i j) : madeI n J = madeI n J' := loopMade_congr n 0 0 fun i j h1 h2 => h i j h1 (by omega)

end Go.Proofs.Ytbojkjpfccjgeaa.Q
