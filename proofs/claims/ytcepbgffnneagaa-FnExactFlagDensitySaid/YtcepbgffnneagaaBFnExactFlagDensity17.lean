/- Contracts of Go functions and plain lemmas over what they compute; printed by the kit's print program or written by hand, joined. -/
import Derived.Test.YtcepbgffnneagaaBFnExactFlagDensity3
import Derived.Test.YtcepbgffnneagaaBFnExactFlagDensity4
import Derived.Test.YtcepbgffnneagaaBFnExactFlagDensity11
import Derived.Test.YtcepbgffnneagaaBFnExactFlagDensity16
import Derived.Test.YtcepbgffnneagaaBFnExactFlagDensity13
import Derived.Test.YtcepbgffnneagaaBFnExactFlagDensity10
import Derived.Test.YtcepbgffnneagaaBFnExactFlagDensity6
import Derived.Test.YtcepbgffnneagaaBFnExactFlagDensity8
import Derived.Test.YtcepbgffnneagaaBFnExactFlagDensity12
import Derived.Test.YtcepbgffnneagaaBFnExactFlagDensity14
import Derived.Test.YtcepbgffnneagaaBFnExactFlagDensity7
import Derived.Test.YtcepbgffnneagaaBFnExactFlagDensity9
import Derived.Test.YtcepbgffnneagaaBFnExactFlagDensity15
import Derived.Test.YtcepbgffnneagaaBFnExactFlagDensity2
import Derived.WalkKit
import Derived.ProofKit
import Derived.OpenShut
import Derived.ChangeOld
import Derived.Deep.Slices
section
namespace Go.Proofs.Ytcepbgffnneagaa.Q
open Go.RowKit Go.Proofs.YtcepbgffnneagaaW.PrintWords Go.Proofs.YtcepbgffnneagaaW.PrintLast Go.Proofs.YtcepbgffnneagaaW.PrintMore
attribute [local go_sem] max2_int min2_int max_two min_two max_three min_three max_four min_four   -- for this text's walks alone
set_option linter.unusedVariables false
set_option linter.unusedSimpArgs false

theorem l01Bit_eq (k : Nat) {i j : Int} (i0 : 0 ≤ i) (i4 : i ≤ 4) (j0 : 0 ≤ j) (j4 : j ≤ 4) : spec_l01Bit.f (k + 2) i j = some (bitI i j) := by
  rcases small4 i0 i4 with rfl | rfl | rfl | rfl | rfl <;> rcases small4 j0 j4 with rfl | rfl | rfl | rfl | rfl <;> kernel_rfl

end Go.Proofs.Ytcepbgffnneagaa.Q
end

section
namespace Go.Proofs.Ytcepbgffnneagaa.Q
open Go.RowKit Go.Proofs.YtcepbgffnneagaaW.PrintWords Go.Proofs.YtcepbgffnneagaaW.PrintLast Go.Proofs.YtcepbgffnneagaaW.PrintMore
attribute [local go_sem] max2_int min2_int max_two min_two max_three min_three max_four min_four   -- for this text's walks alone
set_option linter.unusedVariables false
set_option linter.unusedSimpArgs false

theorem joined_eq (k : Nat) (n e : Int) {i j : Int} (i0 : 0 ≤ i) (i4 : i ≤ 4) (j0 : 0 ≤ j) (j4 : j ≤ 4) (hij : i ≠ j) : spec_l01Joined.f (k + 2) n e i j = some (hasI e i j) := by
  unfold spec_l01Joined.f hasI
  rw [if_neg hij, l01Bit_eq k i0 i4 j0 j4]; rfl
theorem l01Bit_ge {k : Nat} (hk : 2 ≤ k) {i j : Int} (i0 : 0 ≤ i) (i4 : i ≤ 4) (j0 : 0 ≤ j) (j4 : j ≤ 4) : spec_l01Bit.f k i j = some (bitI i j) := by
  obtain ⟨q, rfl⟩ : ∃ q, k = q + 2 := ⟨k - 2, by omega⟩
  exact l01Bit_eq q i0 i4 j0 j4
theorem joined_ge {k : Nat} (hk : 2 ≤ k) (n e : Int) {i j : Int} (i0 : 0 ≤ i) (i4 : i ≤ 4) (j0 : 0 ≤ j) (j4 : j ≤ 4) (hij : i ≠ j) : spec_l01Joined.f k n e i j = some (hasI e i j) := by
  obtain ⟨q, rfl⟩ : ∃ q, k = q + 2 := ⟨k - 2, by omega⟩
  exact joined_eq q n e i0 i4 j0 j4 hij
theorem onS_row {l : List Int} {j : Nat} (n e0 : Int) (h5 : l.length ≤ 5) (h : ∀ i : Nat, i < l.length → 0 ≤ rd l i ∧ rd l i ≤ 4) (hne : ∀ i j : Nat, i < j → j < l.length → rd l i ≠ rd l j) (hj : j < l.length) (N : Int) :
    ∀ (d i : Nat) (e : Int) (k : Nat), i + d = j → d + 3 ≤ k → spec_l01On.l1 k l j i n e0 N e = spec_l01On.l0 (k - (d + 1)) l ((j + 1 : Nat) : Int) n e0 N (loopRow (fun i j => hasI e0 (rd l i) (rd l j)) j d i e)
  | 0, i, e, k, hd, hk => by
    have : i = j := by omega
    subst this
    obtain ⟨k, rfl⟩ : ∃ m, k = m + 1 := ⟨k - 1, by omega⟩
    simp only [spec_l01On.l1, loopRow]
    rw [if_neg (by omega), show wrap64 ((i : Int) + 1) = ((i + 1 : Nat) : Int) from by unfold wrap64; omega]; rfl
  | d + 1, i, e, k, hd, hk => by
    have hw : wrap64 ((i : Int) + 1) = ((i + 1 : Nat) : Int) := by unfold wrap64; omega
    have hi := h i (by omega)
    have hj' := h j hj
    obtain ⟨k, rfl⟩ : ∃ m, k = m + 1 := ⟨k - 1, by omega⟩
    simp only [spec_l01On.l1, loopRow]
    rw [if_pos (by omega), if_pos (by omega), if_pos (by omega), if_pos (by omega), if_pos (by omega), joined_ge (by omega) n e0 hi.1 hi.2 hj'.1 hj'.2 (hne i j (by omega) hj), hw, show k + 1 - (d + 1 + 1) = k - (d + 1) from by omega]
    simp only [Option.bind_some]
    by_cases hb : hasI e0 (rd l i) (rd l j) = true
    rotate_left
    · rw [if_neg hb, if_neg hb]
      exact onS_row n e0 h5 h hne hj N d (i + 1) e k (by omega) (by omega)
    · rw [if_pos hb, if_pos hb, l01Bit_ge (by omega) (by omega) (by omega) (by omega) (by omega)]
      simp only [Option.bind_some]
      exact onS_row n e0 h5 h hne hj N d (i + 1) _ k (by omega) (by omega)
theorem onS_all {l : List Int} (n e0 : Int) (h5 : l.length ≤ 5) (h : ∀ i : Nat, i < l.length → 0 ≤ rd l i ∧ rd l i ≤ 4) (hne : ∀ i j : Nat, i < j → j < l.length → rd l i ≠ rd l j) :
    ∀ (d j : Nat) (e : Int) (k : Nat), j + d = l.length → 7 * d + 3 ≤ k → spec_l01On.l0 k l j n e0 (l.length : Int) e = some ((l.length : Int), loopMade (fun i j => hasI e0 (rd l i) (rd l j)) d j e)
  | 0, j, e, k, hd, hk => by
    obtain ⟨k, rfl⟩ : ∃ m, k = m + 1 := ⟨k - 1, by omega⟩
    simp only [spec_l01On.l0, loopMade]
    rw [if_neg (by omega)]
  | d + 1, j, e, k, hd, hk => by
    obtain ⟨k, rfl⟩ : ∃ m, k = m + 1 := ⟨k - 1, by omega⟩
    simp only [spec_l01On.l0, loopMade]
    rw [if_pos (by omega)]
    have := onS_row n e0 h5 h hne (show j < l.length by omega) (l.length : Int) j 0 e k (by omega) (by omega)
    rw [show ((0 : Nat) : Int) = 0 from rfl] at this
    rw [this]
    exact onS_all n e0 h5 h hne d (j + 1) _ (k - (j + 1)) (by omega) (by omega)
theorem onS_eq (n e : Int) {l : List Int} (h5 : l.length ≤ 5) (h : ∀ i : Nat, i < l.length → 0 ≤ rd l i ∧ rd l i ≤ 4) (hne : ∀ i j : Nat, i < j → j < l.length → rd l i ≠ rd l j) (k : Nat) (hk : 40 ≤ k) :
    spec_l01On.f k n e l = some ((l.length : Int), onI e l) := by
  unfold spec_l01On.f onI madeI
  cases hl : l.length with
  | zero =>
    obtain ⟨k, rfl⟩ : ∃ m, k = m + 1 := ⟨k - 1, by omega⟩
    simp [spec_l01On.l0, loopMade]
  | succ m =>
    have := onS_all n e h5 h hne m 1 0 k (by omega) (by omega)
    rw [hl] at this
    rw [show ((1 : Nat) : Int) = 1 from rfl] at this
    rw [this]
    simp [loopMade, loopRow]

end Go.Proofs.Ytcepbgffnneagaa.Q
end

section
namespace Go.Proofs.Ytcepbgffnneagaa.Q
open Go.RowKit Go.Proofs.YtcepbgffnneagaaW.PrintWords Go.Proofs.YtcepbgffnneagaaW.PrintLast Go.Proofs.YtcepbgffnneagaaW.PrintMore
attribute [local go_sem] max2_int min2_int max_two min_two max_three min_three max_four min_four   -- for this text's walks alone
set_option linter.unusedVariables false
set_option linter.unusedSimpArgs false

theorem onS_diff (n e : Int) {m : Int} (h0 : 0 ≤ m) (h5 : m ≤ 5) {l : List Int} (h : allDiff (wrap64 (m - 1)) l) (k : Nat) (hk : 40 ≤ k) : spec_l01On.f k n e l = some ((l.length : Int), onI e l) := by
  have hl := allDiff_len h0 h5 h
  have hat : ∀ i : Nat, (hi : i < l.length) → 0 ≤ l[i] ∧ l[i] < m := fun i hi => hl.2 _ (List.getElem_mem hi)
  refine onS_eq n e (by omega) (fun i hi => ?_) (fun i j hij hj => ?_) k hk
  · rw [rd_of_lt l hi]; have := hat i hi; omega
  · rw [rd_of_lt l hj, rd_of_lt l (by omega)]
    exact List.pairwise_iff_getElem.1 h.1 i j (by omega) hj hij
theorem okList_diff {m : Int} (h0 : 0 ≤ m) (h5 : m ≤ 5) {l : List Int} (h : allDiff (wrap64 (m - 1)) l) : okList l := by
  have hl := allDiff_len h0 h5 h
  exact ⟨by omega, fun x hx => by have := hl.2 x hx; omega⟩

end Go.Proofs.Ytcepbgffnneagaa.Q
end

section
namespace Go.Proofs.Ytcepbgffnneagaa.Q
open Go.RowKit Go.Proofs.YtcepbgffnneagaaW.PrintWords Go.Proofs.YtcepbgffnneagaaW.PrintLast Go.Proofs.YtcepbgffnneagaaW.PrintMore
attribute [local go_sem] max2_int min2_int max_two min_two max_three min_three max_four min_four   -- for this text's walks alone
set_option linter.unusedVariables false
set_option linter.unusedSimpArgs false

def leastE (e : Int) (L : List (List Int)) (best : Int) : Int := L.foldl (fun b l => if onI e l < b then onI e l else b) best
end Go.Proofs.Ytcepbgffnneagaa.Q
end

section
namespace Go.Proofs.Ytcepbgffnneagaa.Q
open Go.RowKit Go.Proofs.YtcepbgffnneagaaW.PrintWords Go.Proofs.YtcepbgffnneagaaW.PrintLast Go.Proofs.YtcepbgffnneagaaW.PrintMore
attribute [local go_sem] max2_int min2_int max_two min_two max_three min_three max_four min_four   -- for this text's walks alone
set_option linter.unusedVariables false
set_option linter.unusedSimpArgs false

theorem least3_loop (n s : Nat) (hn : n < 6) (hs : s < n + 1) (e : Int) : ∀ (ls : List (List Int)) (x : List Int) (k : Nat) (best : Int), isChain ((n - s : Nat) : Int) (x :: ls) = true → (∀ l ∈ x :: ls, (l.length ≤ 5 ∧ ∀ y ∈ l, 0 ≤ y ∧ y ≤ 5) ∧ (shiftL s l).length = n ∧ allDiff ((n : Int) - 1) (shiftL s l)) → ls.length + 200 ≤ k →
    spec_l03Least.l0 k x true s n e s n best = some ((s : Int), (n : Int), leastE e ((x :: ls).map (shiftL s)) best)
  | [], x, k, best, hc, hd, hk => by
    obtain ⟨k, rfl⟩ : ∃ q, k = q + 2 := ⟨k - 2, by omega⟩
    obtain ⟨y, hy⟩ := chain_one hc
    obtain ⟨⟨hx1, hx2⟩, hx3, hx4⟩ := hd x (List.mem_cons_self)
    rw [spec_l03Least.l0, if_pos rfl, l03Order_eq s (by omega) x hx1 hx2 _ (by omega)]
    simp only [Option.bind_some]
    rw [onS_diff (m := n) n e (by omega) (by omega) (by rw [show wrap64 ((n : Int) - 1) = (n : Int) - 1 from by unfold wrap64; omega]; exact hx4) _ (by omega), show wrap64 ((n : Int) - (s : Int)) = ((n - s : Nat) : Int) from by unfold wrap64; omega]
    simp only [Option.bind_some, leastE, List.map_cons, List.map_nil, List.foldl_cons, List.foldl_nil, hx3]
    by_cases hb : onI e (shiftL s x) < best
    · rw [if_pos hb, if_pos hb, hy _ (by omega)]
      simp only [Option.bind_some]
      rw [spec_l03Least.l0, if_neg (by simp)]
    · rw [if_neg hb, if_neg hb, hy _ (by omega)]
      simp only [Option.bind_some]
      rw [spec_l03Least.l0, if_neg (by simp)]
  | z :: ls, x, k, best, hc, hd, hk => by
    obtain ⟨k, rfl⟩ : ∃ q, k = q + 1 := ⟨k - 1, by omega⟩
    obtain ⟨h1, h2⟩ := chain_cons hc
    obtain ⟨⟨hx1, hx2⟩, hx3, hx4⟩ := hd x (List.mem_cons_self)
    have hl : (z :: ls).length = ls.length + 1 := rfl
    rw [spec_l03Least.l0, if_pos rfl, l03Order_eq s (by omega) x hx1 hx2 _ (by omega)]
    simp only [Option.bind_some]
    rw [onS_diff (m := n) n e (by omega) (by omega) (by rw [show wrap64 ((n : Int) - 1) = (n : Int) - 1 from by unfold wrap64; omega]; exact hx4) _ (by omega), show wrap64 ((n : Int) - (s : Int)) = ((n - s : Nat) : Int) from by unfold wrap64; omega]
    have ih := fun best => least3_loop n s hn hs e ls z k best h2 (fun l hl => hd l (List.mem_cons_of_mem _ hl)) (by omega)
    simp only [Option.bind_some, leastE, hx3]
    rw [List.map_cons, List.foldl_cons]
    by_cases hb : onI e (shiftL s x) < best
    · rw [if_pos hb, if_pos hb, h1 _ (by omega)]
      exact ih _
    · rw [if_neg hb, if_neg hb, h1 _ (by omega)]
      exact ih _
theorem l03Least_eq (n s : Nat) (hn : n < 6) (hs : s < n + 1) (e : Int) (k : Nat) (hk : 1000 ≤ k) : spec_l03Least.f k s n e = some ((s : Int), (n : Int), leastE e (leaves n (n - s) (firstI s)) e) := by
  unfold spec_l03Least.f
  rw [show wrap64 ((n : Int) - (s : Int)) = ((n - s : Nat) : Int) from by unfold wrap64; omega, firstS_eq ((n - s : Nat) : Int) (by omega) (by omega) k (by omega), leaves_shift n hn s hs]
  simp only [Option.bind_some, Int.toNat_natCast]
  obtain ⟨hh, hc⟩ := chains (n - s) (by omega) (n - s) (by omega)
  have hd := own_ok n s hn hs
  have hlen := leaves_short (n - s) (by omega) (n - s) (by omega)
  revert hh hc hd hlen
  generalize leaves (n - s) (n - s) [] = L
  intro hh hc hd hlen
  cases L with
  | nil => simp at hh
  | cons x ls =>
    obtain rfl : x = firstI (n - s) := by simpa using hh
    exact least3_loop n s hn hs e ls _ k e hc hd (by simp only [List.length_cons] at hlen; omega)

end Go.Proofs.Ytcepbgffnneagaa.Q
end

section
namespace Go.Proofs.Ytcepbgffnneagaa.Q
open Go.RowKit Go.Proofs.YtcepbgffnneagaaW.PrintWords Go.Proofs.YtcepbgffnneagaaW.PrintLast Go.Proofs.YtcepbgffnneagaaW.PrintMore
attribute [local go_sem] max2_int min2_int max_two min_two max_three min_three max_four min_four   -- for this text's walks alone
set_option linter.unusedVariables false
set_option linter.unusedSimpArgs false

def ratioOk (p q : Nat) : Bool := match impl_lowest.f 100 (p : Int) (q : Int), spec_l04Ratio.f 100 (p : Int) (q : Int) with
  | some a, some b => decide (a = b)
  | _, _ => false
theorem ratio_all : ∀ q, q < 61 → 0 < q → ∀ p, p < q + 1 → ratioOk p q = true := by decide +kernel
/-- A quotient of small numbers in lowest terms, by both. -/
theorem ratio_both (p q : Nat) (hq : q < 61) (h0 : 0 < q) (hp : p < q + 1) : ∃ a b : Int, ∀ k, 100 ≤ k → impl_lowest.f k p q = some (a, b) ∧ spec_l04Ratio.f k p q = some (a, b) := by
  have h := ratio_all q hq h0 p hp
  unfold ratioOk at h
  split at h
  · next x y e1 e2 =>
    obtain rfl := of_decide_eq_true h
    exact ⟨x.1, x.2, fun k hk => ⟨LeO_ge (F := fun k => impl_lowest.f k p q) (fun k => impl_lowest.mono p q k) hk _ e1, LeO_ge (F := fun k => spec_l04Ratio.f k p q) (fun k => spec_l04Ratio.mono p q k) hk _ e2⟩⟩
  · cases h

end Go.Proofs.Ytcepbgffnneagaa.Q
end

section
namespace Go.Proofs.Ytcepbgffnneagaa.Q
open Go.RowKit Go.Proofs.YtcepbgffnneagaaW.PrintWords Go.Proofs.YtcepbgffnneagaaW.PrintLast Go.Proofs.YtcepbgffnneagaaW.PrintMore
attribute [local go_sem] max2_int min2_int max_two min_two max_three min_three max_four min_four   -- for this text's walks alone
set_option linter.unusedVariables false
set_option linter.unusedSimpArgs false

def subsIn (g : Nat → List Int → List (List Int)) (L l : List Int) : Nat → Nat → List (List Int)
  | 0, _ => []
  | d + 1, j => g (j + 1) (l ++ [rd L j]) ++ subsIn g L l d (j + 1)
/-- All ascending lists of r numbers of L, from place i on, behind l. -/
def subs (L : List Int) : Nat → Nat → List Int → List (List Int)
  | 0, _, l => [l]
  | r + 1, i, l => subsIn (subs L r) L l (L.length - i) i
def foldCb {σ : Type} (cb : List Int → σ → Option σ) : List (List Int) → σ → Option σ
  | [], s => some s
  | l :: ls, s => (cb l s).bind (foldCb cb ls)
theorem foldCb_append {σ : Type} (cb : List Int → σ → Option σ) (y : List (List Int)) : ∀ (x : List (List Int)) (s : σ), foldCb cb (x ++ y) s = (foldCb cb x s).bind (foldCb cb y)
  | [], s => rfl
  | l :: ls, s => by
    simp only [List.cons_append, foldCb]
    cases cb l s with
    | none => rfl
    | some s2 => exact foldCb_append cb y ls s2
theorem chosen_l0 {σ : Type} (cb : List Int → σ → Option σ) (f : Int → List Int → σ → Option σ) (g : Nat → List Int → List (List Int)) (L l : List Int) (hl : l.length ≤ 1000) (hL : L.length ≤ 1000) (hf : ∀ (j : Nat) s, j < L.length → f ((j + 1 : Nat) : Int) (l ++ [rd L j]) s = foldCb cb (g (j + 1) (l ++ [rd L j])) s) :
    ∀ (d j k : Nat) (s : σ), j + d = L.length → d + 1 ≤ k → impl_chosen_1.l0 f L k l j s = foldCb cb (subsIn g L l d j) s
  | 0, j, k, s, hd, hk => by
    obtain ⟨k, rfl⟩ : ∃ q, k = q + 1 := ⟨k - 1, by omega⟩
    rw [impl_chosen_1.l0, if_neg (by omega)]; rfl
  | d + 1, j, k, s, hd, hk => by
    obtain ⟨k, rfl⟩ : ∃ q, k = q + 1 := ⟨k - 1, by omega⟩
    rw [impl_chosen_1.l0, if_pos (by omega), if_pos (by omega), if_pos hl, show wrap64 ((j : Int) + 1) = ((j + 1 : Nat) : Int) from by unfold wrap64; omega, hf j s (by omega), subsIn, foldCb_append]
    congr 1
    funext s2
    exact chosen_l0 cb f g L l hl hL hf d (j + 1) k s2 (by omega) (by omega)
theorem chosen_eq {σ : Type} (cb : List Int → σ → Option σ) (m : Nat) (hm : m ≤ 900) (L : List Int) (hL : L.length ≤ 1000) : ∀ (r k i : Nat) (l : List Int) (s : σ), l.length + r = m → i ≤ L.length → L.length + r + 1 ≤ k → impl_chosen_1.f cb m L k i l s = foldCb cb (subs L r i l) s
  | 0, k, i, l, s, h, hi, hk => by
    obtain ⟨k, rfl⟩ : ∃ q, k = q + 1 := ⟨k - 1, by omega⟩
    rw [impl_chosen_1.f, if_pos (by omega), subs]
    simp only [foldCb]
    cases cb l s <;> rfl
  | r + 1, k, i, l, s, h, hi, hk => by
    obtain ⟨k, rfl⟩ : ∃ q, k = q + 1 := ⟨k - 1, by omega⟩
    rw [impl_chosen_1.f, if_neg (by omega), subs]
    exact chosen_l0 cb _ _ L l (by omega) hL (fun j s hj => chosen_eq cb m hm L hL r k (j + 1) _ s (by rw [List.length_append]; simp only [List.length_cons, List.length_nil]; omega) (by omega) (by omega)) _ i _ s (by omega) (by omega)
theorem chosen_l0_mono {σ : Type} {f g : Int → List Int → σ → Option σ} (hfg : ∀ a l s, LeO (f a l s) (g a l s)) (L : List Int) : ∀ (k : Nat) (x : List Int) (j : Int) (s : σ), LeO (impl_chosen_1.l0 f L k x j s) (impl_chosen_1.l0 g L (k + 1) x j s)
  | 0, x, j, s => by rw [impl_chosen_1.l0]; exact LeO.none _
  | k + 1, x, j, s => by
    rw [impl_chosen_1.l0, impl_chosen_1.l0]
    exact LeO.ite (LeO.ite (LeO.ite (LeO.bind (hfg _ _ _) (fun _ => chosen_l0_mono hfg L k _ _ _)) (LeO.refl _)) (LeO.refl _)) (LeO.refl _)
theorem chosen_mono {σ : Type} (cb : List Int → σ → Option σ) (m : Int) (L : List Int) : ∀ (k : Nat) (a : Int) (l : List Int) (s : σ), LeO (impl_chosen_1.f cb m L k a l s) (impl_chosen_1.f cb m L (k + 1) a l s)
  | 0, a, l, s => by rw [impl_chosen_1.f]; exact LeO.none _
  | k + 1, a, l, s => by
    rw [impl_chosen_1.f, impl_chosen_1.f]
    exact LeO.ite (LeO.refl _) (chosen_l0_mono (chosen_mono cb m L k) L (k + 1) l a s)
theorem chosen_fs {σ : Type} (cb : List Int → σ → Option σ) (m : Nat) (hm : m ≤ 900) (L : List Int) (hL : L.length ≤ 1000) (s s' : σ) (h : foldCb cb (subs L m 0 []) s = some s') : impl_chosen.fs cb L m s = some s' := by
  unfold impl_chosen.fs
  refine tot_of (F := fun k => impl_chosen_1.f cb (m : Int) L k 0 [] s) (k := L.length + m + 1) (fun k => chosen_mono cb m L k 0 [] s) ?_
  have := chosen_eq cb m hm L hL m (L.length + m + 1) 0 [] s (by simp) (Nat.zero_le _) (Nat.le_refl _)
  rw [show ((0 : Nat) : Int) = 0 from rfl] at this
  rw [← h, ← this]
theorem foldCb_cnt (cb : List Int → Int → Option Int) (p : List Int → Bool) : ∀ (L : List (List Int)) (s : Int), (∀ l ∈ L, ∀ s, cb l s = some (if p l = true then wrap64 (s + 1) else s)) → foldCb cb L s = some (cntE p L s)
  | [], _, _ => rfl
  | l :: L, s, h => by
    rw [foldCb, h l List.mem_cons_self s]
    exact foldCb_cnt cb p L _ fun x hx => h x (List.mem_cons_of_mem _ hx)

end Go.Proofs.Ytcepbgffnneagaa.Q
end

section
namespace Go.Proofs.Ytcepbgffnneagaa.Q
open Go.RowKit Go.Proofs.YtcepbgffnneagaaW.PrintWords Go.Proofs.YtcepbgffnneagaaW.PrintLast Go.Proofs.YtcepbgffnneagaaW.PrintMore
attribute [local go_sem] max2_int min2_int max_two min_two max_three min_three max_four min_four   -- for this text's walks alone
set_option linter.unusedVariables false
set_option linter.unusedSimpArgs false

theorem sets4_irr : ∀ k, (∀ x i a b c, spec_l04Sets.l0 k x i a b c = spec_l04Sets.l0 k x i a 0 0) ∧ (∀ x i j a b c, spec_l04Sets.l1 k x i j a b c = spec_l04Sets.l1 k x i j a 0 0)
  | 0 => ⟨fun _ _ _ _ _ => by simp only [spec_l04Sets.l0], fun _ _ _ _ _ _ => by simp only [spec_l04Sets.l1]⟩
  | k + 1 => by
    obtain ⟨h0, h1⟩ := sets4_irr k
    refine ⟨fun x i a b c => ?_, fun x i j a b c => ?_⟩
    · rw [spec_l04Sets.l0, spec_l04Sets.l0, h1 x i 0 a b c]
    · rw [spec_l04Sets.l1, spec_l04Sets.l1, h0 _ _ a b c, h1 _ _ _ a b c]
def sets4 (s n r : Nat) : List (List Int) := (spec_l04Sets.f 300 r s n 0).getD []
theorem sets4_300 : ∀ n : Nat, n < 6 → ∀ s : Nat, s < n + 1 → ∀ r : Nat, r < 6 → spec_l04Sets.f 300 r s n 0 = some (sets4 s n r) := by decide +kernel
theorem sets4_f_irr (k : Nat) (r s n e : Int) : spec_l04Sets.f k r s n e = spec_l04Sets.f k r s n 0 := by
  unfold spec_l04Sets.f
  congr 1
  funext t
  rw [(sets4_irr k).1 t 0 s n e, (sets4_irr k).1 t 0 s n 0]
theorem sets4_eq (s n r : Nat) (hn : n < 6) (hs : s < n + 1) (hr : r < 6) (e : Int) (k : Nat) (hk : 300 ≤ k) : spec_l04Sets.f k r s n e = some (sets4 s n r) := by
  have h := sets4_300 n hn s hs r hr
  rw [← sets4_f_irr 300 r s n e] at h
  exact LeO_ge (F := fun k => spec_l04Sets.f k r s n e) (fun k => spec_l04Sets.mono r s n e k) hk _ h
theorem sets4_ok : ∀ n : Nat, n < 6 → ∀ s : Nat, s < n + 1 → ∀ r : Nat, r < 6 → (sets4 s n r).length ≤ 10 ∧ ∀ l ∈ sets4 s n r, l.length = r ∧ allDiff ((n : Int) - 1) (firstI s ++ l) := by decide +kernel
theorem sets4_perm : ∀ n : Nat, n < 6 → ∀ s : Nat, s < n + 1 → ∀ r : Nat, r < 6 → (sets4 s n r).isPerm (subs ((firstI n).drop s) r 0 []) = true := by decide +kernel
theorem firstI_len : ∀ n : Nat, n < 6 → (firstI n).length = n := by decide

end Go.Proofs.Ytcepbgffnneagaa.Q
end

section
namespace Go.Proofs.Ytcepbgffnneagaa.Q
open Go.RowKit Go.Proofs.YtcepbgffnneagaaW.PrintWords Go.Proofs.YtcepbgffnneagaaW.PrintLast Go.Proofs.YtcepbgffnneagaaW.PrintMore
attribute [local go_sem] max2_int min2_int max_two min_two max_three min_three max_four min_four   -- for this text's walks alone
set_option linter.unusedVariables false
set_option linter.unusedSimpArgs false

end Go.Proofs.Ytcepbgffnneagaa.Q
end

section
namespace Go.Proofs.Ytcepbgffnneagaa.Q
open Go.RowKit Go.Proofs.YtcepbgffnneagaaW.PrintWords Go.Proofs.YtcepbgffnneagaaW.PrintLast Go.Proofs.YtcepbgffnneagaaW.PrintMore
attribute [local go_sem] max2_int min2_int max_two min_two max_three min_three max_four min_four   -- for this text's walks alone
set_option linter.unusedVariables false
set_option linter.unusedSimpArgs false

end Go.Proofs.Ytcepbgffnneagaa.Q
end

section
namespace Go.Proofs.Ytcepbgffnneagaa.Q
open Go.RowKit Go.Proofs.YtcepbgffnneagaaW.PrintWords Go.Proofs.YtcepbgffnneagaaW.PrintLast Go.Proofs.YtcepbgffnneagaaW.PrintMore
attribute [local go_sem] max2_int min2_int max_two min_two max_three min_three max_four min_four   -- for this text's walks alone
set_option linter.unusedVariables false
set_option linter.unusedSimpArgs false

theorem bits_of (f : Nat → Bool) : ∀ m, ∃ b, b < 2 ^ m ∧ ∀ q, q < m → b.testBit q = f q
  | 0 => ⟨0, by simp, fun q hq => absurd hq (Nat.not_lt_zero _)⟩
  | m + 1 => by
    obtain ⟨b, hb, h⟩ := bits_of f m
    cases hf : f m
    · refine ⟨b, by rw [Nat.pow_succ]; omega, fun q hq => ?_⟩
      by_cases hqm : q = m
      · subst hqm
        rw [hf]; exact Nat.testBit_lt_two_pow hb
      · exact h q (by omega)
    · refine ⟨2 ^ m + b, by rw [Nat.pow_succ]; omega, fun q hq => ?_⟩
      by_cases hqm : q = m
      · subst hqm
        rw [hf, Nat.testBit_two_pow_add_eq, Nat.testBit_lt_two_pow hb]; rfl
      · rw [Nat.testBit_two_pow_add_gt (by omega)]; exact h q (by omega)
def pairAt (J : Nat → Nat → Bool) : Nat → Bool
  | 0 => J 0 1 | 1 => J 0 2 | 2 => J 1 2 | 3 => J 0 3 | 4 => J 1 3 | 5 => J 2 3 | 6 => J 0 4 | 7 => J 1 4 | 8 => J 2 4 | 9 => J 3 4 | _ => false
theorem pairAt_bit (J : Nat → Nat → Bool) {i j : Nat} (hij : i < j) (hj : j < 5) : pairAt J (bitIx i j) = J i j := by
  have : (i = 0 ∧ j = 1) ∨ (i = 0 ∧ j = 2) ∨ (i = 1 ∧ j = 2) ∨ (i = 0 ∧ j = 3) ∨ (i = 1 ∧ j = 3) ∨ (i = 2 ∧ j = 3) ∨ (i = 0 ∧ j = 4) ∨ (i = 1 ∧ j = 4) ∨ (i = 2 ∧ j = 4) ∨ (i = 3 ∧ j = 4) := by omega
  rcases this with ⟨rfl, rfl⟩ | ⟨rfl, rfl⟩ | ⟨rfl, rfl⟩ | ⟨rfl, rfl⟩ | ⟨rfl, rfl⟩ | ⟨rfl, rfl⟩ | ⟨rfl, rfl⟩ | ⟨rfl, rfl⟩ | ⟨rfl, rfl⟩ | ⟨rfl, rfl⟩ <;> rfl
theorem hasI_bit : ∀ b : Nat, b < 1024 → ∀ i : Nat, i < 5 → ∀ j : Nat, j < 5 → i ≠ j → hasI (b : Int) (i : Int) (j : Int) = b.testBit (bitIx i j) := by decide +kernel
theorem bitIx_lt : ∀ n, n < 6 → ∀ j, j < n → ∀ i, i < j → bitIx i j < prs n := by decide
theorem prs_le : ∀ n, n < 6 → 2 ^ prs n ≤ 1024 := by decide
theorem made_has : ∀ n, n < 6 → ∀ b, b < 2 ^ prs n → madeI n (fun i j => hasI (b : Nat) i j) = (b : Nat) := by decide +kernel
theorem made_spec (n : Nat) (hn : n < 6) (J : Nat → Nat → Bool) : ∃ b : Nat, b < 2 ^ prs n ∧ madeI n J = b ∧ ∀ i j : Nat, i < j → j < n → hasI b i j = J i j := by
  obtain ⟨b, hb, h⟩ := bits_of (pairAt J) (prs n)
  have hb' : b < 1024 := Nat.lt_of_lt_of_le hb (prs_le n hn)
  have hJ : ∀ i j : Nat, i < j → j < n → hasI b i j = J i j := fun i j hij hj => by
    rw [hasI_bit b hb' i (by omega) j (by omega) (by omega), h _ (bitIx_lt n hn j hj i hij), pairAt_bit J hij (by omega)]
  exact ⟨b, hb, by rw [madeI_congr (J' := fun i j => hasI b i j) fun i j hij hj => (hJ i j hij hj).symm]; exact made_has n hn b hb, hJ⟩
theorem hasI_comm (e : Int) {a b : Nat} (h : a ≠ b) : hasI e a b = hasI e b a := by
  unfold hasI bitI
  rw [show bitIx (a : Int).toNat (b : Int).toNat = bitIx (b : Int).toNat (a : Int).toNat from by
    simp only [Int.toNat_natCast]; unfold bitIx
    by_cases hab : a > b
    · rw [if_pos hab, if_neg (by omega)]
    · rw [if_neg hab, if_pos (by omega)]]
/-- An order of the n vertices: at each place a vertex, no vertex twice. -/
def isOrd (n : Nat) (l : List Int) : Prop := l.length = n ∧ allDiff ((n : Int) - 1) l
theorem isOrd.at {n : Nat} {l : List Int} (h : isOrd n l) (i : Nat) (hi : i < n) : ∃ a : Nat, a < n ∧ rd l i = a := by
  have hl : i < l.length := by rw [h.1]; exact hi
  have := h.2.2 _ (List.getElem_mem hl)
  exact ⟨l[i].toNat, by omega, by rw [rd_of_lt l hl]; omega⟩
theorem isOrd.ne {n : Nat} {l : List Int} (h : isOrd n l) {i j : Nat} (hij : i ≠ j) (hi : i < n) (hj : j < n) : rd l i ≠ rd l j := by
  have hl : i < l.length := by rw [h.1]; exact hi
  have hl2 : j < l.length := by rw [h.1]; exact hj
  rw [rd_of_lt l hl, rd_of_lt l hl2]
  rcases Nat.lt_or_gt_of_ne hij with h1 | h1
  · exact List.pairwise_iff_getElem.1 h.2.1 i j hl hl2 h1
  · exact fun e => List.pairwise_iff_getElem.1 h.2.1 j i hl2 hl h1 e.symm
theorem onI_nat (n : Nat) (hn : n < 6) (e : Int) {l : List Int} (h : isOrd n l) : ∃ b : Nat, b < 2 ^ prs n ∧ onI e l = b ∧ ∀ i j : Nat, i ≠ j → i < n → j < n → hasI b i j = hasI e (rd l i) (rd l j) := by
  obtain ⟨b, hb, h1, h2⟩ := made_spec n hn (fun i j => hasI e (rd l i) (rd l j))
  refine ⟨b, hb, by unfold onI; rw [h.1]; exact h1, fun i j hij hi hj => ?_⟩
  rcases Nat.lt_or_gt_of_ne hij with hlt | hlt
  · exact h2 i j hlt hj
  · rw [hasI_comm b hij, h2 j i hlt hi]
    obtain ⟨x, hx, ex⟩ := h.at i hi
    obtain ⟨y, hy, ey⟩ := h.at j hj
    have := h.ne hij hi hj
    rw [ex, ey] at this ⊢
    exact hasI_comm e (by omega)
/-- First the order l, then p. -/
def comp (l p : List Int) : List Int := p.map fun x => rd l x
theorem rd_comp {n : Nat} {l p : List Int} (hp : isOrd n p) (i : Nat) (hi : i < n) : rd (comp l p) i = rd l (rd p i) := by
  have h1 : i < p.length := by rw [hp.1]; exact hi
  rw [rd_of_lt p h1, rd_of_lt _ (by unfold comp; rw [List.length_map]; exact h1)]
  simp [comp]
theorem isOrd.comp {n : Nat} {l p : List Int} (hl : isOrd n l) (hp : isOrd n p) : isOrd n (comp l p) := by
  have hlen : (Q.comp l p).length = n := by unfold Q.comp; rw [List.length_map]; exact hp.1
  have hget : ∀ i (h : i < (Q.comp l p).length), ∃ a : Nat, a < n ∧ rd p i = a ∧ (Q.comp l p)[i] = rd l a := fun i h => by
    obtain ⟨a, ha, e⟩ := hp.at i (by omega)
    exact ⟨a, ha, e, by rw [← rd_of_lt (Q.comp l p) h, rd_comp hp i (by omega), e]⟩
  refine ⟨hlen, List.pairwise_iff_getElem.2 fun i j hi hj hij => ?_, fun x hx => ?_⟩
  · obtain ⟨a, ha, ea, e1⟩ := hget i hi
    obtain ⟨b, hb, eb, e2⟩ := hget j hj
    rw [e1, e2]
    refine hl.ne (fun e => ?_) ha hb
    exact hp.ne (show i ≠ j by omega) (by omega) (by omega) (by rw [ea, eb, e])
  · obtain ⟨i, hi, rfl⟩ := List.getElem_of_mem hx
    obtain ⟨a, ha, _, e1⟩ := hget i hi
    obtain ⟨c, hc, ec⟩ := hl.at a ha
    rw [e1, ec]; omega
theorem onI_comp (n : Nat) (hn : n < 6) (e : Int) {l p : List Int} (hl : isOrd n l) (hp : isOrd n p) : onI (onI e l) p = onI e (comp l p) := by
  obtain ⟨b, hb, e1, h1⟩ := onI_nat n hn e hl
  rw [e1]
  unfold onI
  rw [hp.1, (hl.comp hp).1]
  refine madeI_congr fun i j hij hj => ?_
  obtain ⟨x, hx, ex⟩ := hp.at i (by omega)
  obtain ⟨y, hy, ey⟩ := hp.at j hj
  have hne := hp.ne (show i ≠ j by omega) (by omega) hj
  rw [rd_comp hp i (by omega), rd_comp hp j hj, ex, ey]
  rw [ex, ey] at hne
  exact h1 x y (by omega) hx hy

end Go.Proofs.Ytcepbgffnneagaa.Q
end

section
namespace Go.Proofs.Ytcepbgffnneagaa.Q
open Go.RowKit Go.Proofs.YtcepbgffnneagaaW.PrintWords Go.Proofs.YtcepbgffnneagaaW.PrintLast Go.Proofs.YtcepbgffnneagaaW.PrintMore
attribute [local go_sem] max2_int min2_int max_two min_two max_three min_three max_four min_four   -- for this text's walks alone
set_option linter.unusedVariables false
set_option linter.unusedSimpArgs false

theorem mem_leavesIn {g : List Int → List (List Int)} {l x : List Int} : ∀ (d i0 i : Nat), i0 ≤ i → i < i0 + d → (i : Int) ∉ l → x ∈ g (l ++ [(i : Int)]) → x ∈ leavesIn g l d i0
  | 0, i0, i, h1, h2, _, _ => by omega
  | d + 1, i0, i, h1, h2, hn, hx => by
    rw [leavesIn]
    rcases Nat.eq_or_lt_of_le h1 with rfl | h1
    · rw [if_neg hn]; exact List.mem_append_left _ hx
    · have := mem_leavesIn d (i0 + 1) i (by omega) (by omega) hn hx
      by_cases h : (i0 : Int) ∈ l
      · rw [if_pos h]; exact this
      · rw [if_neg h]; exact List.mem_append_right _ this
theorem mem_leaves (n : Nat) : ∀ (r : Nat) (pre t : List Int), t.length = r → (pre ++ t).Nodup → (∀ x ∈ t, 0 ≤ x ∧ x < n) → pre ++ t ∈ leaves n r pre
  | 0, pre, t, hl, _, _ => by
    obtain rfl := List.eq_nil_of_length_eq_zero hl
    rw [leaves, List.append_nil]; exact List.mem_singleton.2 rfl
  | r + 1, pre, t, hl, hd, hr => by
    cases t with
    | nil => simp at hl
    | cons x t =>
      have hx := hr x (List.mem_cons_self)
      have hxp : x ∉ pre := fun h => by
        rw [List.nodup_append] at hd
        exact hd.2.2 x h x (List.mem_cons_self) rfl
      rw [leaves]
      refine mem_leavesIn n 0 x.toNat (Nat.zero_le _) (by omega) (by rw [Int.toNat_of_nonneg hx.1]; exact hxp) ?_
      rw [Int.toNat_of_nonneg hx.1, show pre ++ x :: t = (pre ++ [x]) ++ t from by simp]
      exact mem_leaves n r (pre ++ [x]) t (by simpa using hl) (by simpa using hd) fun y hy => hr y (List.mem_cons_of_mem _ hy)
theorem leaves_take : ∀ n, n < 6 → ∀ s, s < n + 1 → ∀ l ∈ leaves n (n - s) (firstI s), l.take s = firstI s := by decide +kernel
theorem mem_orders (n s : Nat) (hs : s < n + 1) {l : List Int} (h : isOrd n l) (ht : l.take s = firstI s) : l ∈ leaves n (n - s) (firstI s) := by
  have e : firstI s ++ l.drop s = l := by rw [← ht]; exact List.take_append_drop s l
  have := mem_leaves n (n - s) (firstI s) (l.drop s) (by rw [List.length_drop, h.1]) (by rw [e]; exact h.2.1) (fun x hx => by have := h.2.2 x (List.mem_of_mem_drop hx); omega)
  rwa [e] at this
theorem map_firstI (l : List Int) : ∀ s, s ≤ l.length → (firstI s).map (fun x => rd l x) = l.take s
  | 0, _ => rfl
  | s + 1, h => by
    rw [firstI, List.map_append, map_firstI l s (by omega), List.take_succ_eq_append_getElem (by omega)]
    show _ ++ [rd l s] = _
    rw [rd_of_lt l (by omega)]
theorem comp_mem (n s : Nat) (hn : n < 6) (hs : s < n + 1) {l p : List Int} (hl : l ∈ leaves n (n - s) (firstI s)) (hp : p ∈ leaves n (n - s) (firstI s)) : comp l p ∈ leaves n (n - s) (firstI s) := by
  have ol : isOrd n l := leaves_ok_s n hn s hs l hl
  have op : isOrd n p := leaves_ok_s n hn s hs p hp
  refine mem_orders n s hs (ol.comp op) ?_
  unfold comp
  rw [← List.map_take, leaves_take n hn s hs p hp, map_firstI l s (by rw [ol.1]; omega), leaves_take n hn s hs l hl]
theorem orders_inv : ∀ n, n < 6 → ∀ s, s < n + 1 → ∀ l ∈ leaves n (n - s) (firstI s), ∃ p ∈ leaves n (n - s) (firstI s), comp l p = firstI n := by decide +kernel
theorem first_mem : ∀ n, n < 6 → ∀ s, s < n + 1 → firstI n ∈ leaves n (n - s) (firstI s) := by decide +kernel
theorem onI_first : ∀ n, n < 6 → ∀ b : Nat, b < 2 ^ prs n → onI (b : Nat) (firstI n) = (b : Nat) := by decide +kernel
theorem leastE_le (e : Int) : ∀ (L : List (List Int)) (best : Int), leastE e L best ≤ best ∧ ∀ l ∈ L, leastE e L best ≤ onI e l
  | [], best => ⟨Int.le_refl _, fun l hl => by cases hl⟩
  | x :: L, best => by
    have ih := leastE_le e L (if onI e x < best then onI e x else best)
    show leastE e L _ ≤ best ∧ ∀ l ∈ x :: L, leastE e L _ ≤ onI e l
    have h1 : (if onI e x < best then onI e x else best) ≤ best ∧ (if onI e x < best then onI e x else best) ≤ onI e x := by split <;> omega
    refine ⟨Int.le_trans ih.1 h1.1, fun l hl => ?_⟩
    rcases List.mem_cons.1 hl with rfl | hl
    · exact Int.le_trans ih.1 h1.2
    · exact ih.2 l hl
theorem leastE_mem (e : Int) : ∀ (L : List (List Int)) (best : Int), leastE e L best = best ∨ ∃ l ∈ L, leastE e L best = onI e l
  | [], best => Or.inl rfl
  | x :: L, best => by
    have ih := leastE_mem e L (if onI e x < best then onI e x else best)
    show leastE e L _ = best ∨ ∃ l ∈ x :: L, leastE e L _ = onI e l
    rcases ih with ih | ⟨l, hl, ih⟩
    · rw [ih]
      split
      · exact Or.inr ⟨x, List.mem_cons_self, rfl⟩
      · exact Or.inl rfl
    · exact Or.inr ⟨l, List.mem_cons_of_mem _ hl, ih⟩
/-- Two graphs have one least graph just if an order turns the one into the other. -/
theorem alike_iff (n s : Nat) (hn : n < 6) (hs : s < n + 1) (e h : Nat) (he : e < 2 ^ prs n) (hh : h < 2 ^ prs n) :
    (∃ l ∈ leaves n (n - s) (firstI s), onI e l = h) ↔ leastE e (leaves n (n - s) (firstI s)) e = leastE h (leaves n (n - s) (firstI s)) h := by
  have ord : ∀ l ∈ leaves n (n - s) (firstI s), isOrd n l := fun l hl => leaves_ok_s n hn s hs l hl
  have inv := orders_inv n hn s hs
  have cm : ∀ {l p : List Int}, l ∈ leaves n (n - s) (firstI s) → p ∈ leaves n (n - s) (firstI s) → comp l p ∈ leaves n (n - s) (firstI s) := fun hl hp => comp_mem n s hn hs hl hp
  have fm := first_mem n hn s hs
  generalize leaves n (n - s) (firstI s) = L at *
  have at_ : ∀ g : Nat, g < 2 ^ prs n → ∃ l ∈ L, leastE g L g = onI g l := fun g hg => by
    rcases leastE_mem g L g with h1 | h1
    · exact ⟨firstI n, fm, by rw [h1, onI_first n hn g hg]⟩
    · exact h1
  have le_ : ∀ (g k : Nat) {l : List Int}, g < 2 ^ prs n → k < 2 ^ prs n → l ∈ L → onI g l = k → leastE g L g ≤ leastE k L k := fun g k l hg hk hl e1 => by
    obtain ⟨p, hp, e2⟩ := at_ k hk
    rw [e2, ← e1, onI_comp n hn g (ord l hl) (ord p hp)]
    exact (leastE_le g L g).2 _ (cm hl hp)
  constructor
  · rintro ⟨l, hl, e1⟩
    obtain ⟨p, hp, e2⟩ := inv l hl
    have back : onI h p = e := by rw [← e1, onI_comp n hn e (ord l hl) (ord p hp), e2, onI_first n hn e he]
    exact Int.le_antisymm (le_ e h he hh hl e1) (le_ h e hh he hp back)
  · intro e0
    obtain ⟨l, hl, e1⟩ := at_ e he
    obtain ⟨q, hq, e2⟩ := at_ h hh
    obtain ⟨p, hp, e3⟩ := inv q hq
    refine ⟨comp l p, cm hl hp, ?_⟩
    rw [← onI_comp n hn e (ord l hl) (ord p hp), ← e1, e0, e2, onI_comp n hn h (ord q hq) (ord p hp), e3, onI_first n hn h hh]

end Go.Proofs.Ytcepbgffnneagaa.Q
end

section
namespace Go.Proofs.Ytcepbgffnneagaa.Q
open Go.RowKit Go.Proofs.YtcepbgffnneagaaW.PrintWords Go.Proofs.YtcepbgffnneagaaW.PrintLast Go.Proofs.YtcepbgffnneagaaW.PrintMore
attribute [local go_sem] max2_int min2_int max_two min_two max_three min_three max_four min_four   -- for this text's walks alone
set_option linter.unusedVariables false
set_option linter.unusedSimpArgs false

def cntB (b : Nat) : Int := (((List.range 10).countP fun q => b.testBit q : Nat) : Int)
theorem ones_eq : ∀ b : Nat, b < 1024 → bits_OnesCount32.f (b : Int) = some (cntB b) := by decide +kernel
def pairsL (n : Nat) : List (Nat × Nat) := (List.range n).flatMap fun j => (List.range j).map fun i => (i, j)
theorem pairsL_bits : ∀ n, n < 6 → (pairsL n).map (fun p => bitIx p.1 p.2) = List.range (prs n) := by decide
theorem pairsL_lt : ∀ n, n < 6 → ∀ p ∈ pairsL n, p.1 < p.2 ∧ p.2 < n := by decide
theorem pairsL_perm : ∀ n, n < 6 → ∀ l ∈ leaves n n [], ((pairsL n).map fun p => bitIx (rd l p.1).toNat (rd l p.2).toNat).isPerm (List.range (prs n)) = true := by decide +kernel
theorem cnt_short : ∀ n, n < 6 → ∀ b : Nat, b < 2 ^ prs n → (List.range 10).countP (fun q => b.testBit q) = (List.range (prs n)).countP (fun q => b.testBit q) := by decide +kernel
theorem cnt_on (n : Nat) (hn : n < 6) (e h : Nat) (he : e < 2 ^ prs n) {l : List Int} (hl : l ∈ leaves n n []) (eh : onI e l = h) : cntB h = cntB e := by
  have ol : isOrd n l := leaves_ok n hn n (by omega) l hl
  obtain ⟨b, hb, e1, h1⟩ := onI_nat n hn e ol
  obtain rfl : b = h := by rw [eh] at e1; omega
  unfold cntB
  have he' : e < 1024 := Nat.lt_of_lt_of_le he (prs_le n hn)
  have hb' : b < 1024 := Nat.lt_of_lt_of_le hb (prs_le n hn)
  rw [cnt_short n hn b hb, cnt_short n hn e he]
  have hp := List.isPerm_iff.1 (pairsL_perm n hn l hl)
  rw [← hp.countP_eq (fun q => e.testBit q), ← pairsL_bits n hn, List.countP_map, List.countP_map]
  congr 1
  refine List.countP_congr fun p hp => ?_
  obtain ⟨p1, p2⟩ := pairsL_lt n hn p hp
  obtain ⟨x, hx, ex⟩ := ol.at p.1 (by omega)
  obtain ⟨y, hy, ey⟩ := ol.at p.2 (by omega)
  have hne := ol.ne (show p.1 ≠ p.2 by omega) (by omega) (by omega)
  have := h1 p.1 p.2 (by omega) (by omega) (by omega)
  rw [ex, ey] at hne this
  rw [hasI_bit b hb' _ (by omega) _ (by omega) (by omega), hasI_bit e he' _ (by omega) _ (by omega) (by omega)] at this
  simp only [Function.comp, ex, ey, Int.toNat_natCast, this]

end Go.Proofs.Ytcepbgffnneagaa.Q
end

section
namespace Go.Proofs.Ytcepbgffnneagaa.Q
open Go.RowKit Go.Proofs.YtcepbgffnneagaaW.PrintWords Go.Proofs.YtcepbgffnneagaaW.PrintLast Go.Proofs.YtcepbgffnneagaaW.PrintMore
attribute [local go_sem] max2_int min2_int max_two min_two max_three min_three max_four min_four   -- for this text's walks alone
set_option linter.unusedVariables false
set_option linter.unusedSimpArgs false

theorem leaves_sub : ∀ n, n < 6 → ∀ s, s < n + 1 → ∀ l ∈ leaves n (n - s) (firstI s), l ∈ leaves n n [] := by
  intro n hn s hs l hl
  have h := leaves_ok_s n hn s hs l hl
  have := mem_orders n 0 (by omega) (l := l) h (by simp [firstI])
  simpa [firstI] using this
/-- Whether the program finds two graphs alike, the first s vertices fixed. -/
theorem alike_eq (n s : Nat) (hn : n < 6) (hs : s < n + 1) (e h : Nat) (he : e < 2 ^ prs n) (hh : h < 2 ^ prs n) : impl_Graph_alike.f n e n h s = some (leastE e (leaves n (n - s) (firstI s)) e == leastE h (leaves n (n - s) (firstI s)) h) := by
  have he' : e < 1024 := Nat.lt_of_lt_of_le he (prs_le n hn)
  have hh' : h < 1024 := Nat.lt_of_lt_of_le hh (prs_le n hn)
  have iff_ := alike_iff n s hn hs e h he hh
  unfold impl_Graph_alike.f
  rw [if_pos rfl, ones_eq e he', ones_eq h hh']
  simp only [Option.bind_some]
  by_cases hc : cntB e = cntB h
  · rw [if_pos hc]
    unfold impl_Graph_orders.f
    rw [if_pos (by omega), lstd_eq, show ((n : Int) - (s : Int)).toNat = n - s from by omega, Int.toNat_natCast, Int.toNat_natCast]
    rw [runCb_any _ (fun l => decide (onI e l = h))]
    · simp only [Option.map_some, Option.bind_some]
      congr 1
      rw [Bool.eq_iff_iff, List.any_eq_true, beq_iff_eq, ← iff_]
      simp only [decide_eq_true_eq]
    · intro l hl
      have ol := leaves_ok_s n hn s hs l hl
      unfold impl_Graph_alike_1.f
      rw [impl_onT.eq n e (okList_diff (m := n) (by omega) (by omega) (by rw [show wrap64 ((n : Int) - 1) = (n : Int) - 1 from by unfold wrap64; omega]; exact ol.2))]
      simp only [Option.bind_some, ol.1]
      congr 1
      rw [Bool.eq_iff_iff]; simp
  · rw [if_neg hc]
    congr 1
    symm
    rw [beq_eq_false_iff_ne]
    intro e0
    obtain ⟨l, hl, e1⟩ := iff_.2 e0
    exact hc (cnt_on n hn e h he (leaves_sub n hn s hs l hl) e1).symm

end Go.Proofs.Ytcepbgffnneagaa.Q
end

section
namespace Go.Proofs.Ytcepbgffnneagaa.Q
open Go.RowKit Go.Proofs.YtcepbgffnneagaaW.PrintWords Go.Proofs.YtcepbgffnneagaaW.PrintLast Go.Proofs.YtcepbgffnneagaaW.PrintMore
attribute [local go_sem] max2_int min2_int max_two min_two max_three min_three max_four min_four   -- for this text's walks alone
set_option linter.unusedVariables false
set_option linter.unusedSimpArgs false

theorem onI_small (r : Nat) (hr : r < 6) (e : Int) {l : List Int} (h : l.length = r) : ∃ b : Nat, b < 2 ^ prs r ∧ onI e l = b := by
  obtain ⟨b, hb, h1, _⟩ := made_spec r hr (fun i j => hasI e (rd l i) (rd l j))
  exact ⟨b, hb, by unfold onI; rw [h]; exact h1⟩
/-- Whether some vertices, behind the first s ones, make a graph alike h, the first s vertices fixed. -/
def occB (s m : Nat) (h e : Int) (l : List Int) : Bool := leastE (onI e (firstI s ++ l)) (leaves m (m - s) (firstI s)) (onI e (firstI s ++ l)) == leastE h (leaves m (m - s) (firstI s)) h
end Go.Proofs.Ytcepbgffnneagaa.Q
end

section
namespace Go.Proofs.Ytcepbgffnneagaa.Q
open Go.RowKit Go.Proofs.YtcepbgffnneagaaW.PrintWords Go.Proofs.YtcepbgffnneagaaW.PrintLast Go.Proofs.YtcepbgffnneagaaW.PrintMore
attribute [local go_sem] max2_int min2_int max_two min_two max_three min_three max_four min_four   -- for this text's walks alone
set_option linter.unusedVariables false
set_option linter.unusedSimpArgs false

theorem count4_loop (s m n : Nat) (hm : m < 6) (hn : n < 6) (hsm : s < m + 1) (e h : Nat) (L : List (List Int)) (hL : L.length ≤ 100) (hok : ∀ l ∈ L, l.length = m - s ∧ allDiff ((n : Int) - 1) (firstI s ++ l)) : ∀ (d i k : Nat) (many : Int), i + d = L.length → d + 1100 ≤ k →
    spec_l04Count.l0 k L many i s n e s m (leastE h (leaves m (m - s) (firstI s)) h) = some (cntE (occB s m h e) (L.drop i) many)
  | 0, i, k, many, hd, hk => by
    obtain ⟨k, rfl⟩ : ∃ q, k = q + 1 := ⟨k - 1, by omega⟩
    rw [spec_l04Count.l0, if_neg (by omega), List.drop_eq_nil_of_le (by omega)]; rfl
  | d + 1, i, k, many, hd, hk => by
    obtain ⟨k, rfl⟩ : ∃ q, k = q + 1 := ⟨k - 1, by omega⟩
    have hi : i < L.length := by omega
    obtain ⟨h1, h2⟩ := hok _ (List.getElem_mem hi)
    have hfs := firstI_len s (by omega)
    have hlen : (firstI s ++ L[i]).length = m := by rw [List.length_append, hfs, h1]; omega
    obtain ⟨b, hb, e1⟩ := onI_small m hm e hlen
    have hpart : spec_l03Part.f k s n e L[i] = some ((s : Int), (m : Int), leastE (b : Int) (leaves m (m - s) (firstI s)) b) := by
      unfold spec_l03Part.f
      rw [firstS_eq (s : Int) (by omega) (by omega) k (by omega), Int.toNat_natCast]
      simp only [Option.bind_some]
      rw [if_pos (by omega), onS_diff (m := n) n e (by omega) (by omega) (by rw [show wrap64 ((n : Int) - 1) = (n : Int) - 1 from by unfold wrap64; omega]; exact h2) k (by omega)]
      simp only [Option.bind_some, hlen, e1]
      rw [l03Least_eq m s hm hsm b k (by omega)]
      rfl
    rw [spec_l04Count.l0, if_pos (by omega), if_pos (by omega), show rd_L1 L (i : Int) = L[i] from getD_of_lt L [] hi, hpart]
    simp only [Option.bind_some, beq_self_eq_true, Bool.true_and]
    rw [show wrap64 ((i : Int) + 1) = ((i + 1 : Nat) : Int) from by unfold wrap64; omega, List.drop_eq_getElem_cons hi]
    have ih := fun many => count4_loop s m n hm hn hsm e h L hL hok d (i + 1) k many (by omega) (by omega)
    have ho : occB s m h e L[i] = (leastE (b : Int) (leaves m (m - s) (firstI s)) b == leastE h (leaves m (m - s) (firstI s)) h) := by unfold occB; rw [e1]
    show _ = some (cntE (occB s m h e) (L.drop (i + 1)) (if occB s m h e L[i] = true then wrap64 (many + 1) else many))
    rw [ho]
    split
    · exact ih _
    · exact ih _
theorem count4_eq (s m n : Nat) (hm : m < 6) (hn : n < 6) (hsm : s < m + 1) (hsn : s < n + 1) (e h : Nat) (k : Nat) (hk : 1200 ≤ k) : spec_l04Count.f k s m h s n e = some (cntE (occB s m h e) (sets4 s n (m - s)) 0) := by
  have hok := sets4_ok n hn s hsn (m - s) (by omega)
  unfold spec_l04Count.f spec_l04Free.f
  rw [l03Least_eq m s hm hsm h k (by omega)]
  simp only [Option.bind_some]
  rw [show wrap64 ((m : Int) - (s : Int)) = ((m - s : Nat) : Int) from by unfold wrap64; omega, sets4_eq s n (m - s) hn hsn (by omega) e k (by omega)]
  have := count4_loop s m n hm hn hsm e h (sets4 s n (m - s)) (by omega) hok.2 _ 0 k 0 (Nat.zero_add _) (by omega)
  rw [show ((0 : Nat) : Int) = 0 from rfl, List.drop_zero] at this
  exact this
theorem choices_all : ∀ n : Nat, n < 6 → ∀ s : Nat, s < n + 1 → ∀ r : Nat, r < n - s + 1 → impl_choices.f 100 ((n - s : Nat) : Int) r = some ((sets4 s n r).length : Int) ∧ 0 < (sets4 s n r).length := by decide +kernel
/-- The density of a flag in another one, by the reference. -/
theorem density4_eq (s m n : Nat) (hm : m < 6) (hn : n < 6) (hsm : s < m + 1) (hmn : m < n + 1) (e h : Nat) : ∃ c : Nat, cntE (occB s m h e) (sets4 s n (m - s)) 0 = c ∧ ∃ a b : Int, ∀ k, 1200 ≤ k → spec_l04Density.f k s m h s n e = some (a, b) ∧ (impl_choices.f k ((n - s : Nat) : Int) ((m - s : Nat) : Int)).bind (fun t => impl_lowest.f k (c : Int) t) = some (a, b) := by
  have hok := sets4_ok n hn s (by omega) (m - s) (by omega)
  obtain ⟨hc1, hc2⟩ := choices_all n hn s (by omega) (m - s) (by omega)
  have hcnt := cntE_eq (occB s m h e) (sets4 s n (m - s)) 0 (by omega)
  rw [Nat.zero_add, show ((0 : Nat) : Int) = 0 from rfl] at hcnt
  have hle : (sets4 s n (m - s)).countP (occB s m h e) ≤ (sets4 s n (m - s)).length := List.countP_le_length
  obtain ⟨a, b, hab⟩ := ratio_both _ (sets4 s n (m - s)).length (by omega) hc2 (Nat.lt_succ_of_le hle)
  refine ⟨_, hcnt, a, b, fun k hk => ⟨?_, ?_⟩⟩
  · unfold spec_l04Density.f spec_l04Free.f
    rw [count4_eq s m n hm hn hsm (by omega) e h k hk, hcnt]
    simp only [Option.bind_some]
    rw [show wrap64 ((m : Int) - (s : Int)) = ((m - s : Nat) : Int) from by unfold wrap64; omega, sets4_eq s n (m - s) hn (by omega) (by omega) e k (by omega)]
    simp only [Option.bind_some]
    rw [(hab k (by omega)).2]; rfl
  · rw [LeO_ge (F := fun k => impl_choices.f k ((n - s : Nat) : Int) ((m - s : Nat) : Int)) (fun k => impl_choices.mono _ _ k) (by omega : 100 ≤ k) _ hc1]
    exact (hab k (by omega)).1

end Go.Proofs.Ytcepbgffnneagaa.Q
end

section
namespace Go.Proofs.Ytcepbgffnneagaa.Q
open Go.RowKit Go.Proofs.YtcepbgffnneagaaW.PrintWords Go.Proofs.YtcepbgffnneagaaW.PrintLast Go.Proofs.YtcepbgffnneagaaW.PrintMore
attribute [local go_sem] max2_int min2_int max_two min_two max_three min_three max_four min_four   -- for this text's walks alone
set_option linter.unusedVariables false
set_option linter.unusedSimpArgs false

theorem countIn_eq (s m n : Nat) (hm : m < 6) (hn : n < 6) (hsm : s < m + 1) (hsn : s < n + 1) (e h : Nat) (hh : h < 2 ^ prs m) : impl_Flag_countIn.f s m h s n e = some (cntE (occB s m h e) (sets4 s n (m - s)) 0) := by
  have hp := List.isPerm_iff.1 (sets4_perm n hn s hsn (m - s) (by omega))
  have hok := sets4_ok n hn s hsn (m - s) (by omega)
  have hfl := firstI_len n hn
  have hfs := firstI_len s (by omega)
  unfold impl_Flag_countIn.f impl_Flag_others.f impl_Flag_free.f
  rw [impl_firstT.eq (by omega) (by omega), Int.toNat_natCast]
  simp only [Option.bind_some]
  rw [if_pos (by omega), if_pos (by omega), show wrap64 ((m : Int) - (s : Int)) = ((m - s : Nat) : Int) from by unfold wrap64; omega, Int.toNat_natCast]
  simp only [Option.bind_some]
  rw [chosen_fs _ (m - s) (by omega) ((firstI n).drop s) (by rw [List.length_drop, hfl]; omega) 0 (cntE (occB s m h e) (sets4 s n (m - s)) 0)]
  · rfl
  rw [cntE_perm _ hp (by omega)]
  refine foldCb_cnt _ _ _ _ fun l hl many => ?_
  have hl2 := hok.2 l (hp.mem_iff.2 hl)
  have hlen : (firstI s ++ l).length = m := by rw [List.length_append, hfs, hl2.1]; omega
  obtain ⟨b, hb, e1⟩ := onI_small m hm e hlen
  unfold impl_Flag_countIn_1.f impl_Flag_on.f
  rw [impl_firstT.eq (by omega) (by omega), Int.toNat_natCast]
  simp only [Option.bind_some]
  rw [if_pos (by omega), impl_onT.eq _ _ (okList_diff (m := n) (by omega) (by omega) (by rw [show wrap64 ((n : Int) - 1) = (n : Int) - 1 from by unfold wrap64; omega]; exact hl2.2))]
  simp only [Option.bind_some, hlen, e1, impl_Flag_alike.f, if_true, alike_eq m s hm hsm b h hb hh]
  unfold occB
  rw [e1]
  split <;> rfl

end Go.Proofs.Ytcepbgffnneagaa.Q
end

section
namespace Go.Proofs.Ytcepbgffnneagaa.Q
open Go.RowKit Go.Proofs.YtcepbgffnneagaaW.PrintWords Go.Proofs.YtcepbgffnneagaaW.PrintLast Go.Proofs.YtcepbgffnneagaaW.PrintMore
attribute [local go_sem] max2_int min2_int max_two min_two max_three min_three max_four min_four   -- for this text's walks alone
set_option linter.unusedVariables false
set_option linter.unusedSimpArgs false

def idxI {α : Type} (p : α → Bool) : List α → Nat → Int
  | [], _ => -1
  | x :: xs, i => if p x = true then (i : Int) else idxI p xs (i + 1)
theorem idxI_any {α : Type} (p : α → Bool) : ∀ (L : List α) (i : Nat), decide (idxI p L i ≥ 0) = L.any p
  | [], _ => by simp [idxI]
  | x :: xs, i => by
    rw [idxI, List.any_cons]
    by_cases h : p x = true
    · rw [if_pos h, h]; simp
    · rw [if_neg h, idxI_any p xs (i + 1)]; simp [Bool.eq_false_iff.2 h]

end Go.Proofs.Ytcepbgffnneagaa.Q
end

section
namespace Go.Proofs.Ytcepbgffnneagaa.Q
open Go.RowKit Go.Proofs.YtcepbgffnneagaaW.PrintWords Go.Proofs.YtcepbgffnneagaaW.PrintLast Go.Proofs.YtcepbgffnneagaaW.PrintMore
attribute [local go_sem] max2_int min2_int max_two min_two max_three min_three max_four min_four   -- for this text's walks alone
set_option linter.unusedVariables false
set_option linter.unusedSimpArgs false

theorem idxFlag_loop (cb : Int → Int → Int → Option Bool) (p : S45 → Bool) (L : List S45) (hL : L.length ≤ 1048576) (hcb : ∀ x ∈ L, cb x.f0 x.f1.f0 x.f1.f1 = some (p x)) : ∀ (d i k : Nat), i + d = L.length → d + 1 ≤ k → impl_Flag_169.l0 cb k L (L.length : Int) i = some (idxI p (L.drop i) i)
  | 0, i, k, hd, hk => by
    obtain ⟨k, rfl⟩ : ∃ q, k = q + 1 := ⟨k - 1, by omega⟩
    rw [impl_Flag_169.l0, if_neg (by omega), List.drop_eq_nil_of_le (by omega)]; rfl
  | d + 1, i, k, hd, hk => by
    obtain ⟨k, rfl⟩ : ∃ q, k = q + 1 := ⟨k - 1, by omega⟩
    have hi : i < L.length := by omega
    have hr : rd_T45 L (i : Int) = L[i] := by unfold rd_T45; exact getD_of_lt L _ hi
    rw [impl_Flag_169.l0]
    simp only [hr]
    rw [if_pos (by omega), if_pos (by omega), if_pos (by omega), hcb _ (List.getElem_mem hi), w64_succ (by omega), List.drop_eq_getElem_cons hi, idxI]
    simp only [Option.bind_some]
    split
    · rfl
    · exact idxFlag_loop cb p L hL hcb d (i + 1) k (by omega) (by omega)
theorem idxFlag_eq (cb : Int → Int → Int → Option Bool) (p : S45 → Bool) (L : List S45) (hL : L.length ≤ 1048576) (hcb : ∀ x ∈ L, cb x.f0 x.f1.f0 x.f1.f1 = some (p x)) (k : Nat) (hk : L.length + 1 ≤ k) : impl_Flag_169.f cb k L = some (idxI p L 0) := by
  unfold impl_Flag_169.f
  have := idxFlag_loop cb p L hL hcb L.length 0 k (Nat.zero_add _) hk
  rw [show ((0 : Nat) : Int) = 0 from rfl, List.drop_zero] at this
  exact this
theorem anyFlag_eq (cb : Int → Int → Int → Option Bool) (p : S45 → Bool) (L : List S45) (hL : L.length ≤ 1048576) (hcb : ∀ x ∈ L, cb x.f0 x.f1.f0 x.f1.f1 = some (p x)) (k : Nat) (hk : L.length + 1 ≤ k) : impl_Flag_133.f cb k L = some (L.any p) := by
  unfold impl_Flag_133.f
  rw [idxFlag_eq cb p L hL hcb k hk]
  simp only [Option.bind_some, idxI_any]

end Go.Proofs.Ytcepbgffnneagaa.Q
end

section
namespace Go.Proofs.Ytcepbgffnneagaa.Q
open Go.RowKit Go.Proofs.YtcepbgffnneagaaW.PrintWords Go.Proofs.YtcepbgffnneagaaW.PrintLast Go.Proofs.YtcepbgffnneagaaW.PrintMore
attribute [local go_sem] max2_int min2_int max_two min_two max_three min_three max_four min_four   -- for this text's walks alone
set_option linter.unusedVariables false
set_option linter.unusedSimpArgs false

theorem in_eq (a b c : Int) : impl_in.f a b c = some (decide (b ≤ a ∧ a ≤ c)) := by
  unfold impl_in.f
  by_cases h : a ≥ b
  · rw [if_pos h]; congr 1; rw [decide_eq_decide]; omega
  · rw [if_neg h]; congr 1; symm; rw [decide_eq_false_iff_not]; omega

end Go.Proofs.Ytcepbgffnneagaa.Q
end

section
namespace Go.Proofs.Ytcepbgffnneagaa.Q
open Go.RowKit Go.Proofs.YtcepbgffnneagaaW.PrintWords Go.Proofs.YtcepbgffnneagaaW.PrintLast Go.Proofs.YtcepbgffnneagaaW.PrintMore
attribute [local go_sem] max2_int min2_int max_two min_two max_three min_three max_four min_four   -- for this text's walks alone
set_option linter.unusedVariables false
set_option linter.unusedSimpArgs false

def validG (n e : Int) : Bool := decide (0 ≤ n ∧ n ≤ 5 ∧ e < 2 ^ (n.toNat * (n.toNat - 1) / 2))
theorem l01Ok_eq (n e : Int) (h0 : 0 ≤ e) (h1 : e ≤ 4294967295) : spec_l01Ok.f n e = some (validG n e) := by
  have hw : wrap64 e = e := by unfold wrap64; omega
  unfold spec_l01Ok.f validG
  rw [l00In_eq, hw]; simp only [Option.bind_some]
  by_cases h : 0 ≤ n ∧ n ≤ 5
  · rw [if_pos (by simpa using h)]
    obtain ⟨ha, hb⟩ := h
    rcases small5 ha hb with rfl | rfl | rfl | rfl | rfl | rfl
    all_goals
      simp only [spec_l01Bits.f]
      simp [wrap64, IntKind.wrap_u64, shl, IntKind.wrap_i64, IntKind.bits]
  · rw [if_neg (by simpa using h)]; congr 1; symm; rw [decide_eq_false_iff_not]; omega

end Go.Proofs.Ytcepbgffnneagaa.Q
end

section
namespace Go.Proofs.Ytcepbgffnneagaa.Q
open Go.RowKit Go.Proofs.YtcepbgffnneagaaW.PrintWords Go.Proofs.YtcepbgffnneagaaW.PrintLast Go.Proofs.YtcepbgffnneagaaW.PrintMore
attribute [local go_sem] max2_int min2_int max_two min_two max_three min_three max_four min_four   -- for this text's walks alone
set_option linter.unusedVariables false
set_option linter.unusedSimpArgs false

theorem ValidGraph_eq (n e : Int) (h0 : 0 ≤ e) (h1 : e ≤ 4294967295) : impl_ValidGraph.f n e = some (validG n e) := by
  unfold impl_ValidGraph.f validG
  rw [in_eq]; simp only [Option.bind_some]
  by_cases h : 0 ≤ n ∧ n ≤ 5
  · rw [if_pos (by simpa using h)]
    obtain ⟨ha, hb⟩ := h
    rcases small5 ha hb with rfl | rfl | rfl | rfl | rfl | rfl
    all_goals
      simp only [impl_pairs.f]
      simp [wrap64, shr, IntKind.bits]
    all_goals (first | done | (rw [Bool.eq_iff_iff]; simp; omega))
  · rw [if_neg (by simpa using h)]; congr 1; symm; rw [decide_eq_false_iff_not]; omega

end Go.Proofs.Ytcepbgffnneagaa.Q
end

section
namespace Go.Proofs.Ytcepbgffnneagaa.Q
open Go.RowKit Go.Proofs.YtcepbgffnneagaaW.PrintWords Go.Proofs.YtcepbgffnneagaaW.PrintLast Go.Proofs.YtcepbgffnneagaaW.PrintMore
attribute [local go_sem] max2_int min2_int max_two min_two max_three min_three max_four min_four   -- for this text's walks alone
set_option linter.unusedVariables false
set_option linter.unusedSimpArgs false

def validF (l n e : Int) : Bool := validG n e && decide (0 ≤ l ∧ l ≤ 3 ∧ l ≤ n)
theorem l03Ok_eq (l n e : Int) (h0 : 0 ≤ e) (h1 : e ≤ 4294967295) : spec_l03Ok.f l n e = some (validF l n e) := by
  unfold spec_l03Ok.f validF
  rw [l01Ok_eq n e h0 h1, l00In_eq]; simp only [Option.bind_some]
  cases validG n e
  · rfl
  · by_cases h : 0 ≤ l ∧ l ≤ 3
    · rw [if_pos rfl, if_pos (by simpa using h)]; simp [h]
    · rw [if_pos rfl, if_neg (by simpa using h)]; congr 1; simp; omega

end Go.Proofs.Ytcepbgffnneagaa.Q
end

section
namespace Go.Proofs.Ytcepbgffnneagaa.Q
open Go.RowKit Go.Proofs.YtcepbgffnneagaaW.PrintWords Go.Proofs.YtcepbgffnneagaaW.PrintLast Go.Proofs.YtcepbgffnneagaaW.PrintMore
attribute [local go_sem] max2_int min2_int max_two min_two max_three min_three max_four min_four   -- for this text's walks alone
set_option linter.unusedVariables false
set_option linter.unusedSimpArgs false

theorem ValidFlag_eq (l n e : Int) (h0 : 0 ≤ e) (h1 : e ≤ 4294967295) : impl_ValidFlag.f l n e = some (validF l n e) := by
  unfold impl_ValidFlag.f validF
  rw [ValidGraph_eq n e h0 h1, in_eq]; simp only [Option.bind_some]
  cases validG n e
  · rfl
  · by_cases h : 0 ≤ l ∧ l ≤ 3
    · rw [if_pos rfl, if_pos (by simpa using h)]; simp [h]
    · rw [if_pos rfl, if_neg (by simpa using h)]; congr 1; simp; omega

end Go.Proofs.Ytcepbgffnneagaa.Q
end

section
namespace Go.Proofs.Ytcepbgffnneagaa.Q
open Go.RowKit Go.Proofs.YtcepbgffnneagaaW.PrintWords Go.Proofs.YtcepbgffnneagaaW.PrintLast Go.Proofs.YtcepbgffnneagaaW.PrintMore
attribute [local go_sem] max2_int min2_int max_two min_two max_three min_three max_four min_four   -- for this text's walks alone
set_option linter.unusedVariables false
set_option linter.unusedSimpArgs false

theorem firstI_diff : ∀ m : Nat, m < 6 → ∀ s : Nat, s < m + 1 → allDiff ((m : Int) - 1) (firstI s) := by decide +kernel
theorem type_both (s m : Nat) (hm : m < 6) (hs : s < m + 1) (h : Int) : impl_Flag_typeOf.f s m h = some ((s : Int), onI h (firstI s)) ∧ ∀ k, 40 ≤ k → spec_l03Type.f k s m h = some ((s : Int), onI h (firstI s)) := by
  have hd := firstI_diff m hm s hs
  have hw : allDiff (wrap64 ((m : Int) - 1)) (firstI s) := by rw [show wrap64 ((m : Int) - 1) = (m : Int) - 1 from by unfold wrap64; omega]; exact hd
  have hl := firstI_len s (by omega)
  refine ⟨?_, fun k hk => ?_⟩
  · unfold impl_Flag_typeOf.f
    rw [impl_firstT.eq (by omega) (by omega), Int.toNat_natCast]
    simp only [Option.bind_some]
    rw [impl_onT.eq _ _ (okList_diff (m := m) (by omega) (by omega) hw), hl]; rfl
  · unfold spec_l03Type.f
    rw [firstS_eq (s : Int) (by omega) (by omega) k hk, Int.toNat_natCast]
    simp only [Option.bind_some]
    rw [onS_diff (m := m) m h (by omega) (by omega) hw k hk, hl]; rfl
def okE (e : Int) : Prop := 0 ≤ e ∧ e ≤ 4294967295
theorem flagsOk2_eq (l n e l' m h : Int) (he : okE e) (hh : okE h) (k : Nat) (hk : 10 ≤ k) : impl_flagsOk.f k [⟨l, ⟨n, e⟩⟩, ⟨l', ⟨m, h⟩⟩] = some (if validF l n e && validF l' m h then 0 else 1) := by
  unfold impl_flagsOk.f
  rw [anyFlag_eq _ (fun x => !validF x.f0 x.f1.f0 x.f1.f1) _ (by simp) (by
    intro x hx
    unfold impl_badFlag.f
    rcases List.mem_cons.1 hx with rfl | hx
    · rw [ValidFlag_eq l n e he.1 he.2]; rfl
    · rw [List.mem_singleton] at hx; subst hx
      rw [ValidFlag_eq l' m h hh.1 hh.2]; rfl) k (by simp only [List.length_cons, List.length_nil]; omega)]
  simp only [Option.bind_some, List.any_cons, List.any_nil, Bool.or_false]
  cases validF l n e <;> cases validF l' m h <;> rfl
theorem sameType2_eq (s m t n : Nat) (hm : m < 6) (hs : s < m + 1) (hn : n < 6) (ht : t < n + 1) (h e : Int) (k : Nat) (hk : 10 ≤ k) : impl_sameType.f k [⟨s, ⟨m, h⟩⟩, ⟨t, ⟨n, e⟩⟩] = some (decide (s = t ∧ onI h (firstI s) = onI e (firstI t))) := by
  unfold impl_sameType.f
  have h1 := (type_both s m hm hs h).1
  have h2 := (type_both t n hn ht e).1
  rw [anyFlag_eq _ (fun x => match impl_Flag_typeOf.f x.f0 x.f1.f0 x.f1.f1 with | some y => !(y.1 == (s : Int)) || !(y.2 == onI h (firstI s)) | none => false) _ (by simp) (by
    intro x hx
    unfold impl_sameType_1.f
    have h0 : rd_T45 [⟨(s : Int), ⟨(m : Int), h⟩⟩, ⟨(t : Int), ⟨(n : Int), e⟩⟩] 0 = ⟨(s : Int), ⟨(m : Int), h⟩⟩ := rfl
    rcases List.mem_cons.1 hx with rfl | hx
    · simp only [h0, h1, Option.bind_some, List.length_cons, List.length_nil]; rfl
    · rw [List.mem_singleton] at hx; subst hx
      simp only [h0, h1, h2, Option.bind_some, List.length_cons, List.length_nil]; rfl) k (by simp only [List.length_cons, List.length_nil]; omega)]
  simp only [Option.bind_some, List.any_cons, List.any_nil, Bool.or_false, h1, h2, beq_self_eq_true, Bool.not_true, Bool.false_or]
  congr 1
  rw [Bool.eq_iff_iff]
  simp only [Bool.not_eq_true', Bool.or_eq_false_iff, Bool.not_eq_false', beq_iff_eq, decide_eq_true_eq]
  constructor
  · rintro ⟨a, b⟩; exact ⟨by omega, b.symm⟩
  · rintro ⟨a, b⟩; exact ⟨by omega, b.symm⟩
/-- The code of two valid flags, the first one in the second one, by both. -/
theorem pair_both (s m t n : Nat) (hm : m < 6) (hs : s < m + 1) (hn : n < 6) (ht : t < n + 1) (h e : Int) (he : okE e) (hh : okE h) (vf : validF s m h = true) (vg : validF t n e = true) (k : Nat) (hk : 100 ≤ k) :
    impl_pairOk.f k s m h t n e = some (if s = t ∧ onI h (firstI s) = onI e (firstI t) then (if m > n then 2 else 0) else 4) ∧ spec_l04Asked.f k s m h t n e = some (if s = t ∧ onI h (firstI s) = onI e (firstI t) then (if m > n then 2 else 0) else 4) := by
  obtain ⟨k, rfl⟩ : ∃ q, k = q + 1 := ⟨k - 1, by omega⟩
  constructor
  · unfold impl_pairOk.f
    rw [flagsOk2_eq s m h t n e hh he _ (by omega), sameType2_eq s m t n hm hs hn ht h e _ (by omega), vf, vg]
    simp only [Bool.and_self, if_true, Option.bind_some, decide_eq_true_eq]
    by_cases hc : s = t ∧ onI h (firstI s) = onI e (firstI t)
    · simp only [if_pos hc]
      by_cases hmn : m > n
      · rw [if_pos hmn, if_pos (by omega)]
      · rw [if_neg hmn, if_neg (by omega)]
    · simp only [if_neg hc]
  · unfold spec_l04Asked.f spec_l04Types.f
    rw [l03Ok_eq s m h hh.1 hh.2, l03Ok_eq t n e he.1 he.2, vf, vg]
    simp only [if_true, Option.bind_some, Bool.not_true, spec_l04Types.j0, Bool.false_eq_true, if_false]
    rw [(type_both s m hm hs h).2 k (by omega), (type_both t n hn ht e).2 k (by omega)]
    simp only [Option.bind_some]
    by_cases hc : s = t ∧ onI h (firstI s) = onI e (firstI t)
    · obtain ⟨rfl, hc2⟩ := hc
      rw [show (if s = s ∧ onI h (firstI s) = onI e (firstI s) then (if m > n then 2 else 0) else (4 : Int)) = (if m > n then 2 else 0) from if_pos ⟨rfl, hc2⟩, hc2]
      simp only [beq_self_eq_true, Bool.not_true, Bool.or_self, Bool.false_eq_true, if_false, Option.bind_some, if_true]
      by_cases hmn : m > n
      · rw [if_pos hmn, if_pos (by omega)]
      · rw [if_neg hmn, if_neg (by omega)]
    · rw [show (if s = t ∧ onI h (firstI s) = onI e (firstI t) then (if m > n then 2 else 0) else (4 : Int)) = 4 from if_neg hc]
      have hb : (!((s : Int) == (t : Int)) || !(onI h (firstI s) == onI e (firstI t))) = true := by
        rw [Bool.or_eq_true, Bool.not_eq_true', Bool.not_eq_true', beq_eq_false_iff_ne, beq_eq_false_iff_ne]
        by_cases h1 : s = t
        · exact Or.inr fun h2 => hc ⟨h1, h2⟩
        · exact Or.inl fun h2 => h1 (by omega)
      rw [if_pos hb]; simp
theorem pair_bad (l n e l' m h : Int) (he : okE e) (hh : okE h) (hv : (validF l n e && validF l' m h) = false) (k : Nat) (hk : 100 ≤ k) : impl_pairOk.f k l n e l' m h = some 1 ∧ spec_l04Asked.f k l n e l' m h = some 1 := by
  obtain ⟨k, rfl⟩ : ∃ q, k = q + 1 := ⟨k - 1, by omega⟩
  constructor
  · unfold impl_pairOk.f
    rw [flagsOk2_eq l n e l' m h he hh _ (by omega), hv]
    simp
  · unfold spec_l04Asked.f spec_l04Types.f
    rw [l03Ok_eq l n e he.1 he.2, l03Ok_eq l' m h hh.1 hh.2]
    cases h1 : validF l n e
    · simp [spec_l04Types.j0]
    · rw [h1, Bool.true_and] at hv
      simp [spec_l04Types.j0, hv]

end Go.Proofs.Ytcepbgffnneagaa.Q
end

section
namespace Go.Proofs.Ytcepbgffnneagaa.Q
open Go.RowKit Go.Proofs.YtcepbgffnneagaaW.PrintWords Go.Proofs.YtcepbgffnneagaaW.PrintLast Go.Proofs.YtcepbgffnneagaaW.PrintMore
attribute [local go_sem] max2_int min2_int max_two min_two max_three min_three max_four min_four   -- for this text's walks alone
set_option linter.unusedVariables false
set_option linter.unusedSimpArgs false

theorem validG_nat {n e : Int} (h0 : 0 ≤ e) (h : validG n e = true) : ∃ (m f : Nat), n = m ∧ e = f ∧ m < 6 ∧ f < 2 ^ prs m := by
  simp only [validG, decide_eq_true_eq] at h
  refine ⟨n.toNat, e.toNat, by omega, by omega, by omega, ?_⟩
  have := h.2.2
  unfold prs
  have h2 : ((e.toNat : Nat) : Int) < ((2 ^ (n.toNat * (n.toNat - 1) / 2) : Nat) : Int) := by rw [Int.toNat_of_nonneg h0]; exact_mod_cast this
  exact_mod_cast h2

end Go.Proofs.Ytcepbgffnneagaa.Q
end

section
namespace Go.Proofs.Ytcepbgffnneagaa.Q
open Go.RowKit Go.Proofs.YtcepbgffnneagaaW.PrintWords Go.Proofs.YtcepbgffnneagaaW.PrintLast Go.Proofs.YtcepbgffnneagaaW.PrintMore
attribute [local go_sem] max2_int min2_int max_two min_two max_three min_three max_four min_four   -- for this text's walks alone
set_option linter.unusedVariables false
set_option linter.unusedSimpArgs false

theorem validF_nat {l n e : Int} (h0 : 0 ≤ e) (h : validF l n e = true) : ∃ (s m f : Nat), l = s ∧ n = m ∧ e = f ∧ m < 6 ∧ s < m + 1 ∧ f < 2 ^ prs m := by
  simp only [validF, Bool.and_eq_true, decide_eq_true_eq] at h
  obtain ⟨m, f, rfl, rfl, hm, hf⟩ := validG_nat h0 h.1
  exact ⟨l.toNat, m, f, by omega, rfl, rfl, hm, by omega, hf⟩

end Go.Proofs.Ytcepbgffnneagaa.Q
end

section
namespace Go.Proofs.Ytcepbgffnneagaa.Q
open Go.RowKit Go.Proofs.YtcepbgffnneagaaW.PrintWords Go.Proofs.YtcepbgffnneagaaW.PrintLast Go.Proofs.YtcepbgffnneagaaW.PrintMore
attribute [local go_sem] max2_int min2_int max_two min_two max_three min_three max_four min_four   -- for this text's walks alone
set_option linter.unusedVariables false
set_option linter.unusedSimpArgs false

theorem FnExactFlagDensity_pure (l m h l' n e : Int) (_hl : (Lit.int .i64 l).wf = true) (_hm : (Lit.int .i64 m).wf = true) (hh : (Lit.int .u32 h).wf = true) (_hl' : (Lit.int .i64 l').wf = true) (_hn : (Lit.int .i64 n).wf = true) (he : (Lit.int .u32 e).wf = true) : ∃ k, laws_FnExactFlagDensity.f k l m h l' n e = some true := by
  obtain ⟨K, hK⟩ : ∃ K : Nat, 2000 ≤ K := ⟨2000, Nat.le_refl _⟩
  refine ⟨K, ?_⟩
  have he' : okE e := by simpa [okE, Lit.wf, IntKind.min, IntKind.max, IntKind.bits, IntKind.signed] using he
  have hh' : okE h := by simpa [okE, Lit.wf, IntKind.min, IntKind.max, IntKind.bits, IntKind.signed] using hh
  simp only [laws_FnExactFlagDensity.f, laws_toFlag.f, laws_toGraph.f, Option.bind_some, spec_FlagDensity.f, impl_FlagDensity.f]
  cases hv : (validF l m h && validF l' n e)
  · obtain ⟨h1, h2⟩ := pair_bad l m h l' n e hh' he' hv K (by omega)
    rw [h1, h2]; simp [laws_eqFraction.f]
  obtain ⟨vf, vg⟩ := Bool.and_eq_true_iff.1 hv
  obtain ⟨s, m, h, rfl, rfl, rfl, hm, hs, hh2⟩ := validF_nat hh'.1 vf
  obtain ⟨t, n, e, rfl, rfl, rfl, hn, ht, he2⟩ := validF_nat he'.1 vg
  obtain ⟨h1, h2⟩ := pair_both s m t n hm hs hn ht h e he' hh' vf vg K (by omega)
  rw [h1, h2]
  by_cases hc : s = t ∧ onI h (firstI s) = onI e (firstI t)
  · obtain ⟨rfl, hc2⟩ := hc
    rw [if_pos ⟨rfl, hc2⟩]
    by_cases hmn : m > n
    · simp [hmn, laws_eqFraction.f]
    · rw [if_neg hmn]
      obtain ⟨c, hc, a, b, hab⟩ := density4_eq s m n hm hn hs (by omega) e h
      obtain ⟨d1, d2⟩ := hab K (by omega)
      have hcin := countIn_eq s m n hm hn hs ht e h hh2
      rw [hc] at hcin
      obtain ⟨t, ht1, ht2⟩ := Option.bind_eq_some_iff.1 d2
      have w1 : wrap64 ((n : Int) - (s : Int)) = ((n - s : Nat) : Int) := by unfold wrap64; omega
      have w2 : wrap64 ((m : Int) - (s : Int)) = ((m - s : Nat) : Int) := by unfold wrap64; omega
      simp only [Option.bind_some, if_true, impl_Flag_density.f, impl_Flag_free.f, w1, w2, hcin, d1, ht1, ht2, laws_eqFraction.f]
  · rw [if_neg hc]; simp [laws_eqFraction.f]

end Go.Proofs.Ytcepbgffnneagaa.Q
end

section
namespace Go.Proofs.YtcepbgffnneagaaW.PrintWords
open Go Go.RowKit Go.ChangeShapes Go.WideShapes Go.ChangeAt Go.Deep
set_option linter.unusedVariables false
section
variable {H : Type} (enc : TypeId × Value → H) (P : Program) (W : World)
/-- Whatever reads as data of type t stands for a plain value. -/
def Opens {α : Type} (t : TypeId) (k : Kd α) (wf : α → Prop) : Prop :=
  ∀ (fuel : Nat) (cs : List Value) (x : DataW H × List MemPlace), DataW.trod enc P W 0 (fun _ => true) true fuel t cs = some x → ∃ a, k.K W a cs ∧ wf a
end
section
variable {H : Type} {enc : TypeId × Value → H} {P : Program} {W : World}
theorem Opens.int {t : TypeId} {k : IntKind} (ht : P.underlying t = some (.int k)) : Opens enc P W t (Kd.int k) (fun n => (Lit.int k n).wf = true) := by
  intro fuel cs x h
  obtain ⟨n, rfl, _, hw⟩ := DataW.trod_int ht h
  exact ⟨n, rfl, hw⟩
theorem Opens.bool {t : TypeId} (ht : P.underlying t = some .bool) : Opens enc P W t Kd.bool (fun _ => True) := by
  intro fuel cs x h
  obtain ⟨n, rfl, _⟩ := DataW.trod_bool ht h
  exact ⟨n, rfl, trivial⟩
theorem Opens.struct2 {α β : Type} {t : TypeId} {f0 f1 : Field} {k0 : Kd α} {k1 : Kd β} {p0 : α → Prop} {p1 : β → Prop} (ht : P.underlying t = some (.struct #[f0, f1])) (o0 : f0.offset = 0) (o1 : f1.offset = P.cellsOf f0.type) (hc : P.cellsOf t = P.cellsOf f0.type + P.cellsOf f1.type)
    (h0 : Opens enc P W f0.type k0 p0) (h1 : Opens enc P W f1.type k1 p1) : Opens enc P W t (Kd.pair k0 k1) (fun p => p0 p.1 ∧ p1 p.2) := by
  intro fuel cs x h
  obtain ⟨y0, y1, n, _, hl, e0, e1⟩ := trod_struct2 ht h
  obtain ⟨a, ka, wa⟩ := h0 n _ _ e0
  obtain ⟨b, kb, wb⟩ := h1 n _ _ e1
  refine ⟨(a, b), ⟨_, _, ?_, ka, kb⟩, wa, wb⟩
  rw [o0, o1, List.drop_zero, List.take_of_length_le (l := List.drop _ cs) (by rw [List.length_drop, hl, hc]; omega), List.take_append_drop]
theorem Opens.iso {α β : Type} {t : TypeId} {k : Kd α} {p : α → Prop} (f : β → α) (g : α → β) (hfg : ∀ a, f (g a) = a) (h : Opens enc P W t k p) : Opens enc P W t (Kd.iso k f) (fun b => p (f b)) := by
  intro fuel cs x hx
  obtain ⟨a, ka, wa⟩ := h fuel cs x hx
  exact ⟨g a, by show k.K W (f (g a)) cs; rw [hfg]; exact ka, by show p (f (g a)); rw [hfg]; exact wa⟩
theorem Opens.slice {α : Type} (z : α) {t e : TypeId} {k : Kd α} {p : α → Prop} (ht : P.underlying t = some (.slice e)) (hs : k.sz = P.cellsOf e) (h : Opens enc P W e k p) : Opens enc P W t (Kd.slice e k) (fun l => l.length < 9223372036854775808 ∧ ∀ a ∈ l, p a) := by
  haveI : Inhabited α := ⟨z⟩
  intro fuel cs x hx
  rcases open_slice ht hx with ⟨rfl, _⟩ | ⟨ad, len, cap, m, n, D, Pl, rfl, _, hl, hm, hmm, _, hel⟩
  · exact ⟨[], ⟨none, 0, rfl, Nat.le_refl _, rfl, by simp, fun h0 => absurd h0 (Nat.lt_irrefl 0)⟩, by simp, fun a ha => by cases ha⟩
  · have hlm : len ≤ m := by
      rw [hmm]; split
      · exact hl
      · exact Nat.le_refl _
    obtain ⟨F, hF⟩ := choose_lt (α := α) (n := len) (p := fun i a => p a ∧ ∃ cs', k.K W a cs' ∧ W.cells? 0 (ad.add (i * P.cellsOf e)) (P.cellsOf e) = some cs') (fun i hi => by
      obtain ⟨cs', h1, h2⟩ := hel i (by omega)
      obtain ⟨a, ka, wa⟩ := h n _ _ h2
      exact ⟨a, wa, cs', ka, h1⟩)
    refine ⟨(List.range len).map F, ⟨some ad, cap, by simp, by simpa using hl, by simp, by simp; unfold maxLen at hm; omega, fun _ => ⟨ad, rfl, fun j q hq => ?_⟩⟩, by simp; unfold maxLen at hm; omega, fun a ha => ?_⟩
    · obtain ⟨hj, rfl⟩ : j < len ∧ F j = q := by
        rw [List.getElem?_map] at hq
        rcases Nat.lt_or_ge j len with hj | hj
        · rw [List.getElem?_range hj] at hq; exact ⟨hj, by simpa using hq⟩
        · rw [List.getElem?_eq_none (by simpa using hj)] at hq; simp at hq
      obtain ⟨_, cs', ka, h1⟩ := hF j hj
      obtain ⟨_, hlen, hcell⟩ := World.cells?_some h1
      refine ⟨cs', k.K_len ka, ka, fun i u hu => ?_⟩
      have hi : i < P.cellsOf e := by rw [← hlen]; exact (List.getElem?_eq_some_iff.1 hu).1
      rw [hs, ← add_add, hcell i hi]; exact hu
    · obtain ⟨i, hi, rfl⟩ := List.mem_map.1 ha
      exact (hF i (List.mem_range.1 hi)).1
end
end Go.Proofs.YtcepbgffnneagaaW.PrintWords
end
