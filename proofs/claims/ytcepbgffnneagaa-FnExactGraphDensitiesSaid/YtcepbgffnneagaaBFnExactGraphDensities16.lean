/- Contracts of Go functions and plain lemmas over what they compute; printed by the kit's print program or written by hand, joined. -/
import Derived.Test.YtcepbgffnneagaaBFnExactGraphDensities3
import Derived.Test.YtcepbgffnneagaaBFnExactGraphDensities15
import Derived.Test.YtcepbgffnneagaaBFnExactGraphDensities10
import Derived.Test.YtcepbgffnneagaaBFnExactGraphDensities11
import Derived.Test.YtcepbgffnneagaaBFnExactGraphDensities12
import Derived.Test.YtcepbgffnneagaaBFnExactGraphDensities7
import Derived.Test.YtcepbgffnneagaaBFnExactGraphDensities8
import Derived.Test.YtcepbgffnneagaaBFnExactGraphDensities14
import Derived.Test.YtcepbgffnneagaaBFnExactGraphDensities4
import Derived.Test.YtcepbgffnneagaaBFnExactGraphDensities5
import Derived.Test.YtcepbgffnneagaaBFnExactGraphDensities9
import Derived.Test.YtcepbgffnneagaaBFnExactGraphDensities13
import Derived.Test.YtcepbgffnneagaaBFnExactGraphDensities2
import Derived.WalkKit
import Derived.ProofKit
import Derived.OpenShut
import Derived.ChangeOld
import Derived.Deep.Slices
section
namespace Go.Proofs.Ytcepbgffnneagaa.Q
open Go.RowKit Go.Proofs.YtcepbgffnneagaaW.PrintWords Go.Proofs.YtcepbgffnneagaaW.PrintLast Go.Proofs.YtcepbgffnneagaaW.PrintMore
attribute [local go_sem] max2_int min2_int max_two min_two max_three min_three max_four min_four   -- for this text's walks alone
set_option linter.unusedVariables false
set_option linter.unusedSimpArgs false

theorem bits_of (f : Nat → Bool) : ∀ m, ∃ b, b < 2 ^ m ∧ ∀ q, q < m → b.testBit q = f q
  | 0 => ⟨0, by simp, fun q hq => absurd hq (Nat.not_lt_zero _)⟩
  | m + 1 => by
    obtain ⟨b, hb, h⟩ := bits_of f m
    cases hf : f m
    · refine ⟨b, by rw [Nat.pow_succ]; omega, fun q hq => ?_⟩
      by_cases hqm : q = m
      · subst hqm
        rw [hf]; exact Nat.testBit_lt_two_pow hb
      · exact h q (by omega)
    · refine ⟨2 ^ m + b, by rw [Nat.pow_succ]; omega, fun q hq => ?_⟩
      by_cases hqm : q = m
      · subst hqm
        rw [hf, Nat.testBit_two_pow_add_eq, Nat.testBit_lt_two_pow hb]; rfl
      · rw [Nat.testBit_two_pow_add_gt (by omega)]; exact h q (by omega)
def pairAt (J : Nat → Nat → Bool) : Nat → Bool
  | 0 => J 0 1 | 1 => J 0 2 | 2 => J 1 2 | 3 => J 0 3 | 4 => J 1 3 | 5 => J 2 3 | 6 => J 0 4 | 7 => J 1 4 | 8 => J 2 4 | 9 => J 3 4 | _ => false
theorem pairAt_bit (J : Nat → Nat → Bool) {i j : Nat} (hij : i < j) (hj : j < 5) : pairAt J (bitIx i j) = J i j := by
  have : (i = 0 ∧ j = 1) ∨ (i = 0 ∧ j = 2) ∨ (i = 1 ∧ j = 2) ∨ (i = 0 ∧ j = 3) ∨ (i = 1 ∧ j = 3) ∨ (i = 2 ∧ j = 3) ∨ (i = 0 ∧ j = 4) ∨ (i = 1 ∧ j = 4) ∨ (i = 2 ∧ j = 4) ∨ (i = 3 ∧ j = 4) := by omega
  rcases this with ⟨rfl, rfl⟩ | ⟨rfl, rfl⟩ | ⟨rfl, rfl⟩ | ⟨rfl, rfl⟩ | ⟨rfl, rfl⟩ | ⟨rfl, rfl⟩ | ⟨rfl, rfl⟩ | ⟨rfl, rfl⟩ | ⟨rfl, rfl⟩ | ⟨rfl, rfl⟩ <;> rfl
theorem hasI_bit : ∀ b : Nat, b < 1024 → ∀ i : Nat, i < 5 → ∀ j : Nat, j < 5 → i ≠ j → hasI (b : Int) (i : Int) (j : Int) = b.testBit (bitIx i j) := by decide +kernel
theorem bitIx_lt : ∀ n, n < 6 → ∀ j, j < n → ∀ i, i < j → bitIx i j < prs n := by decide
theorem prs_le : ∀ n, n < 6 → 2 ^ prs n ≤ 1024 := by decide
theorem made_has : ∀ n, n < 6 → ∀ b, b < 2 ^ prs n → madeI n (fun i j => hasI (b : Nat) i j) = (b : Nat) := by decide +kernel
theorem made_spec (n : Nat) (hn : n < 6) (J : Nat → Nat → Bool) : ∃ b : Nat, b < 2 ^ prs n ∧ madeI n J = b ∧ ∀ i j : Nat, i < j → j < n → hasI b i j = J i j := by
  obtain ⟨b, hb, h⟩ := bits_of (pairAt J) (prs n)
  have hb' : b < 1024 := Nat.lt_of_lt_of_le hb (prs_le n hn)
  have hJ : ∀ i j : Nat, i < j → j < n → hasI b i j = J i j := fun i j hij hj => by
    rw [hasI_bit b hb' i (by omega) j (by omega) (by omega), h _ (bitIx_lt n hn j hj i hij), pairAt_bit J hij (by omega)]
  exact ⟨b, hb, by rw [madeI_congr (J' := fun i j => hasI b i j) fun i j hij hj => (hJ i j hij hj).symm]; exact made_has n hn b hb, hJ⟩
theorem hasI_comm (e : Int) {a b : Nat} (h : a ≠ b) : hasI e a b = hasI e b a := by
  unfold hasI bitI
  rw [show bitIx (a : Int).toNat (b : Int).toNat = bitIx (b : Int).toNat (a : Int).toNat from by
    simp only [Int.toNat_natCast]; unfold bitIx
    by_cases hab : a > b
    · rw [if_pos hab, if_neg (by omega)]
    · rw [if_neg hab, if_pos (by omega)]]
/-- An order of the n vertices: at each place a vertex, no vertex twice. -/
def isOrd (n : Nat) (l : List Int) : Prop := l.length = n ∧ allDiff ((n : Int) - 1) l
theorem isOrd.at {n : Nat} {l : List Int} (h : isOrd n l) (i : Nat) (hi : i < n) : ∃ a : Nat, a < n ∧ rd l i = a := by
  have hl : i < l.length := by rw [h.1]; exact hi
  have := h.2.2 _ (List.getElem_mem hl)
  exact ⟨l[i].toNat, by omega, by rw [rd_of_lt l hl]; omega⟩
theorem isOrd.ne {n : Nat} {l : List Int} (h : isOrd n l) {i j : Nat} (hij : i ≠ j) (hi : i < n) (hj : j < n) : rd l i ≠ rd l j := by
  have hl : i < l.length := by rw [h.1]; exact hi
  have hl2 : j < l.length := by rw [h.1]; exact hj
  rw [rd_of_lt l hl, rd_of_lt l hl2]
  rcases Nat.lt_or_gt_of_ne hij with h1 | h1
  · exact List.pairwise_iff_getElem.1 h.2.1 i j hl hl2 h1
  · exact fun e => List.pairwise_iff_getElem.1 h.2.1 j i hl2 hl h1 e.symm
theorem onI_nat (n : Nat) (hn : n < 6) (e : Int) {l : List Int} (h : isOrd n l) : ∃ b : Nat, b < 2 ^ prs n ∧ onI e l = b ∧ ∀ i j : Nat, i ≠ j → i < n → j < n → hasI b i j = hasI e (rd l i) (rd l j) := by
  obtain ⟨b, hb, h1, h2⟩ := made_spec n hn (fun i j => hasI e (rd l i) (rd l j))
  refine ⟨b, hb, by unfold onI; rw [h.1]; exact h1, fun i j hij hi hj => ?_⟩
  rcases Nat.lt_or_gt_of_ne hij with hlt | hlt
  · exact h2 i j hlt hj
  · rw [hasI_comm b hij, h2 j i hlt hi]
    obtain ⟨x, hx, ex⟩ := h.at i hi
    obtain ⟨y, hy, ey⟩ := h.at j hj
    have := h.ne hij hi hj
    rw [ex, ey] at this ⊢
    exact hasI_comm e (by omega)
/-- First the order l, then p. -/
def comp (l p : List Int) : List Int := p.map fun x => rd l x
theorem rd_comp {n : Nat} {l p : List Int} (hp : isOrd n p) (i : Nat) (hi : i < n) : rd (comp l p) i = rd l (rd p i) := by
  have h1 : i < p.length := by rw [hp.1]; exact hi
  rw [rd_of_lt p h1, rd_of_lt _ (by unfold comp; rw [List.length_map]; exact h1)]
  simp [comp]
theorem isOrd.comp {n : Nat} {l p : List Int} (hl : isOrd n l) (hp : isOrd n p) : isOrd n (comp l p) := by
  have hlen : (Q.comp l p).length = n := by unfold Q.comp; rw [List.length_map]; exact hp.1
  have hget : ∀ i (h : i < (Q.comp l p).length), ∃ a : Nat, a < n ∧ rd p i = a ∧ (Q.comp l p)[i] = rd l a := fun i h => by
    obtain ⟨a, ha, e⟩ := hp.at i (by omega)
    exact ⟨a, ha, e, by rw [← rd_of_lt (Q.comp l p) h, rd_comp hp i (by omega), e]⟩
  refine ⟨hlen, List.pairwise_iff_getElem.2 fun i j hi hj hij => ?_, fun x hx => ?_⟩
  · obtain ⟨a, ha, ea, e1⟩ := hget i hi
    obtain ⟨b, hb, eb, e2⟩ := hget j hj
    rw [e1, e2]
    refine hl.ne (fun e => ?_) ha hb
    exact hp.ne (show i ≠ j by omega) (by omega) (by omega) (by rw [ea, eb, e])
  · obtain ⟨i, hi, rfl⟩ := List.getElem_of_mem hx
    obtain ⟨a, ha, _, e1⟩ := hget i hi
    obtain ⟨c, hc, ec⟩ := hl.at a ha
    rw [e1, ec]; omega
theorem onI_comp (n : Nat) (hn : n < 6) (e : Int) {l p : List Int} (hl : isOrd n l) (hp : isOrd n p) : onI (onI e l) p = onI e (comp l p) := by
  obtain ⟨b, hb, e1, h1⟩ := onI_nat n hn e hl
  rw [e1]
  unfold onI
  rw [hp.1, (hl.comp hp).1]
  refine madeI_congr fun i j hij hj => ?_
  obtain ⟨x, hx, ex⟩ := hp.at i (by omega)
  obtain ⟨y, hy, ey⟩ := hp.at j hj
  have hne := hp.ne (show i ≠ j by omega) (by omega) hj
  rw [rd_comp hp i (by omega), rd_comp hp j hj, ex, ey]
  rw [ex, ey] at hne
  exact h1 x y (by omega) hx hy

end Go.Proofs.Ytcepbgffnneagaa.Q
end

section
namespace Go.Proofs.Ytcepbgffnneagaa.Q
open Go.RowKit Go.Proofs.YtcepbgffnneagaaW.PrintWords Go.Proofs.YtcepbgffnneagaaW.PrintLast Go.Proofs.YtcepbgffnneagaaW.PrintMore
attribute [local go_sem] max2_int min2_int max_two min_two max_three min_three max_four min_four   -- for this text's walks alone
set_option linter.unusedVariables false
set_option linter.unusedSimpArgs false

theorem mem_leavesIn {g : List Int → List (List Int)} {l x : List Int} : ∀ (d i0 i : Nat), i0 ≤ i → i < i0 + d → (i : Int) ∉ l → x ∈ g (l ++ [(i : Int)]) → x ∈ leavesIn g l d i0
  | 0, i0, i, h1, h2, _, _ => by omega
  | d + 1, i0, i, h1, h2, hn, hx => by
    rw [leavesIn]
    rcases Nat.eq_or_lt_of_le h1 with rfl | h1
    · rw [if_neg hn]; exact List.mem_append_left _ hx
    · have := mem_leavesIn d (i0 + 1) i (by omega) (by omega) hn hx
      by_cases h : (i0 : Int) ∈ l
      · rw [if_pos h]; exact this
      · rw [if_neg h]; exact List.mem_append_right _ this
theorem mem_leaves (n : Nat) : ∀ (r : Nat) (pre t : List Int), t.length = r → (pre ++ t).Nodup → (∀ x ∈ t, 0 ≤ x ∧ x < n) → pre ++ t ∈ leaves n r pre
  | 0, pre, t, hl, _, _ => by
    obtain rfl := List.eq_nil_of_length_eq_zero hl
    rw [leaves, List.append_nil]; exact List.mem_singleton.2 rfl
  | r + 1, pre, t, hl, hd, hr => by
    cases t with
    | nil => simp at hl
    | cons x t =>
      have hx := hr x (List.mem_cons_self)
      have hxp : x ∉ pre := fun h => by
        rw [List.nodup_append] at hd
        exact hd.2.2 x h x (List.mem_cons_self) rfl
      rw [leaves]
      refine mem_leavesIn n 0 x.toNat (Nat.zero_le _) (by omega) (by rw [Int.toNat_of_nonneg hx.1]; exact hxp) ?_
      rw [Int.toNat_of_nonneg hx.1, show pre ++ x :: t = (pre ++ [x]) ++ t from by simp]
      exact mem_leaves n r (pre ++ [x]) t (by simpa using hl) (by simpa using hd) fun y hy => hr y (List.mem_cons_of_mem _ hy)
theorem leaves_take : ∀ n, n < 6 → ∀ s, s < n + 1 → ∀ l ∈ leaves n (n - s) (firstI s), l.take s = firstI s := by decide +kernel
theorem mem_orders (n s : Nat) (hs : s < n + 1) {l : List Int} (h : isOrd n l) (ht : l.take s = firstI s) : l ∈ leaves n (n - s) (firstI s) := by
  have e : firstI s ++ l.drop s = l := by rw [← ht]; exact List.take_append_drop s l
  have := mem_leaves n (n - s) (firstI s) (l.drop s) (by rw [List.length_drop, h.1]) (by rw [e]; exact h.2.1) (fun x hx => by have := h.2.2 x (List.mem_of_mem_drop hx); omega)
  rwa [e] at this
theorem map_firstI (l : List Int) : ∀ s, s ≤ l.length → (firstI s).map (fun x => rd l x) = l.take s
  | 0, _ => rfl
  | s + 1, h => by
    rw [firstI, List.map_append, map_firstI l s (by omega), List.take_succ_eq_append_getElem (by omega)]
    show _ ++ [rd l s] = _
    rw [rd_of_lt l (by omega)]
theorem comp_mem (n s : Nat) (hn : n < 6) (hs : s < n + 1) {l p : List Int} (hl : l ∈ leaves n (n - s) (firstI s)) (hp : p ∈ leaves n (n - s) (firstI s)) : comp l p ∈ leaves n (n - s) (firstI s) := by
  have ol : isOrd n l := leaves_ok_s n hn s hs l hl
  have op : isOrd n p := leaves_ok_s n hn s hs p hp
  refine mem_orders n s hs (ol.comp op) ?_
  unfold comp
  rw [← List.map_take, leaves_take n hn s hs p hp, map_firstI l s (by rw [ol.1]; omega), leaves_take n hn s hs l hl]
theorem orders_inv : ∀ n, n < 6 → ∀ s, s < n + 1 → ∀ l ∈ leaves n (n - s) (firstI s), ∃ p ∈ leaves n (n - s) (firstI s), comp l p = firstI n := by decide +kernel
theorem first_mem : ∀ n, n < 6 → ∀ s, s < n + 1 → firstI n ∈ leaves n (n - s) (firstI s) := by decide +kernel
theorem onI_first : ∀ n, n < 6 → ∀ b : Nat, b < 2 ^ prs n → onI (b : Nat) (firstI n) = (b : Nat) := by decide +kernel
theorem leastE_le (e : Int) : ∀ (L : List (List Int)) (best : Int), leastE e L best ≤ best ∧ ∀ l ∈ L, leastE e L best ≤ onI e l
  | [], best => ⟨Int.le_refl _, fun l hl => by cases hl⟩
  | x :: L, best => by
    have ih := leastE_le e L (if onI e x < best then onI e x else best)
    show leastE e L _ ≤ best ∧ ∀ l ∈ x :: L, leastE e L _ ≤ onI e l
    have h1 : (if onI e x < best then onI e x else best) ≤ best ∧ (if onI e x < best then onI e x else best) ≤ onI e x := by split <;> omega
    refine ⟨Int.le_trans ih.1 h1.1, fun l hl => ?_⟩
    rcases List.mem_cons.1 hl with rfl | hl
    · exact Int.le_trans ih.1 h1.2
    · exact ih.2 l hl
theorem leastE_mem (e : Int) : ∀ (L : List (List Int)) (best : Int), leastE e L best = best ∨ ∃ l ∈ L, leastE e L best = onI e l
  | [], best => Or.inl rfl
  | x :: L, best => by
    have ih := leastE_mem e L (if onI e x < best then onI e x else best)
    show leastE e L _ = best ∨ ∃ l ∈ x :: L, leastE e L _ = onI e l
    rcases ih with ih | ⟨l, hl, ih⟩
    · rw [ih]
      split
      · exact Or.inr ⟨x, List.mem_cons_self, rfl⟩
      · exact Or.inl rfl
    · exact Or.inr ⟨l, List.mem_cons_of_mem _ hl, ih⟩
/-- Two graphs have one least graph just if an order turns the one into the other. -/
theorem alike_iff (n s : Nat) (hn : n < 6) (hs : s < n + 1) (e h : Nat) (he : e < 2 ^ prs n) (hh : h < 2 ^ prs n) :
    (∃ l ∈ leaves n (n - s) (firstI s), onI e l = h) ↔ leastE e (leaves n (n - s) (firstI s)) e = leastE h (leaves n (n - s) (firstI s)) h := by
  have ord : ∀ l ∈ leaves n (n - s) (firstI s), isOrd n l := fun l hl => leaves_ok_s n hn s hs l hl
  have inv := orders_inv n hn s hs
  have cm : ∀ {l p : List Int}, l ∈ leaves n (n - s) (firstI s) → p ∈ leaves n (n - s) (firstI s) → comp l p ∈ leaves n (n - s) (firstI s) := fun hl hp => comp_mem n s hn hs hl hp
  have fm := first_mem n hn s hs
  generalize leaves n (n - s) (firstI s) = L at *
  have at_ : ∀ g : Nat, g < 2 ^ prs n → ∃ l ∈ L, leastE g L g = onI g l := fun g hg => by
    rcases leastE_mem g L g with h1 | h1
    · exact ⟨firstI n, fm, by rw [h1, onI_first n hn g hg]⟩
    · exact h1
  have le_ : ∀ (g k : Nat) {l : List Int}, g < 2 ^ prs n → k < 2 ^ prs n → l ∈ L → onI g l = k → leastE g L g ≤ leastE k L k := fun g k l hg hk hl e1 => by
    obtain ⟨p, hp, e2⟩ := at_ k hk
    rw [e2, ← e1, onI_comp n hn g (ord l hl) (ord p hp)]
    exact (leastE_le g L g).2 _ (cm hl hp)
  constructor
  · rintro ⟨l, hl, e1⟩
    obtain ⟨p, hp, e2⟩ := inv l hl
    have back : onI h p = e := by rw [← e1, onI_comp n hn e (ord l hl) (ord p hp), e2, onI_first n hn e he]
    exact Int.le_antisymm (le_ e h he hh hl e1) (le_ h e hh he hp back)
  · intro e0
    obtain ⟨l, hl, e1⟩ := at_ e he
    obtain ⟨q, hq, e2⟩ := at_ h hh
    obtain ⟨p, hp, e3⟩ := inv q hq
    refine ⟨comp l p, cm hl hp, ?_⟩
    rw [← onI_comp n hn e (ord l hl) (ord p hp), ← e1, e0, e2, onI_comp n hn h (ord q hq) (ord p hp), e3, onI_first n hn h hh]

end Go.Proofs.Ytcepbgffnneagaa.Q
end

section
namespace Go.Proofs.Ytcepbgffnneagaa.Q
open Go.RowKit Go.Proofs.YtcepbgffnneagaaW.PrintWords Go.Proofs.YtcepbgffnneagaaW.PrintLast Go.Proofs.YtcepbgffnneagaaW.PrintMore
attribute [local go_sem] max2_int min2_int max_two min_two max_three min_three max_four min_four   -- for this text's walks alone
set_option linter.unusedVariables false
set_option linter.unusedSimpArgs false

def cntB (b : Nat) : Int := (((List.range 10).countP fun q => b.testBit q : Nat) : Int)
theorem ones_eq : ∀ b : Nat, b < 1024 → bits_OnesCount32.f (b : Int) = some (cntB b) := by decide +kernel
def pairsL (n : Nat) : List (Nat × Nat) := (List.range n).flatMap fun j => (List.range j).map fun i => (i, j)
theorem pairsL_bits : ∀ n, n < 6 → (pairsL n).map (fun p => bitIx p.1 p.2) = List.range (prs n) := by decide
theorem pairsL_lt : ∀ n, n < 6 → ∀ p ∈ pairsL n, p.1 < p.2 ∧ p.2 < n := by decide
theorem pairsL_perm : ∀ n, n < 6 → ∀ l ∈ leaves n n [], ((pairsL n).map fun p => bitIx (rd l p.1).toNat (rd l p.2).toNat).isPerm (List.range (prs n)) = true := by decide +kernel
theorem cnt_short : ∀ n, n < 6 → ∀ b : Nat, b < 2 ^ prs n → (List.range 10).countP (fun q => b.testBit q) = (List.range (prs n)).countP (fun q => b.testBit q) := by decide +kernel
theorem cnt_on (n : Nat) (hn : n < 6) (e h : Nat) (he : e < 2 ^ prs n) {l : List Int} (hl : l ∈ leaves n n []) (eh : onI e l = h) : cntB h = cntB e := by
  have ol : isOrd n l := leaves_ok n hn n (by omega) l hl
  obtain ⟨b, hb, e1, h1⟩ := onI_nat n hn e ol
  obtain rfl : b = h := by rw [eh] at e1; omega
  unfold cntB
  have he' : e < 1024 := Nat.lt_of_lt_of_le he (prs_le n hn)
  have hb' : b < 1024 := Nat.lt_of_lt_of_le hb (prs_le n hn)
  rw [cnt_short n hn b hb, cnt_short n hn e he]
  have hp := List.isPerm_iff.1 (pairsL_perm n hn l hl)
  rw [← hp.countP_eq (fun q => e.testBit q), ← pairsL_bits n hn, List.countP_map, List.countP_map]
  congr 1
  refine List.countP_congr fun p hp => ?_
  obtain ⟨p1, p2⟩ := pairsL_lt n hn p hp
  obtain ⟨x, hx, ex⟩ := ol.at p.1 (by omega)
  obtain ⟨y, hy, ey⟩ := ol.at p.2 (by omega)
  have hne := ol.ne (show p.1 ≠ p.2 by omega) (by omega) (by omega)
  have := h1 p.1 p.2 (by omega) (by omega) (by omega)
  rw [ex, ey] at hne this
  rw [hasI_bit b hb' _ (by omega) _ (by omega) (by omega), hasI_bit e he' _ (by omega) _ (by omega) (by omega)] at this
  simp only [Function.comp, ex, ey, Int.toNat_natCast, this]

end Go.Proofs.Ytcepbgffnneagaa.Q
end

section
namespace Go.Proofs.Ytcepbgffnneagaa.Q
open Go.RowKit Go.Proofs.YtcepbgffnneagaaW.PrintWords Go.Proofs.YtcepbgffnneagaaW.PrintLast Go.Proofs.YtcepbgffnneagaaW.PrintMore
attribute [local go_sem] max2_int min2_int max_two min_two max_three min_three max_four min_four   -- for this text's walks alone
set_option linter.unusedVariables false
set_option linter.unusedSimpArgs false

theorem leaves_sub : ∀ n, n < 6 → ∀ s, s < n + 1 → ∀ l ∈ leaves n (n - s) (firstI s), l ∈ leaves n n [] := by
  intro n hn s hs l hl
  have h := leaves_ok_s n hn s hs l hl
  have := mem_orders n 0 (by omega) (l := l) h (by simp [firstI])
  simpa [firstI] using this
/-- Whether the program finds two graphs alike, the first s vertices fixed. -/
theorem alike_eq (n s : Nat) (hn : n < 6) (hs : s < n + 1) (e h : Nat) (he : e < 2 ^ prs n) (hh : h < 2 ^ prs n) : impl_Graph_alike.f n e n h s = some (leastE e (leaves n (n - s) (firstI s)) e == leastE h (leaves n (n - s) (firstI s)) h) := by
  have he' : e < 1024 := Nat.lt_of_lt_of_le he (prs_le n hn)
  have hh' : h < 1024 := Nat.lt_of_lt_of_le hh (prs_le n hn)
  have iff_ := alike_iff n s hn hs e h he hh
  unfold impl_Graph_alike.f
  rw [if_pos rfl, ones_eq e he', ones_eq h hh']
  simp only [Option.bind_some]
  by_cases hc : cntB e = cntB h
  · rw [if_pos hc]
    unfold impl_Graph_orders.f
    rw [if_pos (by omega), lstd_eq, show ((n : Int) - (s : Int)).toNat = n - s from by omega, Int.toNat_natCast, Int.toNat_natCast]
    rw [runCb_any _ (fun l => decide (onI e l = h))]
    · simp only [Option.map_some, Option.bind_some]
      congr 1
      rw [Bool.eq_iff_iff, List.any_eq_true, beq_iff_eq, ← iff_]
      simp only [decide_eq_true_eq]
    · intro l hl
      have ol := leaves_ok_s n hn s hs l hl
      unfold impl_Graph_alike_1.f
      rw [impl_onT.eq n e (okList_diff (m := n) (by omega) (by omega) (by rw [show wrap64 ((n : Int) - 1) = (n : Int) - 1 from by unfold wrap64; omega]; exact ol.2))]
      simp only [Option.bind_some, ol.1]
      congr 1
      rw [Bool.eq_iff_iff]; simp
  · rw [if_neg hc]
    congr 1
    symm
    rw [beq_eq_false_iff_ne]
    intro e0
    obtain ⟨l, hl, e1⟩ := iff_.2 e0
    exact hc (cnt_on n hn e h he (leaves_sub n hn s hs l hl) e1).symm

end Go.Proofs.Ytcepbgffnneagaa.Q
end

section
namespace Go.Proofs.Ytcepbgffnneagaa.Q
open Go.RowKit Go.Proofs.YtcepbgffnneagaaW.PrintWords Go.Proofs.YtcepbgffnneagaaW.PrintLast Go.Proofs.YtcepbgffnneagaaW.PrintMore
attribute [local go_sem] max2_int min2_int max_two min_two max_three min_three max_four min_four   -- for this text's walks alone
set_option linter.unusedVariables false
set_option linter.unusedSimpArgs false

def setsL (n r : Nat) : List (List Int) := (spec_l01Sets.f 300 r n).getD []
theorem sets_ok : ∀ n, n < 6 → ∀ r, r < 6 → (setsL n r).length ≤ 10 ∧ ∀ l ∈ setsL n r, l.length = r ∧ allDiff ((n : Int) - 1) l := by decide +kernel
theorem sets_perm : ∀ n, n < 6 → ∀ r, r < 6 → (setsL n r).isPerm (subs (firstI n) r 0 []) = true := by decide +kernel
theorem onI_small (r : Nat) (hr : r < 6) (e : Int) {l : List Int} (h : l.length = r) : ∃ b : Nat, b < 2 ^ prs r ∧ onI e l = b := by
  obtain ⟨b, hb, h1, _⟩ := made_spec r hr (fun i j => hasI e (rd l i) (rd l j))
  exact ⟨b, hb, by unfold onI; rw [h]; exact h1⟩
/-- Whether some vertices, behind the first s ones, make a graph alike h, the first s vertices fixed. -/
def occB (s m : Nat) (h e : Int) (l : List Int) : Bool := leastE (onI e (firstI s ++ l)) (leaves m (m - s) (firstI s)) (onI e (firstI s ++ l)) == leastE h (leaves m (m - s) (firstI s)) h
theorem copies_eq (n m : Nat) (hn : n < 6) (hm : m < 6) (e h : Nat) (hh : h < 2 ^ prs m) : impl_Graph_copies.f n e m h = some (cntE (occB 0 m h e) (setsL n m) 0) := by
  have hp := List.isPerm_iff.1 (sets_perm n hn m hm)
  have hok := sets_ok n hn m hm
  have hfl : ∀ n, n < 6 → (firstI n).length = n := by decide
  unfold impl_Graph_copies.f
  rw [impl_firstT.eq (by omega) (by omega), Int.toNat_natCast]
  simp only [Option.bind_some]
  rw [chosen_fs _ m (by omega) (firstI n) (by rw [hfl n hn]; omega) 0 (cntE (occB 0 m h e) (setsL n m) 0)]
  · rfl
  rw [cntE_perm _ hp (by omega)]
  refine foldCb_cnt _ _ _ _ fun l hl s => ?_
  have hl2 := hok.2 l (hp.mem_iff.2 hl)
  obtain ⟨b, hb, e1⟩ := onI_small m hm e hl2.1
  unfold impl_Graph_copies_1.f
  rw [impl_onT.eq _ _ (okList_diff (m := n) (by omega) (by omega) (by rw [show wrap64 ((n : Int) - 1) = (n : Int) - 1 from by unfold wrap64; omega]; exact hl2.2))]
  have ha := alike_eq m 0 hm (by omega) b h hb hh
  rw [show ((0 : Nat) : Int) = 0 from rfl] at ha
  simp only [Option.bind_some, hl2.1, e1, ha]
  unfold occB
  rw [show firstI 0 ++ l = l from rfl, e1]
  split <;> rfl

end Go.Proofs.Ytcepbgffnneagaa.Q
end

section
namespace Go.Proofs.Ytcepbgffnneagaa.Q
open Go.RowKit Go.Proofs.YtcepbgffnneagaaW.PrintWords Go.Proofs.YtcepbgffnneagaaW.PrintLast Go.Proofs.YtcepbgffnneagaaW.PrintMore
attribute [local go_sem] max2_int min2_int max_two min_two max_three min_three max_four min_four   -- for this text's walks alone
set_option linter.unusedVariables false
set_option linter.unusedSimpArgs false

theorem count4_loop (s m n : Nat) (hm : m < 6) (hn : n < 6) (hsm : s < m + 1) (e h : Nat) (L : List (List Int)) (hL : L.length ≤ 100) (hok : ∀ l ∈ L, l.length = m - s ∧ allDiff ((n : Int) - 1) (firstI s ++ l)) : ∀ (d i k : Nat) (many : Int), i + d = L.length → d + 1100 ≤ k →
    spec_l04Count.l0 k L many i s n e s m (leastE h (leaves m (m - s) (firstI s)) h) = some (cntE (occB s m h e) (L.drop i) many)
  | 0, i, k, many, hd, hk => by
    obtain ⟨k, rfl⟩ : ∃ q, k = q + 1 := ⟨k - 1, by omega⟩
    rw [spec_l04Count.l0, if_neg (by omega), List.drop_eq_nil_of_le (by omega)]; rfl
  | d + 1, i, k, many, hd, hk => by
    obtain ⟨k, rfl⟩ : ∃ q, k = q + 1 := ⟨k - 1, by omega⟩
    have hi : i < L.length := by omega
    obtain ⟨h1, h2⟩ := hok _ (List.getElem_mem hi)
    have hfs := firstI_len s (by omega)
    have hlen : (firstI s ++ L[i]).length = m := by rw [List.length_append, hfs, h1]; omega
    obtain ⟨b, hb, e1⟩ := onI_small m hm e hlen
    have hpart : spec_l03Part.f k s n e L[i] = some ((s : Int), (m : Int), leastE (b : Int) (leaves m (m - s) (firstI s)) b) := by
      unfold spec_l03Part.f
      rw [firstS_eq (s : Int) (by omega) (by omega) k (by omega), Int.toNat_natCast]
      simp only [Option.bind_some]
      rw [if_pos (by omega), onS_diff (m := n) n e (by omega) (by omega) (by rw [show wrap64 ((n : Int) - 1) = (n : Int) - 1 from by unfold wrap64; omega]; exact h2) k (by omega)]
      simp only [Option.bind_some, hlen, e1]
      rw [l03Least_eq m s hm hsm b k (by omega)]
      rfl
    rw [spec_l04Count.l0, if_pos (by omega), if_pos (by omega), show rd_L1 L (i : Int) = L[i] from getD_of_lt L [] hi, hpart]
    simp only [Option.bind_some, beq_self_eq_true, Bool.true_and]
    rw [show wrap64 ((i : Int) + 1) = ((i + 1 : Nat) : Int) from by unfold wrap64; omega, List.drop_eq_getElem_cons hi]
    have ih := fun many => count4_loop s m n hm hn hsm e h L hL hok d (i + 1) k many (by omega) (by omega)
    have ho : occB s m h e L[i] = (leastE (b : Int) (leaves m (m - s) (firstI s)) b == leastE h (leaves m (m - s) (firstI s)) h) := by unfold occB; rw [e1]
    show _ = some (cntE (occB s m h e) (L.drop (i + 1)) (if occB s m h e L[i] = true then wrap64 (many + 1) else many))
    rw [ho]
    split
    · exact ih _
    · exact ih _
theorem count4_eq (s m n : Nat) (hm : m < 6) (hn : n < 6) (hsm : s < m + 1) (hsn : s < n + 1) (e h : Nat) (k : Nat) (hk : 1200 ≤ k) : spec_l04Count.f k s m h s n e = some (cntE (occB s m h e) (sets4 s n (m - s)) 0) := by
  have hok := sets4_ok n hn s hsn (m - s) (by omega)
  unfold spec_l04Count.f spec_l04Free.f
  rw [l03Least_eq m s hm hsm h k (by omega)]
  simp only [Option.bind_some]
  rw [show wrap64 ((m : Int) - (s : Int)) = ((m - s : Nat) : Int) from by unfold wrap64; omega, sets4_eq s n (m - s) hn hsn (by omega) e k (by omega)]
  have := count4_loop s m n hm hn hsm e h (sets4 s n (m - s)) (by omega) hok.2 _ 0 k 0 (Nat.zero_add _) (by omega)
  rw [show ((0 : Nat) : Int) = 0 from rfl, List.drop_zero] at this
  exact this
theorem choices_all : ∀ n : Nat, n < 6 → ∀ s : Nat, s < n + 1 → ∀ r : Nat, r < n - s + 1 → impl_choices.f 100 ((n - s : Nat) : Int) r = some ((sets4 s n r).length : Int) ∧ 0 < (sets4 s n r).length := by decide +kernel
/-- The density of a flag in another one, by the reference. -/
theorem density4_eq (s m n : Nat) (hm : m < 6) (hn : n < 6) (hsm : s < m + 1) (hmn : m < n + 1) (e h : Nat) : ∃ c : Nat, cntE (occB s m h e) (sets4 s n (m - s)) 0 = c ∧ ∃ a b : Int, ∀ k, 1200 ≤ k → spec_l04Density.f k s m h s n e = some (a, b) ∧ (impl_choices.f k ((n - s : Nat) : Int) ((m - s : Nat) : Int)).bind (fun t => impl_lowest.f k (c : Int) t) = some (a, b) := by
  have hok := sets4_ok n hn s (by omega) (m - s) (by omega)
  obtain ⟨hc1, hc2⟩ := choices_all n hn s (by omega) (m - s) (by omega)
  have hcnt := cntE_eq (occB s m h e) (sets4 s n (m - s)) 0 (by omega)
  rw [Nat.zero_add, show ((0 : Nat) : Int) = 0 from rfl] at hcnt
  have hle : (sets4 s n (m - s)).countP (occB s m h e) ≤ (sets4 s n (m - s)).length := List.countP_le_length
  obtain ⟨a, b, hab⟩ := ratio_both _ (sets4 s n (m - s)).length (by omega) hc2 (Nat.lt_succ_of_le hle)
  refine ⟨_, hcnt, a, b, fun k hk => ⟨?_, ?_⟩⟩
  · unfold spec_l04Density.f spec_l04Free.f
    rw [count4_eq s m n hm hn hsm (by omega) e h k hk, hcnt]
    simp only [Option.bind_some]
    rw [show wrap64 ((m : Int) - (s : Int)) = ((m - s : Nat) : Int) from by unfold wrap64; omega, sets4_eq s n (m - s) hn (by omega) (by omega) e k (by omega)]
    simp only [Option.bind_some]
    rw [(hab k (by omega)).2]; rfl
  · rw [LeO_ge (F := fun k => impl_choices.f k ((n - s : Nat) : Int) ((m - s : Nat) : Int)) (fun k => impl_choices.mono _ _ k) (by omega : 100 ≤ k) _ hc1]
    exact (hab k (by omega)).1

end Go.Proofs.Ytcepbgffnneagaa.Q
end

section
namespace Go.Proofs.Ytcepbgffnneagaa.Q
open Go.RowKit Go.Proofs.YtcepbgffnneagaaW.PrintWords Go.Proofs.YtcepbgffnneagaaW.PrintLast Go.Proofs.YtcepbgffnneagaaW.PrintMore
attribute [local go_sem] max2_int min2_int max_two min_two max_three min_three max_four min_four   -- for this text's walks alone
set_option linter.unusedVariables false
set_option linter.unusedSimpArgs false

theorem eqFractionS_loop (l : List S31) (hl : l.length ≤ 1048576) : ∀ (d i k : Nat), i + d = l.length → d + 1 ≤ k → laws_eqFractionS.l0 k l l i = some true
  | 0, i, k, hd, hk => by
    obtain ⟨k, rfl⟩ : ∃ q, k = q + 1 := ⟨k - 1, by omega⟩
    rw [laws_eqFractionS.l0, if_neg (by omega)]
  | d + 1, i, k, hd, hk => by
    obtain ⟨k, rfl⟩ : ∃ q, k = q + 1 := ⟨k - 1, by omega⟩
    rw [laws_eqFractionS.l0, if_pos (by omega), if_pos (by omega), if_pos (by omega), laws_eqFraction.f, if_pos rfl, if_pos rfl]
    simp only [Option.bind_some, if_true]
    rw [w64_succ (by omega)]
    exact eqFractionS_loop l hl d (i + 1) k (by omega) (by omega)
theorem eqFractionS_self (l : List S31) (hl : l.length ≤ 1048576) (k : Nat) (hk : 1048577 ≤ k) : laws_eqFractionS.f k l l = some true := by
  unfold laws_eqFractionS.f
  rw [if_pos rfl]; exact eqFractionS_loop l hl l.length 0 k (by omega) (by omega)

end Go.Proofs.Ytcepbgffnneagaa.Q
end

section
namespace Go.Proofs.Ytcepbgffnneagaa.Q
open Go.RowKit Go.Proofs.YtcepbgffnneagaaW.PrintWords Go.Proofs.YtcepbgffnneagaaW.PrintLast Go.Proofs.YtcepbgffnneagaaW.PrintMore
attribute [local go_sem] max2_int min2_int max_two min_two max_three min_three max_four min_four   -- for this text's walks alone
set_option linter.unusedVariables false
set_option linter.unusedSimpArgs false

def markR : Nat → Int → List S31
  | 0, _ => []
  | d + 1, m => ⟨m, m + 1⟩ :: markR d (m + 2)
theorem markR_length : ∀ d m, (markR d m).length = d
  | 0, _ => rfl
  | d + 1, m => by rw [markR, List.length_cons, markR_length d]
theorem rdR_nat (l : List S31) {i : Nat} (hi : i < l.length) : rd_T31 l (i : Int) = l[i] := by unfold rd_T31; exact getD_of_lt l _ hi
theorem markFractionS_loop : ∀ (d i k : Nat) (L : List S31) (m : Int), i + d = L.length → L.length ≤ 1048576 → 0 ≤ m → m + 2 * d ≤ 2147483648 → d + 1 ≤ k → laws_markFractionS.l0 k L m i = some (m + 2 * d, L.take i ++ markR d m)
  | 0, i, k, L, m, hd, hL, h0, h1, hk => by
    obtain ⟨k, rfl⟩ : ∃ q, k = q + 1 := ⟨k - 1, by omega⟩
    rw [laws_markFractionS.l0, if_neg (by omega), List.take_of_length_le (by omega), markR, List.append_nil]
    congr 2; omega
  | d + 1, i, k, L, m, hd, hL, h0, h1, hk => by
    obtain ⟨k, rfl⟩ : ∃ q, k = q + 1 := ⟨k - 1, by omega⟩
    have hi : i < L.length := by omega
    have hm1 : wrap64 (m + 1) = m + 1 := by unfold wrap64; omega
    have hm2 : wrap64 (m + 1 + 1) = m + 2 := by unfold wrap64; omega
    rw [laws_markFractionS.l0, if_pos (by omega), if_pos (by omega)]
    simp only [Option.bind_some, Int.toNat_natCast, hm1, hm2]
    generalize (rd_T31 L (i : Int)).f1 = q
    rw [w64_succ (by omega), rdR_nat _ (by rw [List.length_set]; exact hi), List.getElem_set_self, List.set_set]
    rw [markFractionS_loop d (i + 1) k _ (m + 2) (by rw [List.length_set]; omega) (by rw [List.length_set]; exact hL) (by omega) (by omega) (by omega), set_take _ _ hi, List.append_assoc]
    congr 2
    omega
theorem markFractionS_eq (L : List S31) (hL : L.length ≤ 1048576) (m : Int) (h0 : 0 ≤ m) (h1 : m ≤ 1000000) (k : Nat) (hk : 1048577 ≤ k) : laws_markFractionS.f k L m = some (m + 2 * L.length, markR L.length m) := by
  unfold laws_markFractionS.f
  have := markFractionS_loop L.length 0 k L m (by omega) hL h0 (by omega) (by omega)
  rw [show ((0 : Nat) : Int) = 0 from rfl] at this
  rw [this]; simp
theorem heldFractionS_loop : ∀ (d k : Nat) (pre : List S31) (m : Int), pre.length + d ≤ 1048576 → 0 ≤ m → m + 2 * d ≤ 2147483648 → d + 1 ≤ k → laws_heldFractionS.l0 k (pre ++ markR d m) m pre.length = some (m + 2 * d)
  | 0, k, pre, m, hL, h0, h1, hk => by
    obtain ⟨k, rfl⟩ : ∃ q, k = q + 1 := ⟨k - 1, by omega⟩
    rw [laws_heldFractionS.l0, if_neg (by simp [markR])]
    congr 1; omega
  | d + 1, k, pre, m, hL, h0, h1, hk => by
    obtain ⟨k, rfl⟩ : ∃ q, k = q + 1 := ⟨k - 1, by omega⟩
    have hlen : (pre ++ markR (d + 1) m).length = pre.length + (d + 1) := by rw [List.length_append, markR_length]
    have hi : pre.length < (pre ++ markR (d + 1) m).length := by omega
    have hg : (pre ++ markR (d + 1) m)[pre.length] = ⟨m, m + 1⟩ := by simp [markR]
    have hm1 : wrap64 (m + 1) = m + 1 := by unfold wrap64; omega
    have hm2 : wrap64 (m + 1 + 1) = m + 2 := by unfold wrap64; omega
    rw [laws_heldFractionS.l0, if_pos (by omega), if_pos (by omega), rdR_nat _ hi, hg]
    simp only [hm1, hm2, if_true]
    rw [w64_succ (by omega)]
    have := heldFractionS_loop d k (pre ++ [⟨m, m + 1⟩]) (m + 2) (by rw [List.length_append]; simp only [List.length_cons, List.length_nil]; omega) (by omega) (by omega) (by omega)
    rw [List.length_append, List.append_assoc] at this
    simp only [List.length_cons, List.length_nil] at this
    rw [show pre ++ markR (d + 1) m = pre ++ ([⟨m, m + 1⟩] ++ markR d (m + 2)) from rfl, this]
    congr 1; omega
theorem heldFractionS_eq (d : Nat) (hd : d ≤ 1048576) (m : Int) (h0 : 0 ≤ m) (h1 : m ≤ 1000000) (k : Nat) (hk : 1048577 ≤ k) : laws_heldFractionS.f k (markR d m) m = some (m + 2 * d) := by
  unfold laws_heldFractionS.f
  exact heldFractionS_loop d k [] m (by simpa using hd) h0 (by omega) (by omega)

end Go.Proofs.Ytcepbgffnneagaa.Q
end

section
namespace Go.Proofs.Ytcepbgffnneagaa.Q
open Go.RowKit Go.Proofs.YtcepbgffnneagaaW.PrintWords Go.Proofs.YtcepbgffnneagaaW.PrintLast Go.Proofs.YtcepbgffnneagaaW.PrintMore
attribute [local go_sem] max2_int min2_int max_two min_two max_three min_three max_four min_four   -- for this text's walks alone
set_option linter.unusedVariables false
set_option linter.unusedSimpArgs false

def spec_l01Part.l0 : Nat → List Int → Bool → Int → Int → Int → Int → Option (Bool)
 | 0, _, _, _, _, _, _ => none
 | k + 1, x5, x6, x1188000, x1188001, x1189000, x1189001 => if x6 = true then ((spec_l01On.f k x1188000 x1188001 x5).bind fun bt1192 => (if (Go.bits .and .u32 x1189001 bt1192.2) = x1189001 then (some true) else ((spec_l01Next.f k x5 x1188000).bind fun bt1194 => (spec_l01Part.l0 k bt1194.2 bt1194.1 x1188000 x1188001 x1189000 x1189001)))) else (some false)
def spec_l01Part.f (k : Nat) (a0_0 : Int) (a0_1 : Int) (a1_0 : Int) (a1_1 : Int) : Option (Bool) := if a1_0 > a0_0 then (some false) else ((spec_l01First.f k a1_0).bind fun t1189 => (spec_l01Part.l0 k t1189 true a0_0 a0_1 a1_0 a1_1))
end Go.Proofs.Ytcepbgffnneagaa.Q
end

section
namespace Go.Proofs.Ytcepbgffnneagaa.Q
open Go.RowKit Go.Proofs.YtcepbgffnneagaaW.PrintWords Go.Proofs.YtcepbgffnneagaaW.PrintLast Go.Proofs.YtcepbgffnneagaaW.PrintMore
attribute [local go_sem] max2_int min2_int max_two min_two max_three min_three max_four min_four   -- for this text's walks alone
set_option linter.unusedVariables false
set_option linter.unusedSimpArgs false

end Go.Proofs.Ytcepbgffnneagaa.Q
end

section
namespace Go.Proofs.Ytcepbgffnneagaa.Q
open Go.RowKit Go.Proofs.YtcepbgffnneagaaW.PrintWords Go.Proofs.YtcepbgffnneagaaW.PrintLast Go.Proofs.YtcepbgffnneagaaW.PrintMore
attribute [local go_sem] max2_int min2_int max_two min_two max_three min_three max_four min_four   -- for this text's walks alone
set_option linter.unusedVariables false
set_option linter.unusedSimpArgs false

end Go.Proofs.Ytcepbgffnneagaa.Q
end

section
namespace Go.Proofs.Ytcepbgffnneagaa.Q
open Go.RowKit Go.Proofs.YtcepbgffnneagaaW.PrintWords Go.Proofs.YtcepbgffnneagaaW.PrintLast Go.Proofs.YtcepbgffnneagaaW.PrintMore
attribute [local go_sem] max2_int min2_int max_two min_two max_three min_three max_four min_four   -- for this text's walks alone
set_option linter.unusedVariables false
set_option linter.unusedSimpArgs false

def idxI {α : Type} (p : α → Bool) : List α → Nat → Int
  | [], _ => -1
  | x :: xs, i => if p x = true then (i : Int) else idxI p xs (i + 1)
theorem idxI_any {α : Type} (p : α → Bool) : ∀ (L : List α) (i : Nat), decide (idxI p L i ≥ 0) = L.any p
  | [], _ => by simp [idxI]
  | x :: xs, i => by
    rw [idxI, List.any_cons]
    by_cases h : p x = true
    · rw [if_pos h, h]; simp
    · rw [if_neg h, idxI_any p xs (i + 1)]; simp [Bool.eq_false_iff.2 h]

end Go.Proofs.Ytcepbgffnneagaa.Q
end

section
namespace Go.Proofs.Ytcepbgffnneagaa.Q
open Go.RowKit Go.Proofs.YtcepbgffnneagaaW.PrintWords Go.Proofs.YtcepbgffnneagaaW.PrintLast Go.Proofs.YtcepbgffnneagaaW.PrintMore
attribute [local go_sem] max2_int min2_int max_two min_two max_three min_three max_four min_four   -- for this text's walks alone
set_option linter.unusedVariables false
set_option linter.unusedSimpArgs false

theorem idxGraph_loop (cb : Int → Int → Option Bool) (p : S27 → Bool) (L : List S27) (hL : L.length ≤ 1048576) (hcb : ∀ x ∈ L, cb x.f0 x.f1 = some (p x)) : ∀ (d i k : Nat), i + d = L.length → d + 1 ≤ k → impl_Graph_166.l0 cb k L (L.length : Int) i = some (idxI p (L.drop i) i)
  | 0, i, k, hd, hk => by
    obtain ⟨k, rfl⟩ : ∃ q, k = q + 1 := ⟨k - 1, by omega⟩
    rw [impl_Graph_166.l0, if_neg (by omega), List.drop_eq_nil_of_le (by omega)]; rfl
  | d + 1, i, k, hd, hk => by
    obtain ⟨k, rfl⟩ : ∃ q, k = q + 1 := ⟨k - 1, by omega⟩
    have hi : i < L.length := by omega
    have hr : rd_T27 L (i : Int) = L[i] := by unfold rd_T27; exact getD_of_lt L _ hi
    rw [impl_Graph_166.l0]
    simp only [hr]
    rw [if_pos (by omega), if_pos (by omega), if_pos (by omega), hcb _ (List.getElem_mem hi), w64_succ (by omega), List.drop_eq_getElem_cons hi, idxI]
    simp only [Option.bind_some]
    split
    · rfl
    · exact idxGraph_loop cb p L hL hcb d (i + 1) k (by omega) (by omega)
theorem idxGraph_eq (cb : Int → Int → Option Bool) (p : S27 → Bool) (L : List S27) (hL : L.length ≤ 1048576) (hcb : ∀ x ∈ L, cb x.f0 x.f1 = some (p x)) (k : Nat) (hk : L.length + 1 ≤ k) : impl_Graph_166.f cb k L = some (idxI p L 0) := by
  unfold impl_Graph_166.f
  have := idxGraph_loop cb p L hL hcb L.length 0 k (Nat.zero_add _) hk
  rw [show ((0 : Nat) : Int) = 0 from rfl, List.drop_zero] at this
  exact this
theorem anyGraph_eq (cb : Int → Int → Option Bool) (p : S27 → Bool) (L : List S27) (hL : L.length ≤ 1048576) (hcb : ∀ x ∈ L, cb x.f0 x.f1 = some (p x)) (k : Nat) (hk : L.length + 1 ≤ k) : impl_Graph_157.f cb k L = some (L.any p) := by
  unfold impl_Graph_157.f
  rw [idxGraph_eq cb p L hL hcb k hk]
  simp only [Option.bind_some, idxI_any]

end Go.Proofs.Ytcepbgffnneagaa.Q
end

section
namespace Go.Proofs.Ytcepbgffnneagaa.Q
open Go.RowKit Go.Proofs.YtcepbgffnneagaaW.PrintWords Go.Proofs.YtcepbgffnneagaaW.PrintLast Go.Proofs.YtcepbgffnneagaaW.PrintMore
attribute [local go_sem] max2_int min2_int max_two min_two max_three min_three max_four min_four   -- for this text's walks alone
set_option linter.unusedVariables false
set_option linter.unusedSimpArgs false

theorem idxI_del {α : Type} (p : α → Bool) : ∀ (L : List α) (i : Nat), (idxI p L i = -1 ∧ L.filter (fun x => !p x) = L) ∨ (∃ j : Nat, j < L.length ∧ idxI p L i = ((i + j : Nat) : Int) ∧ L.take j ++ (L.drop (j + 1)).filter (fun x => !p x) = L.filter (fun x => !p x))
  | [], i => Or.inl ⟨rfl, rfl⟩
  | x :: xs, i => by
    rw [idxI]
    by_cases h : p x = true
    · rw [if_pos h]
      refine Or.inr ⟨0, by simp, rfl, ?_⟩
      rw [List.filter_cons, if_neg (by simp [h])]; rfl
    · rw [if_neg h]
      have hx : (!p x) = true := by simp [h]
      rcases idxI_del p xs (i + 1) with ⟨h1, h2⟩ | ⟨j, h1, h2, h3⟩
      · exact Or.inl ⟨h1, by rw [List.filter_cons, if_pos hx, h2]⟩
      · refine Or.inr ⟨j + 1, by rw [List.length_cons]; omega, by rw [h2]; congr 1; omega, ?_⟩
        rw [List.filter_cons, if_pos hx, List.take_succ_cons, List.drop_succ_cons, List.cons_append, h3]
theorem del_loop (cb : Int → Int → Option Bool) (p : S27 → Bool) (L : List S27) (hL : L.length ≤ 1048576) (hcb : ∀ x ∈ L, cb x.f0 x.f1 = some (p x)) : ∀ (d i j k : Nat) (X : List S27), j + d = L.length → i ≤ j → X.length = L.length → X.drop j = L.drop j → d + 1 ≤ k → impl_Graph_122.l0 cb k X i j = some (X.take i ++ (L.drop j).filter (fun x => !p x))
  | 0, i, j, k, X, hd, hi, hX, he, hk => by
    obtain ⟨k, rfl⟩ : ∃ q, k = q + 1 := ⟨k - 1, by omega⟩
    rw [impl_Graph_122.l0, if_neg (by omega), if_pos (by omega), if_pos (by omega), List.drop_eq_nil_of_le (by omega), Int.toNat_natCast, List.filter_nil, List.append_nil]
  | d + 1, i, j, k, X, hd, hi, hX, he, hk => by
    obtain ⟨k, rfl⟩ : ∃ q, k = q + 1 := ⟨k - 1, by omega⟩
    have hj : j < L.length := by omega
    have hjX : j < X.length := by omega
    have hx : X[j] = L[j] := by
      rw [List.drop_eq_getElem_cons hj, List.drop_eq_getElem_cons hjX] at he
      exact (List.cons.inj he).1
    have he2 : X.drop (j + 1) = L.drop (j + 1) := by
      rw [List.drop_eq_getElem_cons hj, List.drop_eq_getElem_cons hjX] at he
      exact (List.cons.inj he).2
    have hr : rd_T27 X (j : Int) = L[j] := by unfold rd_T27; rw [getD_of_lt X _ hjX, hx]
    rw [impl_Graph_122.l0]
    simp only [hr]
    rw [if_pos (by omega), if_pos (by omega), hcb _ (List.getElem_mem hj), w64_succ (by omega), List.drop_eq_getElem_cons hj, List.filter_cons]
    simp only [Option.bind_some]
    by_cases hp : p L[j] = true
    · rw [if_pos hp, if_neg (show ¬ (!p L[j]) = true by simp [hp])]
      exact del_loop cb p L hL hcb d i (j + 1) k X (by omega) (by omega) hX he2 (by omega)
    · rw [if_neg hp, if_pos (show (!p L[j]) = true by simp [hp]), if_pos (by omega), if_pos (by omega), w64_succ (by omega), Int.toNat_natCast]
      rw [del_loop cb p L hL hcb d (i + 1) (j + 1) k _ (by omega) (by omega) (by rw [List.length_set]; exact hX) (by rw [List.drop_set_of_lt (show i < j + 1 by omega)]; exact he2) (by omega), set_take _ _ (by omega), List.append_assoc]
      rfl
theorem del_eq (cb : Int → Int → Option Bool) (p : S27 → Bool) (L : List S27) (hL : L.length ≤ 1048576) (hcb : ∀ x ∈ L, cb x.f0 x.f1 = some (p x)) (k : Nat) (hk : L.length + 1 ≤ k) : impl_Graph_122.f cb k L = some (L.filter (fun x => !p x)) := by
  unfold impl_Graph_122.f
  rw [idxGraph_eq cb p L hL hcb k hk]
  simp only [Option.bind_some]
  rcases idxI_del p L 0 with ⟨h1, h2⟩ | ⟨j, h1, h2, h3⟩
  · rw [h1, if_pos rfl, h2]
  · rw [Nat.zero_add] at h2
    rw [h2, if_neg (by omega), w64_succ (by omega), del_loop cb p L hL hcb (L.length - (j + 1)) j (j + 1) k L (by omega) (by omega) rfl rfl (by omega), h3]

end Go.Proofs.Ytcepbgffnneagaa.Q
end

section
namespace Go.Proofs.Ytcepbgffnneagaa.Q
open Go.RowKit Go.Proofs.YtcepbgffnneagaaW.PrintWords Go.Proofs.YtcepbgffnneagaaW.PrintLast Go.Proofs.YtcepbgffnneagaaW.PrintMore
attribute [local go_sem] max2_int min2_int max_two min_two max_three min_three max_four min_four   -- for this text's walks alone
set_option linter.unusedVariables false
set_option linter.unusedSimpArgs false

end Go.Proofs.Ytcepbgffnneagaa.Q
end

section
namespace Go.Proofs.Ytcepbgffnneagaa.Q
open Go.RowKit Go.Proofs.YtcepbgffnneagaaW.PrintWords Go.Proofs.YtcepbgffnneagaaW.PrintLast Go.Proofs.YtcepbgffnneagaaW.PrintMore
attribute [local go_sem] max2_int min2_int max_two min_two max_three min_three max_four min_four   -- for this text's walks alone
set_option linter.unusedVariables false
set_option linter.unusedSimpArgs false

end Go.Proofs.Ytcepbgffnneagaa.Q
end

section
namespace Go.Proofs.Ytcepbgffnneagaa.Q
open Go.RowKit Go.Proofs.YtcepbgffnneagaaW.PrintWords Go.Proofs.YtcepbgffnneagaaW.PrintLast Go.Proofs.YtcepbgffnneagaaW.PrintMore
attribute [local go_sem] max2_int min2_int max_two min_two max_three min_three max_four min_four   -- for this text's walks alone
set_option linter.unusedVariables false
set_option linter.unusedSimpArgs false

theorem in_eq (a b c : Int) : impl_in.f a b c = some (decide (b ≤ a ∧ a ≤ c)) := by
  unfold impl_in.f
  by_cases h : a ≥ b
  · rw [if_pos h]; congr 1; rw [decide_eq_decide]; omega
  · rw [if_neg h]; congr 1; symm; rw [decide_eq_false_iff_not]; omega

end Go.Proofs.Ytcepbgffnneagaa.Q
end

section
namespace Go.Proofs.Ytcepbgffnneagaa.Q
open Go.RowKit Go.Proofs.YtcepbgffnneagaaW.PrintWords Go.Proofs.YtcepbgffnneagaaW.PrintLast Go.Proofs.YtcepbgffnneagaaW.PrintMore
attribute [local go_sem] max2_int min2_int max_two min_two max_three min_three max_four min_four   -- for this text's walks alone
set_option linter.unusedVariables false
set_option linter.unusedSimpArgs false

def validG (n e : Int) : Bool := decide (0 ≤ n ∧ n ≤ 5 ∧ e < 2 ^ (n.toNat * (n.toNat - 1) / 2))
theorem l01Ok_eq (n e : Int) (h0 : 0 ≤ e) (h1 : e ≤ 4294967295) : spec_l01Ok.f n e = some (validG n e) := by
  have hw : wrap64 e = e := by unfold wrap64; omega
  unfold spec_l01Ok.f validG
  rw [l00In_eq, hw]; simp only [Option.bind_some]
  by_cases h : 0 ≤ n ∧ n ≤ 5
  · rw [if_pos (by simpa using h)]
    obtain ⟨ha, hb⟩ := h
    rcases small5 ha hb with rfl | rfl | rfl | rfl | rfl | rfl
    all_goals
      simp only [spec_l01Bits.f]
      simp [wrap64, IntKind.wrap_u64, shl, IntKind.wrap_i64, IntKind.bits]
  · rw [if_neg (by simpa using h)]; congr 1; symm; rw [decide_eq_false_iff_not]; omega

end Go.Proofs.Ytcepbgffnneagaa.Q
end

section
namespace Go.Proofs.Ytcepbgffnneagaa.Q
open Go.RowKit Go.Proofs.YtcepbgffnneagaaW.PrintWords Go.Proofs.YtcepbgffnneagaaW.PrintLast Go.Proofs.YtcepbgffnneagaaW.PrintMore
attribute [local go_sem] max2_int min2_int max_two min_two max_three min_three max_four min_four   -- for this text's walks alone
set_option linter.unusedVariables false
set_option linter.unusedSimpArgs false

theorem ValidGraph_eq (n e : Int) (h0 : 0 ≤ e) (h1 : e ≤ 4294967295) : impl_ValidGraph.f n e = some (validG n e) := by
  unfold impl_ValidGraph.f validG
  rw [in_eq]; simp only [Option.bind_some]
  by_cases h : 0 ≤ n ∧ n ≤ 5
  · rw [if_pos (by simpa using h)]
    obtain ⟨ha, hb⟩ := h
    rcases small5 ha hb with rfl | rfl | rfl | rfl | rfl | rfl
    all_goals
      simp only [impl_pairs.f]
      simp [wrap64, shr, IntKind.bits]
    all_goals (first | done | (rw [Bool.eq_iff_iff]; simp; omega))
  · rw [if_neg (by simpa using h)]; congr 1; symm; rw [decide_eq_false_iff_not]; omega

end Go.Proofs.Ytcepbgffnneagaa.Q
end

section
namespace Go.Proofs.Ytcepbgffnneagaa.Q
open Go.RowKit Go.Proofs.YtcepbgffnneagaaW.PrintWords Go.Proofs.YtcepbgffnneagaaW.PrintLast Go.Proofs.YtcepbgffnneagaaW.PrintMore
attribute [local go_sem] max2_int min2_int max_two min_two max_three min_three max_four min_four   -- for this text's walks alone
set_option linter.unusedVariables false
set_option linter.unusedSimpArgs false

theorem wrap_u32_nat (v : BitVec 32) : IntKind.u32.wrap ((v.toNat : Nat) : Int) = ((v.toNat : Nat) : Int) := by
  rw [IntKind.wrap_u32]; have := v.isLt; omega
theorem bits_and32 (x y : Int) : Go.bits .and .u32 x y = (((BitVec.ofInt 32 x &&& BitVec.ofInt 32 y).toNat : Nat) : Int) := wrap_u32_nat _
theorem bits_andNot32 (x y : Int) : Go.bits .andNot .u32 x y = (((BitVec.ofInt 32 x &&& ~~~ BitVec.ofInt 32 y).toNat : Nat) : Int) := wrap_u32_nat _

end Go.Proofs.Ytcepbgffnneagaa.Q
end

section
namespace Go.Proofs.Ytcepbgffnneagaa.Q
open Go.RowKit Go.Proofs.YtcepbgffnneagaaW.PrintWords Go.Proofs.YtcepbgffnneagaaW.PrintLast Go.Proofs.YtcepbgffnneagaaW.PrintMore
attribute [local go_sem] max2_int min2_int max_two min_two max_three min_three max_four min_four   -- for this text's walks alone
set_option linter.unusedVariables false
set_option linter.unusedSimpArgs false

theorem andNot_iff (x y : BitVec 32) : x &&& ~~~ y = 0#32 ↔ x &&& y = x := by
  constructor
  · intro h
    ext i hi
    have := congrArg (fun z : BitVec 32 => z[i]) h
    simp only [BitVec.getElem_and, BitVec.getElem_not, BitVec.getElem_zero] at this ⊢
    revert this
    cases x[i] <;> cases y[i] <;> simp
  · intro h
    ext i hi
    have := congrArg (fun z : BitVec 32 => z[i]) h
    simp only [BitVec.getElem_and, BitVec.getElem_not, BitVec.getElem_zero] at this ⊢
    revert this
    cases x[i] <;> cases y[i] <;> simp
theorem part_bits {h : Int} (h0 : 0 ≤ h) (h1 : h ≤ 4294967295) (b : Int) : (Go.bits .andNot .u32 h b == 0) = decide (Go.bits .and .u32 h b = h) := by
  rw [bits_andNot32, bits_and32, Bool.eq_iff_iff, beq_iff_eq, decide_eq_true_eq]
  have hx : ((BitVec.ofInt 32 h).toNat : Int) = h := by rw [BitVec.toNat_ofInt]; omega
  generalize BitVec.ofInt 32 h = x at *
  generalize BitVec.ofInt 32 b = y
  rw [← hx]
  constructor
  · intro e
    have : x &&& ~~~ y = 0#32 := by apply BitVec.eq_of_toNat_eq; simpa using e
    rw [(andNot_iff x y).1 this]
  · intro e
    have : x &&& y = x := by apply BitVec.eq_of_toNat_eq; exact_mod_cast e
    rw [(andNot_iff x y).2 this]; rfl
theorem allDiff_wrap {n : Nat} (hn : n < 6) {l : List Int} (h : allDiff ((n : Int) - 1) l) : allDiff (wrap64 ((n : Int) - 1)) l := by
  rw [show wrap64 ((n : Int) - 1) = (n : Int) - 1 from by unfold wrap64; omega]; exact h
theorem part_loop (n : Nat) (hn : n < 6) (e m h : Int) : ∀ (ls : List (List Int)) (x : List Int) (k : Nat), isChain n (x :: ls) = true → (∀ l ∈ x :: ls, allDiff ((n : Int) - 1) l) → ls.length + 200 ≤ k →
    spec_l01Part.l0 k x true n e m h = some ((x :: ls).any fun l => decide (Go.bits .and .u32 h (onI e l) = h))
  | [], x, k, hc, hd, hk => by
    obtain ⟨k, rfl⟩ : ∃ q, k = q + 2 := ⟨k - 2, by omega⟩
    obtain ⟨y, hy⟩ := chain_one hc
    rw [spec_l01Part.l0, if_pos rfl, onS_diff n e (by omega) (by omega) (allDiff_wrap hn (hd x (List.mem_cons_self))) _ (by omega)]
    simp only [Option.bind_some, List.any_cons, List.any_nil, Bool.or_false]
    by_cases hb : Go.bits .and .u32 h (onI e x) = h
    · rw [if_pos hb, decide_eq_true hb]
    · rw [if_neg hb, decide_eq_false hb, hy _ (by omega)]
      simp only [Option.bind_some]
      rw [spec_l01Part.l0, if_neg (by simp)]
  | z :: ls, x, k, hc, hd, hk => by
    obtain ⟨k, rfl⟩ : ∃ q, k = q + 1 := ⟨k - 1, by omega⟩
    obtain ⟨h1, h2⟩ := chain_cons hc
    have hl : (z :: ls).length = ls.length + 1 := rfl
    rw [spec_l01Part.l0, if_pos rfl, onS_diff n e (by omega) (by omega) (allDiff_wrap hn (hd x (List.mem_cons_self))) _ (by omega)]
    simp only [Option.bind_some]
    rw [List.any_cons]
    by_cases hb : Go.bits .and .u32 h (onI e x) = h
    · rw [if_pos hb, decide_eq_true hb]; rfl
    · rw [if_neg hb, decide_eq_false hb, h1 _ (by omega)]
      simp only [Option.bind_some, Bool.false_or]
      exact part_loop n hn e m h ls z k h2 (fun l hl => hd l (List.mem_cons_of_mem _ hl)) (by omega)
theorem leaves_none : ∀ n, n < 6 → ∀ r, r < 6 → n < r → leaves n r [] = [] := by decide +kernel
theorem leaves_nodup : ∀ n, n < 6 → ∀ r, r < 6 → ∀ l ∈ leaves n r [], allDiff ((n : Int) - 1) l := by decide +kernel
theorem hasPart_eq (n m : Nat) (hn : n < 6) (hm : m < 6) (e h : Int) (h0 : 0 ≤ h) (h1 : h ≤ 4294967295) : impl_Graph_hasPart.f n e m h = some ((leaves n m []).any fun l => decide (Go.bits .and .u32 h (onI e l) = h)) := by
  unfold impl_Graph_hasPart.f impl_listed.f
  rw [if_pos (by simp; omega), lstd_eq]
  rw [runCb_any _ (fun l => decide (Go.bits .and .u32 h (onI e l) = h))]
  · simp
  · intro l hl
    simp only [Int.toNat_natCast, List.length_nil, Nat.sub_zero] at hl
    have hd := leaves_nodup n hn m hm l hl
    unfold impl_Graph_hasPart_1.f
    rw [impl_onT.eq n e (okList_diff (by omega) (by omega) (allDiff_wrap hn hd))]
    simp only [Option.bind_some]
    rw [part_bits h0 h1]
theorem l01Part_eq (n m : Nat) (hn : n < 6) (hm : m < 6) (e h : Int) (k : Nat) (hk : 1000 ≤ k) : spec_l01Part.f k n e m h = some ((leaves n m []).any fun l => decide (Go.bits .and .u32 h (onI e l) = h)) := by
  unfold spec_l01Part.f
  by_cases hmn : (m : Int) > n
  · rw [if_pos hmn, leaves_none n hn m hm (by omega)]; rfl
  · rw [if_neg hmn, firstS_eq m (by omega) (by omega) k (by omega)]
    simp only [Option.bind_some, Int.toNat_natCast]
    obtain ⟨hh, hc⟩ := chains n hn m (by omega)
    have hd := leaves_nodup n hn m hm
    have hlen : (leaves n m []).length ≤ 200 := (show ∀ n, n < 6 → ∀ m, m < 6 → (leaves n m []).length ≤ 200 from by decide +kernel) n hn m hm
    revert hh hc hd hlen
    generalize leaves n m [] = L
    intro hh hc hd hlen
    cases L with
    | nil => simp at hh
    | cons x ls =>
      obtain rfl : x = firstI m := by simpa using hh
      exact part_loop n hn e m h ls _ k hc hd (by simp only [List.length_cons] at hlen; omega)

end Go.Proofs.Ytcepbgffnneagaa.Q
end

section
namespace Go.Proofs.Ytcepbgffnneagaa.Q
open Go.RowKit Go.Proofs.YtcepbgffnneagaaW.PrintWords Go.Proofs.YtcepbgffnneagaaW.PrintLast Go.Proofs.YtcepbgffnneagaaW.PrintMore
attribute [local go_sem] max2_int min2_int max_two min_two max_three min_three max_four min_four   -- for this text's walks alone
set_option linter.unusedVariables false
set_option linter.unusedSimpArgs false

theorem rdG_nat (l : List S27) {i : Nat} (hi : i < l.length) : rd_T27 l (i : Int) = l[i] := by unfold rd_T27; exact getD_of_lt l _ hi

end Go.Proofs.Ytcepbgffnneagaa.Q
end

section
namespace Go.Proofs.Ytcepbgffnneagaa.Q
open Go.RowKit Go.Proofs.YtcepbgffnneagaaW.PrintWords Go.Proofs.YtcepbgffnneagaaW.PrintLast Go.Proofs.YtcepbgffnneagaaW.PrintMore
attribute [local go_sem] max2_int min2_int max_two min_two max_three min_three max_four min_four   -- for this text's walks alone
set_option linter.unusedVariables false
set_option linter.unusedSimpArgs false

theorem validG_nat {n e : Int} (h0 : 0 ≤ e) (h : validG n e = true) : ∃ (m f : Nat), n = m ∧ e = f ∧ m < 6 ∧ f < 2 ^ prs m := by
  simp only [validG, decide_eq_true_eq] at h
  refine ⟨n.toNat, e.toNat, by omega, by omega, by omega, ?_⟩
  have := h.2.2
  unfold prs
  have h2 : ((e.toNat : Nat) : Int) < ((2 ^ (n.toNat * (n.toNat - 1) / 2) : Nat) : Int) := by rw [Int.toNat_of_nonneg h0]; exact_mod_cast this
  exact_mod_cast h2

end Go.Proofs.Ytcepbgffnneagaa.Q
end

section
namespace Go.Proofs.Ytcepbgffnneagaa.Q
open Go.RowKit Go.Proofs.YtcepbgffnneagaaW.PrintWords Go.Proofs.YtcepbgffnneagaaW.PrintLast Go.Proofs.YtcepbgffnneagaaW.PrintMore
attribute [local go_sem] max2_int min2_int max_two min_two max_three min_three max_four min_four   -- for this text's walks alone
set_option linter.unusedVariables false
set_option linter.unusedSimpArgs false

def okGs (L : List S27) : Prop := ∀ x ∈ L, 0 ≤ x.f1 ∧ x.f1 ≤ 4294967295
def partB (n : Nat) (e : Int) (x : S27) : Bool := (leaves n x.f0.toNat []).any fun l => decide (Go.bits .and .u32 x.f1 (onI e l) = x.f1)
theorem hasPart_x (n : Nat) (hn : n < 6) (e : Int) (x : S27) (hx : 0 ≤ x.f1 ∧ x.f1 ≤ 4294967295) (hv : validG x.f0 x.f1 = true) : impl_Graph_hasPart.f n e x.f0 x.f1 = some (partB n e x) ∧ ∀ k, 1000 ≤ k → spec_l01Part.f k n e x.f0 x.f1 = some (partB n e x) := by
  obtain ⟨m, f, e1, e2, hm, hf⟩ := validG_nat hx.1 hv
  unfold partB
  rw [e2] at hx
  rw [e1, e2, Int.toNat_natCast]
  exact ⟨hasPart_eq n m hn hm e f hx.1 hx.2, fun k hk => l01Part_eq n m hn hm e f k hk⟩
theorem free_eq (n : Nat) (hn : n < 6) (e : Int) (L : List S27) (ho : okGs L) (hL : L.length ≤ 6) (hv : ∀ x ∈ L, validG x.f0 x.f1 = true) (k : Nat) (hk : 20 ≤ k) : impl_Graph_free.f k n e L = some (!(L.any (partB n e))) := by
  unfold impl_Graph_free.f impl_Graph_157_of_impl_Graph_hasPart.f
  rw [anyGraph_eq _ (partB n e) L (by omega) (fun x hx => (hasPart_x n hn e x (ho x hx) (hv x hx)).1) k (by omega)]
  rfl
end Go.Proofs.Ytcepbgffnneagaa.Q
end

section
namespace Go.Proofs.Ytcepbgffnneagaa.Q
open Go.RowKit Go.Proofs.YtcepbgffnneagaaW.PrintWords Go.Proofs.YtcepbgffnneagaaW.PrintLast Go.Proofs.YtcepbgffnneagaaW.PrintMore
attribute [local go_sem] max2_int min2_int max_two min_two max_three min_three max_four min_four   -- for this text's walks alone
set_option linter.unusedVariables false
set_option linter.unusedSimpArgs false

theorem gList_ok (n : Nat) (ok : Nat → Bool) : ∀ (d e : Nat) (x : S27), x ∈ gList n ok d e → ∃ m : Nat, x = ⟨n, m⟩ ∧ e ≤ m ∧ m < e + d ∧ ok m = true
  | 0, e, x, h => by rw [gList] at h; cases h
  | d + 1, e, x, h => by
    rw [gList] at h
    by_cases hk : ok e = true
    · rw [if_pos hk] at h
      rcases List.mem_cons.1 h with rfl | h
      · exact ⟨e, rfl, by omega, by omega, hk⟩
      · obtain ⟨m, h1, h2, h3, h4⟩ := gList_ok n ok d (e + 1) x h
        exact ⟨m, h1, by omega, by omega, h4⟩
    · rw [if_neg hk] at h
      obtain ⟨m, h1, h2, h3, h4⟩ := gList_ok n ok d (e + 1) x h
      exact ⟨m, h1, by omega, by omega, h4⟩
theorem gList_filter (n : Nat) (ok p : Nat → Bool) (P : S27 → Bool) (hP : ∀ m : Nat, P ⟨n, m⟩ = p m) : ∀ d e, (gList n ok d e).filter P = gList n (fun e => p e && ok e) d e
  | 0, e => rfl
  | d + 1, e => by
    rw [gList, gList]
    have ih := gList_filter n ok p P hP d (e + 1)
    cases hk : ok e
    · rw [if_neg (by simp), if_neg (by simp), ih]
    · rw [if_pos rfl, List.filter_cons, hP, ih]
      cases hp : p e
      · rw [if_neg (by simp), if_neg (by simp)]
      · rw [if_pos rfl, if_pos (by simp)]

end Go.Proofs.Ytcepbgffnneagaa.Q
end

section
namespace Go.Proofs.Ytcepbgffnneagaa.Q
open Go.RowKit Go.Proofs.YtcepbgffnneagaaW.PrintWords Go.Proofs.YtcepbgffnneagaaW.PrintLast Go.Proofs.YtcepbgffnneagaaW.PrintMore
attribute [local go_sem] max2_int min2_int max_two min_two max_three min_three max_four min_four   -- for this text's walks alone
set_option linter.unusedVariables false
set_option linter.unusedSimpArgs false

theorem leasts_loop (cb : Int → Int → Option Bool) (p : Nat → Bool) (n s : Nat) (hn : n < 6) (hs : s < n + 1) (hcb : ∀ e : Nat, e < 2 ^ prs n → cb n e = some (p e)) : ∀ (d e k : Nat) (out : List S27), e + d = 2 ^ prs n → out.length ≤ e → d + 1 ≤ k →
    impl_leasts.l0 cb k n s out ((2 ^ prs n : Nat) : Int) e = some (out ++ gList n (fun e => p e && isLeastB n s e) d e)
  | 0, e, k, out, hd, ho, hk => by
    obtain ⟨k, rfl⟩ : ∃ q, k = q + 1 := ⟨k - 1, by omega⟩
    rw [impl_leasts.l0, if_neg (by omega), gList, List.append_nil]
  | d + 1, e, k, out, hd, ho, hk => by
    obtain ⟨k, rfl⟩ : ∃ q, k = q + 1 := ⟨k - 1, by omega⟩
    have hp := prs_le' n hn
    have he : ((e : Int) + 1) % 4294967296 = ((e + 1 : Nat) : Int) := by omega
    rw [impl_leasts.l0, if_pos (by omega), hcb e (by omega), he, gList]
    simp only [Option.bind_some]
    cases hpe : p e
    · simp only [Bool.false_eq_true, if_false, Bool.false_and]
      exact leasts_loop cb p n s hn hs hcb d (e + 1) k _ (by omega) (by omega) (by omega)
    · simp only [if_true, Bool.true_and, isLeast_eq n s hn hs e (fun l hl => (leaves_ok_s n hn s hs l hl).2), Option.bind_some]
      by_cases hl : isLeastB n s (e : Int) = true
      · rw [if_pos hl, if_pos hl, if_pos (by omega), leasts_loop cb p n s hn hs hcb d (e + 1) k _ (by omega) (by rw [List.length_append]; simp only [List.length_cons, List.length_nil]; omega) (by omega), List.append_assoc]; rfl
      · rw [if_neg hl, if_neg hl, leasts_loop cb p n s hn hs hcb d (e + 1) k _ (by omega) (by omega) (by omega)]
theorem leasts_eq (cb : Int → Int → Option Bool) (p : Nat → Bool) (n s : Nat) (hn : n < 6) (hs : s < n + 1) (hcb : ∀ e : Nat, e < 2 ^ prs n → cb n e = some (p e)) (k : Nat) (hk : 1100 ≤ k) : impl_leasts.f cb k n s = some (gList n (fun e => p e && isLeastB n s e) (2 ^ prs n) 0) := by
  have hb : impl_pairs.f (n : Int) = some ((prs n : Nat) : Int) := (show ∀ n : Nat, n < 6 → impl_pairs.f (n : Int) = some ((prs n : Nat) : Int) from by decide +kernel) n hn
  have hsh : shl .u32 1 ((prs n : Nat) : Int) = ((2 ^ prs n : Nat) : Int) := (show ∀ n : Nat, n < 6 → shl .u32 1 ((prs n : Nat) : Int) = ((2 ^ prs n : Nat) : Int) from by decide +kernel) n hn
  have hp := prs_le' n hn
  unfold impl_leasts.f
  rw [hb]
  simp only [Option.bind_some]
  rw [if_pos (by omega), hsh]
  have := leasts_loop cb p n s hn hs hcb (2 ^ prs n) 0 k [] (by omega) (by simp) (by omega)
  rw [show ((0 : Nat) : Int) = 0 from rfl] at this
  rw [this]; rfl
theorem l01All_eq (n : Nat) (hn : n < 6) (k : Nat) (hk : 3000 ≤ k) : spec_l01All.f k n = some (gList n (fun e => isLeastB n 0 e) (2 ^ prs n) 0) := by
  have hp := prs_le' n hn
  unfold spec_l01All.f
  have := l01All_loop n hn (2 ^ prs n) 0 k [] (by omega) (by simp) (by omega)
  rw [show ((0 : Nat) : Int) = 0 from rfl] at this
  rw [this]; rfl

end Go.Proofs.Ytcepbgffnneagaa.Q
end

section
namespace Go.Proofs.Ytcepbgffnneagaa.Q
open Go.RowKit Go.Proofs.YtcepbgffnneagaaW.PrintWords Go.Proofs.YtcepbgffnneagaaW.PrintLast Go.Proofs.YtcepbgffnneagaaW.PrintMore
attribute [local go_sem] max2_int min2_int max_two min_two max_three min_three max_four min_four   -- for this text's walks alone
set_option linter.unusedVariables false
set_option linter.unusedSimpArgs false

def freeL (n : Nat) (L : List S27) : List S27 := gList n (fun e => !(L.any (partB n e)) && isLeastB n 0 e) (2 ^ prs n) 0
theorem freeGraphs_eq (n : Nat) (hn : n < 6) (L : List S27) (ho : okGs L) (hL : L.length ≤ 6) (hv : ∀ x ∈ L, validG x.f0 x.f1 = true) (k : Nat) (hk : 2000 ≤ k) : impl_freeGraphs.f k n L = some (freeL n L) := by
  have hp := prs_le' n hn
  unfold impl_freeGraphs.f
  have h1 := leasts_eq (fun y0_0 y0_1 => impl_freeGraphs_1.f y0_0 y0_1) (fun _ => true) n 0 hn (by omega) (fun _ _ => rfl) k (by omega)
  rw [show ((0 : Nat) : Int) = 0 from rfl] at h1
  rw [h1]
  simp only [Option.bind_some, Bool.true_and]
  have hlen := gList_length n (fun e => isLeastB n 0 e) (2 ^ prs n) 0
  rw [del_eq _ (fun x => L.any (partB n x.f1)) _ (by omega) (fun x hx => ?_) k (by omega)]
  · simp only [Option.bind_some]
    rw [gList_filter n (fun e => isLeastB n 0 e) (fun e => !(L.any (partB n e))) _ (fun m => rfl)]
    rfl
  · obtain ⟨m, rfl, -, -, -⟩ := gList_ok n _ _ _ x hx
    refine impl_freeGraphs_2T.of (n : Int) (m : Int) L (k := 20) ?_
    unfold impl_freeGraphs_2.f
    rw [free_eq n hn m L ho hL hv 20 (by omega)]
    simp
end Go.Proofs.Ytcepbgffnneagaa.Q
end

section
namespace Go.Proofs.Ytcepbgffnneagaa.Q
open Go.RowKit Go.Proofs.YtcepbgffnneagaaW.PrintWords Go.Proofs.YtcepbgffnneagaaW.PrintLast Go.Proofs.YtcepbgffnneagaaW.PrintMore
attribute [local go_sem] max2_int min2_int max_two min_two max_three min_three max_four min_four   -- for this text's walks alone
set_option linter.unusedVariables false
set_option linter.unusedSimpArgs false

theorem in_eq4 (a b c : Int) : impl_in.f a b c = some (decide (b ≤ a ∧ a ≤ c)) := by
  unfold impl_in.f
  by_cases h : a ≥ b
  · rw [if_pos h]; congr 1; rw [decide_eq_decide]; omega
  · rw [if_neg h]; congr 1; symm; rw [decide_eq_false_iff_not]; omega

end Go.Proofs.Ytcepbgffnneagaa.Q
end

section
namespace Go.Proofs.Ytcepbgffnneagaa.Q
open Go.RowKit Go.Proofs.YtcepbgffnneagaaW.PrintWords Go.Proofs.YtcepbgffnneagaaW.PrintLast Go.Proofs.YtcepbgffnneagaaW.PrintMore
attribute [local go_sem] max2_int min2_int max_two min_two max_three min_three max_four min_four   -- for this text's walks alone
set_option linter.unusedVariables false
set_option linter.unusedSimpArgs false

theorem dens_both (m n : Nat) (hm : m < 6) (hn : n < 6) (hmn : m ≤ n) (e h : Nat) (hh : h < 2 ^ prs m) : ∃ c a b : Int, impl_Graph_copies.f n e m h = some c ∧ ∀ K, 2000 ≤ K → spec_l04Density.f K 0 m h 0 n e = some (a, b) ∧ ∃ t, impl_choices.f K n m = some t ∧ impl_lowest.f K c t = some (a, b) := by
  obtain ⟨c, hc, a, b, hab⟩ := density4_eq 0 m n hm hn (by omega) (by omega) e h
  have hcp := copies_eq n m hn hm e h hh
  have hp : (setsL n m).Perm (sets4 0 n m) := (List.isPerm_iff.1 (sets_perm n hn m hm)).trans (by have := (List.isPerm_iff.1 (sets4_perm n hn 0 (by omega) m hm)).symm; rwa [List.drop_zero] at this)
  rw [cntE_perm _ hp (by have := (sets_ok n hn m hm).1; omega)] at hcp
  rw [Nat.sub_zero] at hc
  rw [hc] at hcp
  refine ⟨_, a, b, hcp, fun K hK => ?_⟩
  have h1 := (hab K (by omega)).1
  have h2 := (hab K (by omega)).2
  rw [show ((0 : Nat) : Int) = 0 from rfl] at h1
  rw [Nat.sub_zero, Nat.sub_zero] at h2
  obtain ⟨t, ht1, ht2⟩ := Option.bind_eq_some_iff.1 h2
  exact ⟨h1, t, ht1, ht2⟩
theorem dens_loops (m n : Nat) (hm : m < 6) (hn : n < 6) (hmn : m ≤ n) (e : Nat) (A : List S27) (hA : A.length ≤ 1024) (hx : ∀ x ∈ A, ∃ h : Nat, x = ⟨m, h⟩ ∧ h < 2 ^ prs m) (d : Nat) : ∀ i : Nat, i + d = A.length → ∃ R : List S31, R.length = d ∧ ∀ K, d + 2001 ≤ K → ∀ out : List S31, out.length ≤ i →
    spec_GraphDensities.l0 K A out i n e = some (out ++ R, 0) ∧ impl_GraphDensities.l0 K m out A (A.length : Int) i n e = some (out ++ R, 0) := by
  induction d with
  | zero =>
    intro i hd
    refine ⟨[], rfl, fun K hK out ho => ?_⟩
    obtain ⟨K, rfl⟩ : ∃ q, K = q + 1 := ⟨K - 1, by omega⟩
    rw [spec_GraphDensities.l0, if_neg (by omega), impl_GraphDensities.l0, if_neg (by omega), List.append_nil]
    exact ⟨rfl, rfl⟩
  | succ d ih0 =>
    intro i hd
    have hi : i < A.length := by omega
    obtain ⟨h, e1, hh⟩ := hx _ (List.getElem_mem hi)
    obtain ⟨c, a, b, hc, hab⟩ := dens_both m n hm hn hmn e h hh
    obtain ⟨R, hR, ih⟩ := ih0 (i + 1) (by omega)
    refine ⟨⟨a, b⟩ :: R, by rw [List.length_cons, hR], fun K hK out ho => ?_⟩
    obtain ⟨K, rfl⟩ : ∃ q, K = q + 1 := ⟨K - 1, by omega⟩
    have c1 : (i : Int) < (A.length : Int) := Int.ofNat_lt.2 hi
    have c2 : (0 : Int) ≤ (i : Int) := Int.natCast_nonneg i
    have c3 : out.length < 8796093022208 := Nat.lt_of_le_of_lt ho (Nat.lt_trans hi (Nat.lt_of_le_of_lt hA (by decide)))
    obtain ⟨s1, t, s2, s3⟩ := hab K (by omega)
    obtain ⟨r1, r2⟩ := ih K (by omega) (out ++ [⟨a, b⟩]) (by rw [List.length_append]; simp only [List.length_cons, List.length_nil]; omega)
    rw [List.append_assoc] at r1 r2
    have hw : wrap64 ((i : Int) + 1) = ((i + 1 : Nat) : Int) := by unfold wrap64; omega
    rw [spec_GraphDensities.l0, impl_GraphDensities.l0]
    simp only [rdG_nat A hi, e1, if_pos c1, if_pos c2, if_pos c3, s1, s2, s3, hc, hw, r1, r2, Option.bind_some]
    exact ⟨rfl, rfl⟩
theorem GraphDensities_fin (m n e : Int) (L : List S31) (hL : L.length ≤ 1024) (c : Int) (k : Nat) (hk : 1048590 ≤ k) (h : ∀ k, 4000 ≤ k → impl_GraphDensities.f k m n e = some (L, c)) :
    laws_FnExactGraphDensities.j0 k m L c L false n e = some true := by
  obtain ⟨k, rfl⟩ : ∃ q, k = q + 2 := ⟨k - 2, by omega⟩
  rw [laws_FnExactGraphDensities.j0, if_neg (by simp), markFractionS_eq L (by omega) 1 (by omega) (by omega) _ (by omega)]
  simp only [Option.bind_some]
  rw [heldFractionS_eq L.length (by omega) 1 (by omega) (by omega) _ (by omega)]
  simp only [Option.bind_some]
  rw [if_neg (by omega), if_pos trivial, laws_toGraph.f]
  simp only [Option.bind_some]
  rw [h _ (by omega)]
  simp only [Option.bind_some]
  rw [eqFractionS_self L (by omega) _ (by omega)]
  simp only [Option.bind_some, if_true, bne_self_eq_false]
  rw [laws_FnExactGraphDensities.j1, if_neg (by simp), heldFractionS_eq L.length (by omega) 1 (by omega) (by omega) _ (by omega)]
  simp only [Option.bind_some]
  rw [if_neg (by omega), if_pos trivial]
theorem FnExactGraphDensities_pure (m n e : Int) (_hm : (Lit.int .i64 m).wf = true) (_hn : (Lit.int .i64 n).wf = true) (he : (Lit.int .u32 e).wf = true) : ∃ k, laws_FnExactGraphDensities.f k m n e = some true := by
  obtain ⟨K, hK⟩ : ∃ K : Nat, 2000000 ≤ K := ⟨2000000, Nat.le_refl _⟩
  refine ⟨K, ?_⟩
  have he' : 0 ≤ e ∧ e ≤ 4294967295 := by simpa [Lit.wf, IntKind.min, IntKind.max, IntKind.bits, IntKind.signed] using he
  obtain ⟨L, c, hL, hsp, him⟩ : ∃ (L : List S31) (c : Int), L.length ≤ 1024 ∧ spec_GraphDensities.f K m n e = some (L, c) ∧ ∀ k, 4000 ≤ k → impl_GraphDensities.f k m n e = some (L, c) := by
    unfold spec_GraphDensities.f impl_GraphDensities.f impl_badGraph.f
    rw [l01Ok_eq n e he'.1 he'.2, ValidGraph_eq n e he'.1 he'.2]
    simp only [Option.bind_some]
    cases hv : validG n e
    · exact ⟨[], 1, by simp, rfl, fun k hk => rfl⟩
    obtain ⟨n, e, rfl, rfl, hn, he2⟩ := validG_nat he'.1 hv
    rw [l00In_eq, in_eq4]
    simp only [Option.bind_some, if_true, Bool.not_true, Bool.false_eq_true, if_false]
    by_cases hm : 0 ≤ m ∧ m ≤ (n : Int)
    rotate_left
    · refine ⟨[], 2, by simp, by rw [decide_eq_false hm]; rfl, fun k hk => by rw [decide_eq_false hm]; rfl⟩
    obtain ⟨m, rfl⟩ : ∃ q : Nat, m = q := ⟨m.toNat, by omega⟩
    have hm6 : m < 6 := by omega
    have hpr := prs_le' m hm6
    have hfl : freeL m [] = gList m (fun e => isLeastB m 0 e) (2 ^ prs m) 0 := by
      unfold freeL
      simp only [List.any_nil, Bool.not_false, Bool.true_and]
    have hlen := gList_length m (fun e => isLeastB m 0 e) (2 ^ prs m) 0
    obtain ⟨R, hR, ih⟩ := dens_loops m n hm6 hn (by omega) e (gList m (fun e => isLeastB m 0 e) (2 ^ prs m) 0) (by omega) (fun x hx => by
      obtain ⟨q, h1, _, h3, _⟩ := gList_ok m _ _ _ x hx
      exact ⟨q, h1, by omega⟩) _ 0 (Nat.zero_add _)
    rw [show ((0 : Nat) : Int) = 0 from rfl] at ih
    refine ⟨R, 0, by omega, ?_, fun k hk => ?_⟩
    · rw [decide_eq_true hm, if_pos rfl, l01All_eq m hm6 K (by omega)]
      simp only [Option.bind_some]
      exact (ih K (by omega) [] (by simp)).1
    · rw [decide_eq_true hm, if_pos rfl, freeGraphs_eq m hm6 [] (fun x hx => by cases hx) (by simp) (fun x hx => by cases hx) k (by omega), hfl]
      simp only [Option.bind_some]
      exact (ih k (by omega) [] (by simp)).2
  unfold laws_FnExactGraphDensities.f
  simp only [laws_toGraph.f, Option.bind_some]
  rw [hsp]
  simp only [Option.bind_some]
  rw [him K (by omega)]
  simp only [Option.bind_some]
  rw [eqFractionS_self L (by omega) K (by omega)]
  simp only [Option.bind_some, if_true, bne_self_eq_false]
  exact GraphDensities_fin m n e L hL c K (by omega) him

end Go.Proofs.Ytcepbgffnneagaa.Q
end

section
namespace Go.Proofs.YtcepbgffnneagaaW.PrintWords
open Go Go.RowKit Go.ChangeShapes Go.WideShapes Go.ChangeAt Go.Deep
set_option linter.unusedVariables false
section
variable {H : Type} (enc : TypeId × Value → H) (P : Program) (W : World)
/-- Whatever reads as data of type t stands for a plain value. -/
def Opens {α : Type} (t : TypeId) (k : Kd α) (wf : α → Prop) : Prop :=
  ∀ (fuel : Nat) (cs : List Value) (x : DataW H × List MemPlace), DataW.trod enc P W 0 (fun _ => true) true fuel t cs = some x → ∃ a, k.K W a cs ∧ wf a
end
section
variable {H : Type} {enc : TypeId × Value → H} {P : Program} {W : World}
theorem Opens.int {t : TypeId} {k : IntKind} (ht : P.underlying t = some (.int k)) : Opens enc P W t (Kd.int k) (fun n => (Lit.int k n).wf = true) := by
  intro fuel cs x h
  obtain ⟨n, rfl, _, hw⟩ := DataW.trod_int ht h
  exact ⟨n, rfl, hw⟩
theorem Opens.bool {t : TypeId} (ht : P.underlying t = some .bool) : Opens enc P W t Kd.bool (fun _ => True) := by
  intro fuel cs x h
  obtain ⟨n, rfl, _⟩ := DataW.trod_bool ht h
  exact ⟨n, rfl, trivial⟩
theorem Opens.struct2 {α β : Type} {t : TypeId} {f0 f1 : Field} {k0 : Kd α} {k1 : Kd β} {p0 : α → Prop} {p1 : β → Prop} (ht : P.underlying t = some (.struct #[f0, f1])) (o0 : f0.offset = 0) (o1 : f1.offset = P.cellsOf f0.type) (hc : P.cellsOf t = P.cellsOf f0.type + P.cellsOf f1.type)
    (h0 : Opens enc P W f0.type k0 p0) (h1 : Opens enc P W f1.type k1 p1) : Opens enc P W t (Kd.pair k0 k1) (fun p => p0 p.1 ∧ p1 p.2) := by
  intro fuel cs x h
  obtain ⟨y0, y1, n, _, hl, e0, e1⟩ := trod_struct2 ht h
  obtain ⟨a, ka, wa⟩ := h0 n _ _ e0
  obtain ⟨b, kb, wb⟩ := h1 n _ _ e1
  refine ⟨(a, b), ⟨_, _, ?_, ka, kb⟩, wa, wb⟩
  rw [o0, o1, List.drop_zero, List.take_of_length_le (l := List.drop _ cs) (by rw [List.length_drop, hl, hc]; omega), List.take_append_drop]
theorem Opens.iso {α β : Type} {t : TypeId} {k : Kd α} {p : α → Prop} (f : β → α) (g : α → β) (hfg : ∀ a, f (g a) = a) (h : Opens enc P W t k p) : Opens enc P W t (Kd.iso k f) (fun b => p (f b)) := by
  intro fuel cs x hx
  obtain ⟨a, ka, wa⟩ := h fuel cs x hx
  exact ⟨g a, by show k.K W (f (g a)) cs; rw [hfg]; exact ka, by show p (f (g a)); rw [hfg]; exact wa⟩
theorem Opens.slice {α : Type} (z : α) {t e : TypeId} {k : Kd α} {p : α → Prop} (ht : P.underlying t = some (.slice e)) (hs : k.sz = P.cellsOf e) (h : Opens enc P W e k p) : Opens enc P W t (Kd.slice e k) (fun l => l.length < 9223372036854775808 ∧ ∀ a ∈ l, p a) := by
  haveI : Inhabited α := ⟨z⟩
  intro fuel cs x hx
  rcases open_slice ht hx with ⟨rfl, _⟩ | ⟨ad, len, cap, m, n, D, Pl, rfl, _, hl, hm, hmm, _, hel⟩
  · exact ⟨[], ⟨none, 0, rfl, Nat.le_refl _, rfl, by simp, fun h0 => absurd h0 (Nat.lt_irrefl 0)⟩, by simp, fun a ha => by cases ha⟩
  · have hlm : len ≤ m := by
      rw [hmm]; split
      · exact hl
      · exact Nat.le_refl _
    obtain ⟨F, hF⟩ := choose_lt (α := α) (n := len) (p := fun i a => p a ∧ ∃ cs', k.K W a cs' ∧ W.cells? 0 (ad.add (i * P.cellsOf e)) (P.cellsOf e) = some cs') (fun i hi => by
      obtain ⟨cs', h1, h2⟩ := hel i (by omega)
      obtain ⟨a, ka, wa⟩ := h n _ _ h2
      exact ⟨a, wa, cs', ka, h1⟩)
    refine ⟨(List.range len).map F, ⟨some ad, cap, by simp, by simpa using hl, by simp, by simp; unfold maxLen at hm; omega, fun _ => ⟨ad, rfl, fun j q hq => ?_⟩⟩, by simp; unfold maxLen at hm; omega, fun a ha => ?_⟩
    · obtain ⟨hj, rfl⟩ : j < len ∧ F j = q := by
        rw [List.getElem?_map] at hq
        rcases Nat.lt_or_ge j len with hj | hj
        · rw [List.getElem?_range hj] at hq; exact ⟨hj, by simpa using hq⟩
        · rw [List.getElem?_eq_none (by simpa using hj)] at hq; simp at hq
      obtain ⟨_, cs', ka, h1⟩ := hF j hj
      obtain ⟨_, hlen, hcell⟩ := World.cells?_some h1
      refine ⟨cs', k.K_len ka, ka, fun i u hu => ?_⟩
      have hi : i < P.cellsOf e := by rw [← hlen]; exact (List.getElem?_eq_some_iff.1 hu).1
      rw [hs, ← add_add, hcell i hi]; exact hu
    · obtain ⟨i, hi, rfl⟩ := List.mem_map.1 ha
      exact (hF i (List.mem_range.1 hi)).1
end
end Go.Proofs.YtcepbgffnneagaaW.PrintWords
end
