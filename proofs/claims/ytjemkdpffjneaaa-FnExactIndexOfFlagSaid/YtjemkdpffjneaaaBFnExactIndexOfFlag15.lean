/- Contracts of Go functions and plain lemmas over what they compute; printed by the kit's print program or written by hand, joined. -/
import Derived.Test.YtjemkdpffjneaaaBFnExactIndexOfFlag3
import Derived.Test.YtjemkdpffjneaaaBFnExactIndexOfFlag6
import Derived.Test.YtjemkdpffjneaaaBFnExactIndexOfFlag7
import Derived.Test.YtjemkdpffjneaaaBFnExactIndexOfFlag12
import Derived.Test.YtjemkdpffjneaaaBFnExactIndexOfFlag14
import Derived.Test.YtjemkdpffjneaaaBFnExactIndexOfFlag10
import Derived.Test.YtjemkdpffjneaaaBFnExactIndexOfFlag11
import Derived.Test.YtjemkdpffjneaaaBFnExactIndexOfFlag13
import Derived.Test.YtjemkdpffjneaaaBFnExactIndexOfFlag9
import Derived.Test.YtjemkdpffjneaaaBFnExactIndexOfFlag4
import Derived.Test.YtjemkdpffjneaaaBFnExactIndexOfFlag5
import Derived.Test.YtjemkdpffjneaaaBFnExactIndexOfFlag8
import Derived.Test.YtjemkdpffjneaaaBFnExactIndexOfFlag2
import Derived.WalkKit
import Derived.ProofKit
import Derived.OpenShut
import Derived.ChangeOld
import Derived.Deep.Slices
section
namespace Go.Proofs.Ytjemkdpffjneaaa.Q
open Go.RowKit Go.Proofs.YtjemkdpffjneaaaW.PrintWords Go.Proofs.YtjemkdpffjneaaaW.PrintLast Go.Proofs.YtjemkdpffjneaaaW.PrintMore
attribute [local go_sem] max2_int min2_int max_two min_two max_three min_three max_four min_four   -- for this text's walks alone
set_option linter.unusedVariables false
set_option linter.unusedSimpArgs false

theorem joined_eq (k : Nat) (n e : Int) {i j : Int} (i0 : 0 ≤ i) (i4 : i ≤ 4) (j0 : 0 ≤ j) (j4 : j ≤ 4) (hij : i ≠ j) : spec_l01Joined.f (k + 2) n e i j = some (hasI e i j) := by
  unfold spec_l01Joined.f hasI
  rw [if_neg hij, l01Bit_eq k i0 i4 j0 j4]; rfl
theorem l01Bit_ge {k : Nat} (hk : 2 ≤ k) {i j : Int} (i0 : 0 ≤ i) (i4 : i ≤ 4) (j0 : 0 ≤ j) (j4 : j ≤ 4) : spec_l01Bit.f k i j = some (bitI i j) := by
  obtain ⟨q, rfl⟩ : ∃ q, k = q + 2 := ⟨k - 2, by omega⟩
  exact l01Bit_eq q i0 i4 j0 j4
theorem joined_ge {k : Nat} (hk : 2 ≤ k) (n e : Int) {i j : Int} (i0 : 0 ≤ i) (i4 : i ≤ 4) (j0 : 0 ≤ j) (j4 : j ≤ 4) (hij : i ≠ j) : spec_l01Joined.f k n e i j = some (hasI e i j) := by
  obtain ⟨q, rfl⟩ : ∃ q, k = q + 2 := ⟨k - 2, by omega⟩
  exact joined_eq q n e i0 i4 j0 j4 hij
theorem onS_row {l : List Int} {j : Nat} (n e0 : Int) (h5 : l.length ≤ 5) (h : ∀ i : Nat, i < l.length → 0 ≤ rd l i ∧ rd l i ≤ 4) (hne : ∀ i j : Nat, i < j → j < l.length → rd l i ≠ rd l j) (hj : j < l.length) (N : Int) :
    ∀ (d i : Nat) (e : Int) (k : Nat), i + d = j → d + 3 ≤ k → spec_l01On.l1 k l j i n e0 N e = spec_l01On.l0 (k - (d + 1)) l ((j + 1 : Nat) : Int) n e0 N (loopRow (fun i j => hasI e0 (rd l i) (rd l j)) j d i e)
  | 0, i, e, k, hd, hk => by
    have : i = j := by omega
    subst this
    obtain ⟨k, rfl⟩ : ∃ m, k = m + 1 := ⟨k - 1, by omega⟩
    simp only [spec_l01On.l1, loopRow]
    rw [if_neg (by omega), show wrap64 ((i : Int) + 1) = ((i + 1 : Nat) : Int) from by unfold wrap64; omega]; rfl
  | d + 1, i, e, k, hd, hk => by
    have hw : wrap64 ((i : Int) + 1) = ((i + 1 : Nat) : Int) := by unfold wrap64; omega
    have hi := h i (by omega)
    have hj' := h j hj
    obtain ⟨k, rfl⟩ : ∃ m, k = m + 1 := ⟨k - 1, by omega⟩
    simp only [spec_l01On.l1, loopRow]
    rw [if_pos (by omega), if_pos (by omega), if_pos (by omega), if_pos (by omega), if_pos (by omega), joined_ge (by omega) n e0 hi.1 hi.2 hj'.1 hj'.2 (hne i j (by omega) hj), hw, show k + 1 - (d + 1 + 1) = k - (d + 1) from by omega]
    simp only [Option.bind_some]
    by_cases hb : hasI e0 (rd l i) (rd l j) = true
    rotate_left
    · rw [if_neg hb, if_neg hb]
      exact onS_row n e0 h5 h hne hj N d (i + 1) e k (by omega) (by omega)
    · rw [if_pos hb, if_pos hb, l01Bit_ge (by omega) (by omega) (by omega) (by omega) (by omega)]
      simp only [Option.bind_some]
      exact onS_row n e0 h5 h hne hj N d (i + 1) _ k (by omega) (by omega)
theorem onS_all {l : List Int} (n e0 : Int) (h5 : l.length ≤ 5) (h : ∀ i : Nat, i < l.length → 0 ≤ rd l i ∧ rd l i ≤ 4) (hne : ∀ i j : Nat, i < j → j < l.length → rd l i ≠ rd l j) :
    ∀ (d j : Nat) (e : Int) (k : Nat), j + d = l.length → 7 * d + 3 ≤ k → spec_l01On.l0 k l j n e0 (l.length : Int) e = some ((l.length : Int), loopMade (fun i j => hasI e0 (rd l i) (rd l j)) d j e)
  | 0, j, e, k, hd, hk => by
    obtain ⟨k, rfl⟩ : ∃ m, k = m + 1 := ⟨k - 1, by omega⟩
    simp only [spec_l01On.l0, loopMade]
    rw [if_neg (by omega)]
  | d + 1, j, e, k, hd, hk => by
    obtain ⟨k, rfl⟩ : ∃ m, k = m + 1 := ⟨k - 1, by omega⟩
    simp only [spec_l01On.l0, loopMade]
    rw [if_pos (by omega)]
    have := onS_row n e0 h5 h hne (show j < l.length by omega) (l.length : Int) j 0 e k (by omega) (by omega)
    rw [show ((0 : Nat) : Int) = 0 from rfl] at this
    rw [this]
    exact onS_all n e0 h5 h hne d (j + 1) _ (k - (j + 1)) (by omega) (by omega)
theorem onS_eq (n e : Int) {l : List Int} (h5 : l.length ≤ 5) (h : ∀ i : Nat, i < l.length → 0 ≤ rd l i ∧ rd l i ≤ 4) (hne : ∀ i j : Nat, i < j → j < l.length → rd l i ≠ rd l j) (k : Nat) (hk : 40 ≤ k) :
    spec_l01On.f k n e l = some ((l.length : Int), onI e l) := by
  unfold spec_l01On.f onI madeI
  cases hl : l.length with
  | zero =>
    obtain ⟨k, rfl⟩ : ∃ m, k = m + 1 := ⟨k - 1, by omega⟩
    simp [spec_l01On.l0, loopMade]
  | succ m =>
    have := onS_all n e h5 h hne m 1 0 k (by omega) (by omega)
    rw [hl] at this
    rw [show ((1 : Nat) : Int) = 1 from rfl] at this
    rw [this]
    simp [loopMade, loopRow]

end Go.Proofs.Ytjemkdpffjneaaa.Q
end

section
namespace Go.Proofs.Ytjemkdpffjneaaa.Q
open Go.RowKit Go.Proofs.YtjemkdpffjneaaaW.PrintWords Go.Proofs.YtjemkdpffjneaaaW.PrintLast Go.Proofs.YtjemkdpffjneaaaW.PrintMore
attribute [local go_sem] max2_int min2_int max_two min_two max_three min_three max_four min_four   -- for this text's walks alone
set_option linter.unusedVariables false
set_option linter.unusedSimpArgs false

theorem onS_diff (n e : Int) {m : Int} (h0 : 0 ≤ m) (h5 : m ≤ 5) {l : List Int} (h : allDiff (wrap64 (m - 1)) l) (k : Nat) (hk : 40 ≤ k) : spec_l01On.f k n e l = some ((l.length : Int), onI e l) := by
  have hl := allDiff_len h0 h5 h
  have hat : ∀ i : Nat, (hi : i < l.length) → 0 ≤ l[i] ∧ l[i] < m := fun i hi => hl.2 _ (List.getElem_mem hi)
  refine onS_eq n e (by omega) (fun i hi => ?_) (fun i j hij hj => ?_) k hk
  · rw [rd_of_lt l hi]; have := hat i hi; omega
  · rw [rd_of_lt l hj, rd_of_lt l (by omega)]
    exact List.pairwise_iff_getElem.1 h.1 i j (by omega) hj hij
theorem okList_diff {m : Int} (h0 : 0 ≤ m) (h5 : m ≤ 5) {l : List Int} (h : allDiff (wrap64 (m - 1)) l) : okList l := by
  have hl := allDiff_len h0 h5 h
  exact ⟨by omega, fun x hx => by have := hl.2 x hx; omega⟩

end Go.Proofs.Ytjemkdpffjneaaa.Q
end

section
namespace Go.Proofs.Ytjemkdpffjneaaa.Q
open Go.RowKit Go.Proofs.YtjemkdpffjneaaaW.PrintWords Go.Proofs.YtjemkdpffjneaaaW.PrintLast Go.Proofs.YtjemkdpffjneaaaW.PrintMore
attribute [local go_sem] max2_int min2_int max_two min_two max_three min_three max_four min_four   -- for this text's walks alone
set_option linter.unusedVariables false
set_option linter.unusedSimpArgs false

def leastE (e : Int) (L : List (List Int)) (best : Int) : Int := L.foldl (fun b l => if onI e l < b then onI e l else b) best
end Go.Proofs.Ytjemkdpffjneaaa.Q
end

section
namespace Go.Proofs.Ytjemkdpffjneaaa.Q
open Go.RowKit Go.Proofs.YtjemkdpffjneaaaW.PrintWords Go.Proofs.YtjemkdpffjneaaaW.PrintLast Go.Proofs.YtjemkdpffjneaaaW.PrintMore
attribute [local go_sem] max2_int min2_int max_two min_two max_three min_three max_four min_four   -- for this text's walks alone
set_option linter.unusedVariables false
set_option linter.unusedSimpArgs false

theorem mem_leavesIn {g : List Int → List (List Int)} {l x : List Int} : ∀ (d i0 i : Nat), i0 ≤ i → i < i0 + d → (i : Int) ∉ l → x ∈ g (l ++ [(i : Int)]) → x ∈ leavesIn g l d i0
  | 0, i0, i, h1, h2, _, _ => by omega
  | d + 1, i0, i, h1, h2, hn, hx => by
    rw [leavesIn]
    rcases Nat.eq_or_lt_of_le h1 with rfl | h1
    · rw [if_neg hn]; exact List.mem_append_left _ hx
    · have := mem_leavesIn d (i0 + 1) i (by omega) (by omega) hn hx
      by_cases h : (i0 : Int) ∈ l
      · rw [if_pos h]; exact this
      · rw [if_neg h]; exact List.mem_append_right _ this
theorem mem_leaves (n : Nat) : ∀ (r : Nat) (pre t : List Int), t.length = r → (pre ++ t).Nodup → (∀ x ∈ t, 0 ≤ x ∧ x < n) → pre ++ t ∈ leaves n r pre
  | 0, pre, t, hl, _, _ => by
    obtain rfl := List.eq_nil_of_length_eq_zero hl
    rw [leaves, List.append_nil]; exact List.mem_singleton.2 rfl
  | r + 1, pre, t, hl, hd, hr => by
    cases t with
    | nil => simp at hl
    | cons x t =>
      have hx := hr x (List.mem_cons_self)
      have hxp : x ∉ pre := fun h => by
        rw [List.nodup_append] at hd
        exact hd.2.2 x h x (List.mem_cons_self) rfl
      rw [leaves]
      refine mem_leavesIn n 0 x.toNat (Nat.zero_le _) (by omega) (by rw [Int.toNat_of_nonneg hx.1]; exact hxp) ?_
      rw [Int.toNat_of_nonneg hx.1, show pre ++ x :: t = (pre ++ [x]) ++ t from by simp]
      exact mem_leaves n r (pre ++ [x]) t (by simpa using hl) (by simpa using hd) fun y hy => hr y (List.mem_cons_of_mem _ hy)
theorem leaves_take : ∀ n, n < 6 → ∀ s, s < n + 1 → ∀ l ∈ leaves n (n - s) (firstI s), l.take s = firstI s := by decide +kernel
theorem mem_orders (n s : Nat) (hs : s < n + 1) {l : List Int} (h : isOrd n l) (ht : l.take s = firstI s) : l ∈ leaves n (n - s) (firstI s) := by
  have e : firstI s ++ l.drop s = l := by rw [← ht]; exact List.take_append_drop s l
  have := mem_leaves n (n - s) (firstI s) (l.drop s) (by rw [List.length_drop, h.1]) (by rw [e]; exact h.2.1) (fun x hx => by have := h.2.2 x (List.mem_of_mem_drop hx); omega)
  rwa [e] at this
theorem map_firstI (l : List Int) : ∀ s, s ≤ l.length → (firstI s).map (fun x => rd l x) = l.take s
  | 0, _ => rfl
  | s + 1, h => by
    rw [firstI, List.map_append, map_firstI l s (by omega), List.take_succ_eq_append_getElem (by omega)]
    show _ ++ [rd l s] = _
    rw [rd_of_lt l (by omega)]
theorem comp_mem (n s : Nat) (hn : n < 6) (hs : s < n + 1) {l p : List Int} (hl : l ∈ leaves n (n - s) (firstI s)) (hp : p ∈ leaves n (n - s) (firstI s)) : comp l p ∈ leaves n (n - s) (firstI s) := by
  have ol : isOrd n l := leaves_ok_s n hn s hs l hl
  have op : isOrd n p := leaves_ok_s n hn s hs p hp
  refine mem_orders n s hs (ol.comp op) ?_
  unfold comp
  rw [← List.map_take, leaves_take n hn s hs p hp, map_firstI l s (by rw [ol.1]; omega), leaves_take n hn s hs l hl]
theorem orders_inv : ∀ n, n < 6 → ∀ s, s < n + 1 → ∀ l ∈ leaves n (n - s) (firstI s), ∃ p ∈ leaves n (n - s) (firstI s), comp l p = firstI n := by decide +kernel
theorem first_mem : ∀ n, n < 6 → ∀ s, s < n + 1 → firstI n ∈ leaves n (n - s) (firstI s) := by decide +kernel
theorem onI_first : ∀ n, n < 6 → ∀ b : Nat, b < 2 ^ prs n → onI (b : Nat) (firstI n) = (b : Nat) := by decide +kernel
theorem leastE_le (e : Int) : ∀ (L : List (List Int)) (best : Int), leastE e L best ≤ best ∧ ∀ l ∈ L, leastE e L best ≤ onI e l
  | [], best => ⟨Int.le_refl _, fun l hl => by cases hl⟩
  | x :: L, best => by
    have ih := leastE_le e L (if onI e x < best then onI e x else best)
    show leastE e L _ ≤ best ∧ ∀ l ∈ x :: L, leastE e L _ ≤ onI e l
    have h1 : (if onI e x < best then onI e x else best) ≤ best ∧ (if onI e x < best then onI e x else best) ≤ onI e x := by split <;> omega
    refine ⟨Int.le_trans ih.1 h1.1, fun l hl => ?_⟩
    rcases List.mem_cons.1 hl with rfl | hl
    · exact Int.le_trans ih.1 h1.2
    · exact ih.2 l hl
theorem leastE_mem (e : Int) : ∀ (L : List (List Int)) (best : Int), leastE e L best = best ∨ ∃ l ∈ L, leastE e L best = onI e l
  | [], best => Or.inl rfl
  | x :: L, best => by
    have ih := leastE_mem e L (if onI e x < best then onI e x else best)
    show leastE e L _ = best ∨ ∃ l ∈ x :: L, leastE e L _ = onI e l
    rcases ih with ih | ⟨l, hl, ih⟩
    · rw [ih]
      split
      · exact Or.inr ⟨x, List.mem_cons_self, rfl⟩
      · exact Or.inl rfl
    · exact Or.inr ⟨l, List.mem_cons_of_mem _ hl, ih⟩
/-- Two graphs have one least graph just if an order turns the one into the other. -/
theorem alike_iff (n s : Nat) (hn : n < 6) (hs : s < n + 1) (e h : Nat) (he : e < 2 ^ prs n) (hh : h < 2 ^ prs n) :
    (∃ l ∈ leaves n (n - s) (firstI s), onI e l = h) ↔ leastE e (leaves n (n - s) (firstI s)) e = leastE h (leaves n (n - s) (firstI s)) h := by
  have ord : ∀ l ∈ leaves n (n - s) (firstI s), isOrd n l := fun l hl => leaves_ok_s n hn s hs l hl
  have inv := orders_inv n hn s hs
  have cm : ∀ {l p : List Int}, l ∈ leaves n (n - s) (firstI s) → p ∈ leaves n (n - s) (firstI s) → comp l p ∈ leaves n (n - s) (firstI s) := fun hl hp => comp_mem n s hn hs hl hp
  have fm := first_mem n hn s hs
  generalize leaves n (n - s) (firstI s) = L at *
  have at_ : ∀ g : Nat, g < 2 ^ prs n → ∃ l ∈ L, leastE g L g = onI g l := fun g hg => by
    rcases leastE_mem g L g with h1 | h1
    · exact ⟨firstI n, fm, by rw [h1, onI_first n hn g hg]⟩
    · exact h1
  have le_ : ∀ (g k : Nat) {l : List Int}, g < 2 ^ prs n → k < 2 ^ prs n → l ∈ L → onI g l = k → leastE g L g ≤ leastE k L k := fun g k l hg hk hl e1 => by
    obtain ⟨p, hp, e2⟩ := at_ k hk
    rw [e2, ← e1, onI_comp n hn g (ord l hl) (ord p hp)]
    exact (leastE_le g L g).2 _ (cm hl hp)
  constructor
  · rintro ⟨l, hl, e1⟩
    obtain ⟨p, hp, e2⟩ := inv l hl
    have back : onI h p = e := by rw [← e1, onI_comp n hn e (ord l hl) (ord p hp), e2, onI_first n hn e he]
    exact Int.le_antisymm (le_ e h he hh hl e1) (le_ h e hh he hp back)
  · intro e0
    obtain ⟨l, hl, e1⟩ := at_ e he
    obtain ⟨q, hq, e2⟩ := at_ h hh
    obtain ⟨p, hp, e3⟩ := inv q hq
    refine ⟨comp l p, cm hl hp, ?_⟩
    rw [← onI_comp n hn e (ord l hl) (ord p hp), ← e1, e0, e2, onI_comp n hn h (ord q hq) (ord p hp), e3, onI_first n hn h hh]

end Go.Proofs.Ytjemkdpffjneaaa.Q
end

section
namespace Go.Proofs.Ytjemkdpffjneaaa.Q
open Go.RowKit Go.Proofs.YtjemkdpffjneaaaW.PrintWords Go.Proofs.YtjemkdpffjneaaaW.PrintLast Go.Proofs.YtjemkdpffjneaaaW.PrintMore
attribute [local go_sem] max2_int min2_int max_two min_two max_three min_three max_four min_four   -- for this text's walks alone
set_option linter.unusedVariables false
set_option linter.unusedSimpArgs false

def cntB (b : Nat) : Int := (((List.range 10).countP fun q => b.testBit q : Nat) : Int)
theorem ones_eq : ∀ b : Nat, b < 1024 → bits_OnesCount32.f (b : Int) = some (cntB b) := by decide +kernel
def pairsL (n : Nat) : List (Nat × Nat) := (List.range n).flatMap fun j => (List.range j).map fun i => (i, j)
theorem pairsL_bits : ∀ n, n < 6 → (pairsL n).map (fun p => bitIx p.1 p.2) = List.range (prs n) := by decide
theorem pairsL_lt : ∀ n, n < 6 → ∀ p ∈ pairsL n, p.1 < p.2 ∧ p.2 < n := by decide
theorem pairsL_perm : ∀ n, n < 6 → ∀ l ∈ leaves n n [], ((pairsL n).map fun p => bitIx (rd l p.1).toNat (rd l p.2).toNat).isPerm (List.range (prs n)) = true := by decide +kernel
theorem cnt_short : ∀ n, n < 6 → ∀ b : Nat, b < 2 ^ prs n → (List.range 10).countP (fun q => b.testBit q) = (List.range (prs n)).countP (fun q => b.testBit q) := by decide +kernel
theorem cnt_on (n : Nat) (hn : n < 6) (e h : Nat) (he : e < 2 ^ prs n) {l : List Int} (hl : l ∈ leaves n n []) (eh : onI e l = h) : cntB h = cntB e := by
  have ol : isOrd n l := leaves_ok n hn n (by omega) l hl
  obtain ⟨b, hb, e1, h1⟩ := onI_nat n hn e ol
  obtain rfl : b = h := by rw [eh] at e1; omega
  unfold cntB
  have he' : e < 1024 := Nat.lt_of_lt_of_le he (prs_le n hn)
  have hb' : b < 1024 := Nat.lt_of_lt_of_le hb (prs_le n hn)
  rw [cnt_short n hn b hb, cnt_short n hn e he]
  have hp := List.isPerm_iff.1 (pairsL_perm n hn l hl)
  rw [← hp.countP_eq (fun q => e.testBit q), ← pairsL_bits n hn, List.countP_map, List.countP_map]
  congr 1
  refine List.countP_congr fun p hp => ?_
  obtain ⟨p1, p2⟩ := pairsL_lt n hn p hp
  obtain ⟨x, hx, ex⟩ := ol.at p.1 (by omega)
  obtain ⟨y, hy, ey⟩ := ol.at p.2 (by omega)
  have hne := ol.ne (show p.1 ≠ p.2 by omega) (by omega) (by omega)
  have := h1 p.1 p.2 (by omega) (by omega) (by omega)
  rw [ex, ey] at hne this
  rw [hasI_bit b hb' _ (by omega) _ (by omega) (by omega), hasI_bit e he' _ (by omega) _ (by omega) (by omega)] at this
  simp only [Function.comp, ex, ey, Int.toNat_natCast, this]

end Go.Proofs.Ytjemkdpffjneaaa.Q
end

section
namespace Go.Proofs.Ytjemkdpffjneaaa.Q
open Go.RowKit Go.Proofs.YtjemkdpffjneaaaW.PrintWords Go.Proofs.YtjemkdpffjneaaaW.PrintLast Go.Proofs.YtjemkdpffjneaaaW.PrintMore
attribute [local go_sem] max2_int min2_int max_two min_two max_three min_three max_four min_four   -- for this text's walks alone
set_option linter.unusedVariables false
set_option linter.unusedSimpArgs false

theorem leaves_sub : ∀ n, n < 6 → ∀ s, s < n + 1 → ∀ l ∈ leaves n (n - s) (firstI s), l ∈ leaves n n [] := by
  intro n hn s hs l hl
  have h := leaves_ok_s n hn s hs l hl
  have := mem_orders n 0 (by omega) (l := l) h (by simp [firstI])
  simpa [firstI] using this
/-- Whether the program finds two graphs alike, the first s vertices fixed. -/
theorem alike_eq (n s : Nat) (hn : n < 6) (hs : s < n + 1) (e h : Nat) (he : e < 2 ^ prs n) (hh : h < 2 ^ prs n) : impl_Graph_alike.f n e n h s = some (leastE e (leaves n (n - s) (firstI s)) e == leastE h (leaves n (n - s) (firstI s)) h) := by
  have he' : e < 1024 := Nat.lt_of_lt_of_le he (prs_le n hn)
  have hh' : h < 1024 := Nat.lt_of_lt_of_le hh (prs_le n hn)
  have iff_ := alike_iff n s hn hs e h he hh
  unfold impl_Graph_alike.f
  rw [if_pos rfl, ones_eq e he', ones_eq h hh']
  simp only [Option.bind_some]
  by_cases hc : cntB e = cntB h
  · rw [if_pos hc]
    unfold impl_Graph_orders.f
    rw [if_pos (by omega), lstd_eq, show ((n : Int) - (s : Int)).toNat = n - s from by omega, Int.toNat_natCast, Int.toNat_natCast]
    rw [runCb_any _ (fun l => decide (onI e l = h))]
    · simp only [Option.map_some, Option.bind_some]
      congr 1
      rw [Bool.eq_iff_iff, List.any_eq_true, beq_iff_eq, ← iff_]
      simp only [decide_eq_true_eq]
    · intro l hl
      have ol := leaves_ok_s n hn s hs l hl
      unfold impl_Graph_alike_1.f
      rw [impl_onT.eq n e (okList_diff (m := n) (by omega) (by omega) (by rw [show wrap64 ((n : Int) - 1) = (n : Int) - 1 from by unfold wrap64; omega]; exact ol.2))]
      simp only [Option.bind_some, ol.1]
      congr 1
      rw [Bool.eq_iff_iff]; simp
  · rw [if_neg hc]
    congr 1
    symm
    rw [beq_eq_false_iff_ne]
    intro e0
    obtain ⟨l, hl, e1⟩ := iff_.2 e0
    exact hc (cnt_on n hn e h he (leaves_sub n hn s hs l hl) e1).symm

end Go.Proofs.Ytjemkdpffjneaaa.Q
end

section
namespace Go.Proofs.Ytjemkdpffjneaaa.Q
open Go.RowKit Go.Proofs.YtjemkdpffjneaaaW.PrintWords Go.Proofs.YtjemkdpffjneaaaW.PrintLast Go.Proofs.YtjemkdpffjneaaaW.PrintMore
attribute [local go_sem] max2_int min2_int max_two min_two max_three min_three max_four min_four   -- for this text's walks alone
set_option linter.unusedVariables false
set_option linter.unusedSimpArgs false

def idxI {α : Type} (p : α → Bool) : List α → Nat → Int
  | [], _ => -1
  | x :: xs, i => if p x = true then (i : Int) else idxI p xs (i + 1)
theorem idxI_any {α : Type} (p : α → Bool) : ∀ (L : List α) (i : Nat), decide (idxI p L i ≥ 0) = L.any p
  | [], _ => by simp [idxI]
  | x :: xs, i => by
    rw [idxI, List.any_cons]
    by_cases h : p x = true
    · rw [if_pos h, h]; simp
    · rw [if_neg h, idxI_any p xs (i + 1)]; simp [Bool.eq_false_iff.2 h]

end Go.Proofs.Ytjemkdpffjneaaa.Q
end

section
namespace Go.Proofs.Ytjemkdpffjneaaa.Q
open Go.RowKit Go.Proofs.YtjemkdpffjneaaaW.PrintWords Go.Proofs.YtjemkdpffjneaaaW.PrintLast Go.Proofs.YtjemkdpffjneaaaW.PrintMore
attribute [local go_sem] max2_int min2_int max_two min_two max_three min_three max_four min_four   -- for this text's walks alone
set_option linter.unusedVariables false
set_option linter.unusedSimpArgs false

theorem idxFlag_loop (cb : Int → Int → Int → Option Bool) (p : S35 → Bool) (L : List S35) (hL : L.length ≤ 1048576) (hcb : ∀ x ∈ L, cb x.f0 x.f1.f0 x.f1.f1 = some (p x)) : ∀ (d i k : Nat), i + d = L.length → d + 1 ≤ k → impl_Flag_92.l0 cb k L (L.length : Int) i = some (idxI p (L.drop i) i)
  | 0, i, k, hd, hk => by
    obtain ⟨k, rfl⟩ : ∃ q, k = q + 1 := ⟨k - 1, by omega⟩
    rw [impl_Flag_92.l0, if_neg (by omega), List.drop_eq_nil_of_le (by omega)]; rfl
  | d + 1, i, k, hd, hk => by
    obtain ⟨k, rfl⟩ : ∃ q, k = q + 1 := ⟨k - 1, by omega⟩
    have hi : i < L.length := by omega
    have hr : rd_T35 L (i : Int) = L[i] := by unfold rd_T35; exact getD_of_lt L _ hi
    rw [impl_Flag_92.l0]
    simp only [hr]
    rw [if_pos (by omega), if_pos (by omega), if_pos (by omega), hcb _ (List.getElem_mem hi), w64_succ (by omega), List.drop_eq_getElem_cons hi, idxI]
    simp only [Option.bind_some]
    split
    · rfl
    · exact idxFlag_loop cb p L hL hcb d (i + 1) k (by omega) (by omega)
theorem idxFlag_eq (cb : Int → Int → Int → Option Bool) (p : S35 → Bool) (L : List S35) (hL : L.length ≤ 1048576) (hcb : ∀ x ∈ L, cb x.f0 x.f1.f0 x.f1.f1 = some (p x)) (k : Nat) (hk : L.length + 1 ≤ k) : impl_Flag_92.f cb k L = some (idxI p L 0) := by
  unfold impl_Flag_92.f
  have := idxFlag_loop cb p L hL hcb L.length 0 k (Nat.zero_add _) hk
  rw [show ((0 : Nat) : Int) = 0 from rfl, List.drop_zero] at this
  exact this
theorem anyFlag_eq (cb : Int → Int → Int → Option Bool) (p : S35 → Bool) (L : List S35) (hL : L.length ≤ 1048576) (hcb : ∀ x ∈ L, cb x.f0 x.f1.f0 x.f1.f1 = some (p x)) (k : Nat) (hk : L.length + 1 ≤ k) : impl_Flag_91.f cb k L = some (L.any p) := by
  unfold impl_Flag_91.f
  rw [idxFlag_eq cb p L hL hcb k hk]
  simp only [Option.bind_some, idxI_any]

end Go.Proofs.Ytjemkdpffjneaaa.Q
end

section
namespace Go.Proofs.Ytjemkdpffjneaaa.Q
open Go.RowKit Go.Proofs.YtjemkdpffjneaaaW.PrintWords Go.Proofs.YtjemkdpffjneaaaW.PrintLast Go.Proofs.YtjemkdpffjneaaaW.PrintMore
attribute [local go_sem] max2_int min2_int max_two min_two max_three min_three max_four min_four   -- for this text's walks alone
set_option linter.unusedVariables false
set_option linter.unusedSimpArgs false

theorem in_eq (a b c : Int) : impl_in.f a b c = some (decide (b ≤ a ∧ a ≤ c)) := by
  unfold impl_in.f
  by_cases h : a ≥ b
  · rw [if_pos h]; congr 1; rw [decide_eq_decide]; omega
  · rw [if_neg h]; congr 1; symm; rw [decide_eq_false_iff_not]; omega

end Go.Proofs.Ytjemkdpffjneaaa.Q
end

section
namespace Go.Proofs.Ytjemkdpffjneaaa.Q
open Go.RowKit Go.Proofs.YtjemkdpffjneaaaW.PrintWords Go.Proofs.YtjemkdpffjneaaaW.PrintLast Go.Proofs.YtjemkdpffjneaaaW.PrintMore
attribute [local go_sem] max2_int min2_int max_two min_two max_three min_three max_four min_four   -- for this text's walks alone
set_option linter.unusedVariables false
set_option linter.unusedSimpArgs false

def validG (n e : Int) : Bool := decide (0 ≤ n ∧ n ≤ 5 ∧ e < 2 ^ (n.toNat * (n.toNat - 1) / 2))
theorem l01Ok_eq (n e : Int) (h0 : 0 ≤ e) (h1 : e ≤ 4294967295) : spec_l01Ok.f n e = some (validG n e) := by
  have hw : wrap64 e = e := by unfold wrap64; omega
  unfold spec_l01Ok.f validG
  rw [l00In_eq, hw]; simp only [Option.bind_some]
  by_cases h : 0 ≤ n ∧ n ≤ 5
  · rw [if_pos (by simpa using h)]
    obtain ⟨ha, hb⟩ := h
    rcases small5 ha hb with rfl | rfl | rfl | rfl | rfl | rfl
    all_goals
      simp only [spec_l01Bits.f]
      simp [wrap64, IntKind.wrap_u64, shl, IntKind.wrap_i64, IntKind.bits]
  · rw [if_neg (by simpa using h)]; congr 1; symm; rw [decide_eq_false_iff_not]; omega

end Go.Proofs.Ytjemkdpffjneaaa.Q
end

section
namespace Go.Proofs.Ytjemkdpffjneaaa.Q
open Go.RowKit Go.Proofs.YtjemkdpffjneaaaW.PrintWords Go.Proofs.YtjemkdpffjneaaaW.PrintLast Go.Proofs.YtjemkdpffjneaaaW.PrintMore
attribute [local go_sem] max2_int min2_int max_two min_two max_three min_three max_four min_four   -- for this text's walks alone
set_option linter.unusedVariables false
set_option linter.unusedSimpArgs false

theorem ValidGraph_eq (n e : Int) (h0 : 0 ≤ e) (h1 : e ≤ 4294967295) : impl_ValidGraph.f n e = some (validG n e) := by
  unfold impl_ValidGraph.f validG
  rw [in_eq]; simp only [Option.bind_some]
  by_cases h : 0 ≤ n ∧ n ≤ 5
  · rw [if_pos (by simpa using h)]
    obtain ⟨ha, hb⟩ := h
    rcases small5 ha hb with rfl | rfl | rfl | rfl | rfl | rfl
    all_goals
      simp only [impl_pairs.f]
      simp [wrap64, shr, IntKind.bits]
    all_goals (first | done | (rw [Bool.eq_iff_iff]; simp; omega))
  · rw [if_neg (by simpa using h)]; congr 1; symm; rw [decide_eq_false_iff_not]; omega

end Go.Proofs.Ytjemkdpffjneaaa.Q
end

section
namespace Go.Proofs.Ytjemkdpffjneaaa.Q
open Go.RowKit Go.Proofs.YtjemkdpffjneaaaW.PrintWords Go.Proofs.YtjemkdpffjneaaaW.PrintLast Go.Proofs.YtjemkdpffjneaaaW.PrintMore
attribute [local go_sem] max2_int min2_int max_two min_two max_three min_three max_four min_four   -- for this text's walks alone
set_option linter.unusedVariables false
set_option linter.unusedSimpArgs false

def validF (l n e : Int) : Bool := validG n e && decide (0 ≤ l ∧ l ≤ 3 ∧ l ≤ n)
theorem l03Ok_eq (l n e : Int) (h0 : 0 ≤ e) (h1 : e ≤ 4294967295) : spec_l03Ok.f l n e = some (validF l n e) := by
  unfold spec_l03Ok.f validF
  rw [l01Ok_eq n e h0 h1, l00In_eq]; simp only [Option.bind_some]
  cases validG n e
  · rfl
  · by_cases h : 0 ≤ l ∧ l ≤ 3
    · rw [if_pos rfl, if_pos (by simpa using h)]; simp [h]
    · rw [if_pos rfl, if_neg (by simpa using h)]; congr 1; simp; omega

end Go.Proofs.Ytjemkdpffjneaaa.Q
end

section
namespace Go.Proofs.Ytjemkdpffjneaaa.Q
open Go.RowKit Go.Proofs.YtjemkdpffjneaaaW.PrintWords Go.Proofs.YtjemkdpffjneaaaW.PrintLast Go.Proofs.YtjemkdpffjneaaaW.PrintMore
attribute [local go_sem] max2_int min2_int max_two min_two max_three min_three max_four min_four   -- for this text's walks alone
set_option linter.unusedVariables false
set_option linter.unusedSimpArgs false

theorem ValidFlag_eq (l n e : Int) (h0 : 0 ≤ e) (h1 : e ≤ 4294967295) : impl_ValidFlag.f l n e = some (validF l n e) := by
  unfold impl_ValidFlag.f validF
  rw [ValidGraph_eq n e h0 h1, in_eq]; simp only [Option.bind_some]
  cases validG n e
  · rfl
  · by_cases h : 0 ≤ l ∧ l ≤ 3
    · rw [if_pos rfl, if_pos (by simpa using h)]; simp [h]
    · rw [if_pos rfl, if_neg (by simpa using h)]; congr 1; simp; omega

end Go.Proofs.Ytjemkdpffjneaaa.Q
end

section
namespace Go.Proofs.Ytjemkdpffjneaaa.Q
open Go.RowKit Go.Proofs.YtjemkdpffjneaaaW.PrintWords Go.Proofs.YtjemkdpffjneaaaW.PrintLast Go.Proofs.YtjemkdpffjneaaaW.PrintMore
attribute [local go_sem] max2_int min2_int max_two min_two max_three min_three max_four min_four   -- for this text's walks alone
set_option linter.unusedVariables false
set_option linter.unusedSimpArgs false

theorem least3_loop (n s : Nat) (hn : n < 6) (hs : s < n + 1) (e : Int) : ∀ (ls : List (List Int)) (x : List Int) (k : Nat) (best : Int), isChain ((n - s : Nat) : Int) (x :: ls) = true → (∀ l ∈ x :: ls, (l.length ≤ 5 ∧ ∀ y ∈ l, 0 ≤ y ∧ y ≤ 5) ∧ (shiftL s l).length = n ∧ allDiff ((n : Int) - 1) (shiftL s l)) → ls.length + 200 ≤ k →
    spec_l03Least.l0 k x true s n e s n best = some ((s : Int), (n : Int), leastE e ((x :: ls).map (shiftL s)) best)
  | [], x, k, best, hc, hd, hk => by
    obtain ⟨k, rfl⟩ : ∃ q, k = q + 2 := ⟨k - 2, by omega⟩
    obtain ⟨y, hy⟩ := chain_one hc
    obtain ⟨⟨hx1, hx2⟩, hx3, hx4⟩ := hd x (List.mem_cons_self)
    rw [spec_l03Least.l0, if_pos rfl, l03Order_eq s (by omega) x hx1 hx2 _ (by omega)]
    simp only [Option.bind_some]
    rw [onS_diff (m := n) n e (by omega) (by omega) (by rw [show wrap64 ((n : Int) - 1) = (n : Int) - 1 from by unfold wrap64; omega]; exact hx4) _ (by omega), show wrap64 ((n : Int) - (s : Int)) = ((n - s : Nat) : Int) from by unfold wrap64; omega]
    simp only [Option.bind_some, leastE, List.map_cons, List.map_nil, List.foldl_cons, List.foldl_nil, hx3]
    by_cases hb : onI e (shiftL s x) < best
    · rw [if_pos hb, if_pos hb, hy _ (by omega)]
      simp only [Option.bind_some]
      rw [spec_l03Least.l0, if_neg (by simp)]
    · rw [if_neg hb, if_neg hb, hy _ (by omega)]
      simp only [Option.bind_some]
      rw [spec_l03Least.l0, if_neg (by simp)]
  | z :: ls, x, k, best, hc, hd, hk => by
    obtain ⟨k, rfl⟩ : ∃ q, k = q + 1 := ⟨k - 1, by omega⟩
    obtain ⟨h1, h2⟩ := chain_cons hc
    obtain ⟨⟨hx1, hx2⟩, hx3, hx4⟩ := hd x (List.mem_cons_self)
    have hl : (z :: ls).length = ls.length + 1 := rfl
    rw [spec_l03Least.l0, if_pos rfl, l03Order_eq s (by omega) x hx1 hx2 _ (by omega)]
    simp only [Option.bind_some]
    rw [onS_diff (m := n) n e (by omega) (by omega) (by rw [show wrap64 ((n : Int) - 1) = (n : Int) - 1 from by unfold wrap64; omega]; exact hx4) _ (by omega), show wrap64 ((n : Int) - (s : Int)) = ((n - s : Nat) : Int) from by unfold wrap64; omega]
    have ih := fun best => least3_loop n s hn hs e ls z k best h2 (fun l hl => hd l (List.mem_cons_of_mem _ hl)) (by omega)
    simp only [Option.bind_some, leastE, hx3]
    rw [List.map_cons, List.foldl_cons]
    by_cases hb : onI e (shiftL s x) < best
    · rw [if_pos hb, if_pos hb, h1 _ (by omega)]
      exact ih _
    · rw [if_neg hb, if_neg hb, h1 _ (by omega)]
      exact ih _
theorem l03Least_eq (n s : Nat) (hn : n < 6) (hs : s < n + 1) (e : Int) (k : Nat) (hk : 1000 ≤ k) : spec_l03Least.f k s n e = some ((s : Int), (n : Int), leastE e (leaves n (n - s) (firstI s)) e) := by
  unfold spec_l03Least.f
  rw [show wrap64 ((n : Int) - (s : Int)) = ((n - s : Nat) : Int) from by unfold wrap64; omega, firstS_eq ((n - s : Nat) : Int) (by omega) (by omega) k (by omega), leaves_shift n hn s hs]
  simp only [Option.bind_some, Int.toNat_natCast]
  obtain ⟨hh, hc⟩ := chains (n - s) (by omega) (n - s) (by omega)
  have hd := own_ok n s hn hs
  have hlen := leaves_short (n - s) (by omega) (n - s) (by omega)
  revert hh hc hd hlen
  generalize leaves (n - s) (n - s) [] = L
  intro hh hc hd hlen
  cases L with
  | nil => simp at hh
  | cons x ls =>
    obtain rfl : x = firstI (n - s) := by simpa using hh
    exact least3_loop n s hn hs e ls _ k e hc hd (by simp only [List.length_cons] at hlen; omega)

end Go.Proofs.Ytjemkdpffjneaaa.Q
end

section
namespace Go.Proofs.Ytjemkdpffjneaaa.Q
open Go.RowKit Go.Proofs.YtjemkdpffjneaaaW.PrintWords Go.Proofs.YtjemkdpffjneaaaW.PrintLast Go.Proofs.YtjemkdpffjneaaaW.PrintMore
attribute [local go_sem] max2_int min2_int max_two min_two max_three min_three max_four min_four   -- for this text's walks alone
set_option linter.unusedVariables false
set_option linter.unusedSimpArgs false

theorem validG_nat {n e : Int} (h0 : 0 ≤ e) (h : validG n e = true) : ∃ (m f : Nat), n = m ∧ e = f ∧ m < 6 ∧ f < 2 ^ prs m := by
  simp only [validG, decide_eq_true_eq] at h
  refine ⟨n.toNat, e.toNat, by omega, by omega, by omega, ?_⟩
  have := h.2.2
  unfold prs
  have h2 : ((e.toNat : Nat) : Int) < ((2 ^ (n.toNat * (n.toNat - 1) / 2) : Nat) : Int) := by rw [Int.toNat_of_nonneg h0]; exact_mod_cast this
  exact_mod_cast h2

end Go.Proofs.Ytjemkdpffjneaaa.Q
end

section
namespace Go.Proofs.Ytjemkdpffjneaaa.Q
open Go.RowKit Go.Proofs.YtjemkdpffjneaaaW.PrintWords Go.Proofs.YtjemkdpffjneaaaW.PrintLast Go.Proofs.YtjemkdpffjneaaaW.PrintMore
attribute [local go_sem] max2_int min2_int max_two min_two max_three min_three max_four min_four   -- for this text's walks alone
set_option linter.unusedVariables false
set_option linter.unusedSimpArgs false

theorem validF_nat {l n e : Int} (h0 : 0 ≤ e) (h : validF l n e = true) : ∃ (s m f : Nat), l = s ∧ n = m ∧ e = f ∧ m < 6 ∧ s < m + 1 ∧ f < 2 ^ prs m := by
  simp only [validF, Bool.and_eq_true, decide_eq_true_eq] at h
  obtain ⟨m, f, rfl, rfl, hm, hf⟩ := validG_nat h0 h.1
  exact ⟨l.toNat, m, f, by omega, rfl, rfl, hm, by omega, hf⟩

end Go.Proofs.Ytjemkdpffjneaaa.Q
end

section
namespace Go.Proofs.Ytjemkdpffjneaaa.Q
open Go.RowKit Go.Proofs.YtjemkdpffjneaaaW.PrintWords Go.Proofs.YtjemkdpffjneaaaW.PrintLast Go.Proofs.YtjemkdpffjneaaaW.PrintMore
attribute [local go_sem] max2_int min2_int max_two min_two max_three min_three max_four min_four   -- for this text's walks alone
set_option linter.unusedVariables false
set_option linter.unusedSimpArgs false

def toFl (x : S32) : S35 := ⟨x.f0, ⟨x.f1.f0, x.f1.f1⟩⟩
def toFls (l : List S32) : List S35 := l.map toFl
theorem toFlagS_loop (l : List S32) (hl : l.length ≤ 1048576) : ∀ (d i k : Nat) (out : List S35), i + d = l.length → out.length = l.length → d + 1 ≤ k → laws_toFlagS.l0 k l out i = some (out.take i ++ (l.drop i).map toFl)
  | 0, i, k, out, hd, ho, hk => by
    obtain ⟨k, rfl⟩ : ∃ q, k = q + 1 := ⟨k - 1, by omega⟩
    rw [laws_toFlagS.l0, if_neg (by omega), List.drop_eq_nil_of_le (by omega), List.take_of_length_le (by omega)]; simp
  | d + 1, i, k, out, hd, ho, hk => by
    obtain ⟨k, rfl⟩ : ∃ q, k = q + 1 := ⟨k - 1, by omega⟩
    rw [laws_toFlagS.l0, if_pos (by omega), if_pos (by omega), laws_toFlag.f]
    simp only [laws_toGraph.f, Option.bind_some]
    rw [if_pos (by omega), w64_succ (by omega), Int.toNat_natCast]
    rw [toFlagS_loop l hl d (i + 1) k _ (by omega) (by rw [List.length_set]; exact ho) (by omega), set_take _ _ (by omega), List.append_assoc]
    congr 2
    rw [List.drop_eq_getElem_cons (show i < l.length by omega), List.map_cons]
    show [_] ++ _ = _
    congr 1
    unfold rd_T32
    rw [getD_of_lt _ _ (by omega)]; rfl
theorem toFlagS_eq (l : List S32) (hl : l.length ≤ 1048576) (k : Nat) (hk : 1048577 ≤ k) : laws_toFlagS.f k l = some (toFls l) := by
  unfold laws_toFlagS.f
  rw [if_pos (by omega), if_pos (by omega)]
  have := toFlagS_loop l hl l.length 0 k (List.replicate ((l.length : Int) : Int).toNat z35) (by omega) (by simp) (by omega)
  rw [show ((0 : Nat) : Int) = 0 from rfl] at this
  rw [this]; simp [toFls]
theorem eqFlagS_loop (l : List S35) (hl : l.length ≤ 1048576) : ∀ (d i k : Nat), i + d = l.length → d + 1 ≤ k → laws_eqFlagS.l0 k l l i = some true
  | 0, i, k, hd, hk => by
    obtain ⟨k, rfl⟩ : ∃ q, k = q + 1 := ⟨k - 1, by omega⟩
    rw [laws_eqFlagS.l0, if_neg (by omega)]
  | d + 1, i, k, hd, hk => by
    obtain ⟨k, rfl⟩ : ∃ q, k = q + 1 := ⟨k - 1, by omega⟩
    rw [laws_eqFlagS.l0, if_pos (by omega), if_pos (by omega), if_pos (by omega)]
    simp only [laws_eqFlag.f, laws_eqGraph.f, if_true, Option.bind_some]
    rw [w64_succ (by omega)]
    exact eqFlagS_loop l hl d (i + 1) k (by omega) (by omega)
theorem eqFlagS_self (l : List S35) (hl : l.length ≤ 1048576) (k : Nat) (hk : 1048577 ≤ k) : laws_eqFlagS.f k l l = some true := by
  unfold laws_eqFlagS.f
  rw [if_pos rfl]; exact eqFlagS_loop l hl l.length 0 k (by omega) (by omega)
theorem rdFl_nat (l : List S35) {i : Nat} (hi : i < l.length) : rd_T35 l (i : Int) = l[i] := by unfold rd_T35; exact getD_of_lt l _ hi
def okFls (L : List S35) : Prop := ∀ x ∈ L, 0 ≤ x.f1.f1 ∧ x.f1.f1 ≤ 4294967295
def vFl (x : S35) : Bool := validF x.f0 x.f1.f0 x.f1.f1
/-- Whether a flag is alike a given one. -/
def sameB (s n : Nat) (e : Int) (x : S35) : Bool := x.f0 == (s : Int) && (x.f1.f0 == (n : Int) && (leastE x.f1.f1 (leaves x.f1.f0.toNat (x.f1.f0.toNat - x.f0.toNat) (firstI x.f0.toNat)) x.f1.f1 == leastE e (leaves n (n - s) (firstI s)) e))
theorem same_x (s n : Nat) (hn : n < 6) (hs : s < n + 1) (e : Nat) (he : e < 2 ^ prs n) (x : S35) (hx : 0 ≤ x.f1.f1 ∧ x.f1.f1 ≤ 4294967295) (hv : vFl x = true) :
    impl_Flag_alike.f s n e x.f0 x.f1.f0 x.f1.f1 = some (sameB s n e x) ∧ ∀ k, 1000 ≤ k → spec_l03Least.f k x.f0 x.f1.f0 x.f1.f1 = some (x.f0, x.f1.f0, leastE x.f1.f1 (leaves x.f1.f0.toNat (x.f1.f0.toNat - x.f0.toNat) (firstI x.f0.toNat)) x.f1.f1) := by
  obtain ⟨t, m, h, e1, e2, e3, hm, ht, hh⟩ := validF_nat hx.1 hv
  unfold sameB
  rw [e1, e2, e3]
  simp only [Int.toNat_natCast]
  refine ⟨?_, fun k hk => l03Least_eq m t hm ht h k hk⟩
  unfold impl_Flag_alike.f
  by_cases hst : s = t
  · subst hst
    by_cases hnm : n = m
    · subst hnm
      rw [if_pos rfl, alike_eq n s hn hs e h he hh]
      simp only [Option.bind_some, beq_self_eq_true, Bool.true_and]
      congr 1
      rw [Bool.eq_iff_iff, beq_iff_eq, beq_iff_eq]
      exact ⟨fun a => a.symm, fun a => a.symm⟩
    · have ha : impl_Graph_alike.f n e m h s = some false := by unfold impl_Graph_alike.f; rw [if_neg (by omega)]
      have hne : ((m : Int) == (n : Int)) = false := by rw [beq_eq_false_iff_ne]; omega
      rw [if_pos rfl, ha, hne]; simp
  · have hne : ((t : Int) == (s : Int)) = false := by rw [beq_eq_false_iff_ne]; omega
    rw [if_neg (by omega), hne]; simp
theorem l03Index_loop (s n : Nat) (hn : n < 6) (hs : s < n + 1) (e : Nat) (he : e < 2 ^ prs n) (L : List S35) (hL : L.length ≤ 1048576) (ho : okFls L) (hv : ∀ x ∈ L, vFl x = true) : ∀ (d i k : Nat), i + d = L.length → d + 1001 ≤ k →
    spec_l03Index.l0 k L i s n (leastE e (leaves n (n - s) (firstI s)) e) = some (idxI (sameB s n e) (L.drop i) i)
  | 0, i, k, hd, hk => by
    obtain ⟨k, rfl⟩ : ∃ q, k = q + 1 := ⟨k - 1, by omega⟩
    rw [spec_l03Index.l0, if_neg (by omega), List.drop_eq_nil_of_le (by omega)]; rfl
  | d + 1, i, k, hd, hk => by
    obtain ⟨k, rfl⟩ : ∃ q, k = q + 1 := ⟨k - 1, by omega⟩
    have hi : i < L.length := by omega
    have hm := List.getElem_mem hi
    rw [spec_l03Index.l0, if_pos (by omega), if_pos (by omega)]
    simp only [rdFl_nat L hi]
    rw [(same_x s n hn hs e he _ (ho _ hm) (hv _ hm)).2 k (by omega), List.drop_eq_getElem_cons hi, idxI]
    simp only [Option.bind_some]
    by_cases hp : sameB s n e L[i] = true
    · rw [if_pos hp]; unfold sameB at hp; rw [if_pos hp]
    · rw [if_neg hp]; unfold sameB at hp; rw [if_neg hp, w64_succ (by omega)]
      exact l03Index_loop s n hn hs e he L hL ho hv d (i + 1) k (by omega) (by omega)
theorem indexS_loop (L : List S35) (hL : L.length ≤ 1048576) (ho : okFls L) (a b c : Int) : ∀ (d i k : Nat), i + d = L.length → d + 1 ≤ k →
    ∃ k2, k = k2 + d + 1 ∧ spec_IndexOfFlag.l0 k L i a b c = if (L.drop i).all vFl = true then (spec_l03Index.f k2 a b c L).bind fun t => (if t < 0 then some (0, 6) else some (t, 0)) else some (0, 1)
  | 0, i, k, hd, hk => by
    obtain ⟨k, rfl⟩ : ∃ q, k = q + 1 := ⟨k - 1, by omega⟩
    refine ⟨k, rfl, ?_⟩
    rw [spec_IndexOfFlag.l0, if_neg (by omega), List.drop_eq_nil_of_le (by omega), List.all_nil, if_pos rfl]
  | d + 1, i, k, hd, hk => by
    obtain ⟨k, rfl⟩ : ∃ q, k = q + 1 := ⟨k - 1, by omega⟩
    have hi : i < L.length := by omega
    have hx := ho _ (List.getElem_mem hi)
    obtain ⟨k2, hk2, ih⟩ := indexS_loop L hL ho a b c d (i + 1) k (by omega) (by omega)
    refine ⟨k2, by omega, ?_⟩
    rw [spec_IndexOfFlag.l0, if_pos (by omega), if_pos (by omega)]
    simp only [rdFl_nat L hi]
    rw [l03Ok_eq _ _ _ hx.1 hx.2, List.drop_eq_getElem_cons hi, List.all_cons]
    simp only [Option.bind_some]
    show (if vFl L[i] = true then _ else _) = _
    cases hv : vFl L[i]
    · simp
    · simp only [if_true, Bool.true_and]
      rw [w64_succ (by omega)]
      exact ih
theorem FnExactIndexOfFlag_pure (a n e : Int) (l : List S32) (_ha : (Lit.int .i64 a).wf = true) (_hn : (Lit.int .i64 n).wf = true) (he : (Lit.int .u32 e).wf = true) (hl : l.length < 9223372036854775808 ∧ ∀ b ∈ l, (Lit.int .i64 b.f0).wf = true ∧ ((Lit.int .i64 b.f1.f0).wf = true ∧ (Lit.int .u32 b.f1.f1).wf = true)) : ∃ k, laws_FnExactIndexOfFlag.f k a n e l = some true := by
  obtain ⟨K, hK⟩ : ∃ K : Nat, 3000000 ≤ K := ⟨3000000, Nat.le_refl _⟩
  refine ⟨K + 1, ?_⟩
  have he' : 0 ≤ e ∧ e ≤ 4294967295 := by simpa [Lit.wf, IntKind.min, IntKind.max, IntKind.bits, IntKind.signed] using he
  unfold laws_FnExactIndexOfFlag.f laws_szFlagS.f
  by_cases hs : wrap64 (1048576 - (l.length : Int)) < 0
  · rw [if_pos hs]; rfl
  rw [if_neg hs]
  have hl2 : l.length ≤ 1048576 := by have := hl.1; unfold wrap64 at hs; omega
  simp only [Option.bind_some]
  rw [if_neg hs]
  have ho : okFls (toFls l) := fun x hx => by
    obtain ⟨b, hb, rfl⟩ := List.mem_map.1 hx
    have := (hl.2 b hb).2.2
    simpa [toFl, Lit.wf, IntKind.min, IntKind.max, IntKind.bits, IntKind.signed] using this
  have hlen : (toFls l).length = l.length := by unfold toFls; rw [List.length_map]
  have fin : laws_FnExactIndexOfFlag.j0 (K + 1) l (toFls l) false = some true := by
    rw [laws_FnExactIndexOfFlag.j0, if_neg (by simp), toFlagS_eq l hl2 K (by omega)]
    simp only [Option.bind_some]
    rw [eqFlagS_self (toFls l) (by omega) K (by omega)]
    rfl
  have hbad : ∀ x ∈ toFls l, impl_badFlag.f x.f0 x.f1.f0 x.f1.f1 = some (!vFl x) := fun x hx => by
    unfold impl_badFlag.f
    rw [ValidFlag_eq _ _ _ (ho x hx).1 (ho x hx).2]; rfl
  obtain ⟨r, c, hsp, him⟩ : ∃ r c : Int, spec_IndexOfFlag.f (K + 1) a n e (toFls l) = some (r, c) ∧ impl_IndexOfFlag.f (K + 1) a n e (toFls l) = some (r, c) := by
    unfold spec_IndexOfFlag.f impl_IndexOfFlag.f
    rw [l03Ok_eq a n e he'.1 he'.2, show impl_badFlag.f a n e = some (!validF a n e) from by unfold impl_badFlag.f; rw [ValidFlag_eq a n e he'.1 he'.2]; rfl]
    simp only [Option.bind_some]
    cases hv : validF a n e
    · exact ⟨0, 1, rfl, by simp [impl_IndexOfFlag.j0]⟩
    simp only [if_true, Bool.not_true, Bool.false_eq_true, if_false]
    obtain ⟨s, n, e, rfl, rfl, rfl, hn, hs, he2⟩ := validF_nat he'.1 hv
    rw [anyFlag_eq _ (fun x => !vFl x) (toFls l) (by omega) hbad (K + 1) (by omega)]
    obtain ⟨k2, hk2, h1⟩ := indexS_loop (toFls l) (by omega) ho s n e (toFls l).length 0 (K + 1) (Nat.zero_add _) (by omega)
    rw [show ((0 : Nat) : Int) = 0 from rfl, List.drop_zero] at h1
    rw [h1]
    simp only [Option.bind_some, impl_IndexOfFlag.j0]
    by_cases hall : (toFls l).all vFl = true
    · have hv' : ∀ x ∈ toFls l, vFl x = true := fun x hx => List.all_eq_true.1 hall x hx
      have hany : (toFls l).any (fun x => !vFl x) = false := by
        rw [List.any_eq_false]; intro x hx; rw [hv' x hx]; simp
      rw [if_pos hall, hany, if_neg (by simp)]
      have hi1 : spec_l03Index.f k2 s n e (toFls l) = some (idxI (sameB s n e) (toFls l) 0) := by
        unfold spec_l03Index.f
        rw [l03Least_eq n s hn hs e k2 (by omega)]
        simp only [Option.bind_some]
        have := l03Index_loop s n hn hs e he2 (toFls l) (by omega) ho hv' _ 0 k2 (Nat.zero_add _) (by omega)
        rw [show ((0 : Nat) : Int) = 0 from rfl, List.drop_zero] at this
        exact this
      have hi2 : impl_Flag_92_of_impl_Flag_alike.f K s n e (toFls l) = some (idxI (sameB s n e) (toFls l) 0) := by
        unfold impl_Flag_92_of_impl_Flag_alike.f
        exact idxFlag_eq _ (sameB s n e) (toFls l) (by omega) (fun x hx => (same_x s n hn hs e he2 x (ho x hx) (hv' x hx)).1) K (by omega)
      rw [hi1, hi2]
      simp only [Option.bind_some]
      by_cases hneg : idxI (sameB s n e) (toFls l) 0 < 0
      · rw [if_pos hneg]; exact ⟨0, 6, rfl, rfl⟩
      · rw [if_neg hneg]; exact ⟨_, 0, rfl, rfl⟩
    · have hany : (toFls l).any (fun x => !vFl x) = true := by
        cases h : (toFls l).any (fun x => !vFl x)
        · exfalso
          apply hall
          rw [List.all_eq_true]
          intro x hx
          have := List.any_eq_false.1 h x hx
          simpa using this
        · rfl
      rw [if_neg hall, hany, if_pos rfl]
      exact ⟨0, 1, rfl, rfl⟩
  simp only [laws_toFlag.f, laws_toGraph.f, Option.bind_some, toFlagS_eq l hl2 (K + 1) (by omega), hsp, him, if_true, bne_self_eq_false]
  exact fin

end Go.Proofs.Ytjemkdpffjneaaa.Q
end

section
namespace Go.Proofs.YtjemkdpffjneaaaW.PrintWords
open Go Go.RowKit Go.ChangeShapes Go.WideShapes Go.ChangeAt Go.Deep
set_option linter.unusedVariables false
section
variable {H : Type} (enc : TypeId × Value → H) (P : Program) (W : World)
/-- Whatever reads as data of type t stands for a plain value. -/
def Opens {α : Type} (t : TypeId) (k : Kd α) (wf : α → Prop) : Prop :=
  ∀ (fuel : Nat) (cs : List Value) (x : DataW H × List MemPlace), DataW.trod enc P W 0 (fun _ => true) true fuel t cs = some x → ∃ a, k.K W a cs ∧ wf a
end
section
variable {H : Type} {enc : TypeId × Value → H} {P : Program} {W : World}
theorem Opens.int {t : TypeId} {k : IntKind} (ht : P.underlying t = some (.int k)) : Opens enc P W t (Kd.int k) (fun n => (Lit.int k n).wf = true) := by
  intro fuel cs x h
  obtain ⟨n, rfl, _, hw⟩ := DataW.trod_int ht h
  exact ⟨n, rfl, hw⟩
theorem Opens.bool {t : TypeId} (ht : P.underlying t = some .bool) : Opens enc P W t Kd.bool (fun _ => True) := by
  intro fuel cs x h
  obtain ⟨n, rfl, _⟩ := DataW.trod_bool ht h
  exact ⟨n, rfl, trivial⟩
theorem Opens.struct2 {α β : Type} {t : TypeId} {f0 f1 : Field} {k0 : Kd α} {k1 : Kd β} {p0 : α → Prop} {p1 : β → Prop} (ht : P.underlying t = some (.struct #[f0, f1])) (o0 : f0.offset = 0) (o1 : f1.offset = P.cellsOf f0.type) (hc : P.cellsOf t = P.cellsOf f0.type + P.cellsOf f1.type)
    (h0 : Opens enc P W f0.type k0 p0) (h1 : Opens enc P W f1.type k1 p1) : Opens enc P W t (Kd.pair k0 k1) (fun p => p0 p.1 ∧ p1 p.2) := by
  intro fuel cs x h
  obtain ⟨y0, y1, n, _, hl, e0, e1⟩ := trod_struct2 ht h
  obtain ⟨a, ka, wa⟩ := h0 n _ _ e0
  obtain ⟨b, kb, wb⟩ := h1 n _ _ e1
  refine ⟨(a, b), ⟨_, _, ?_, ka, kb⟩, wa, wb⟩
  rw [o0, o1, List.drop_zero, List.take_of_length_le (l := List.drop _ cs) (by rw [List.length_drop, hl, hc]; omega), List.take_append_drop]
theorem Opens.iso {α β : Type} {t : TypeId} {k : Kd α} {p : α → Prop} (f : β → α) (g : α → β) (hfg : ∀ a, f (g a) = a) (h : Opens enc P W t k p) : Opens enc P W t (Kd.iso k f) (fun b => p (f b)) := by
  intro fuel cs x hx
  obtain ⟨a, ka, wa⟩ := h fuel cs x hx
  exact ⟨g a, by show k.K W (f (g a)) cs; rw [hfg]; exact ka, by show p (f (g a)); rw [hfg]; exact wa⟩
theorem Opens.slice {α : Type} (z : α) {t e : TypeId} {k : Kd α} {p : α → Prop} (ht : P.underlying t = some (.slice e)) (hs : k.sz = P.cellsOf e) (h : Opens enc P W e k p) : Opens enc P W t (Kd.slice e k) (fun l => l.length < 9223372036854775808 ∧ ∀ a ∈ l, p a) := by
  haveI : Inhabited α := ⟨z⟩
  intro fuel cs x hx
  rcases open_slice ht hx with ⟨rfl, _⟩ | ⟨ad, len, cap, m, n, D, Pl, rfl, _, hl, hm, hmm, _, hel⟩
  · exact ⟨[], ⟨none, 0, rfl, Nat.le_refl _, rfl, by simp, fun h0 => absurd h0 (Nat.lt_irrefl 0)⟩, by simp, fun a ha => by cases ha⟩
  · have hlm : len ≤ m := by
      rw [hmm]; split
      · exact hl
      · exact Nat.le_refl _
    obtain ⟨F, hF⟩ := choose_lt (α := α) (n := len) (p := fun i a => p a ∧ ∃ cs', k.K W a cs' ∧ W.cells? 0 (ad.add (i * P.cellsOf e)) (P.cellsOf e) = some cs') (fun i hi => by
      obtain ⟨cs', h1, h2⟩ := hel i (by omega)
      obtain ⟨a, ka, wa⟩ := h n _ _ h2
      exact ⟨a, wa, cs', ka, h1⟩)
    refine ⟨(List.range len).map F, ⟨some ad, cap, by simp, by simpa using hl, by simp, by simp; unfold maxLen at hm; omega, fun _ => ⟨ad, rfl, fun j q hq => ?_⟩⟩, by simp; unfold maxLen at hm; omega, fun a ha => ?_⟩
    · obtain ⟨hj, rfl⟩ : j < len ∧ F j = q := by
        rw [List.getElem?_map] at hq
        rcases Nat.lt_or_ge j len with hj | hj
        · rw [List.getElem?_range hj] at hq; exact ⟨hj, by simpa using hq⟩
        · rw [List.getElem?_eq_none (by simpa using hj)] at hq; simp at hq
      obtain ⟨_, cs', ka, h1⟩ := hF j hj
      obtain ⟨_, hlen, hcell⟩ := World.cells?_some h1
      refine ⟨cs', k.K_len ka, ka, fun i u hu => ?_⟩
      have hi : i < P.cellsOf e := by rw [← hlen]; exact (List.getElem?_eq_some_iff.1 hu).1
      rw [hs, ← add_add, hcell i hi]; exact hu
    · obtain ⟨i, hi, rfl⟩ := List.mem_map.1 ha
      exact (hF i (List.mem_range.1 hi)).1
end
end Go.Proofs.YtjemkdpffjneaaaW.PrintWords
end
