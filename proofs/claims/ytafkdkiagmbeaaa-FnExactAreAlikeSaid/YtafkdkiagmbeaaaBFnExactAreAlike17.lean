/- Contracts of Go functions and plain lemmas over what they compute; printed by the kit's print program or written by hand, joined. -/
import Derived.Test.YtafkdkiagmbeaaaBFnExactAreAlike1
import Derived.Test.YtafkdkiagmbeaaaBFnExactAreAlike11
import Derived.Test.YtafkdkiagmbeaaaBFnExactAreAlike8
import Derived.Test.YtafkdkiagmbeaaaBFnExactAreAlike15
import Derived.Test.YtafkdkiagmbeaaaBFnExactAreAlike16
import Derived.Test.YtafkdkiagmbeaaaBFnExactAreAlike9
import Derived.Test.YtafkdkiagmbeaaaBFnExactAreAlike12
import Derived.Test.YtafkdkiagmbeaaaBFnExactAreAlike7
import Derived.Test.YtafkdkiagmbeaaaBFnExactAreAlike2
import Derived.Test.YtafkdkiagmbeaaaBFnExactAreAlike13
import Derived.Test.YtafkdkiagmbeaaaBFnExactAreAlike14
import Derived.Test.YtafkdkiagmbeaaaWMore
import Derived.WalkKit
import Derived.ProofKit
import Derived.OpenShut
import Derived.ChangeOld
import Derived.Deep.Slices
section
/- A contract of one Go function: what it returns for its arguments; printed by the kit's print program or written by hand. -/
namespace Go.Proofs.Ytafkdkiagmbeaaa.Q
open Go.RowKit Go.Proofs.YtafkdkiagmbeaaaW.PrintWords Go.Proofs.YtafkdkiagmbeaaaW.PrintLast Go.Proofs.YtafkdkiagmbeaaaW.PrintMore
attribute [local go_sem] max2_int min2_int max_two min_two max_three min_three max_four min_four   -- for this text's walks alone
set_option linter.unusedVariables false
set_option linter.unusedSimpArgs false

/-! #### pure: Group2 -/
theorem mem_leavesIn {g : List Int → List (List Int)} {l x : List Int} : ∀ (d i0 i : Nat), i0 ≤ i → i < i0 + d → (i : Int) ∉ l → x ∈ g (l ++ [(i : Int)]) → x ∈ leavesIn g l d i0
  | 0, i0, i, h1, h2, _, _ => by omega
  | d + 1, i0, i, h1, h2, hn, hx => by
    rw [leavesIn]
    rcases Nat.eq_or_lt_of_le h1 with rfl | h1
    · rw [if_neg hn]; exact List.mem_append_left _ hx
    · have := mem_leavesIn d (i0 + 1) i (by omega) (by omega) hn hx
      by_cases h : (i0 : Int) ∈ l
      · rw [if_pos h]; exact this
      · rw [if_neg h]; exact List.mem_append_right _ this
theorem mem_leaves (n : Nat) : ∀ (r : Nat) (pre t : List Int), t.length = r → (pre ++ t).Nodup → (∀ x ∈ t, 0 ≤ x ∧ x < n) → pre ++ t ∈ leaves n r pre
  | 0, pre, t, hl, _, _ => by
    obtain rfl := List.eq_nil_of_length_eq_zero hl
    rw [leaves, List.append_nil]; exact List.mem_singleton.2 rfl
  | r + 1, pre, t, hl, hd, hr => by
    cases t with
    | nil => simp at hl
    | cons x t =>
      have hx := hr x (List.mem_cons_self)
      have hxp : x ∉ pre := fun h => by
        rw [List.nodup_append] at hd
        exact hd.2.2 x h x (List.mem_cons_self) rfl
      rw [leaves]
      refine mem_leavesIn n 0 x.toNat (Nat.zero_le _) (by omega) (by rw [Int.toNat_of_nonneg hx.1]; exact hxp) ?_
      rw [Int.toNat_of_nonneg hx.1, show pre ++ x :: t = (pre ++ [x]) ++ t from by simp]
      exact mem_leaves n r (pre ++ [x]) t (by simpa using hl) (by simpa using hd) fun y hy => hr y (List.mem_cons_of_mem _ hy)
theorem leaves_take : ∀ n, n < 6 → ∀ s, s < n + 1 → ∀ l ∈ leaves n (n - s) (firstI s), l.take s = firstI s := by decide +kernel
theorem mem_orders (n s : Nat) (hs : s < n + 1) {l : List Int} (h : isOrd n l) (ht : l.take s = firstI s) : l ∈ leaves n (n - s) (firstI s) := by
  have e : firstI s ++ l.drop s = l := by rw [← ht]; exact List.take_append_drop s l
  have := mem_leaves n (n - s) (firstI s) (l.drop s) (by rw [List.length_drop, h.1]) (by rw [e]; exact h.2.1) (fun x hx => by have := h.2.2 x (List.mem_of_mem_drop hx); omega)
  rwa [e] at this
theorem map_firstI (l : List Int) : ∀ s, s ≤ l.length → (firstI s).map (fun x => rd l x) = l.take s
  | 0, _ => rfl
  | s + 1, h => by
    rw [firstI, List.map_append, map_firstI l s (by omega), List.take_succ_eq_append_getElem (by omega)]
    show _ ++ [rd l s] = _
    rw [rd_of_lt l (by omega)]
theorem comp_mem (n s : Nat) (hn : n < 6) (hs : s < n + 1) {l p : List Int} (hl : l ∈ leaves n (n - s) (firstI s)) (hp : p ∈ leaves n (n - s) (firstI s)) : comp l p ∈ leaves n (n - s) (firstI s) := by
  have ol : isOrd n l := leaves_ok_s n hn s hs l hl
  have op : isOrd n p := leaves_ok_s n hn s hs p hp
  refine mem_orders n s hs (ol.comp op) ?_
  unfold comp
  rw [← List.map_take, leaves_take n hn s hs p hp, map_firstI l s (by rw [ol.1]; omega), leaves_take n hn s hs l hl]
theorem orders_inv : ∀ n, n < 6 → ∀ s, s < n + 1 → ∀ l ∈ leaves n (n - s) (firstI s), ∃ p ∈ leaves n (n - s) (firstI s), comp l p = firstI n := by decide +kernel
theorem first_mem : ∀ n, n < 6 → ∀ s, s < n + 1 → firstI n ∈ leaves n (n - s) (firstI s) := by decide +kernel
theorem onI_first : ∀ n, n < 6 → ∀ b : Nat, b < 2 ^ prs n → onI (b : Nat) (firstI n) = (b : Nat) := by decide +kernel
theorem leastE_le (e : Int) : ∀ (L : List (List Int)) (best : Int), leastE e L best ≤ best ∧ ∀ l ∈ L, leastE e L best ≤ onI e l
  | [], best => ⟨Int.le_refl _, fun l hl => by cases hl⟩
  | x :: L, best => by
    have ih := leastE_le e L (if onI e x < best then onI e x else best)
    show leastE e L _ ≤ best ∧ ∀ l ∈ x :: L, leastE e L _ ≤ onI e l
    have h1 : (if onI e x < best then onI e x else best) ≤ best ∧ (if onI e x < best then onI e x else best) ≤ onI e x := by split <;> omega
    refine ⟨Int.le_trans ih.1 h1.1, fun l hl => ?_⟩
    rcases List.mem_cons.1 hl with rfl | hl
    · exact Int.le_trans ih.1 h1.2
    · exact ih.2 l hl
theorem leastE_mem (e : Int) : ∀ (L : List (List Int)) (best : Int), leastE e L best = best ∨ ∃ l ∈ L, leastE e L best = onI e l
  | [], best => Or.inl rfl
  | x :: L, best => by
    have ih := leastE_mem e L (if onI e x < best then onI e x else best)
    show leastE e L _ = best ∨ ∃ l ∈ x :: L, leastE e L _ = onI e l
    rcases ih with ih | ⟨l, hl, ih⟩
    · rw [ih]
      split
      · exact Or.inr ⟨x, List.mem_cons_self, rfl⟩
      · exact Or.inl rfl
    · exact Or.inr ⟨l, List.mem_cons_of_mem _ hl, ih⟩
/-- Two graphs have one least graph just if an order turns the one into the other. -/
theorem alike_iff (n s : Nat) (hn : n < 6) (hs : s < n + 1) (e h : Nat) (he : e < 2 ^ prs n) (hh : h < 2 ^ prs n) :
    (∃ l ∈ leaves n (n - s) (firstI s), onI e l = h) ↔ leastE e (leaves n (n - s) (firstI s)) e = leastE h (leaves n (n - s) (firstI s)) h := by
  have ord : ∀ l ∈ leaves n (n - s) (firstI s), isOrd n l := fun l hl => leaves_ok_s n hn s hs l hl
  have inv := orders_inv n hn s hs
  have cm : ∀ {l p : List Int}, l ∈ leaves n (n - s) (firstI s) → p ∈ leaves n (n - s) (firstI s) → comp l p ∈ leaves n (n - s) (firstI s) := fun hl hp => comp_mem n s hn hs hl hp
  have fm := first_mem n hn s hs
  generalize leaves n (n - s) (firstI s) = L at *
  have at_ : ∀ g : Nat, g < 2 ^ prs n → ∃ l ∈ L, leastE g L g = onI g l := fun g hg => by
    rcases leastE_mem g L g with h1 | h1
    · exact ⟨firstI n, fm, by rw [h1, onI_first n hn g hg]⟩
    · exact h1
  have le_ : ∀ (g k : Nat) {l : List Int}, g < 2 ^ prs n → k < 2 ^ prs n → l ∈ L → onI g l = k → leastE g L g ≤ leastE k L k := fun g k l hg hk hl e1 => by
    obtain ⟨p, hp, e2⟩ := at_ k hk
    rw [e2, ← e1, onI_comp n hn g (ord l hl) (ord p hp)]
    exact (leastE_le g L g).2 _ (cm hl hp)
  constructor
  · rintro ⟨l, hl, e1⟩
    obtain ⟨p, hp, e2⟩ := inv l hl
    have back : onI h p = e := by rw [← e1, onI_comp n hn e (ord l hl) (ord p hp), e2, onI_first n hn e he]
    exact Int.le_antisymm (le_ e h he hh hl e1) (le_ h e hh he hp back)
  · intro e0
    obtain ⟨l, hl, e1⟩ := at_ e he
    obtain ⟨q, hq, e2⟩ := at_ h hh
    obtain ⟨p, hp, e3⟩ := inv q hq
    refine ⟨comp l p, cm hl hp, ?_⟩
    rw [← onI_comp n hn e (ord l hl) (ord p hp), ← e1, e0, e2, onI_comp n hn h (ord q hq) (ord p hp), e3, onI_first n hn h hh]

end Go.Proofs.Ytafkdkiagmbeaaa.Q
end

section
/- A contract of one Go function: what it returns for its arguments; printed by the kit's print program or written by hand. -/
namespace Go.Proofs.Ytafkdkiagmbeaaa.Q
open Go.RowKit Go.Proofs.YtafkdkiagmbeaaaW.PrintWords Go.Proofs.YtafkdkiagmbeaaaW.PrintLast Go.Proofs.YtafkdkiagmbeaaaW.PrintMore
attribute [local go_sem] max2_int min2_int max_two min_two max_three min_three max_four min_four   -- for this text's walks alone
set_option linter.unusedVariables false
set_option linter.unusedSimpArgs false

/-! #### pure: Ones -/
def cntB (b : Nat) : Int := (((List.range 10).countP fun q => b.testBit q : Nat) : Int)
theorem ones_eq : ∀ b : Nat, b < 1024 → bits_OnesCount32.f (b : Int) = some (cntB b) := by decide +kernel
def pairsL (n : Nat) : List (Nat × Nat) := (List.range n).flatMap fun j => (List.range j).map fun i => (i, j)
theorem pairsL_bits : ∀ n, n < 6 → (pairsL n).map (fun p => bitIx p.1 p.2) = List.range (prs n) := by decide
theorem pairsL_lt : ∀ n, n < 6 → ∀ p ∈ pairsL n, p.1 < p.2 ∧ p.2 < n := by decide
theorem pairsL_perm : ∀ n, n < 6 → ∀ l ∈ leaves n n [], ((pairsL n).map fun p => bitIx (rd l p.1).toNat (rd l p.2).toNat).isPerm (List.range (prs n)) = true := by decide +kernel
theorem cnt_short : ∀ n, n < 6 → ∀ b : Nat, b < 2 ^ prs n → (List.range 10).countP (fun q => b.testBit q) = (List.range (prs n)).countP (fun q => b.testBit q) := by decide +kernel
theorem cnt_on (n : Nat) (hn : n < 6) (e h : Nat) (he : e < 2 ^ prs n) {l : List Int} (hl : l ∈ leaves n n []) (eh : onI e l = h) : cntB h = cntB e := by
  have ol : isOrd n l := leaves_ok n hn n (by omega) l hl
  obtain ⟨b, hb, e1, h1⟩ := onI_nat n hn e ol
  obtain rfl : b = h := by rw [eh] at e1; omega
  unfold cntB
  have he' : e < 1024 := Nat.lt_of_lt_of_le he (prs_le n hn)
  have hb' : b < 1024 := Nat.lt_of_lt_of_le hb (prs_le n hn)
  rw [cnt_short n hn b hb, cnt_short n hn e he]
  have hp := List.isPerm_iff.1 (pairsL_perm n hn l hl)
  rw [← hp.countP_eq (fun q => e.testBit q), ← pairsL_bits n hn, List.countP_map, List.countP_map]
  congr 1
  refine List.countP_congr fun p hp => ?_
  obtain ⟨p1, p2⟩ := pairsL_lt n hn p hp
  obtain ⟨x, hx, ex⟩ := ol.at p.1 (by omega)
  obtain ⟨y, hy, ey⟩ := ol.at p.2 (by omega)
  have hne := ol.ne (show p.1 ≠ p.2 by omega) (by omega) (by omega)
  have := h1 p.1 p.2 (by omega) (by omega) (by omega)
  rw [ex, ey] at hne this
  rw [hasI_bit b hb' _ (by omega) _ (by omega) (by omega), hasI_bit e he' _ (by omega) _ (by omega) (by omega)] at this
  simp only [Function.comp, ex, ey, Int.toNat_natCast, this]

end Go.Proofs.Ytafkdkiagmbeaaa.Q
end

section
/- A contract of one Go function: what it returns for its arguments; printed by the kit's print program or written by hand. -/
namespace Go.Proofs.Ytafkdkiagmbeaaa.Q
open Go.RowKit Go.Proofs.YtafkdkiagmbeaaaW.PrintWords Go.Proofs.YtafkdkiagmbeaaaW.PrintLast Go.Proofs.YtafkdkiagmbeaaaW.PrintMore
attribute [local go_sem] max2_int min2_int max_two min_two max_three min_three max_four min_four   -- for this text's walks alone
set_option linter.unusedVariables false
set_option linter.unusedSimpArgs false

/-! #### pure: AlikeB -/
theorem leaves_sub : ∀ n, n < 6 → ∀ s, s < n + 1 → ∀ l ∈ leaves n (n - s) (firstI s), l ∈ leaves n n [] := by
  intro n hn s hs l hl
  have h := leaves_ok_s n hn s hs l hl
  have := mem_orders n 0 (by omega) (l := l) h (by simp [firstI])
  simpa [firstI] using this
/-- Whether the program finds two graphs alike, the first s vertices fixed. -/
theorem alike_eq (n s : Nat) (hn : n < 6) (hs : s < n + 1) (e h : Nat) (he : e < 2 ^ prs n) (hh : h < 2 ^ prs n) : impl_Graph_alike.f n e n h s = some (leastE e (leaves n (n - s) (firstI s)) e == leastE h (leaves n (n - s) (firstI s)) h) := by
  have he' : e < 1024 := Nat.lt_of_lt_of_le he (prs_le n hn)
  have hh' : h < 1024 := Nat.lt_of_lt_of_le hh (prs_le n hn)
  have iff_ := alike_iff n s hn hs e h he hh
  unfold impl_Graph_alike.f
  rw [if_pos rfl, ones_eq e he', ones_eq h hh']
  simp only [Option.bind_some]
  by_cases hc : cntB e = cntB h
  · rw [if_pos hc]
    unfold impl_Graph_orders.f
    rw [if_pos (by omega), lstd_eq, show ((n : Int) - (s : Int)).toNat = n - s from by omega, Int.toNat_natCast, Int.toNat_natCast]
    rw [runCb_any _ (fun l => decide (onI e l = h))]
    · simp only [Option.map_some, Option.bind_some]
      congr 1
      rw [Bool.eq_iff_iff, List.any_eq_true, beq_iff_eq, ← iff_]
      simp only [decide_eq_true_eq]
    · intro l hl
      have ol := leaves_ok_s n hn s hs l hl
      unfold impl_Graph_alike_1.f
      rw [impl_onT.eq n e (okList_diff (m := n) (by omega) (by omega) (by rw [show wrap64 ((n : Int) - 1) = (n : Int) - 1 from by unfold wrap64; omega]; exact ol.2))]
      simp only [Option.bind_some, ol.1]
      congr 1
      rw [Bool.eq_iff_iff]; simp
  · rw [if_neg hc]
    congr 1
    symm
    rw [beq_eq_false_iff_ne]
    intro e0
    obtain ⟨l, hl, e1⟩ := iff_.2 e0
    exact hc (cnt_on n hn e h he (leaves_sub n hn s hs l hl) e1).symm

end Go.Proofs.Ytafkdkiagmbeaaa.Q
end

section
/- A contract of one Go function: what it returns for its arguments; printed by the kit's print program or written by hand. -/
namespace Go.Proofs.Ytafkdkiagmbeaaa.Q
open Go.RowKit Go.Proofs.YtafkdkiagmbeaaaW.PrintWords Go.Proofs.YtafkdkiagmbeaaaW.PrintLast Go.Proofs.YtafkdkiagmbeaaaW.PrintMore
attribute [local go_sem] max2_int min2_int max_two min_two max_three min_three max_four min_four   -- for this text's walks alone
set_option linter.unusedVariables false
set_option linter.unusedSimpArgs false

/-! #### pure: In -/
theorem in_eq (a b c : Int) : impl_in.f a b c = some (decide (b ≤ a ∧ a ≤ c)) := by
  unfold impl_in.f
  by_cases h : a ≥ b
  · rw [if_pos h]; congr 1; rw [decide_eq_decide]; omega
  · rw [if_neg h]; congr 1; symm; rw [decide_eq_false_iff_not]; omega

end Go.Proofs.Ytafkdkiagmbeaaa.Q
end

section
/- A contract of one Go function: what it returns for its arguments; printed by the kit's print program or written by hand. -/
namespace Go.Proofs.Ytafkdkiagmbeaaa.Q
open Go.RowKit Go.Proofs.YtafkdkiagmbeaaaW.PrintWords Go.Proofs.YtafkdkiagmbeaaaW.PrintLast Go.Proofs.YtafkdkiagmbeaaaW.PrintMore
attribute [local go_sem] max2_int min2_int max_two min_two max_three min_three max_four min_four   -- for this text's walks alone
set_option linter.unusedVariables false
set_option linter.unusedSimpArgs false

/-! #### pure: Valid -/
def validG (n e : Int) : Bool := decide (0 ≤ n ∧ n ≤ 5 ∧ e < 2 ^ (n.toNat * (n.toNat - 1) / 2))
theorem l01Ok_eq (n e : Int) (h0 : 0 ≤ e) (h1 : e ≤ 4294967295) : spec_l01Ok.f n e = some (validG n e) := by
  have hw : wrap64 e = e := by unfold wrap64; omega
  unfold spec_l01Ok.f validG
  rw [l00In_eq, hw]; simp only [Option.bind_some]
  by_cases h : 0 ≤ n ∧ n ≤ 5
  · rw [if_pos (by simpa using h)]
    obtain ⟨ha, hb⟩ := h
    rcases small5 ha hb with rfl | rfl | rfl | rfl | rfl | rfl
    all_goals
      simp only [spec_l01Bits.f]
      simp [wrap64, IntKind.wrap_u64, shl, IntKind.wrap_i64, IntKind.bits]
  · rw [if_neg (by simpa using h)]; congr 1; symm; rw [decide_eq_false_iff_not]; omega

end Go.Proofs.Ytafkdkiagmbeaaa.Q
end

section
/- A contract of one Go function: what it returns for its arguments; printed by the kit's print program or written by hand. -/
namespace Go.Proofs.Ytafkdkiagmbeaaa.Q
open Go.RowKit Go.Proofs.YtafkdkiagmbeaaaW.PrintWords Go.Proofs.YtafkdkiagmbeaaaW.PrintLast Go.Proofs.YtafkdkiagmbeaaaW.PrintMore
attribute [local go_sem] max2_int min2_int max_two min_two max_three min_three max_four min_four   -- for this text's walks alone
set_option linter.unusedVariables false
set_option linter.unusedSimpArgs false

/-! #### pure: ImplValid -/
theorem ValidGraph_eq (n e : Int) (h0 : 0 ≤ e) (h1 : e ≤ 4294967295) : impl_ValidGraph.f n e = some (validG n e) := by
  unfold impl_ValidGraph.f validG
  rw [in_eq]; simp only [Option.bind_some]
  by_cases h : 0 ≤ n ∧ n ≤ 5
  · rw [if_pos (by simpa using h)]
    obtain ⟨ha, hb⟩ := h
    rcases small5 ha hb with rfl | rfl | rfl | rfl | rfl | rfl
    all_goals
      simp only [impl_pairs.f]
      simp [wrap64, shr, IntKind.bits]
    all_goals (first | done | (rw [Bool.eq_iff_iff]; simp; omega))
  · rw [if_neg (by simpa using h)]; congr 1; symm; rw [decide_eq_false_iff_not]; omega

end Go.Proofs.Ytafkdkiagmbeaaa.Q
end

section
/- A contract of one Go function: what it returns for its arguments; printed by the kit's print program or written by hand. -/
namespace Go.Proofs.Ytafkdkiagmbeaaa.Q
open Go.RowKit Go.Proofs.YtafkdkiagmbeaaaW.PrintWords Go.Proofs.YtafkdkiagmbeaaaW.PrintLast Go.Proofs.YtafkdkiagmbeaaaW.PrintMore
attribute [local go_sem] max2_int min2_int max_two min_two max_three min_three max_four min_four   -- for this text's walks alone
set_option linter.unusedVariables false
set_option linter.unusedSimpArgs false

/-! #### pure: ValidNat -/
theorem validG_nat {n e : Int} (h0 : 0 ≤ e) (h : validG n e = true) : ∃ (m f : Nat), n = m ∧ e = f ∧ m < 6 ∧ f < 2 ^ prs m := by
  simp only [validG, decide_eq_true_eq] at h
  refine ⟨n.toNat, e.toNat, by omega, by omega, by omega, ?_⟩
  have := h.2.2
  unfold prs
  have h2 : ((e.toNat : Nat) : Int) < ((2 ^ (n.toNat * (n.toNat - 1) / 2) : Nat) : Int) := by rw [Int.toNat_of_nonneg h0]; exact_mod_cast this
  exact_mod_cast h2

end Go.Proofs.Ytafkdkiagmbeaaa.Q
end

section
/- A contract of one Go function: what it returns for its arguments; printed by the kit's print program or written by hand. -/
namespace Go.Proofs.Ytafkdkiagmbeaaa.Q
open Go.RowKit Go.Proofs.YtafkdkiagmbeaaaW.PrintWords Go.Proofs.YtafkdkiagmbeaaaW.PrintLast Go.Proofs.YtafkdkiagmbeaaaW.PrintMore
attribute [local go_sem] max2_int min2_int max_two min_two max_three min_three max_four min_four   -- for this text's walks alone
set_option linter.unusedVariables false
set_option linter.unusedSimpArgs false

/-! #### pure: LawAreAlike -/
theorem FnExactAreAlike_pure (n e m h : Int) (_hn : (Lit.int .i64 n).wf = true) (he : (Lit.int .u32 e).wf = true) (_hm : (Lit.int .i64 m).wf = true) (hh : (Lit.int .u32 h).wf = true) : ∃ k, laws_FnExactAreAlike.f k n e m h = some true := by
  refine ⟨1001, ?_⟩
  have he' : 0 ≤ e ∧ e ≤ 4294967295 := by simpa [Lit.wf, IntKind.min, IntKind.max, IntKind.bits, IntKind.signed] using he
  have hh' : 0 ≤ h ∧ h ≤ 4294967295 := by simpa [Lit.wf, IntKind.min, IntKind.max, IntKind.bits, IntKind.signed] using hh
  simp only [laws_FnExactAreAlike.f, laws_toGraph.f, Option.bind_some, spec_AreAlike.f, spec_AreAlike.j0, impl_AreAlike.f, l01Ok_eq n e he'.1 he'.2, ValidGraph_eq n e he'.1 he'.2, l01Ok_eq m h hh'.1 hh'.2, ValidGraph_eq m h hh'.1 hh'.2]
  cases hv : validG n e
  · rfl
  cases hw : validG m h
  · rfl
  obtain ⟨n, e, rfl, rfl, hn, he2⟩ := validG_nat he'.1 hv
  obtain ⟨m, h, rfl, rfl, hm, hh2⟩ := validG_nat hh'.1 hw
  simp only [if_true, Bool.not_true, Bool.false_eq_true, if_false, l01Least_eq n hn e 1000 (by omega), l01Least_eq m hm h 1000 (by omega), Option.bind_some]
  by_cases hnm : n = m
  · subst hnm
    have ha := alike_eq n 0 hn (by omega) e h he2 hh2
    rw [show ((0 : Nat) : Int) = 0 from rfl] at ha
    rw [ha]
    simp [firstI]
  · have ha : impl_Graph_alike.f n e m h 0 = some false := by unfold impl_Graph_alike.f; rw [if_neg (by omega)]
    rw [ha]
    have hne : ((n : Int) == (m : Int)) = false := by rw [beq_eq_false_iff_ne]; omega
    simp [hne]

end Go.Proofs.Ytafkdkiagmbeaaa.Q
end

section
/- How the data of an argument open into plain values: whole numbers, structs of two fields, arrays of two, slices of such; of whatever program. -/
namespace Go.Proofs.YtafkdkiagmbeaaaW.PrintWords
open Go Go.RowKit Go.ChangeShapes Go.WideShapes Go.ChangeAt Go.Deep
set_option linter.unusedVariables false
section
variable {H : Type} (enc : TypeId × Value → H) (P : Program) (W : World)
/-- Whatever reads as data of type t stands for a plain value. -/
def Opens {α : Type} (t : TypeId) (k : Kd α) (wf : α → Prop) : Prop :=
  ∀ (fuel : Nat) (cs : List Value) (x : DataW H × List MemPlace), DataW.trod enc P W 0 (fun _ => true) true fuel t cs = some x → ∃ a, k.K W a cs ∧ wf a
end
section
variable {H : Type} {enc : TypeId × Value → H} {P : Program} {W : World}
theorem Opens.int {t : TypeId} {k : IntKind} (ht : P.underlying t = some (.int k)) : Opens enc P W t (Kd.int k) (fun n => (Lit.int k n).wf = true) := by
  intro fuel cs x h
  obtain ⟨n, rfl, _, hw⟩ := DataW.trod_int ht h
  exact ⟨n, rfl, hw⟩
theorem Opens.bool {t : TypeId} (ht : P.underlying t = some .bool) : Opens enc P W t Kd.bool (fun _ => True) := by
  intro fuel cs x h
  obtain ⟨n, rfl, _⟩ := DataW.trod_bool ht h
  exact ⟨n, rfl, trivial⟩
theorem Opens.struct2 {α β : Type} {t : TypeId} {f0 f1 : Field} {k0 : Kd α} {k1 : Kd β} {p0 : α → Prop} {p1 : β → Prop} (ht : P.underlying t = some (.struct #[f0, f1])) (o0 : f0.offset = 0) (o1 : f1.offset = P.cellsOf f0.type) (hc : P.cellsOf t = P.cellsOf f0.type + P.cellsOf f1.type)
    (h0 : Opens enc P W f0.type k0 p0) (h1 : Opens enc P W f1.type k1 p1) : Opens enc P W t (Kd.pair k0 k1) (fun p => p0 p.1 ∧ p1 p.2) := by
  intro fuel cs x h
  obtain ⟨y0, y1, n, _, hl, e0, e1⟩ := trod_struct2 ht h
  obtain ⟨a, ka, wa⟩ := h0 n _ _ e0
  obtain ⟨b, kb, wb⟩ := h1 n _ _ e1
  refine ⟨(a, b), ⟨_, _, ?_, ka, kb⟩, wa, wb⟩
  rw [o0, o1, List.drop_zero, List.take_of_length_le (l := List.drop _ cs) (by rw [List.length_drop, hl, hc]; omega), List.take_append_drop]
theorem Opens.iso {α β : Type} {t : TypeId} {k : Kd α} {p : α → Prop} (f : β → α) (g : α → β) (hfg : ∀ a, f (g a) = a) (h : Opens enc P W t k p) : Opens enc P W t (Kd.iso k f) (fun b => p (f b)) := by
  intro fuel cs x hx
  obtain ⟨a, ka, wa⟩ := h fuel cs x hx
  exact ⟨g a, by show k.K W (f (g a)) cs; rw [hfg]; exact ka, by show p (f (g a)); rw [hfg]; exact wa⟩
theorem Opens.slice {α : Type} (z : α) {t e : TypeId} {k : Kd α} {p : α → Prop} (ht : P.underlying t = some (.slice e)) (hs : k.sz = P.cellsOf e) (h : Opens enc P W e k p) : Opens enc P W t (Kd.slice e k) (fun l => l.length < 9223372036854775808 ∧ ∀ a ∈ l, p a) := by
  haveI : Inhabited α := ⟨z⟩
  intro fuel cs x hx
  rcases open_slice ht hx with ⟨rfl, _⟩ | ⟨ad, len, cap, m, n, D, Pl, rfl, _, hl, hm, hmm, _, hel⟩
  · exact ⟨[], ⟨none, 0, rfl, Nat.le_refl _, rfl, by simp, fun h0 => absurd h0 (Nat.lt_irrefl 0)⟩, by simp, fun a ha => by cases ha⟩
  · have hlm : len ≤ m := by
      rw [hmm]; split
      · exact hl
      · exact Nat.le_refl _
    obtain ⟨F, hF⟩ := choose_lt (α := α) (n := len) (p := fun i a => p a ∧ ∃ cs', k.K W a cs' ∧ W.cells? 0 (ad.add (i * P.cellsOf e)) (P.cellsOf e) = some cs') (fun i hi => by
      obtain ⟨cs', h1, h2⟩ := hel i (by omega)
      obtain ⟨a, ka, wa⟩ := h n _ _ h2
      exact ⟨a, wa, cs', ka, h1⟩)
    refine ⟨(List.range len).map F, ⟨some ad, cap, by simp, by simpa using hl, by simp, by simp; unfold maxLen at hm; omega, fun _ => ⟨ad, rfl, fun j q hq => ?_⟩⟩, by simp; unfold maxLen at hm; omega, fun a ha => ?_⟩
    · obtain ⟨hj, rfl⟩ : j < len ∧ F j = q := by
        rw [List.getElem?_map] at hq
        rcases Nat.lt_or_ge j len with hj | hj
        · rw [List.getElem?_range hj] at hq; exact ⟨hj, by simpa using hq⟩
        · rw [List.getElem?_eq_none (by simpa using hj)] at hq; simp at hq
      obtain ⟨_, cs', ka, h1⟩ := hF j hj
      obtain ⟨_, hlen, hcell⟩ := World.cells?_some h1
      refine ⟨cs', k.K_len ka, ka, fun i u hu => ?_⟩
      have hi : i < P.cellsOf e := by rw [← hlen]; exact (List.getElem?_eq_some_iff.1 hu).1
      rw [hs, ← add_add, hcell i hi]; exact hu
    · obtain ⟨i, hi, rfl⟩ := List.mem_map.1 ha
      exact (hF i (List.mem_range.1 hi)).1
end
end Go.Proofs.YtafkdkiagmbeaaaW.PrintWords
end
