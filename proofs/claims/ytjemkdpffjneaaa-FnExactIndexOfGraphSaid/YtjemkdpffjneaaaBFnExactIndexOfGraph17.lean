/- Contracts of Go functions and plain lemmas over what they compute; printed by the kit's print program or written by hand, joined. -/
import Derived.Test.YtjemkdpffjneaaaBFnExactIndexOfGraph3
import Derived.Test.YtjemkdpffjneaaaBFnExactIndexOfGraph15
import Derived.Test.YtjemkdpffjneaaaBFnExactIndexOfGraph9
import Derived.Test.YtjemkdpffjneaaaBFnExactIndexOfGraph16
import Derived.Test.YtjemkdpffjneaaaBFnExactIndexOfGraph11
import Derived.Test.YtjemkdpffjneaaaBFnExactIndexOfGraph13
import Derived.Test.YtjemkdpffjneaaaBFnExactIndexOfGraph10
import Derived.Test.YtjemkdpffjneaaaBFnExactIndexOfGraph8
import Derived.Test.YtjemkdpffjneaaaBFnExactIndexOfGraph14
import Derived.Test.YtjemkdpffjneaaaBFnExactIndexOfGraph7
import Derived.Test.YtjemkdpffjneaaaBFnExactIndexOfGraph2
import Derived.WalkKit
import Derived.ProofKit
import Derived.OpenShut
import Derived.ChangeOld
import Derived.Deep.Slices
section
namespace Go.Proofs.Ytjemkdpffjneaaa.Q
open Go.RowKit Go.Proofs.YtjemkdpffjneaaaW.PrintWords Go.Proofs.YtjemkdpffjneaaaW.PrintLast Go.Proofs.YtjemkdpffjneaaaW.PrintMore
attribute [local go_sem] max2_int min2_int max_two min_two max_three min_three max_four min_four   -- for this text's walks alone
set_option linter.unusedVariables false
set_option linter.unusedSimpArgs false

def leastE (e : Int) (L : List (List Int)) (best : Int) : Int := L.foldl (fun b l => if onI e l < b then onI e l else b) best
theorem least_eq (n s : Nat) (hn : n < 6) (hs : s < n + 1) (e : Int) (hL : ∀ l ∈ leaves n (n - s) (firstI s), allDiff ((n : Int) - 1) l) : impl_Graph_least.f n e s = some ((n : Int), leastE e (leaves n (n - s) (firstI s)) e) := by
  unfold impl_Graph_least.f
  rw [if_pos (by omega), lstd_eq, show ((n : Int) - (s : Int)).toNat = n - s from by omega, Int.toNat_natCast, Int.toNat_natCast]
  rw [runCb_fold (leastCb e) (fun b l => if onI e l < b then onI e l else b)]
  · rfl
  · intro l hl a
    unfold leastCb
    rw [if_pos (okList_diff (m := n) (by omega) (by omega) (by rw [show wrap64 ((n : Int) - 1) = (n : Int) - 1 from by unfold wrap64; omega]; exact hL l hl))]
theorem least_loop (n : Nat) (hn : n < 6) (e : Int) : ∀ (ls : List (List Int)) (x : List Int) (k : Nat) (best : Int), isChain n (x :: ls) = true → (∀ l ∈ x :: ls, l.length = n ∧ allDiff ((n : Int) - 1) l) → ls.length + 200 ≤ k →
    spec_l01Least.l0 k x true n e n best = some ((n : Int), leastE e (x :: ls) best)
  | [], x, k, best, hc, hd, hk => by
    obtain ⟨k, rfl⟩ : ∃ q, k = q + 2 := ⟨k - 2, by omega⟩
    obtain ⟨y, hy⟩ := chain_one hc
    have hx := hd x (List.mem_cons_self)
    rw [spec_l01Least.l0, if_pos rfl, onS_diff (m := n) n e (by omega) (by omega) (by rw [show wrap64 ((n : Int) - 1) = (n : Int) - 1 from by unfold wrap64; omega]; exact hx.2) _ (by omega)]
    simp only [Option.bind_some, leastE, List.foldl_cons, List.foldl_nil, hx.1]
    by_cases hb : onI e x < best
    · rw [if_pos hb, if_pos hb, hy _ (by omega)]
      simp only [Option.bind_some]
      rw [spec_l01Least.l0, if_neg (by simp)]
    · rw [if_neg hb, if_neg hb, hy _ (by omega)]
      simp only [Option.bind_some]
      rw [spec_l01Least.l0, if_neg (by simp)]
  | z :: ls, x, k, best, hc, hd, hk => by
    obtain ⟨k, rfl⟩ : ∃ q, k = q + 1 := ⟨k - 1, by omega⟩
    obtain ⟨h1, h2⟩ := chain_cons hc
    have hx := hd x (List.mem_cons_self)
    have hl : (z :: ls).length = ls.length + 1 := rfl
    rw [spec_l01Least.l0, if_pos rfl, onS_diff (m := n) n e (by omega) (by omega) (by rw [show wrap64 ((n : Int) - 1) = (n : Int) - 1 from by unfold wrap64; omega]; exact hx.2) _ (by omega)]
    have ih := fun best => least_loop n hn e ls z k best h2 (fun l hl => hd l (List.mem_cons_of_mem _ hl)) (by omega)
    simp only [Option.bind_some, leastE, hx.1]
    rw [List.foldl_cons]
    by_cases hb : onI e x < best
    · rw [if_pos hb, if_pos hb, h1 _ (by omega)]
      exact ih _
    · rw [if_neg hb, if_neg hb, h1 _ (by omega)]
      exact ih _
theorem l01Least_eq (n : Nat) (hn : n < 6) (e : Int) (k : Nat) (hk : 1000 ≤ k) : spec_l01Least.f k n e = some ((n : Int), leastE e (leaves n n []) e) := by
  unfold spec_l01Least.f
  rw [firstS_eq n (by omega) (by omega) k (by omega)]
  simp only [Option.bind_some, Int.toNat_natCast]
  obtain ⟨hh, hc⟩ := chains n hn n (by omega)
  have hd := leaves_ok n hn n (by omega)
  have hlen := leaves_short n hn n (by omega)
  revert hh hc hd hlen
  generalize leaves n n [] = L
  intro hh hc hd hlen
  cases L with
  | nil => simp at hh
  | cons x ls =>
    obtain rfl : x = firstI n := by simpa using hh
    exact least_loop n hn e ls _ k e hc hd (by simp only [List.length_cons] at hlen; omega)

end Go.Proofs.Ytjemkdpffjneaaa.Q
end

section
namespace Go.Proofs.Ytjemkdpffjneaaa.Q
open Go.RowKit Go.Proofs.YtjemkdpffjneaaaW.PrintWords Go.Proofs.YtjemkdpffjneaaaW.PrintLast Go.Proofs.YtjemkdpffjneaaaW.PrintMore
attribute [local go_sem] max2_int min2_int max_two min_two max_three min_three max_four min_four   -- for this text's walks alone
set_option linter.unusedVariables false
set_option linter.unusedSimpArgs false

theorem mem_leavesIn {g : List Int → List (List Int)} {l x : List Int} : ∀ (d i0 i : Nat), i0 ≤ i → i < i0 + d → (i : Int) ∉ l → x ∈ g (l ++ [(i : Int)]) → x ∈ leavesIn g l d i0
  | 0, i0, i, h1, h2, _, _ => by omega
  | d + 1, i0, i, h1, h2, hn, hx => by
    rw [leavesIn]
    rcases Nat.eq_or_lt_of_le h1 with rfl | h1
    · rw [if_neg hn]; exact List.mem_append_left _ hx
    · have := mem_leavesIn d (i0 + 1) i (by omega) (by omega) hn hx
      by_cases h : (i0 : Int) ∈ l
      · rw [if_pos h]; exact this
      · rw [if_neg h]; exact List.mem_append_right _ this
theorem mem_leaves (n : Nat) : ∀ (r : Nat) (pre t : List Int), t.length = r → (pre ++ t).Nodup → (∀ x ∈ t, 0 ≤ x ∧ x < n) → pre ++ t ∈ leaves n r pre
  | 0, pre, t, hl, _, _ => by
    obtain rfl := List.eq_nil_of_length_eq_zero hl
    rw [leaves, List.append_nil]; exact List.mem_singleton.2 rfl
  | r + 1, pre, t, hl, hd, hr => by
    cases t with
    | nil => simp at hl
    | cons x t =>
      have hx := hr x (List.mem_cons_self)
      have hxp : x ∉ pre := fun h => by
        rw [List.nodup_append] at hd
        exact hd.2.2 x h x (List.mem_cons_self) rfl
      rw [leaves]
      refine mem_leavesIn n 0 x.toNat (Nat.zero_le _) (by omega) (by rw [Int.toNat_of_nonneg hx.1]; exact hxp) ?_
      rw [Int.toNat_of_nonneg hx.1, show pre ++ x :: t = (pre ++ [x]) ++ t from by simp]
      exact mem_leaves n r (pre ++ [x]) t (by simpa using hl) (by simpa using hd) fun y hy => hr y (List.mem_cons_of_mem _ hy)
theorem leaves_take : ∀ n, n < 6 → ∀ s, s < n + 1 → ∀ l ∈ leaves n (n - s) (firstI s), l.take s = firstI s := by decide +kernel
theorem mem_orders (n s : Nat) (hs : s < n + 1) {l : List Int} (h : isOrd n l) (ht : l.take s = firstI s) : l ∈ leaves n (n - s) (firstI s) := by
  have e : firstI s ++ l.drop s = l := by rw [← ht]; exact List.take_append_drop s l
  have := mem_leaves n (n - s) (firstI s) (l.drop s) (by rw [List.length_drop, h.1]) (by rw [e]; exact h.2.1) (fun x hx => by have := h.2.2 x (List.mem_of_mem_drop hx); omega)
  rwa [e] at this
theorem map_firstI (l : List Int) : ∀ s, s ≤ l.length → (firstI s).map (fun x => rd l x) = l.take s
  | 0, _ => rfl
  | s + 1, h => by
    rw [firstI, List.map_append, map_firstI l s (by omega), List.take_succ_eq_append_getElem (by omega)]
    show _ ++ [rd l s] = _
    rw [rd_of_lt l (by omega)]
theorem comp_mem (n s : Nat) (hn : n < 6) (hs : s < n + 1) {l p : List Int} (hl : l ∈ leaves n (n - s) (firstI s)) (hp : p ∈ leaves n (n - s) (firstI s)) : comp l p ∈ leaves n (n - s) (firstI s) := by
  have ol : isOrd n l := leaves_ok_s n hn s hs l hl
  have op : isOrd n p := leaves_ok_s n hn s hs p hp
  refine mem_orders n s hs (ol.comp op) ?_
  unfold comp
  rw [← List.map_take, leaves_take n hn s hs p hp, map_firstI l s (by rw [ol.1]; omega), leaves_take n hn s hs l hl]
theorem first_mem : ∀ n, n < 6 → ∀ s, s < n + 1 → firstI n ∈ leaves n (n - s) (firstI s) := by decide +kernel
theorem onI_first : ∀ n, n < 6 → ∀ b : Nat, b < 2 ^ prs n → onI (b : Nat) (firstI n) = (b : Nat) := by decide +kernel
theorem leastE_le (e : Int) : ∀ (L : List (List Int)) (best : Int), leastE e L best ≤ best ∧ ∀ l ∈ L, leastE e L best ≤ onI e l
  | [], best => ⟨Int.le_refl _, fun l hl => by cases hl⟩
  | x :: L, best => by
    have ih := leastE_le e L (if onI e x < best then onI e x else best)
    show leastE e L _ ≤ best ∧ ∀ l ∈ x :: L, leastE e L _ ≤ onI e l
    have h1 : (if onI e x < best then onI e x else best) ≤ best ∧ (if onI e x < best then onI e x else best) ≤ onI e x := by split <;> omega
    refine ⟨Int.le_trans ih.1 h1.1, fun l hl => ?_⟩
    rcases List.mem_cons.1 hl with rfl | hl
    · exact Int.le_trans ih.1 h1.2
    · exact ih.2 l hl
theorem leastE_mem (e : Int) : ∀ (L : List (List Int)) (best : Int), leastE e L best = best ∨ ∃ l ∈ L, leastE e L best = onI e l
  | [], best => Or.inl rfl
  | x :: L, best => by
    have ih := leastE_mem e L (if onI e x < best then onI e x else best)
    show leastE e L _ = best ∨ ∃ l ∈ x :: L, leastE e L _ = onI e l
    rcases ih with ih | ⟨l, hl, ih⟩
    · rw [ih]
      split
      · exact Or.inr ⟨x, List.mem_cons_self, rfl⟩
      · exact Or.inl rfl
    · exact Or.inr ⟨l, List.mem_cons_of_mem _ hl, ih⟩
end Go.Proofs.Ytjemkdpffjneaaa.Q
end

section
namespace Go.Proofs.Ytjemkdpffjneaaa.Q
open Go.RowKit Go.Proofs.YtjemkdpffjneaaaW.PrintWords Go.Proofs.YtjemkdpffjneaaaW.PrintLast Go.Proofs.YtjemkdpffjneaaaW.PrintMore
attribute [local go_sem] max2_int min2_int max_two min_two max_three min_three max_four min_four   -- for this text's walks alone
set_option linter.unusedVariables false
set_option linter.unusedSimpArgs false

theorem in_eq (a b c : Int) : impl_in.f a b c = some (decide (b ≤ a ∧ a ≤ c)) := by
  unfold impl_in.f
  by_cases h : a ≥ b
  · rw [if_pos h]; congr 1; rw [decide_eq_decide]; omega
  · rw [if_neg h]; congr 1; symm; rw [decide_eq_false_iff_not]; omega

end Go.Proofs.Ytjemkdpffjneaaa.Q
end

section
namespace Go.Proofs.Ytjemkdpffjneaaa.Q
open Go.RowKit Go.Proofs.YtjemkdpffjneaaaW.PrintWords Go.Proofs.YtjemkdpffjneaaaW.PrintLast Go.Proofs.YtjemkdpffjneaaaW.PrintMore
attribute [local go_sem] max2_int min2_int max_two min_two max_three min_three max_four min_four   -- for this text's walks alone
set_option linter.unusedVariables false
set_option linter.unusedSimpArgs false

def validG (n e : Int) : Bool := decide (0 ≤ n ∧ n ≤ 5 ∧ e < 2 ^ (n.toNat * (n.toNat - 1) / 2))
theorem l01Ok_eq (n e : Int) (h0 : 0 ≤ e) (h1 : e ≤ 4294967295) : spec_l01Ok.f n e = some (validG n e) := by
  have hw : wrap64 e = e := by unfold wrap64; omega
  unfold spec_l01Ok.f validG
  rw [l00In_eq, hw]; simp only [Option.bind_some]
  by_cases h : 0 ≤ n ∧ n ≤ 5
  · rw [if_pos (by simpa using h)]
    obtain ⟨ha, hb⟩ := h
    rcases small5 ha hb with rfl | rfl | rfl | rfl | rfl | rfl
    all_goals
      simp only [spec_l01Bits.f]
      simp [wrap64, IntKind.wrap_u64, shl, IntKind.wrap_i64, IntKind.bits]
  · rw [if_neg (by simpa using h)]; congr 1; symm; rw [decide_eq_false_iff_not]; omega

end Go.Proofs.Ytjemkdpffjneaaa.Q
end

section
namespace Go.Proofs.Ytjemkdpffjneaaa.Q
open Go.RowKit Go.Proofs.YtjemkdpffjneaaaW.PrintWords Go.Proofs.YtjemkdpffjneaaaW.PrintLast Go.Proofs.YtjemkdpffjneaaaW.PrintMore
attribute [local go_sem] max2_int min2_int max_two min_two max_three min_three max_four min_four   -- for this text's walks alone
set_option linter.unusedVariables false
set_option linter.unusedSimpArgs false

theorem ValidGraph_eq (n e : Int) (h0 : 0 ≤ e) (h1 : e ≤ 4294967295) : impl_ValidGraph.f n e = some (validG n e) := by
  unfold impl_ValidGraph.f validG
  rw [in_eq]; simp only [Option.bind_some]
  by_cases h : 0 ≤ n ∧ n ≤ 5
  · rw [if_pos (by simpa using h)]
    obtain ⟨ha, hb⟩ := h
    rcases small5 ha hb with rfl | rfl | rfl | rfl | rfl | rfl
    all_goals
      simp only [impl_pairs.f]
      simp [wrap64, shr, IntKind.bits]
    all_goals (first | done | (rw [Bool.eq_iff_iff]; simp; omega))
  · rw [if_neg (by simpa using h)]; congr 1; symm; rw [decide_eq_false_iff_not]; omega

end Go.Proofs.Ytjemkdpffjneaaa.Q
end

section
namespace Go.Proofs.Ytjemkdpffjneaaa.Q
open Go.RowKit Go.Proofs.YtjemkdpffjneaaaW.PrintWords Go.Proofs.YtjemkdpffjneaaaW.PrintLast Go.Proofs.YtjemkdpffjneaaaW.PrintMore
attribute [local go_sem] max2_int min2_int max_two min_two max_three min_three max_four min_four   -- for this text's walks alone
set_option linter.unusedVariables false
set_option linter.unusedSimpArgs false

end Go.Proofs.Ytjemkdpffjneaaa.Q
end

section
namespace Go.Proofs.Ytjemkdpffjneaaa.Q
open Go.RowKit Go.Proofs.YtjemkdpffjneaaaW.PrintWords Go.Proofs.YtjemkdpffjneaaaW.PrintLast Go.Proofs.YtjemkdpffjneaaaW.PrintMore
attribute [local go_sem] max2_int min2_int max_two min_two max_three min_three max_four min_four   -- for this text's walks alone
set_option linter.unusedVariables false
set_option linter.unusedSimpArgs false

end Go.Proofs.Ytjemkdpffjneaaa.Q
end

section
namespace Go.Proofs.Ytjemkdpffjneaaa.Q
open Go.RowKit Go.Proofs.YtjemkdpffjneaaaW.PrintWords Go.Proofs.YtjemkdpffjneaaaW.PrintLast Go.Proofs.YtjemkdpffjneaaaW.PrintMore
attribute [local go_sem] max2_int min2_int max_two min_two max_three min_three max_four min_four   -- for this text's walks alone
set_option linter.unusedVariables false
set_option linter.unusedSimpArgs false

theorem leasts_loop (cb : Int → Int → Option Bool) (p : Nat → Bool) (n s : Nat) (hn : n < 6) (hs : s < n + 1) (hcb : ∀ e : Nat, e < 2 ^ prs n → cb n e = some (p e)) : ∀ (d e k : Nat) (out : List S33), e + d = 2 ^ prs n → out.length ≤ e → d + 1 ≤ k →
    impl_leasts.l0 cb k n s out ((2 ^ prs n : Nat) : Int) e = some (out ++ gList n (fun e => p e && isLeastB n s e) d e)
  | 0, e, k, out, hd, ho, hk => by
    obtain ⟨k, rfl⟩ : ∃ q, k = q + 1 := ⟨k - 1, by omega⟩
    rw [impl_leasts.l0, if_neg (by omega), gList, List.append_nil]
  | d + 1, e, k, out, hd, ho, hk => by
    obtain ⟨k, rfl⟩ : ∃ q, k = q + 1 := ⟨k - 1, by omega⟩
    have hp := prs_le' n hn
    have he : ((e : Int) + 1) % 4294967296 = ((e + 1 : Nat) : Int) := by omega
    rw [impl_leasts.l0, if_pos (by omega), hcb e (by omega), he, gList]
    simp only [Option.bind_some]
    cases hpe : p e
    · simp only [Bool.false_eq_true, if_false, Bool.false_and]
      exact leasts_loop cb p n s hn hs hcb d (e + 1) k _ (by omega) (by omega) (by omega)
    · simp only [if_true, Bool.true_and, isLeast_eq n s hn hs e (fun l hl => (leaves_ok_s n hn s hs l hl).2), Option.bind_some]
      by_cases hl : isLeastB n s (e : Int) = true
      · rw [if_pos hl, if_pos hl, if_pos (by omega), leasts_loop cb p n s hn hs hcb d (e + 1) k _ (by omega) (by rw [List.length_append]; simp only [List.length_cons, List.length_nil]; omega) (by omega), List.append_assoc]; rfl
      · rw [if_neg hl, if_neg hl, leasts_loop cb p n s hn hs hcb d (e + 1) k _ (by omega) (by omega) (by omega)]
theorem leasts_eq (cb : Int → Int → Option Bool) (p : Nat → Bool) (n s : Nat) (hn : n < 6) (hs : s < n + 1) (hcb : ∀ e : Nat, e < 2 ^ prs n → cb n e = some (p e)) (k : Nat) (hk : 1100 ≤ k) : impl_leasts.f cb k n s = some (gList n (fun e => p e && isLeastB n s e) (2 ^ prs n) 0) := by
  have hb : impl_pairs.f (n : Int) = some ((prs n : Nat) : Int) := (show ∀ n : Nat, n < 6 → impl_pairs.f (n : Int) = some ((prs n : Nat) : Int) from by decide +kernel) n hn
  have hsh : shl .u32 1 ((prs n : Nat) : Int) = ((2 ^ prs n : Nat) : Int) := (show ∀ n : Nat, n < 6 → shl .u32 1 ((prs n : Nat) : Int) = ((2 ^ prs n : Nat) : Int) from by decide +kernel) n hn
  have hp := prs_le' n hn
  unfold impl_leasts.f
  rw [hb]
  simp only [Option.bind_some]
  rw [if_pos (by omega), hsh]
  have := leasts_loop cb p n s hn hs hcb (2 ^ prs n) 0 k [] (by omega) (by simp) (by omega)
  rw [show ((0 : Nat) : Int) = 0 from rfl] at this
  rw [this]; rfl
theorem l01All_eq (n : Nat) (hn : n < 6) (k : Nat) (hk : 3000 ≤ k) : spec_l01All.f k n = some (gList n (fun e => isLeastB n 0 e) (2 ^ prs n) 0) := by
  have hp := prs_le' n hn
  unfold spec_l01All.f
  have := l01All_loop n hn (2 ^ prs n) 0 k [] (by omega) (by simp) (by omega)
  rw [show ((0 : Nat) : Int) = 0 from rfl] at this
  rw [this]; rfl

end Go.Proofs.Ytjemkdpffjneaaa.Q
end

section
namespace Go.Proofs.Ytjemkdpffjneaaa.Q
open Go.RowKit Go.Proofs.YtjemkdpffjneaaaW.PrintWords Go.Proofs.YtjemkdpffjneaaaW.PrintLast Go.Proofs.YtjemkdpffjneaaaW.PrintMore
attribute [local go_sem] max2_int min2_int max_two min_two max_three min_three max_four min_four   -- for this text's walks alone
set_option linter.unusedVariables false
set_option linter.unusedSimpArgs false

theorem in_eq4 (a b c : Int) : impl_in.f a b c = some (decide (b ≤ a ∧ a ≤ c)) := by
  unfold impl_in.f
  by_cases h : a ≥ b
  · rw [if_pos h]; congr 1; rw [decide_eq_decide]; omega
  · rw [if_neg h]; congr 1; symm; rw [decide_eq_false_iff_not]; omega
end Go.Proofs.Ytjemkdpffjneaaa.Q
end

section
namespace Go.Proofs.Ytjemkdpffjneaaa.Q
open Go.RowKit Go.Proofs.YtjemkdpffjneaaaW.PrintWords Go.Proofs.YtjemkdpffjneaaaW.PrintLast Go.Proofs.YtjemkdpffjneaaaW.PrintMore
attribute [local go_sem] max2_int min2_int max_two min_two max_three min_three max_four min_four   -- for this text's walks alone
set_option linter.unusedVariables false
set_option linter.unusedSimpArgs false

theorem validG_nat {n e : Int} (h0 : 0 ≤ e) (h : validG n e = true) : ∃ (m f : Nat), n = m ∧ e = f ∧ m < 6 ∧ f < 2 ^ prs m := by
  simp only [validG, decide_eq_true_eq] at h
  refine ⟨n.toNat, e.toNat, by omega, by omega, by omega, ?_⟩
  have := h.2.2
  unfold prs
  have h2 : ((e.toNat : Nat) : Int) < ((2 ^ (n.toNat * (n.toNat - 1) / 2) : Nat) : Int) := by rw [Int.toNat_of_nonneg h0]; exact_mod_cast this
  exact_mod_cast h2

end Go.Proofs.Ytjemkdpffjneaaa.Q
end

section
namespace Go.Proofs.Ytjemkdpffjneaaa.Q
open Go.RowKit Go.Proofs.YtjemkdpffjneaaaW.PrintWords Go.Proofs.YtjemkdpffjneaaaW.PrintLast Go.Proofs.YtjemkdpffjneaaaW.PrintMore
attribute [local go_sem] max2_int min2_int max_two min_two max_three min_three max_four min_four   -- for this text's walks alone
set_option linter.unusedVariables false
set_option linter.unusedSimpArgs false

theorem gList_mem (n : Nat) (ok : Nat → Bool) : ∀ (d e m : Nat), e ≤ m → m < e + d → ok m = true → (⟨n, m⟩ : S33) ∈ gList n ok d e
  | 0, e, m, h1, h2, _ => by omega
  | d + 1, e, m, h1, h2, hm => by
    rw [gList]
    rcases Nat.eq_or_lt_of_le h1 with rfl | h1
    · rw [if_pos hm]; exact List.mem_cons_self
    · have := gList_mem n ok d (e + 1) m (by omega) (by omega) hm
      split
      · exact List.mem_cons_of_mem _ this
      · exact this
theorem least_least (n : Nat) (hn : n < 6) (e : Nat) (he : e < 2 ^ prs n) : ∃ m : Nat, m < 2 ^ prs n ∧ leastE e (leaves n n []) e = m ∧ isLeastB n 0 m = true := by
  have h0 := leaves_ok_s n hn 0 (by omega)
  have cm : ∀ {l p : List Int}, l ∈ leaves n (n - 0) (firstI 0) → p ∈ leaves n (n - 0) (firstI 0) → comp l p ∈ leaves n (n - 0) (firstI 0) := fun hl hp => comp_mem n 0 hn (by omega) hl hp
  have fm := first_mem n hn 0 (by omega)
  have of := onI_first n hn e he
  unfold isLeastB
  rw [show firstI 0 = [] from rfl, Nat.sub_zero] at *
  have hm : ∃ l ∈ leaves n n [], leastE e (leaves n n []) e = onI e l := by
    rcases leastE_mem e (leaves n n []) e with h1 | h1
    · exact ⟨firstI n, fm, by rw [h1, of]⟩
    · exact h1
  obtain ⟨l, hl, e1⟩ := hm
  obtain ⟨m, hm, e2, _⟩ := onI_nat n hn e (h0 l hl)
  refine ⟨m, hm, by rw [e1, e2], ?_⟩
  rw [Bool.not_eq_true', List.any_eq_false]
  intro p hp
  rw [decide_eq_true_eq, ← e2, onI_comp n hn e (h0 l hl) (h0 p hp)]
  have := (leastE_le e (leaves n n []) e).2 _ (cm hl hp)
  omega
theorem index_both (L : List S33) (hL : L.length ≤ 1048576) (g : S33) : ∀ (d i k k' : Nat), i + d = L.length → d + 1 ≤ k → d + 1 ≤ k' → g ∈ L.drop i → ∃ r : Int, spec_IndexOfGraph.l0 k L i g.f0 g.f1 = some (r, 0) ∧ impl_Graph_76.l0 k' L (L.length : Int) i g.f0 g.f1 = some r
  | 0, i, k, k', hd, hk, hk', hg => by rw [List.drop_eq_nil_of_le (by omega)] at hg; cases hg
  | d + 1, i, k, k', hd, hk, hk', hg => by
    obtain ⟨k, rfl⟩ : ∃ q, k = q + 1 := ⟨k - 1, by omega⟩
    obtain ⟨k', rfl⟩ : ∃ q, k' = q + 1 := ⟨k' - 1, by omega⟩
    have hi : i < L.length := by omega
    have e1 : spec_IndexOfGraph.l0 (k + 1) L i g.f0 g.f1 = if (L[i].f0 == g.f0 && (L[i].f1 == g.f1)) = true then some ((i : Int), 0) else spec_IndexOfGraph.l0 k L ((i + 1 : Nat) : Int) g.f0 g.f1 := by
      rw [spec_IndexOfGraph.l0]
      simp only [rdG_nat L hi]
      rw [if_pos (by omega), if_pos (by omega), w64_succ (by omega)]
    have e2 : impl_Graph_76.l0 (k' + 1) L (L.length : Int) i g.f0 g.f1 = if (g.f0 == L[i].f0 && (g.f1 == L[i].f1)) = true then some (i : Int) else impl_Graph_76.l0 k' L (L.length : Int) ((i + 1 : Nat) : Int) g.f0 g.f1 := by
      rw [impl_Graph_76.l0]
      simp only [rdG_nat L hi]
      rw [if_pos (by omega), if_pos (by omega), if_pos (by omega), w64_succ (by omega)]
    rw [e1, e2]
    rw [List.drop_eq_getElem_cons hi, List.mem_cons] at hg
    clear e1 e2
    by_cases h : g = L[i]
    · subst h
      rw [if_pos (by simp), if_pos (by simp)]
      exact ⟨i, rfl, rfl⟩
    · have h2 : ¬ ((L[i].f0 == g.f0 && (L[i].f1 == g.f1)) = true) := fun x => h (by
        simp only [Bool.and_eq_true, beq_iff_eq] at x
        obtain ⟨a, b⟩ := g
        cases hx : L[i] with
        | mk c d => rw [hx] at x; simp only at x; rw [x.1, x.2])
      have h3 : ¬ ((g.f0 == L[i].f0 && (g.f1 == L[i].f1)) = true) := fun x => h2 (by
        simp only [Bool.and_eq_true, beq_iff_eq] at x ⊢
        exact ⟨x.1.symm, x.2.symm⟩)
      rw [if_neg h2, if_neg h3]
      exact index_both L hL g d (i + 1) k k' (by omega) (by omega) (by omega) (hg.resolve_left h)
theorem FnExactIndexOfGraph_pure (n e : Int) (_hn : (Lit.int .i64 n).wf = true) (he : (Lit.int .u32 e).wf = true) : ∃ k, laws_FnExactIndexOfGraph.f k n e = some true := by
  obtain ⟨K, hK⟩ : ∃ K : Nat, 1048580 ≤ K := ⟨1048580, Nat.le_refl _⟩
  refine ⟨K, ?_⟩
  have he' : 0 ≤ e ∧ e ≤ 4294967295 := by simpa [Lit.wf, IntKind.min, IntKind.max, IntKind.bits, IntKind.signed] using he
  simp only [laws_FnExactIndexOfGraph.f, laws_toGraph.f, Option.bind_some, spec_IndexOfGraph.f, impl_IndexOfGraph.f, l01Ok_eq n e he'.1 he'.2, ValidGraph_eq n e he'.1 he'.2]
  cases hv : validG n e
  · rfl
  obtain ⟨n, e, rfl, rfl, hn, he2⟩ := validG_nat he'.1 hv
  have hle := least_eq n 0 hn (by omega) e (fun l hl => (leaves_ok n hn n (by omega) l hl).2)
  rw [show ((0 : Nat) : Int) = 0 from rfl, show firstI 0 = [] from rfl, Nat.sub_zero] at hle
  have hi : impl_AllGraphs.f K n = some (gList n (fun e => isLeastB n 0 e) (2 ^ prs n) 0, 0) := by
    unfold impl_AllGraphs.f impl_sizeOk.f
    rw [in_eq4]
    have hl := leasts_eq (fun y0_0 y0_1 => impl_AllGraphs_1.f y0_0 y0_1) (fun _ => true) n 0 hn (by omega) (fun _ _ => rfl) K (by omega)
    rw [show ((0 : Nat) : Int) = 0 from rfl] at hl
    simp only [Option.bind_some, decide_eq_true (show (0 : Int) ≤ n ∧ (n : Int) ≤ 5 by omega), if_true, hl, Bool.true_and]
  obtain ⟨m, hm, e1, e2⟩ := least_least n hn e he2
  have hlen := gList_length n (fun e => isLeastB n 0 e) (2 ^ prs n) 0
  have hp := prs_le' n hn
  have hmem := gList_mem n (fun e => isLeastB n 0 e) (2 ^ prs n) 0 m (by omega) (by omega) e2
  simp only [if_true, l01Least_eq n hn e K (by omega), l01All_eq n hn K (by omega), hi, hle, Option.bind_some, e1]
  unfold impl_Graph_76.f
  obtain ⟨r, h1, h2⟩ := index_both (gList n (fun e => isLeastB n 0 e) (2 ^ prs n) 0) (by omega) ⟨n, m⟩ _ 0 K K (Nat.zero_add _) (by omega) (by omega) (by simpa using hmem)
  rw [show ((0 : Nat) : Int) = 0 from rfl] at h1 h2
  simp only [h1, h2, Option.bind_some, if_true]

end Go.Proofs.Ytjemkdpffjneaaa.Q
end

section
namespace Go.Proofs.YtjemkdpffjneaaaW.PrintWords
open Go Go.RowKit Go.ChangeShapes Go.WideShapes Go.ChangeAt Go.Deep
set_option linter.unusedVariables false
section
variable {H : Type} (enc : TypeId × Value → H) (P : Program) (W : World)
/-- Whatever reads as data of type t stands for a plain value. -/
def Opens {α : Type} (t : TypeId) (k : Kd α) (wf : α → Prop) : Prop :=
  ∀ (fuel : Nat) (cs : List Value) (x : DataW H × List MemPlace), DataW.trod enc P W 0 (fun _ => true) true fuel t cs = some x → ∃ a, k.K W a cs ∧ wf a
end
section
variable {H : Type} {enc : TypeId × Value → H} {P : Program} {W : World}
theorem Opens.int {t : TypeId} {k : IntKind} (ht : P.underlying t = some (.int k)) : Opens enc P W t (Kd.int k) (fun n => (Lit.int k n).wf = true) := by
  intro fuel cs x h
  obtain ⟨n, rfl, _, hw⟩ := DataW.trod_int ht h
  exact ⟨n, rfl, hw⟩
theorem Opens.bool {t : TypeId} (ht : P.underlying t = some .bool) : Opens enc P W t Kd.bool (fun _ => True) := by
  intro fuel cs x h
  obtain ⟨n, rfl, _⟩ := DataW.trod_bool ht h
  exact ⟨n, rfl, trivial⟩
theorem Opens.struct2 {α β : Type} {t : TypeId} {f0 f1 : Field} {k0 : Kd α} {k1 : Kd β} {p0 : α → Prop} {p1 : β → Prop} (ht : P.underlying t = some (.struct #[f0, f1])) (o0 : f0.offset = 0) (o1 : f1.offset = P.cellsOf f0.type) (hc : P.cellsOf t = P.cellsOf f0.type + P.cellsOf f1.type)
    (h0 : Opens enc P W f0.type k0 p0) (h1 : Opens enc P W f1.type k1 p1) : Opens enc P W t (Kd.pair k0 k1) (fun p => p0 p.1 ∧ p1 p.2) := by
  intro fuel cs x h
  obtain ⟨y0, y1, n, _, hl, e0, e1⟩ := trod_struct2 ht h
  obtain ⟨a, ka, wa⟩ := h0 n _ _ e0
  obtain ⟨b, kb, wb⟩ := h1 n _ _ e1
  refine ⟨(a, b), ⟨_, _, ?_, ka, kb⟩, wa, wb⟩
  rw [o0, o1, List.drop_zero, List.take_of_length_le (l := List.drop _ cs) (by rw [List.length_drop, hl, hc]; omega), List.take_append_drop]
theorem Opens.iso {α β : Type} {t : TypeId} {k : Kd α} {p : α → Prop} (f : β → α) (g : α → β) (hfg : ∀ a, f (g a) = a) (h : Opens enc P W t k p) : Opens enc P W t (Kd.iso k f) (fun b => p (f b)) := by
  intro fuel cs x hx
  obtain ⟨a, ka, wa⟩ := h fuel cs x hx
  exact ⟨g a, by show k.K W (f (g a)) cs; rw [hfg]; exact ka, by show p (f (g a)); rw [hfg]; exact wa⟩
theorem Opens.slice {α : Type} (z : α) {t e : TypeId} {k : Kd α} {p : α → Prop} (ht : P.underlying t = some (.slice e)) (hs : k.sz = P.cellsOf e) (h : Opens enc P W e k p) : Opens enc P W t (Kd.slice e k) (fun l => l.length < 9223372036854775808 ∧ ∀ a ∈ l, p a) := by
  haveI : Inhabited α := ⟨z⟩
  intro fuel cs x hx
  rcases open_slice ht hx with ⟨rfl, _⟩ | ⟨ad, len, cap, m, n, D, Pl, rfl, _, hl, hm, hmm, _, hel⟩
  · exact ⟨[], ⟨none, 0, rfl, Nat.le_refl _, rfl, by simp, fun h0 => absurd h0 (Nat.lt_irrefl 0)⟩, by simp, fun a ha => by cases ha⟩
  · have hlm : len ≤ m := by
      rw [hmm]; split
      · exact hl
      · exact Nat.le_refl _
    obtain ⟨F, hF⟩ := choose_lt (α := α) (n := len) (p := fun i a => p a ∧ ∃ cs', k.K W a cs' ∧ W.cells? 0 (ad.add (i * P.cellsOf e)) (P.cellsOf e) = some cs') (fun i hi => by
      obtain ⟨cs', h1, h2⟩ := hel i (by omega)
      obtain ⟨a, ka, wa⟩ := h n _ _ h2
      exact ⟨a, wa, cs', ka, h1⟩)
    refine ⟨(List.range len).map F, ⟨some ad, cap, by simp, by simpa using hl, by simp, by simp; unfold maxLen at hm; omega, fun _ => ⟨ad, rfl, fun j q hq => ?_⟩⟩, by simp; unfold maxLen at hm; omega, fun a ha => ?_⟩
    · obtain ⟨hj, rfl⟩ : j < len ∧ F j = q := by
        rw [List.getElem?_map] at hq
        rcases Nat.lt_or_ge j len with hj | hj
        · rw [List.getElem?_range hj] at hq; exact ⟨hj, by simpa using hq⟩
        · rw [List.getElem?_eq_none (by simpa using hj)] at hq; simp at hq
      obtain ⟨_, cs', ka, h1⟩ := hF j hj
      obtain ⟨_, hlen, hcell⟩ := World.cells?_some h1
      refine ⟨cs', k.K_len ka, ka, fun i u hu => ?_⟩
      have hi : i < P.cellsOf e := by rw [← hlen]; exact (List.getElem?_eq_some_iff.1 hu).1
      rw [hs, ← add_add, hcell i hi]; exact hu
    · obtain ⟨i, hi, rfl⟩ := List.mem_map.1 ha
      exact (hF i (List.mem_range.1 hi)).1
end
end Go.Proofs.YtjemkdpffjneaaaW.PrintWords
end
