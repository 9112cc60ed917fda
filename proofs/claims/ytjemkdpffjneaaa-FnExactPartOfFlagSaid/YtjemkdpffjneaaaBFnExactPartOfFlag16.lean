/- Contracts of Go functions and plain lemmas over what they compute; printed by the kit's print program or written by hand, joined. -/
import Derived.Test.YtjemkdpffjneaaaBFnExactPartOfFlag3
import Derived.Test.YtjemkdpffjneaaaBFnExactPartOfFlag4
import Derived.Test.YtjemkdpffjneaaaBFnExactPartOfFlag11
import Derived.Test.YtjemkdpffjneaaaBFnExactPartOfFlag7
import Derived.Test.YtjemkdpffjneaaaBFnExactPartOfFlag13
import Derived.Test.YtjemkdpffjneaaaBFnExactPartOfFlag15
import Derived.Test.YtjemkdpffjneaaaBFnExactPartOfFlag6
import Derived.Test.YtjemkdpffjneaaaBFnExactPartOfFlag5
import Derived.Test.YtjemkdpffjneaaaBFnExactPartOfFlag12
import Derived.Test.YtjemkdpffjneaaaBFnExactPartOfFlag8
import Derived.Test.YtjemkdpffjneaaaBFnExactPartOfFlag9
import Derived.Test.YtjemkdpffjneaaaBFnExactPartOfFlag10
import Derived.Test.YtjemkdpffjneaaaBFnExactPartOfFlag14
import Derived.Test.YtjemkdpffjneaaaBFnExactPartOfFlag2
import Derived.WalkKit
import Derived.ProofKit
import Derived.OpenShut
import Derived.ChangeOld
import Derived.Deep.Slices
section
namespace Go.Proofs.Ytjemkdpffjneaaa.Q
open Go.RowKit Go.Proofs.YtjemkdpffjneaaaW.PrintWords Go.Proofs.YtjemkdpffjneaaaW.PrintLast Go.Proofs.YtjemkdpffjneaaaW.PrintMore
attribute [local go_sem] max2_int min2_int max_two min_two max_three min_three max_four min_four   -- for this text's walks alone
set_option linter.unusedVariables false
set_option linter.unusedSimpArgs false

theorem toInt64S_loop (l : List Int) (hl : l.length ≤ 1048576) : ∀ (d i k : Nat) (out : List Int), i + d = l.length → out.length = l.length → d + 1 ≤ k → laws_toInt64S.l0 k l out i = some (out.take i ++ l.drop i)
  | 0, i, k, out, hd, ho, hk => by
    obtain ⟨k, rfl⟩ : ∃ q, k = q + 1 := ⟨k - 1, by omega⟩
    rw [laws_toInt64S.l0, if_neg (by omega), List.drop_eq_nil_of_le (by omega), List.take_of_length_le (by omega)]; simp
  | d + 1, i, k, out, hd, ho, hk => by
    obtain ⟨k, rfl⟩ : ∃ q, k = q + 1 := ⟨k - 1, by omega⟩
    rw [laws_toInt64S.l0, if_pos (by omega), if_pos (by omega), if_pos (by omega), w64_succ (by omega), Int.toNat_natCast, rd_of_lt l (by omega)]
    rw [toInt64S_loop l hl d (i + 1) k _ (by omega) (by rw [List.length_set]; exact ho) (by omega), set_take _ _ (by omega), List.append_assoc]
    congr 2
    rw [List.drop_eq_getElem_cons (show i < l.length by omega)]
    rfl
theorem toInt64S_eq (l : List Int) (hl : l.length ≤ 1048576) (k : Nat) (hk : 1048577 ≤ k) : laws_toInt64S.f k l = some l := by
  unfold laws_toInt64S.f
  rw [if_pos (by omega), if_pos (by omega)]
  have := toInt64S_loop l hl l.length 0 k (List.replicate ((l.length : Int) : Int).toNat 0) (by omega) (by simp) (by omega)
  rw [show ((0 : Nat) : Int) = 0 from rfl] at this
  rw [this]; simp
theorem eqInt64S_loop (l : List Int) (hl : l.length ≤ 1048576) : ∀ (d i k : Nat), i + d = l.length → d + 1 ≤ k → laws_eqInt64S.l0 k l l i = some true
  | 0, i, k, hd, hk => by
    obtain ⟨k, rfl⟩ : ∃ q, k = q + 1 := ⟨k - 1, by omega⟩
    rw [laws_eqInt64S.l0, if_neg (by omega)]
  | d + 1, i, k, hd, hk => by
    obtain ⟨k, rfl⟩ : ∃ q, k = q + 1 := ⟨k - 1, by omega⟩
    rw [laws_eqInt64S.l0, if_pos (by omega), if_pos (by omega), if_pos (by omega), if_pos rfl, w64_succ (by omega)]
    exact eqInt64S_loop l hl d (i + 1) k (by omega) (by omega)
theorem eqInt64S_self (l : List Int) (hl : l.length ≤ 1048576) (k : Nat) (hk : 1048577 ≤ k) : laws_eqInt64S.f k l l = some true := by
  unfold laws_eqInt64S.f
  rw [if_pos rfl]; exact eqInt64S_loop l hl l.length 0 k (by omega) (by omega)

end Go.Proofs.Ytjemkdpffjneaaa.Q
end

section
namespace Go.Proofs.Ytjemkdpffjneaaa.Q
open Go.RowKit Go.Proofs.YtjemkdpffjneaaaW.PrintWords Go.Proofs.YtjemkdpffjneaaaW.PrintLast Go.Proofs.YtjemkdpffjneaaaW.PrintMore
attribute [local go_sem] max2_int min2_int max_two min_two max_three min_three max_four min_four   -- for this text's walks alone
set_option linter.unusedVariables false
set_option linter.unusedSimpArgs false

def isChain (n : Int) : List (List Int) → Bool
  | [] => true
  | x :: ls => match ls with
    | [] => match spec_l01Next.f 100 x n with | some (false, _) => true | _ => false
    | y :: _ => decide (spec_l01Next.f 100 x n = some (true, y)) && isChain n ls
theorem chains : ∀ n, n < 6 → ∀ r, r < n + 1 → (leaves n r []).head? = some (firstI r) ∧ isChain n (leaves n r []) = true := by decide +kernel
theorem next_ge {x : List Int} {n : Int} {p : Bool × List Int} (h : spec_l01Next.f 100 x n = some p) (k : Nat) (hk : 100 ≤ k) : spec_l01Next.f k x n = some p :=
  LeO_ge (F := fun k => spec_l01Next.f k x n) (fun k => spec_l01Next.mono x n k) hk _ h
theorem chain_one {n : Int} {x : List Int} (h : isChain n [x] = true) : ∃ y, ∀ k, 100 ≤ k → spec_l01Next.f k x n = some (false, y) := by
  simp only [isChain] at h
  split at h
  · next y e => exact ⟨y, fun k hk => next_ge e k hk⟩
  · cases h
theorem chain_cons {n : Int} {x y : List Int} {ls : List (List Int)} (h : isChain n (x :: y :: ls) = true) : (∀ k, 100 ≤ k → spec_l01Next.f k x n = some (true, y)) ∧ isChain n (y :: ls) = true := by
  rw [isChain] at h
  simp only [Bool.and_eq_true, decide_eq_true_eq] at h
  exact ⟨fun k hk => next_ge h.1 k hk, h.2⟩
theorem leaves_short : ∀ n, n < 6 → ∀ r, r < n + 1 → (leaves n r []).length ≤ 200 := by decide +kernel

end Go.Proofs.Ytjemkdpffjneaaa.Q
end

section
namespace Go.Proofs.Ytjemkdpffjneaaa.Q
open Go.RowKit Go.Proofs.YtjemkdpffjneaaaW.PrintWords Go.Proofs.YtjemkdpffjneaaaW.PrintLast Go.Proofs.YtjemkdpffjneaaaW.PrintMore
attribute [local go_sem] max2_int min2_int max_two min_two max_three min_three max_four min_four   -- for this text's walks alone
set_option linter.unusedVariables false
set_option linter.unusedSimpArgs false

end Go.Proofs.Ytjemkdpffjneaaa.Q
end

section
namespace Go.Proofs.Ytjemkdpffjneaaa.Q
open Go.RowKit Go.Proofs.YtjemkdpffjneaaaW.PrintWords Go.Proofs.YtjemkdpffjneaaaW.PrintLast Go.Proofs.YtjemkdpffjneaaaW.PrintMore
attribute [local go_sem] max2_int min2_int max_two min_two max_three min_three max_four min_four   -- for this text's walks alone
set_option linter.unusedVariables false
set_option linter.unusedSimpArgs false

theorem l01Bit_eq (k : Nat) {i j : Int} (i0 : 0 ≤ i) (i4 : i ≤ 4) (j0 : 0 ≤ j) (j4 : j ≤ 4) : spec_l01Bit.f (k + 2) i j = some (bitI i j) := by
  rcases small4 i0 i4 with rfl | rfl | rfl | rfl | rfl <;> rcases small4 j0 j4 with rfl | rfl | rfl | rfl | rfl <;> kernel_rfl

end Go.Proofs.Ytjemkdpffjneaaa.Q
end

section
namespace Go.Proofs.Ytjemkdpffjneaaa.Q
open Go.RowKit Go.Proofs.YtjemkdpffjneaaaW.PrintWords Go.Proofs.YtjemkdpffjneaaaW.PrintLast Go.Proofs.YtjemkdpffjneaaaW.PrintMore
attribute [local go_sem] max2_int min2_int max_two min_two max_three min_three max_four min_four   -- for this text's walks alone
set_option linter.unusedVariables false
set_option linter.unusedSimpArgs false

theorem joined_eq (k : Nat) (n e : Int) {i j : Int} (i0 : 0 ≤ i) (i4 : i ≤ 4) (j0 : 0 ≤ j) (j4 : j ≤ 4) (hij : i ≠ j) : spec_l01Joined.f (k + 2) n e i j = some (hasI e i j) := by
  unfold spec_l01Joined.f hasI
  rw [if_neg hij, l01Bit_eq k i0 i4 j0 j4]; rfl
theorem l01Bit_ge {k : Nat} (hk : 2 ≤ k) {i j : Int} (i0 : 0 ≤ i) (i4 : i ≤ 4) (j0 : 0 ≤ j) (j4 : j ≤ 4) : spec_l01Bit.f k i j = some (bitI i j) := by
  obtain ⟨q, rfl⟩ : ∃ q, k = q + 2 := ⟨k - 2, by omega⟩
  exact l01Bit_eq q i0 i4 j0 j4
theorem joined_ge {k : Nat} (hk : 2 ≤ k) (n e : Int) {i j : Int} (i0 : 0 ≤ i) (i4 : i ≤ 4) (j0 : 0 ≤ j) (j4 : j ≤ 4) (hij : i ≠ j) : spec_l01Joined.f k n e i j = some (hasI e i j) := by
  obtain ⟨q, rfl⟩ : ∃ q, k = q + 2 := ⟨k - 2, by omega⟩
  exact joined_eq q n e i0 i4 j0 j4 hij
theorem onS_row {l : List Int} {j : Nat} (n e0 : Int) (h5 : l.length ≤ 5) (h : ∀ i : Nat, i < l.length → 0 ≤ rd l i ∧ rd l i ≤ 4) (hne : ∀ i j : Nat, i < j → j < l.length → rd l i ≠ rd l j) (hj : j < l.length) (N : Int) :
    ∀ (d i : Nat) (e : Int) (k : Nat), i + d = j → d + 3 ≤ k → spec_l01On.l1 k l j i n e0 N e = spec_l01On.l0 (k - (d + 1)) l ((j + 1 : Nat) : Int) n e0 N (loopRow (fun i j => hasI e0 (rd l i) (rd l j)) j d i e)
  | 0, i, e, k, hd, hk => by
    have : i = j := by omega
    subst this
    obtain ⟨k, rfl⟩ : ∃ m, k = m + 1 := ⟨k - 1, by omega⟩
    simp only [spec_l01On.l1, loopRow]
    rw [if_neg (by omega), show wrap64 ((i : Int) + 1) = ((i + 1 : Nat) : Int) from by unfold wrap64; omega]; rfl
  | d + 1, i, e, k, hd, hk => by
    have hw : wrap64 ((i : Int) + 1) = ((i + 1 : Nat) : Int) := by unfold wrap64; omega
    have hi := h i (by omega)
    have hj' := h j hj
    obtain ⟨k, rfl⟩ : ∃ m, k = m + 1 := ⟨k - 1, by omega⟩
    simp only [spec_l01On.l1, loopRow]
    rw [if_pos (by omega), if_pos (by omega), if_pos (by omega), if_pos (by omega), if_pos (by omega), joined_ge (by omega) n e0 hi.1 hi.2 hj'.1 hj'.2 (hne i j (by omega) hj), hw, show k + 1 - (d + 1 + 1) = k - (d + 1) from by omega]
    simp only [Option.bind_some]
    by_cases hb : hasI e0 (rd l i) (rd l j) = true
    rotate_left
    · rw [if_neg hb, if_neg hb]
      exact onS_row n e0 h5 h hne hj N d (i + 1) e k (by omega) (by omega)
    · rw [if_pos hb, if_pos hb, l01Bit_ge (by omega) (by omega) (by omega) (by omega) (by omega)]
      simp only [Option.bind_some]
      exact onS_row n e0 h5 h hne hj N d (i + 1) _ k (by omega) (by omega)
theorem onS_all {l : List Int} (n e0 : Int) (h5 : l.length ≤ 5) (h : ∀ i : Nat, i < l.length → 0 ≤ rd l i ∧ rd l i ≤ 4) (hne : ∀ i j : Nat, i < j → j < l.length → rd l i ≠ rd l j) :
    ∀ (d j : Nat) (e : Int) (k : Nat), j + d = l.length → 7 * d + 3 ≤ k → spec_l01On.l0 k l j n e0 (l.length : Int) e = some ((l.length : Int), loopMade (fun i j => hasI e0 (rd l i) (rd l j)) d j e)
  | 0, j, e, k, hd, hk => by
    obtain ⟨k, rfl⟩ : ∃ m, k = m + 1 := ⟨k - 1, by omega⟩
    simp only [spec_l01On.l0, loopMade]
    rw [if_neg (by omega)]
  | d + 1, j, e, k, hd, hk => by
    obtain ⟨k, rfl⟩ : ∃ m, k = m + 1 := ⟨k - 1, by omega⟩
    simp only [spec_l01On.l0, loopMade]
    rw [if_pos (by omega)]
    have := onS_row n e0 h5 h hne (show j < l.length by omega) (l.length : Int) j 0 e k (by omega) (by omega)
    rw [show ((0 : Nat) : Int) = 0 from rfl] at this
    rw [this]
    exact onS_all n e0 h5 h hne d (j + 1) _ (k - (j + 1)) (by omega) (by omega)
theorem onS_eq (n e : Int) {l : List Int} (h5 : l.length ≤ 5) (h : ∀ i : Nat, i < l.length → 0 ≤ rd l i ∧ rd l i ≤ 4) (hne : ∀ i j : Nat, i < j → j < l.length → rd l i ≠ rd l j) (k : Nat) (hk : 40 ≤ k) :
    spec_l01On.f k n e l = some ((l.length : Int), onI e l) := by
  unfold spec_l01On.f onI madeI
  cases hl : l.length with
  | zero =>
    obtain ⟨k, rfl⟩ : ∃ m, k = m + 1 := ⟨k - 1, by omega⟩
    simp [spec_l01On.l0, loopMade]
  | succ m =>
    have := onS_all n e h5 h hne m 1 0 k (by omega) (by omega)
    rw [hl] at this
    rw [show ((1 : Nat) : Int) = 1 from rfl] at this
    rw [this]
    simp [loopMade, loopRow]

end Go.Proofs.Ytjemkdpffjneaaa.Q
end

section
namespace Go.Proofs.Ytjemkdpffjneaaa.Q
open Go.RowKit Go.Proofs.YtjemkdpffjneaaaW.PrintWords Go.Proofs.YtjemkdpffjneaaaW.PrintLast Go.Proofs.YtjemkdpffjneaaaW.PrintMore
attribute [local go_sem] max2_int min2_int max_two min_two max_three min_three max_four min_four   -- for this text's walks alone
set_option linter.unusedVariables false
set_option linter.unusedSimpArgs false

theorem onS_diff (n e : Int) {m : Int} (h0 : 0 ≤ m) (h5 : m ≤ 5) {l : List Int} (h : allDiff (wrap64 (m - 1)) l) (k : Nat) (hk : 40 ≤ k) : spec_l01On.f k n e l = some ((l.length : Int), onI e l) := by
  have hl := allDiff_len h0 h5 h
  have hat : ∀ i : Nat, (hi : i < l.length) → 0 ≤ l[i] ∧ l[i] < m := fun i hi => hl.2 _ (List.getElem_mem hi)
  refine onS_eq n e (by omega) (fun i hi => ?_) (fun i j hij hj => ?_) k hk
  · rw [rd_of_lt l hi]; have := hat i hi; omega
  · rw [rd_of_lt l hj, rd_of_lt l (by omega)]
    exact List.pairwise_iff_getElem.1 h.1 i j (by omega) hj hij
theorem okList_diff {m : Int} (h0 : 0 ≤ m) (h5 : m ≤ 5) {l : List Int} (h : allDiff (wrap64 (m - 1)) l) : okList l := by
  have hl := allDiff_len h0 h5 h
  exact ⟨by omega, fun x hx => by have := hl.2 x hx; omega⟩

end Go.Proofs.Ytjemkdpffjneaaa.Q
end

section
namespace Go.Proofs.Ytjemkdpffjneaaa.Q
open Go.RowKit Go.Proofs.YtjemkdpffjneaaaW.PrintWords Go.Proofs.YtjemkdpffjneaaaW.PrintLast Go.Proofs.YtjemkdpffjneaaaW.PrintMore
attribute [local go_sem] max2_int min2_int max_two min_two max_three min_three max_four min_four   -- for this text's walks alone
set_option linter.unusedVariables false
set_option linter.unusedSimpArgs false

def leastE (e : Int) (L : List (List Int)) (best : Int) : Int := L.foldl (fun b l => if onI e l < b then onI e l else b) best
theorem least_eq (n s : Nat) (hn : n < 6) (hs : s < n + 1) (e : Int) (hL : ∀ l ∈ leaves n (n - s) (firstI s), allDiff ((n : Int) - 1) l) : impl_Graph_least.f n e s = some ((n : Int), leastE e (leaves n (n - s) (firstI s)) e) := by
  unfold impl_Graph_least.f
  rw [if_pos (by omega), lstd_eq, show ((n : Int) - (s : Int)).toNat = n - s from by omega, Int.toNat_natCast, Int.toNat_natCast]
  rw [runCb_fold (leastCb e) (fun b l => if onI e l < b then onI e l else b)]
  · rfl
  · intro l hl a
    unfold leastCb
    rw [if_pos (okList_diff (m := n) (by omega) (by omega) (by rw [show wrap64 ((n : Int) - 1) = (n : Int) - 1 from by unfold wrap64; omega]; exact hL l hl))]
end Go.Proofs.Ytjemkdpffjneaaa.Q
end

section
namespace Go.Proofs.Ytjemkdpffjneaaa.Q
open Go.RowKit Go.Proofs.YtjemkdpffjneaaaW.PrintWords Go.Proofs.YtjemkdpffjneaaaW.PrintLast Go.Proofs.YtjemkdpffjneaaaW.PrintMore
attribute [local go_sem] max2_int min2_int max_two min_two max_three min_three max_four min_four   -- for this text's walks alone
set_option linter.unusedVariables false
set_option linter.unusedSimpArgs false

theorem least3_loop (n s : Nat) (hn : n < 6) (hs : s < n + 1) (e : Int) : ∀ (ls : List (List Int)) (x : List Int) (k : Nat) (best : Int), isChain ((n - s : Nat) : Int) (x :: ls) = true → (∀ l ∈ x :: ls, (l.length ≤ 5 ∧ ∀ y ∈ l, 0 ≤ y ∧ y ≤ 5) ∧ (shiftL s l).length = n ∧ allDiff ((n : Int) - 1) (shiftL s l)) → ls.length + 200 ≤ k →
    spec_l03Least.l0 k x true s n e s n best = some ((s : Int), (n : Int), leastE e ((x :: ls).map (shiftL s)) best)
  | [], x, k, best, hc, hd, hk => by
    obtain ⟨k, rfl⟩ : ∃ q, k = q + 2 := ⟨k - 2, by omega⟩
    obtain ⟨y, hy⟩ := chain_one hc
    obtain ⟨⟨hx1, hx2⟩, hx3, hx4⟩ := hd x (List.mem_cons_self)
    rw [spec_l03Least.l0, if_pos rfl, l03Order_eq s (by omega) x hx1 hx2 _ (by omega)]
    simp only [Option.bind_some]
    rw [onS_diff (m := n) n e (by omega) (by omega) (by rw [show wrap64 ((n : Int) - 1) = (n : Int) - 1 from by unfold wrap64; omega]; exact hx4) _ (by omega), show wrap64 ((n : Int) - (s : Int)) = ((n - s : Nat) : Int) from by unfold wrap64; omega]
    simp only [Option.bind_some, leastE, List.map_cons, List.map_nil, List.foldl_cons, List.foldl_nil, hx3]
    by_cases hb : onI e (shiftL s x) < best
    · rw [if_pos hb, if_pos hb, hy _ (by omega)]
      simp only [Option.bind_some]
      rw [spec_l03Least.l0, if_neg (by simp)]
    · rw [if_neg hb, if_neg hb, hy _ (by omega)]
      simp only [Option.bind_some]
      rw [spec_l03Least.l0, if_neg (by simp)]
  | z :: ls, x, k, best, hc, hd, hk => by
    obtain ⟨k, rfl⟩ : ∃ q, k = q + 1 := ⟨k - 1, by omega⟩
    obtain ⟨h1, h2⟩ := chain_cons hc
    obtain ⟨⟨hx1, hx2⟩, hx3, hx4⟩ := hd x (List.mem_cons_self)
    have hl : (z :: ls).length = ls.length + 1 := rfl
    rw [spec_l03Least.l0, if_pos rfl, l03Order_eq s (by omega) x hx1 hx2 _ (by omega)]
    simp only [Option.bind_some]
    rw [onS_diff (m := n) n e (by omega) (by omega) (by rw [show wrap64 ((n : Int) - 1) = (n : Int) - 1 from by unfold wrap64; omega]; exact hx4) _ (by omega), show wrap64 ((n : Int) - (s : Int)) = ((n - s : Nat) : Int) from by unfold wrap64; omega]
    have ih := fun best => least3_loop n s hn hs e ls z k best h2 (fun l hl => hd l (List.mem_cons_of_mem _ hl)) (by omega)
    simp only [Option.bind_some, leastE, hx3]
    rw [List.map_cons, List.foldl_cons]
    by_cases hb : onI e (shiftL s x) < best
    · rw [if_pos hb, if_pos hb, h1 _ (by omega)]
      exact ih _
    · rw [if_neg hb, if_neg hb, h1 _ (by omega)]
      exact ih _
theorem l03Least_eq (n s : Nat) (hn : n < 6) (hs : s < n + 1) (e : Int) (k : Nat) (hk : 1000 ≤ k) : spec_l03Least.f k s n e = some ((s : Int), (n : Int), leastE e (leaves n (n - s) (firstI s)) e) := by
  unfold spec_l03Least.f
  rw [show wrap64 ((n : Int) - (s : Int)) = ((n - s : Nat) : Int) from by unfold wrap64; omega, firstS_eq ((n - s : Nat) : Int) (by omega) (by omega) k (by omega), leaves_shift n hn s hs]
  simp only [Option.bind_some, Int.toNat_natCast]
  obtain ⟨hh, hc⟩ := chains (n - s) (by omega) (n - s) (by omega)
  have hd := own_ok n s hn hs
  have hlen := leaves_short (n - s) (by omega) (n - s) (by omega)
  revert hh hc hd hlen
  generalize leaves (n - s) (n - s) [] = L
  intro hh hc hd hlen
  cases L with
  | nil => simp at hh
  | cons x ls =>
    obtain rfl : x = firstI (n - s) := by simpa using hh
    exact least3_loop n s hn hs e ls _ k e hc hd (by simp only [List.length_cons] at hlen; omega)

end Go.Proofs.Ytjemkdpffjneaaa.Q
end

section
namespace Go.Proofs.Ytjemkdpffjneaaa.Q
open Go.RowKit Go.Proofs.YtjemkdpffjneaaaW.PrintWords Go.Proofs.YtjemkdpffjneaaaW.PrintLast Go.Proofs.YtjemkdpffjneaaaW.PrintMore
attribute [local go_sem] max2_int min2_int max_two min_two max_three min_three max_four min_four   -- for this text's walks alone
set_option linter.unusedVariables false
set_option linter.unusedSimpArgs false

theorem validG_nat {n e : Int} (h0 : 0 ≤ e) (h : validG n e = true) : ∃ (m f : Nat), n = m ∧ e = f ∧ m < 6 ∧ f < 2 ^ prs m := by
  simp only [validG, decide_eq_true_eq] at h
  refine ⟨n.toNat, e.toNat, by omega, by omega, by omega, ?_⟩
  have := h.2.2
  unfold prs
  have h2 : ((e.toNat : Nat) : Int) < ((2 ^ (n.toNat * (n.toNat - 1) / 2) : Nat) : Int) := by rw [Int.toNat_of_nonneg h0]; exact_mod_cast this
  exact_mod_cast h2

end Go.Proofs.Ytjemkdpffjneaaa.Q
end

section
namespace Go.Proofs.Ytjemkdpffjneaaa.Q
open Go.RowKit Go.Proofs.YtjemkdpffjneaaaW.PrintWords Go.Proofs.YtjemkdpffjneaaaW.PrintLast Go.Proofs.YtjemkdpffjneaaaW.PrintMore
attribute [local go_sem] max2_int min2_int max_two min_two max_three min_three max_four min_four   -- for this text's walks alone
set_option linter.unusedVariables false
set_option linter.unusedSimpArgs false

theorem validF_nat {l n e : Int} (h0 : 0 ≤ e) (h : validF l n e = true) : ∃ (s m f : Nat), l = s ∧ n = m ∧ e = f ∧ m < 6 ∧ s < m + 1 ∧ f < 2 ^ prs m := by
  simp only [validF, Bool.and_eq_true, decide_eq_true_eq] at h
  obtain ⟨m, f, rfl, rfl, hm, hf⟩ := validG_nat h0 h.1
  exact ⟨l.toNat, m, f, by omega, rfl, rfl, hm, by omega, hf⟩

end Go.Proofs.Ytjemkdpffjneaaa.Q
end

section
namespace Go.Proofs.Ytjemkdpffjneaaa.Q
open Go.RowKit Go.Proofs.YtjemkdpffjneaaaW.PrintWords Go.Proofs.YtjemkdpffjneaaaW.PrintLast Go.Proofs.YtjemkdpffjneaaaW.PrintMore
attribute [local go_sem] max2_int min2_int max_two min_two max_three min_three max_four min_four   -- for this text's walks alone
set_option linter.unusedVariables false
set_option linter.unusedSimpArgs false

theorem mem_firstI : ∀ (s : Nat) (x : Int), x ∈ firstI s ↔ 0 ≤ x ∧ x < s
  | 0, x => ⟨fun h => by simp [firstI] at h, fun h => by omega⟩
  | s + 1, x => by
    rw [firstI, List.mem_append, mem_firstI s x, List.mem_singleton]; omega
theorem firstI_nodup : ∀ s, (firstI s).Nodup
  | 0 => List.nodup_nil
  | s + 1 => by
    rw [firstI, List.nodup_append]
    refine ⟨firstI_nodup s, by simp, fun a ha b hb => ?_⟩
    rw [List.mem_singleton] at hb
    rw [mem_firstI] at ha
    omega
theorem part_diff {n s : Nat} (hs : s < n + 1) (l : List Int) : allDiff ((n : Int) - 1) (firstI s ++ l) ↔ allDiff ((n : Int) - 1) l ∧ ∀ x ∈ l, ¬ x < s := by
  unfold allDiff
  rw [List.nodup_append]
  constructor
  · rintro ⟨⟨_, h2, h3⟩, h4⟩
    refine ⟨⟨h2, fun x hx => h4 x (List.mem_append_right _ hx)⟩, fun x hx hlt => ?_⟩
    exact h3 x ((mem_firstI s x).2 ⟨(h4 x (List.mem_append_right _ hx)).1, hlt⟩) x hx rfl
  · rintro ⟨⟨h1, h2⟩, h3⟩
    refine ⟨⟨firstI_nodup s, h1, fun a ha b hb e => ?_⟩, fun x hx => ?_⟩
    · subst e; rw [mem_firstI] at ha; exact h3 a hb ha.2
    · rcases List.mem_append.1 hx with hx | hx
      · rw [mem_firstI] at hx; omega
      · exact h2 x hx
theorem idxI_loop (s : Nat) (cb : Int → Option Bool) (hcb : ∀ x, cb x = some (decide (x < (s : Int)))) (l : List Int) (hl : l.length ≤ 1048576) :
    ∀ (d i k : Nat), i + d = l.length → d + 1 ≤ k → ((∀ x ∈ l.drop i, ¬ x < (s : Int)) → slices_IndexFunc_int64_int64.l0 cb k l (l.length : Int) i = some (-1)) ∧ (¬ (∀ x ∈ l.drop i, ¬ x < (s : Int)) → ∃ r : Int, 0 ≤ r ∧ slices_IndexFunc_int64_int64.l0 cb k l (l.length : Int) i = some r)
  | 0, i, k, hd, hk => by
    obtain ⟨k, rfl⟩ : ∃ q, k = q + 1 := ⟨k - 1, by omega⟩
    rw [slices_IndexFunc_int64_int64.l0, if_neg (by omega), List.drop_eq_nil_of_le (by omega)]
    exact ⟨fun _ => rfl, fun h => absurd (fun x hx => absurd hx (by simp)) h⟩
  | d + 1, i, k, hd, hk => by
    obtain ⟨k, rfl⟩ : ∃ q, k = q + 1 := ⟨k - 1, by omega⟩
    have hi : i < l.length := by omega
    have ih := idxI_loop s cb hcb l hl d (i + 1) k (by omega) (by omega)
    rw [slices_IndexFunc_int64_int64.l0, if_pos (by omega), if_pos (by omega), if_pos (by omega), hcb, w64_succ (by omega), rd_of_lt l hi, List.drop_eq_getElem_cons hi]
    simp only [Option.bind_some, decide_eq_true_eq]
    by_cases h : l[i] < (s : Int)
    · rw [if_pos h]
      exact ⟨fun a => absurd h (a _ (List.mem_cons_self)), fun _ => ⟨i, by omega, rfl⟩⟩
    · rw [if_neg h]
      refine ⟨fun a => ih.1 fun x hx => a x (List.mem_cons_of_mem _ hx), fun a => ih.2 fun b => a fun x hx => ?_⟩
      rcases List.mem_cons.1 hx with rfl | hx
      · exact h
      · exact b x hx
theorem containsI_eq (s : Nat) (n e : Int) (l : List Int) (hl : l.length ≤ 1048576) (k : Nat) (hk : 1048577 ≤ k) : slices_ContainsFunc_int64_int64.f (fun y0 => impl_PartOfFlag_1.f y0 s n e) k l = some (!decide (∀ x ∈ l, ¬ x < (s : Int))) := by
  unfold slices_ContainsFunc_int64_int64.f slices_IndexFunc_int64_int64.f
  have h := idxI_loop s (fun y0 => impl_PartOfFlag_1.f y0 s n e) (fun x => rfl) l hl l.length 0 k (by omega) (by omega)
  rw [show ((0 : Nat) : Int) = 0 from rfl, List.drop_zero] at h
  by_cases a : ∀ x ∈ l, ¬ x < (s : Int)
  · rw [h.1 a, decide_eq_true a]; rfl
  · obtain ⟨r, h0, e⟩ := h.2 a
    rw [e, decide_eq_false a]; simp [h0]
theorem FnExactPartOfFlag_pure (a n e : Int) (l : List Int) (_ha : (Lit.int .i64 a).wf = true) (_hn : (Lit.int .i64 n).wf = true) (he : (Lit.int .u32 e).wf = true) (hl : l.length < 9223372036854775808 ∧ ∀ x ∈ l, (Lit.int .i64 x).wf = true) : ∃ k, laws_FnExactPartOfFlag.f k a n e l = some true := by
  refine ⟨1048601 * 1048603 + 1, ?_⟩
  have he' : 0 ≤ e ∧ e ≤ 4294967295 := by simpa [Lit.wf, IntKind.min, IntKind.max, IntKind.bits, IntKind.signed] using he
  unfold laws_FnExactPartOfFlag.f
  by_cases hs : (l.length : Int) > 1048576
  · rw [if_pos hs]
  rw [if_neg hs]
  have hl' : l.length ≤ 1048576 := by omega
  simp only [laws_toFlag.f, laws_toGraph.f, Option.bind_some, toInt64S_eq l hl' (1048601 * 1048603 + 1) (by omega), spec_PartOfFlag.f, impl_PartOfFlag.f, l03Ok_eq a n e he'.1 he'.2, ValidFlag_eq a n e he'.1 he'.2, impl_different.f]
  have fin : ∀ a b c d : Int, ((laws_eqFlag.f a b c a b c).bind fun t347 => (if t347 = true then (laws_FnExactPartOfFlag.j0 (1048601 * 1048603 + 1) l l (d != d)) else (laws_FnExactPartOfFlag.j0 (1048601 * 1048603 + 1) l l true))) = some true := by
    intro a b c d
    simp only [laws_eqFlag.f, laws_eqGraph.f, if_true, Option.bind_some, bne_self_eq_false]
    rw [laws_FnExactPartOfFlag.j0, if_neg (by simp), toInt64S_eq l hl' (1048601 * 1048603) (by omega)]
    simp only [Option.bind_some, eqInt64S_self l hl' (1048601 * 1048603) (by omega), if_true]
  cases hv : validF a n e
  · exact fin 0 0 0 1
  have hv2 := hv
  simp only [validF, Bool.and_eq_true, decide_eq_true_eq] at hv2
  obtain ⟨s, n, e, rfl, rfl, rfl, hn, hsn, _⟩ := validF_nat he'.1 hv
  have hfl : (firstI s).length = s := (show ∀ n, n < 6 → (firstI n).length = n from by decide) s (by omega)
  have w2 : wrap64 ((n : Int) - 1) = (n : Int) - 1 := by unfold wrap64; omega
  simp only [if_true, firstS_eq (s : Int) (by omega) (by omega) (1048601 * 1048603 + 1) (by omega), Option.bind_some, Int.toNat_natCast]
  rw [if_pos (by omega), diffS_eq2 (firstI s ++ l) (by rw [List.length_append]; omega) n (1048601 * 1048603 + 1) (by omega), w2]
  simp only [Option.bind_some]
  have pd := part_diff hsn l
  by_cases h1 : allDiff ((n : Int) - 1) l
  rotate_left
  · have h2 : ¬ allDiff ((n : Int) - 1) (firstI s ++ l) := fun h => h1 (pd.1 h).1
    simp only [decide_eq_false h1, decide_eq_false h2, Bool.false_eq_true, if_false, Option.bind_some, impl_PartOfFlag.j0, if_true]
    exact fin 0 0 0 2
  simp only [decide_eq_true h1, if_true, containsI_eq s n e l hl' (1048601 * 1048603 + 1) (by omega), Option.bind_some, impl_PartOfFlag.j0]
  by_cases h3 : ∀ x ∈ l, ¬ x < (s : Int)
  rotate_left
  · have h2 : ¬ allDiff ((n : Int) - 1) (firstI s ++ l) := fun h => h3 (pd.1 h).2
    simp only [decide_eq_false h3, decide_eq_false h2, Bool.not_false, Bool.false_eq_true, if_true, if_false, Option.bind_some]
    exact fin 0 0 0 2
  have h2 : allDiff (wrap64 ((n : Int) - 1)) (firstI s ++ l) := by rw [w2]; exact pd.2 ⟨h1, h3⟩
  have hlen := (allDiff_len (n := n) (by omega) (by omega) h2).1
  rw [Int.toNat_natCast] at hlen
  have hlen2 : (firstI s ++ l).length = s + l.length := by rw [List.length_append, hfl]
  simp only [decide_eq_true h3, decide_eq_true (pd.2 ⟨h1, h3⟩), Bool.not_true, Bool.false_eq_true, if_true, if_false, spec_l03Part.f, impl_Flag_on.f, firstS_eq (s : Int) (by omega) (by omega) (1048601 * 1048603 + 1) (by omega), impl_firstT.eq (n := (s : Int)) (by omega) (by omega), Option.bind_some, Int.toNat_natCast]
  rw [if_pos (by omega), if_pos (by omega), onS_diff n e (by omega) (by omega) h2 _ (by omega), impl_onT.eq n e (okList_diff (by omega) (by omega) h2)]
  simp only [Option.bind_some, impl_Flag_least.f]
  have hq : (firstI s ++ l).length < 6 := by omega
  rw [least_eq (firstI s ++ l).length s hq (by omega) _ (fun x hx => (leaves_ok_s _ hq s (by omega) x hx).2), l03Least_eq (firstI s ++ l).length s hq (by omega) _ _ (by omega)]
  simp only [Option.bind_some]
  exact fin _ _ _ 0

end Go.Proofs.Ytjemkdpffjneaaa.Q
end

section
namespace Go.Proofs.YtjemkdpffjneaaaW.PrintWords
open Go Go.RowKit Go.ChangeShapes Go.WideShapes Go.ChangeAt Go.Deep
set_option linter.unusedVariables false
section
variable {H : Type} (enc : TypeId × Value → H) (P : Program) (W : World)
/-- Whatever reads as data of type t stands for a plain value. -/
def Opens {α : Type} (t : TypeId) (k : Kd α) (wf : α → Prop) : Prop :=
  ∀ (fuel : Nat) (cs : List Value) (x : DataW H × List MemPlace), DataW.trod enc P W 0 (fun _ => true) true fuel t cs = some x → ∃ a, k.K W a cs ∧ wf a
end
section
variable {H : Type} {enc : TypeId × Value → H} {P : Program} {W : World}
theorem Opens.int {t : TypeId} {k : IntKind} (ht : P.underlying t = some (.int k)) : Opens enc P W t (Kd.int k) (fun n => (Lit.int k n).wf = true) := by
  intro fuel cs x h
  obtain ⟨n, rfl, _, hw⟩ := DataW.trod_int ht h
  exact ⟨n, rfl, hw⟩
theorem Opens.bool {t : TypeId} (ht : P.underlying t = some .bool) : Opens enc P W t Kd.bool (fun _ => True) := by
  intro fuel cs x h
  obtain ⟨n, rfl, _⟩ := DataW.trod_bool ht h
  exact ⟨n, rfl, trivial⟩
theorem Opens.struct2 {α β : Type} {t : TypeId} {f0 f1 : Field} {k0 : Kd α} {k1 : Kd β} {p0 : α → Prop} {p1 : β → Prop} (ht : P.underlying t = some (.struct #[f0, f1])) (o0 : f0.offset = 0) (o1 : f1.offset = P.cellsOf f0.type) (hc : P.cellsOf t = P.cellsOf f0.type + P.cellsOf f1.type)
    (h0 : Opens enc P W f0.type k0 p0) (h1 : Opens enc P W f1.type k1 p1) : Opens enc P W t (Kd.pair k0 k1) (fun p => p0 p.1 ∧ p1 p.2) := by
  intro fuel cs x h
  obtain ⟨y0, y1, n, _, hl, e0, e1⟩ := trod_struct2 ht h
  obtain ⟨a, ka, wa⟩ := h0 n _ _ e0
  obtain ⟨b, kb, wb⟩ := h1 n _ _ e1
  refine ⟨(a, b), ⟨_, _, ?_, ka, kb⟩, wa, wb⟩
  rw [o0, o1, List.drop_zero, List.take_of_length_le (l := List.drop _ cs) (by rw [List.length_drop, hl, hc]; omega), List.take_append_drop]
theorem Opens.iso {α β : Type} {t : TypeId} {k : Kd α} {p : α → Prop} (f : β → α) (g : α → β) (hfg : ∀ a, f (g a) = a) (h : Opens enc P W t k p) : Opens enc P W t (Kd.iso k f) (fun b => p (f b)) := by
  intro fuel cs x hx
  obtain ⟨a, ka, wa⟩ := h fuel cs x hx
  exact ⟨g a, by show k.K W (f (g a)) cs; rw [hfg]; exact ka, by show p (f (g a)); rw [hfg]; exact wa⟩
theorem Opens.slice {α : Type} (z : α) {t e : TypeId} {k : Kd α} {p : α → Prop} (ht : P.underlying t = some (.slice e)) (hs : k.sz = P.cellsOf e) (h : Opens enc P W e k p) : Opens enc P W t (Kd.slice e k) (fun l => l.length < 9223372036854775808 ∧ ∀ a ∈ l, p a) := by
  haveI : Inhabited α := ⟨z⟩
  intro fuel cs x hx
  rcases open_slice ht hx with ⟨rfl, _⟩ | ⟨ad, len, cap, m, n, D, Pl, rfl, _, hl, hm, hmm, _, hel⟩
  · exact ⟨[], ⟨none, 0, rfl, Nat.le_refl _, rfl, by simp, fun h0 => absurd h0 (Nat.lt_irrefl 0)⟩, by simp, fun a ha => by cases ha⟩
  · have hlm : len ≤ m := by
      rw [hmm]; split
      · exact hl
      · exact Nat.le_refl _
    obtain ⟨F, hF⟩ := choose_lt (α := α) (n := len) (p := fun i a => p a ∧ ∃ cs', k.K W a cs' ∧ W.cells? 0 (ad.add (i * P.cellsOf e)) (P.cellsOf e) = some cs') (fun i hi => by
      obtain ⟨cs', h1, h2⟩ := hel i (by omega)
      obtain ⟨a, ka, wa⟩ := h n _ _ h2
      exact ⟨a, wa, cs', ka, h1⟩)
    refine ⟨(List.range len).map F, ⟨some ad, cap, by simp, by simpa using hl, by simp, by simp; unfold maxLen at hm; omega, fun _ => ⟨ad, rfl, fun j q hq => ?_⟩⟩, by simp; unfold maxLen at hm; omega, fun a ha => ?_⟩
    · obtain ⟨hj, rfl⟩ : j < len ∧ F j = q := by
        rw [List.getElem?_map] at hq
        rcases Nat.lt_or_ge j len with hj | hj
        · rw [List.getElem?_range hj] at hq; exact ⟨hj, by simpa using hq⟩
        · rw [List.getElem?_eq_none (by simpa using hj)] at hq; simp at hq
      obtain ⟨_, cs', ka, h1⟩ := hF j hj
      obtain ⟨_, hlen, hcell⟩ := World.cells?_some h1
      refine ⟨cs', k.K_len ka, ka, fun i u hu => ?_⟩
      have hi : i < P.cellsOf e := by rw [← hlen]; exact (List.getElem?_eq_some_iff.1 hu).1
      rw [hs, ← add_add, hcell i hi]; exact hu
    · obtain ⟨i, hi, rfl⟩ := List.mem_map.1 ha
      exact (hF i (List.mem_range.1 hi)).1
end
end Go.Proofs.YtjemkdpffjneaaaW.PrintWords
end
