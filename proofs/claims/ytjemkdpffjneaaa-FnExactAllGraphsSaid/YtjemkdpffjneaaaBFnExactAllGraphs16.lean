/- Contracts of Go functions and plain lemmas over what they compute; printed by the kit's print program or written by hand, joined. -/
import Derived.Test.YtjemkdpffjneaaaBFnExactAllGraphs3
import Derived.Test.YtjemkdpffjneaaaBFnExactAllGraphs6
import Derived.Test.YtjemkdpffjneaaaBFnExactAllGraphs7
import Derived.Test.YtjemkdpffjneaaaBFnExactAllGraphs11
import Derived.Test.YtjemkdpffjneaaaBFnExactAllGraphs15
import Derived.Test.YtjemkdpffjneaaaBFnExactAllGraphs9
import Derived.Test.YtjemkdpffjneaaaBFnExactAllGraphs8
import Derived.Test.YtjemkdpffjneaaaBFnExactAllGraphs10
import Derived.Test.YtjemkdpffjneaaaBFnExactAllGraphs12
import Derived.Test.YtjemkdpffjneaaaBFnExactAllGraphs13
import Derived.Test.YtjemkdpffjneaaaBFnExactAllGraphs14
import Derived.Test.YtjemkdpffjneaaaBFnExactAllGraphs2
import Derived.WalkKit
import Derived.ProofKit
import Derived.OpenShut
import Derived.ChangeOld
import Derived.Deep.Slices
section
namespace Go.Proofs.Ytjemkdpffjneaaa.Q
open Go.RowKit Go.Proofs.YtjemkdpffjneaaaW.PrintWords Go.Proofs.YtjemkdpffjneaaaW.PrintLast Go.Proofs.YtjemkdpffjneaaaW.PrintMore
attribute [local go_sem] max2_int min2_int max_two min_two max_three min_three max_four min_four   -- for this text's walks alone
set_option linter.unusedVariables false
set_option linter.unusedSimpArgs false

theorem joined_eq (k : Nat) (n e : Int) {i j : Int} (i0 : 0 ≤ i) (i4 : i ≤ 4) (j0 : 0 ≤ j) (j4 : j ≤ 4) (hij : i ≠ j) : spec_l01Joined.f (k + 2) n e i j = some (hasI e i j) := by
  unfold spec_l01Joined.f hasI
  rw [if_neg hij, l01Bit_eq k i0 i4 j0 j4]; rfl
theorem l01Bit_ge {k : Nat} (hk : 2 ≤ k) {i j : Int} (i0 : 0 ≤ i) (i4 : i ≤ 4) (j0 : 0 ≤ j) (j4 : j ≤ 4) : spec_l01Bit.f k i j = some (bitI i j) := by
  obtain ⟨q, rfl⟩ : ∃ q, k = q + 2 := ⟨k - 2, by omega⟩
  exact l01Bit_eq q i0 i4 j0 j4
theorem joined_ge {k : Nat} (hk : 2 ≤ k) (n e : Int) {i j : Int} (i0 : 0 ≤ i) (i4 : i ≤ 4) (j0 : 0 ≤ j) (j4 : j ≤ 4) (hij : i ≠ j) : spec_l01Joined.f k n e i j = some (hasI e i j) := by
  obtain ⟨q, rfl⟩ : ∃ q, k = q + 2 := ⟨k - 2, by omega⟩
  exact joined_eq q n e i0 i4 j0 j4 hij
theorem onS_row {l : List Int} {j : Nat} (n e0 : Int) (h5 : l.length ≤ 5) (h : ∀ i : Nat, i < l.length → 0 ≤ rd l i ∧ rd l i ≤ 4) (hne : ∀ i j : Nat, i < j → j < l.length → rd l i ≠ rd l j) (hj : j < l.length) (N : Int) :
    ∀ (d i : Nat) (e : Int) (k : Nat), i + d = j → d + 3 ≤ k → spec_l01On.l1 k l j i n e0 N e = spec_l01On.l0 (k - (d + 1)) l ((j + 1 : Nat) : Int) n e0 N (loopRow (fun i j => hasI e0 (rd l i) (rd l j)) j d i e)
  | 0, i, e, k, hd, hk => by
    have : i = j := by omega
    subst this
    obtain ⟨k, rfl⟩ : ∃ m, k = m + 1 := ⟨k - 1, by omega⟩
    simp only [spec_l01On.l1, loopRow]
    rw [if_neg (by omega), show wrap64 ((i : Int) + 1) = ((i + 1 : Nat) : Int) from by unfold wrap64; omega]; rfl
  | d + 1, i, e, k, hd, hk => by
    have hw : wrap64 ((i : Int) + 1) = ((i + 1 : Nat) : Int) := by unfold wrap64; omega
    have hi := h i (by omega)
    have hj' := h j hj
    obtain ⟨k, rfl⟩ : ∃ m, k = m + 1 := ⟨k - 1, by omega⟩
    simp only [spec_l01On.l1, loopRow]
    rw [if_pos (by omega), if_pos (by omega), if_pos (by omega), if_pos (by omega), if_pos (by omega), joined_ge (by omega) n e0 hi.1 hi.2 hj'.1 hj'.2 (hne i j (by omega) hj), hw, show k + 1 - (d + 1 + 1) = k - (d + 1) from by omega]
    simp only [Option.bind_some]
    by_cases hb : hasI e0 (rd l i) (rd l j) = true
    rotate_left
    · rw [if_neg hb, if_neg hb]
      exact onS_row n e0 h5 h hne hj N d (i + 1) e k (by omega) (by omega)
    · rw [if_pos hb, if_pos hb, l01Bit_ge (by omega) (by omega) (by omega) (by omega) (by omega)]
      simp only [Option.bind_some]
      exact onS_row n e0 h5 h hne hj N d (i + 1) _ k (by omega) (by omega)
theorem onS_all {l : List Int} (n e0 : Int) (h5 : l.length ≤ 5) (h : ∀ i : Nat, i < l.length → 0 ≤ rd l i ∧ rd l i ≤ 4) (hne : ∀ i j : Nat, i < j → j < l.length → rd l i ≠ rd l j) :
    ∀ (d j : Nat) (e : Int) (k : Nat), j + d = l.length → 7 * d + 3 ≤ k → spec_l01On.l0 k l j n e0 (l.length : Int) e = some ((l.length : Int), loopMade (fun i j => hasI e0 (rd l i) (rd l j)) d j e)
  | 0, j, e, k, hd, hk => by
    obtain ⟨k, rfl⟩ : ∃ m, k = m + 1 := ⟨k - 1, by omega⟩
    simp only [spec_l01On.l0, loopMade]
    rw [if_neg (by omega)]
  | d + 1, j, e, k, hd, hk => by
    obtain ⟨k, rfl⟩ : ∃ m, k = m + 1 := ⟨k - 1, by omega⟩
    simp only [spec_l01On.l0, loopMade]
    rw [if_pos (by omega)]
    have := onS_row n e0 h5 h hne (show j < l.length by omega) (l.length : Int) j 0 e k (by omega) (by omega)
    rw [show ((0 : Nat) : Int) = 0 from rfl] at this
    rw [this]
    exact onS_all n e0 h5 h hne d (j + 1) _ (k - (j + 1)) (by omega) (by omega)
theorem onS_eq (n e : Int) {l : List Int} (h5 : l.length ≤ 5) (h : ∀ i : Nat, i < l.length → 0 ≤ rd l i ∧ rd l i ≤ 4) (hne : ∀ i j : Nat, i < j → j < l.length → rd l i ≠ rd l j) (k : Nat) (hk : 40 ≤ k) :
    spec_l01On.f k n e l = some ((l.length : Int), onI e l) := by
  unfold spec_l01On.f onI madeI
  cases hl : l.length with
  | zero =>
    obtain ⟨k, rfl⟩ : ∃ m, k = m + 1 := ⟨k - 1, by omega⟩
    simp [spec_l01On.l0, loopMade]
  | succ m =>
    have := onS_all n e h5 h hne m 1 0 k (by omega) (by omega)
    rw [hl] at this
    rw [show ((1 : Nat) : Int) = 1 from rfl] at this
    rw [this]
    simp [loopMade, loopRow]

end Go.Proofs.Ytjemkdpffjneaaa.Q
end

section
namespace Go.Proofs.Ytjemkdpffjneaaa.Q
open Go.RowKit Go.Proofs.YtjemkdpffjneaaaW.PrintWords Go.Proofs.YtjemkdpffjneaaaW.PrintLast Go.Proofs.YtjemkdpffjneaaaW.PrintMore
attribute [local go_sem] max2_int min2_int max_two min_two max_three min_three max_four min_four   -- for this text's walks alone
set_option linter.unusedVariables false
set_option linter.unusedSimpArgs false

theorem onS_diff (n e : Int) {m : Int} (h0 : 0 ≤ m) (h5 : m ≤ 5) {l : List Int} (h : allDiff (wrap64 (m - 1)) l) (k : Nat) (hk : 40 ≤ k) : spec_l01On.f k n e l = some ((l.length : Int), onI e l) := by
  have hl := allDiff_len h0 h5 h
  have hat : ∀ i : Nat, (hi : i < l.length) → 0 ≤ l[i] ∧ l[i] < m := fun i hi => hl.2 _ (List.getElem_mem hi)
  refine onS_eq n e (by omega) (fun i hi => ?_) (fun i j hij hj => ?_) k hk
  · rw [rd_of_lt l hi]; have := hat i hi; omega
  · rw [rd_of_lt l hj, rd_of_lt l (by omega)]
    exact List.pairwise_iff_getElem.1 h.1 i j (by omega) hj hij
theorem okList_diff {m : Int} (h0 : 0 ≤ m) (h5 : m ≤ 5) {l : List Int} (h : allDiff (wrap64 (m - 1)) l) : okList l := by
  have hl := allDiff_len h0 h5 h
  exact ⟨by omega, fun x hx => by have := hl.2 x hx; omega⟩

end Go.Proofs.Ytjemkdpffjneaaa.Q
end

section
namespace Go.Proofs.Ytjemkdpffjneaaa.Q
open Go.RowKit Go.Proofs.YtjemkdpffjneaaaW.PrintWords Go.Proofs.YtjemkdpffjneaaaW.PrintLast Go.Proofs.YtjemkdpffjneaaaW.PrintMore
attribute [local go_sem] max2_int min2_int max_two min_two max_three min_three max_four min_four   -- for this text's walks alone
set_option linter.unusedVariables false
set_option linter.unusedSimpArgs false

def isLeastB (n s : Nat) (e : Int) : Bool := !(leaves n (n - s) (firstI s)).any fun l => decide (onI e l < e)
theorem isLeast_eq (n s : Nat) (hn : n < 6) (hs : s < n + 1) (e : Int) (hL : ∀ l ∈ leaves n (n - s) (firstI s), allDiff ((n : Int) - 1) l) : impl_Graph_isLeast.f n e s = some (isLeastB n s e) := by
  unfold impl_Graph_isLeast.f impl_Graph_orders.f
  rw [if_pos (by omega), lstd_eq, show ((n : Int) - (s : Int)).toNat = n - s from by omega, Int.toNat_natCast, Int.toNat_natCast]
  rw [runCb_any _ (fun l => decide (onI e l < e))]
  · rfl
  · intro l hl
    unfold impl_Graph_isLeast_1.f
    rw [impl_onT.eq n e (okList_diff (m := n) (by omega) (by omega) (by rw [show wrap64 ((n : Int) - 1) = (n : Int) - 1 from by unfold wrap64; omega]; exact hL l hl))]
    rfl
theorem isLeastS_loop (n : Nat) (hn : n < 6) (e : Int) : ∀ (ls : List (List Int)) (x : List Int) (k : Nat), isChain n (x :: ls) = true → (∀ l ∈ x :: ls, allDiff ((n : Int) - 1) l) → ls.length + 200 ≤ k →
    spec_l01IsLeast.l0 k x true n e = some (!(x :: ls).any fun l => decide (onI e l < e))
  | [], x, k, hc, hd, hk => by
    obtain ⟨k, rfl⟩ : ∃ q, k = q + 2 := ⟨k - 2, by omega⟩
    obtain ⟨y, hy⟩ := chain_one hc
    rw [spec_l01IsLeast.l0, if_pos rfl, onS_diff (m := n) n e (by omega) (by omega) (by rw [show wrap64 ((n : Int) - 1) = (n : Int) - 1 from by unfold wrap64; omega]; exact hd x (List.mem_cons_self)) _ (by omega)]
    simp only [Option.bind_some, List.any_cons, List.any_nil, Bool.or_false]
    by_cases hb : onI e x < e
    · rw [if_pos hb, decide_eq_true hb]; rfl
    · rw [if_neg hb, decide_eq_false hb, hy _ (by omega)]
      simp only [Option.bind_some]
      rw [spec_l01IsLeast.l0, if_neg (by simp)]; rfl
  | z :: ls, x, k, hc, hd, hk => by
    obtain ⟨k, rfl⟩ : ∃ q, k = q + 1 := ⟨k - 1, by omega⟩
    obtain ⟨h1, h2⟩ := chain_cons hc
    have hl : (z :: ls).length = ls.length + 1 := rfl
    rw [spec_l01IsLeast.l0, if_pos rfl, onS_diff (m := n) n e (by omega) (by omega) (by rw [show wrap64 ((n : Int) - 1) = (n : Int) - 1 from by unfold wrap64; omega]; exact hd x (List.mem_cons_self)) _ (by omega)]
    simp only [Option.bind_some]
    rw [List.any_cons]
    by_cases hb : onI e x < e
    · rw [if_pos hb, decide_eq_true hb]; rfl
    · rw [if_neg hb, decide_eq_false hb, h1 _ (by omega)]
      simp only [Option.bind_some, Bool.false_or]
      exact isLeastS_loop n hn e ls z k h2 (fun l hl => hd l (List.mem_cons_of_mem _ hl)) (by omega)
theorem l01IsLeast_eq (n : Nat) (hn : n < 6) (e : Int) (k : Nat) (hk : 1000 ≤ k) : spec_l01IsLeast.f k n e = some (isLeastB n 0 e) := by
  unfold spec_l01IsLeast.f
  rw [firstS_eq n (by omega) (by omega) k (by omega)]
  simp only [Option.bind_some, Int.toNat_natCast]
  obtain ⟨hh, hc⟩ := chains n hn n (by omega)
  have hd := fun l hl => (leaves_ok n hn n (by omega) l hl).2
  have hlen := leaves_short n hn n (by omega)
  unfold isLeastB
  rw [show firstI 0 = [] from rfl, Nat.sub_zero]
  revert hh hc hd hlen
  generalize leaves n n [] = L
  intro hh hc hd hlen
  cases L with
  | nil => simp at hh
  | cons x ls =>
    obtain rfl : x = firstI n := by simpa using hh
    exact isLeastS_loop n hn e ls _ k hc hd (by simp only [List.length_cons] at hlen; omega)
theorem prs_le' : ∀ n, n < 6 → 2 ^ prs n ≤ 1024 := by decide
/-- The graphs of size n with numbers of edges from e on, d of them, that ok tells. -/
def gList (n : Nat) (ok : Nat → Bool) : Nat → Nat → List S33
  | 0, _ => []
  | d + 1, e => if ok e = true then ⟨n, e⟩ :: gList n ok d (e + 1) else gList n ok d (e + 1)
theorem gList_length (n : Nat) (ok : Nat → Bool) : ∀ d e, (gList n ok d e).length ≤ d
  | 0, _ => Nat.le_refl _
  | d + 1, e => by
    have := gList_length n ok d (e + 1)
    rw [gList]; split
    · rw [List.length_cons]; omega
    · omega
theorem l01All_loop (n : Nat) (hn : n < 6) : ∀ (d e k : Nat) (out : List S33), e + d = 2 ^ prs n → out.length ≤ e → d + 1100 ≤ k → spec_l01All.l0 k n out e = some (out ++ gList n (fun e => isLeastB n 0 e) d e)
  | 0, e, k, out, hd, ho, hk => by
    obtain ⟨k, rfl⟩ : ∃ q, k = q + 1 := ⟨k - 1, by omega⟩
    have hb : spec_l01Bits.f (n : Int) = some ((prs n : Nat) : Int) := (show ∀ n : Nat, n < 6 → spec_l01Bits.f (n : Int) = some ((prs n : Nat) : Int) from by decide +kernel) n hn
    have hw : IntKind.u64.wrap ((prs n : Nat) : Int) = ((prs n : Nat) : Int) := (show ∀ n : Nat, n < 6 → IntKind.u64.wrap ((prs n : Nat) : Int) = ((prs n : Nat) : Int) from by decide +kernel) n hn
    have hsh : shl .i64 1 ((prs n : Nat) : Int) = ((2 ^ prs n : Nat) : Int) := (show ∀ n : Nat, n < 6 → shl .i64 1 ((prs n : Nat) : Int) = ((2 ^ prs n : Nat) : Int) from by decide +kernel) n hn
    rw [spec_l01All.l0, hb]
    simp only [Option.bind_some, hw, hsh]
    rw [if_pos (by omega), if_neg (by omega), gList, List.append_nil]
  | d + 1, e, k, out, hd, ho, hk => by
    obtain ⟨k, rfl⟩ : ∃ q, k = q + 1 := ⟨k - 1, by omega⟩
    have hp := prs_le' n hn
    have hb : spec_l01Bits.f (n : Int) = some ((prs n : Nat) : Int) := (show ∀ n : Nat, n < 6 → spec_l01Bits.f (n : Int) = some ((prs n : Nat) : Int) from by decide +kernel) n hn
    have hw : IntKind.u64.wrap ((prs n : Nat) : Int) = ((prs n : Nat) : Int) := (show ∀ n : Nat, n < 6 → IntKind.u64.wrap ((prs n : Nat) : Int) = ((prs n : Nat) : Int) from by decide +kernel) n hn
    have hsh : shl .i64 1 ((prs n : Nat) : Int) = ((2 ^ prs n : Nat) : Int) := (show ∀ n : Nat, n < 6 → shl .i64 1 ((prs n : Nat) : Int) = ((2 ^ prs n : Nat) : Int) from by decide +kernel) n hn
    have he : ((e : Int)) % 4294967296 = (e : Int) := by omega
    rw [spec_l01All.l0, hb]
    simp only [Option.bind_some, hw, hsh]
    rw [if_pos (by omega), if_pos (by omega), he, l01IsLeast_eq n hn e k (by omega), w64_succ (by omega), gList]
    simp only [Option.bind_some]
    by_cases hl : isLeastB n 0 (e : Int) = true
    · rw [if_pos hl, if_pos hl, if_pos (by omega), l01All_loop n hn d (e + 1) k _ (by omega) (by rw [List.length_append]; simp only [List.length_cons, List.length_nil]; omega) (by omega), List.append_assoc]; rfl
    · rw [if_neg hl, if_neg hl, l01All_loop n hn d (e + 1) k _ (by omega) (by omega) (by omega)]

end Go.Proofs.Ytjemkdpffjneaaa.Q
end

section
namespace Go.Proofs.Ytjemkdpffjneaaa.Q
open Go.RowKit Go.Proofs.YtjemkdpffjneaaaW.PrintWords Go.Proofs.YtjemkdpffjneaaaW.PrintLast Go.Proofs.YtjemkdpffjneaaaW.PrintMore
attribute [local go_sem] max2_int min2_int max_two min_two max_three min_three max_four min_four   -- for this text's walks alone
set_option linter.unusedVariables false
set_option linter.unusedSimpArgs false

def markG : Nat → Int → List S33
  | 0, _ => []
  | d + 1, m => ⟨m, m + 1⟩ :: markG d (m + 2)
theorem markG_length : ∀ d m, (markG d m).length = d
  | 0, _ => rfl
  | d + 1, m => by rw [markG, List.length_cons, markG_length d]
theorem rdG_nat (l : List S33) {i : Nat} (hi : i < l.length) : rd_T33 l (i : Int) = l[i] := by unfold rd_T33; exact getD_of_lt l _ hi
theorem markGraphS_loop : ∀ (d i k : Nat) (L : List S33) (m : Int), i + d = L.length → L.length ≤ 1048576 → 0 ≤ m → m + 2 * d ≤ 2147483648 → d + 1 ≤ k → laws_markGraphS.l0 k L m i = some (m + 2 * d, L.take i ++ markG d m)
  | 0, i, k, L, m, hd, hL, h0, h1, hk => by
    obtain ⟨k, rfl⟩ : ∃ q, k = q + 1 := ⟨k - 1, by omega⟩
    rw [laws_markGraphS.l0, if_neg (by omega), List.take_of_length_le (by omega), markG, List.append_nil]
    congr 2; omega
  | d + 1, i, k, L, m, hd, hL, h0, h1, hk => by
    obtain ⟨k, rfl⟩ : ∃ q, k = q + 1 := ⟨k - 1, by omega⟩
    have hi : i < L.length := by omega
    have hm1 : wrap64 (m + 1) = m + 1 := by unfold wrap64; omega
    have hm2 : wrap64 (m + 1 + 1) = m + 2 := by unfold wrap64; omega
    have hmm : (m + 1) % 4294967296 = m + 1 := by omega
    rw [laws_markGraphS.l0, if_pos (by omega), if_pos (by omega)]
    simp only [Option.bind_some, Int.toNat_natCast, hm1, hm2, hmm]
    generalize (rd_T33 L (i : Int)).f1 = q
    rw [w64_succ (by omega), rdG_nat _ (by rw [List.length_set]; exact hi), List.getElem_set_self, List.set_set]
    rw [markGraphS_loop d (i + 1) k _ (m + 2) (by rw [List.length_set]; omega) (by rw [List.length_set]; exact hL) (by omega) (by omega) (by omega), set_take _ _ hi, List.append_assoc]
    congr 2
    omega
theorem markGraphS_eq (L : List S33) (hL : L.length ≤ 1048576) (m : Int) (h0 : 0 ≤ m) (h1 : m ≤ 1000000) (k : Nat) (hk : 1048577 ≤ k) : laws_markGraphS.f k L m = some (m + 2 * L.length, markG L.length m) := by
  unfold laws_markGraphS.f
  have := markGraphS_loop L.length 0 k L m (by omega) hL h0 (by omega) (by omega)
  rw [show ((0 : Nat) : Int) = 0 from rfl] at this
  rw [this]; simp
theorem heldGraphS_loop : ∀ (d k : Nat) (pre : List S33) (m : Int), pre.length + d ≤ 1048576 → 0 ≤ m → m + 2 * d ≤ 2147483648 → d + 1 ≤ k → laws_heldGraphS.l0 k (pre ++ markG d m) m pre.length = some (m + 2 * d)
  | 0, k, pre, m, hL, h0, h1, hk => by
    obtain ⟨k, rfl⟩ : ∃ q, k = q + 1 := ⟨k - 1, by omega⟩
    rw [laws_heldGraphS.l0, if_neg (by simp [markG])]
    congr 1; omega
  | d + 1, k, pre, m, hL, h0, h1, hk => by
    obtain ⟨k, rfl⟩ : ∃ q, k = q + 1 := ⟨k - 1, by omega⟩
    have hlen : (pre ++ markG (d + 1) m).length = pre.length + (d + 1) := by rw [List.length_append, markG_length]
    have hi : pre.length < (pre ++ markG (d + 1) m).length := by omega
    have hg : (pre ++ markG (d + 1) m)[pre.length] = ⟨m, m + 1⟩ := by simp [markG]
    have hm1 : wrap64 (m + 1) = m + 1 := by unfold wrap64; omega
    have hm2 : wrap64 (m + 1 + 1) = m + 2 := by unfold wrap64; omega
    have hmm : (m + 1) % 4294967296 = m + 1 := by omega
    rw [laws_heldGraphS.l0, if_pos (by omega), if_pos (by omega), rdG_nat _ hi, hg]
    simp only [hm1, hm2, hmm, if_true]
    rw [w64_succ (by omega)]
    have := heldGraphS_loop d k (pre ++ [⟨m, m + 1⟩]) (m + 2) (by rw [List.length_append]; simp only [List.length_cons, List.length_nil]; omega) (by omega) (by omega) (by omega)
    rw [List.length_append, List.append_assoc] at this
    simp only [List.length_cons, List.length_nil] at this
    rw [show pre ++ markG (d + 1) m = pre ++ ([⟨m, m + 1⟩] ++ markG d (m + 2)) from rfl, this]
    congr 1; omega
theorem heldGraphS_eq (d : Nat) (hd : d ≤ 1048576) (m : Int) (h0 : 0 ≤ m) (h1 : m ≤ 1000000) (k : Nat) (hk : 1048577 ≤ k) : laws_heldGraphS.f k (markG d m) m = some (m + 2 * d) := by
  unfold laws_heldGraphS.f
  exact heldGraphS_loop d k [] m (by simpa using hd) h0 (by omega) (by omega)
theorem eqGraphS_loop (l : List S33) (hl : l.length ≤ 1048576) : ∀ (d i k : Nat), i + d = l.length → d + 1 ≤ k → laws_eqGraphS.l0 k l l i = some true
  | 0, i, k, hd, hk => by
    obtain ⟨k, rfl⟩ : ∃ q, k = q + 1 := ⟨k - 1, by omega⟩
    rw [laws_eqGraphS.l0, if_neg (by omega)]
  | d + 1, i, k, hd, hk => by
    obtain ⟨k, rfl⟩ : ∃ q, k = q + 1 := ⟨k - 1, by omega⟩
    rw [laws_eqGraphS.l0, if_pos (by omega), if_pos (by omega), if_pos (by omega), laws_eqGraph.f, if_pos rfl, if_pos rfl]
    simp only [Option.bind_some, if_true]
    rw [w64_succ (by omega)]
    exact eqGraphS_loop l hl d (i + 1) k (by omega) (by omega)
theorem eqGraphS_self (l : List S33) (hl : l.length ≤ 1048576) (k : Nat) (hk : 1048577 ≤ k) : laws_eqGraphS.f k l l = some true := by
  unfold laws_eqGraphS.f
  rw [if_pos rfl]; exact eqGraphS_loop l hl l.length 0 k (by omega) (by omega)

end Go.Proofs.Ytjemkdpffjneaaa.Q
end

section
namespace Go.Proofs.Ytjemkdpffjneaaa.Q
open Go.RowKit Go.Proofs.YtjemkdpffjneaaaW.PrintWords Go.Proofs.YtjemkdpffjneaaaW.PrintLast Go.Proofs.YtjemkdpffjneaaaW.PrintMore
attribute [local go_sem] max2_int min2_int max_two min_two max_three min_three max_four min_four   -- for this text's walks alone
set_option linter.unusedVariables false
set_option linter.unusedSimpArgs false

end Go.Proofs.Ytjemkdpffjneaaa.Q
end

section
namespace Go.Proofs.Ytjemkdpffjneaaa.Q
open Go.RowKit Go.Proofs.YtjemkdpffjneaaaW.PrintWords Go.Proofs.YtjemkdpffjneaaaW.PrintLast Go.Proofs.YtjemkdpffjneaaaW.PrintMore
attribute [local go_sem] max2_int min2_int max_two min_two max_three min_three max_four min_four   -- for this text's walks alone
set_option linter.unusedVariables false
set_option linter.unusedSimpArgs false

theorem leaves_ok_s : ∀ n, n < 6 → ∀ s, s < n + 1 → ∀ l ∈ leaves n (n - s) (firstI s), l.length = n ∧ allDiff ((n : Int) - 1) l := by decide +kernel
end Go.Proofs.Ytjemkdpffjneaaa.Q
end

section
namespace Go.Proofs.Ytjemkdpffjneaaa.Q
open Go.RowKit Go.Proofs.YtjemkdpffjneaaaW.PrintWords Go.Proofs.YtjemkdpffjneaaaW.PrintLast Go.Proofs.YtjemkdpffjneaaaW.PrintMore
attribute [local go_sem] max2_int min2_int max_two min_two max_three min_three max_four min_four   -- for this text's walks alone
set_option linter.unusedVariables false
set_option linter.unusedSimpArgs false

theorem leasts_loop (cb : Int → Int → Option Bool) (p : Nat → Bool) (n s : Nat) (hn : n < 6) (hs : s < n + 1) (hcb : ∀ e : Nat, e < 2 ^ prs n → cb n e = some (p e)) : ∀ (d e k : Nat) (out : List S33), e + d = 2 ^ prs n → out.length ≤ e → d + 1 ≤ k →
    impl_leasts.l0 cb k n s out ((2 ^ prs n : Nat) : Int) e = some (out ++ gList n (fun e => p e && isLeastB n s e) d e)
  | 0, e, k, out, hd, ho, hk => by
    obtain ⟨k, rfl⟩ : ∃ q, k = q + 1 := ⟨k - 1, by omega⟩
    rw [impl_leasts.l0, if_neg (by omega), gList, List.append_nil]
  | d + 1, e, k, out, hd, ho, hk => by
    obtain ⟨k, rfl⟩ : ∃ q, k = q + 1 := ⟨k - 1, by omega⟩
    have hp := prs_le' n hn
    have he : ((e : Int) + 1) % 4294967296 = ((e + 1 : Nat) : Int) := by omega
    rw [impl_leasts.l0, if_pos (by omega), hcb e (by omega), he, gList]
    simp only [Option.bind_some]
    cases hpe : p e
    · simp only [Bool.false_eq_true, if_false, Bool.false_and]
      exact leasts_loop cb p n s hn hs hcb d (e + 1) k _ (by omega) (by omega) (by omega)
    · simp only [if_true, Bool.true_and, isLeast_eq n s hn hs e (fun l hl => (leaves_ok_s n hn s hs l hl).2), Option.bind_some]
      by_cases hl : isLeastB n s (e : Int) = true
      · rw [if_pos hl, if_pos hl, if_pos (by omega), leasts_loop cb p n s hn hs hcb d (e + 1) k _ (by omega) (by rw [List.length_append]; simp only [List.length_cons, List.length_nil]; omega) (by omega), List.append_assoc]; rfl
      · rw [if_neg hl, if_neg hl, leasts_loop cb p n s hn hs hcb d (e + 1) k _ (by omega) (by omega) (by omega)]
theorem leasts_eq (cb : Int → Int → Option Bool) (p : Nat → Bool) (n s : Nat) (hn : n < 6) (hs : s < n + 1) (hcb : ∀ e : Nat, e < 2 ^ prs n → cb n e = some (p e)) (k : Nat) (hk : 1100 ≤ k) : impl_leasts.f cb k n s = some (gList n (fun e => p e && isLeastB n s e) (2 ^ prs n) 0) := by
  have hb : impl_pairs.f (n : Int) = some ((prs n : Nat) : Int) := (show ∀ n : Nat, n < 6 → impl_pairs.f (n : Int) = some ((prs n : Nat) : Int) from by decide +kernel) n hn
  have hsh : shl .u32 1 ((prs n : Nat) : Int) = ((2 ^ prs n : Nat) : Int) := (show ∀ n : Nat, n < 6 → shl .u32 1 ((prs n : Nat) : Int) = ((2 ^ prs n : Nat) : Int) from by decide +kernel) n hn
  have hp := prs_le' n hn
  unfold impl_leasts.f
  rw [hb]
  simp only [Option.bind_some]
  rw [if_pos (by omega), hsh]
  have := leasts_loop cb p n s hn hs hcb (2 ^ prs n) 0 k [] (by omega) (by simp) (by omega)
  rw [show ((0 : Nat) : Int) = 0 from rfl] at this
  rw [this]; rfl
theorem l01All_eq (n : Nat) (hn : n < 6) (k : Nat) (hk : 3000 ≤ k) : spec_l01All.f k n = some (gList n (fun e => isLeastB n 0 e) (2 ^ prs n) 0) := by
  have hp := prs_le' n hn
  unfold spec_l01All.f
  have := l01All_loop n hn (2 ^ prs n) 0 k [] (by omega) (by simp) (by omega)
  rw [show ((0 : Nat) : Int) = 0 from rfl] at this
  rw [this]; rfl

end Go.Proofs.Ytjemkdpffjneaaa.Q
end

section
namespace Go.Proofs.Ytjemkdpffjneaaa.Q
open Go.RowKit Go.Proofs.YtjemkdpffjneaaaW.PrintWords Go.Proofs.YtjemkdpffjneaaaW.PrintLast Go.Proofs.YtjemkdpffjneaaaW.PrintMore
attribute [local go_sem] max2_int min2_int max_two min_two max_three min_three max_four min_four   -- for this text's walks alone
set_option linter.unusedVariables false
set_option linter.unusedSimpArgs false

theorem in_eq4 (a b c : Int) : impl_in.f a b c = some (decide (b ≤ a ∧ a ≤ c)) := by
  unfold impl_in.f
  by_cases h : a ≥ b
  · rw [if_pos h]; congr 1; rw [decide_eq_decide]; omega
  · rw [if_neg h]; congr 1; symm; rw [decide_eq_false_iff_not]; omega
theorem AllGraphs_fin (a : Int) (L : List S33) (hL : L.length ≤ 1048576) (c : Int) (k : Nat) (hk : 1048580 ≤ k) (h : ∀ k, 1048577 ≤ k → impl_AllGraphs.f k a = some (L, c)) :
    ((laws_eqGraphS.f k L L).bind fun t217 => (if t217 = true then (laws_FnExactAllGraphs.j0 k a L c L (c != c)) else (laws_FnExactAllGraphs.j0 k a L c L true))) = some true := by
  obtain ⟨k, rfl⟩ : ∃ q, k = q + 2 := ⟨k - 2, by omega⟩
  simp only [eqGraphS_self L hL (k + 2) (by omega), Option.bind_some, if_true, bne_self_eq_false]
  rw [laws_FnExactAllGraphs.j0, if_neg (by simp), markGraphS_eq L hL 1 (by omega) (by omega) _ (by omega)]
  simp only [Option.bind_some]
  rw [heldGraphS_eq L.length hL 1 (by omega) (by omega) _ (by omega)]
  simp only [Option.bind_some]
  rw [if_neg (by omega), if_pos trivial, h _ (by omega)]
  simp only [Option.bind_some, eqGraphS_self L hL (k + 1) (by omega), if_true, bne_self_eq_false]
  rw [laws_FnExactAllGraphs.j1, if_neg (by simp), heldGraphS_eq L.length hL 1 (by omega) (by omega) _ (by omega)]
  simp only [Option.bind_some]
  rw [if_neg (by omega), if_pos trivial]
theorem FnExactAllGraphs_pure (n : Int) (_hn : (Lit.int .i64 n).wf = true) : ∃ k, laws_FnExactAllGraphs.f k n = some true := by
  refine ⟨1048580, ?_⟩
  unfold laws_FnExactAllGraphs.f
  by_cases h : 0 ≤ n ∧ n ≤ 5
  · obtain ⟨n, rfl⟩ : ∃ q : Nat, n = q := ⟨n.toNat, by omega⟩
    have hs : ∀ k, 3000 ≤ k → spec_AllGraphs.f k n = some (gList n (fun e => isLeastB n 0 e) (2 ^ prs n) 0, 0) := fun k hk => by
      unfold spec_AllGraphs.f
      rw [l00In_eq]
      simp only [Option.bind_some, decide_eq_true h, if_true, l01All_eq n (by omega) k hk]
    have hi : ∀ k, 1048577 ≤ k → impl_AllGraphs.f k n = some (gList n (fun e => isLeastB n 0 e) (2 ^ prs n) 0, 0) := fun k hk => by
      unfold impl_AllGraphs.f impl_sizeOk.f
      rw [in_eq4]
      have hl := leasts_eq (fun y0_0 y0_1 => impl_AllGraphs_1.f y0_0 y0_1) (fun _ => true) n 0 (by omega) (by omega) (fun _ _ => rfl) k (by omega)
      rw [show ((0 : Nat) : Int) = 0 from rfl] at hl
      simp only [Option.bind_some, decide_eq_true h, if_true, hl, Bool.true_and]
    rw [hs _ (by omega), hi _ (by omega)]
    simp only [Option.bind_some]
    have hlen := gList_length n (fun e => isLeastB n 0 e) (2 ^ prs n) 0
    have hp := prs_le' n (by omega)
    exact AllGraphs_fin n _ (by omega) 0 _ (by omega) hi
  · have hs : ∀ k, spec_AllGraphs.f k n = some ([], 2) := fun k => by
      unfold spec_AllGraphs.f
      rw [l00In_eq]
      simp only [Option.bind_some, decide_eq_false h, Bool.false_eq_true, if_false]
    have hi : ∀ k, 1048577 ≤ k → impl_AllGraphs.f k n = some ([], 2) := fun k _ => by
      unfold impl_AllGraphs.f impl_sizeOk.f
      rw [in_eq4]
      simp only [Option.bind_some, decide_eq_false h, Bool.false_eq_true, if_false]
    rw [hs, hi _ (by omega)]
    simp only [Option.bind_some]
    exact AllGraphs_fin n [] (by simp) 2 _ (by omega) hi

end Go.Proofs.Ytjemkdpffjneaaa.Q
end

section
namespace Go.Proofs.YtjemkdpffjneaaaW.PrintWords
open Go Go.RowKit Go.ChangeShapes Go.WideShapes Go.ChangeAt Go.Deep
set_option linter.unusedVariables false
section
variable {H : Type} (enc : TypeId × Value → H) (P : Program) (W : World)
/-- Whatever reads as data of type t stands for a plain value. -/
def Opens {α : Type} (t : TypeId) (k : Kd α) (wf : α → Prop) : Prop :=
  ∀ (fuel : Nat) (cs : List Value) (x : DataW H × List MemPlace), DataW.trod enc P W 0 (fun _ => true) true fuel t cs = some x → ∃ a, k.K W a cs ∧ wf a
end
section
variable {H : Type} {enc : TypeId × Value → H} {P : Program} {W : World}
theorem Opens.int {t : TypeId} {k : IntKind} (ht : P.underlying t = some (.int k)) : Opens enc P W t (Kd.int k) (fun n => (Lit.int k n).wf = true) := by
  intro fuel cs x h
  obtain ⟨n, rfl, _, hw⟩ := DataW.trod_int ht h
  exact ⟨n, rfl, hw⟩
theorem Opens.bool {t : TypeId} (ht : P.underlying t = some .bool) : Opens enc P W t Kd.bool (fun _ => True) := by
  intro fuel cs x h
  obtain ⟨n, rfl, _⟩ := DataW.trod_bool ht h
  exact ⟨n, rfl, trivial⟩
theorem Opens.iso {α β : Type} {t : TypeId} {k : Kd α} {p : α → Prop} (f : β → α) (g : α → β) (hfg : ∀ a, f (g a) = a) (h : Opens enc P W t k p) : Opens enc P W t (Kd.iso k f) (fun b => p (f b)) := by
  intro fuel cs x hx
  obtain ⟨a, ka, wa⟩ := h fuel cs x hx
  exact ⟨g a, by show k.K W (f (g a)) cs; rw [hfg]; exact ka, by show p (f (g a)); rw [hfg]; exact wa⟩
theorem Opens.slice {α : Type} (z : α) {t e : TypeId} {k : Kd α} {p : α → Prop} (ht : P.underlying t = some (.slice e)) (hs : k.sz = P.cellsOf e) (h : Opens enc P W e k p) : Opens enc P W t (Kd.slice e k) (fun l => l.length < 9223372036854775808 ∧ ∀ a ∈ l, p a) := by
  haveI : Inhabited α := ⟨z⟩
  intro fuel cs x hx
  rcases open_slice ht hx with ⟨rfl, _⟩ | ⟨ad, len, cap, m, n, D, Pl, rfl, _, hl, hm, hmm, _, hel⟩
  · exact ⟨[], ⟨none, 0, rfl, Nat.le_refl _, rfl, by simp, fun h0 => absurd h0 (Nat.lt_irrefl 0)⟩, by simp, fun a ha => by cases ha⟩
  · have hlm : len ≤ m := by
      rw [hmm]; split
      · exact hl
      · exact Nat.le_refl _
    obtain ⟨F, hF⟩ := choose_lt (α := α) (n := len) (p := fun i a => p a ∧ ∃ cs', k.K W a cs' ∧ W.cells? 0 (ad.add (i * P.cellsOf e)) (P.cellsOf e) = some cs') (fun i hi => by
      obtain ⟨cs', h1, h2⟩ := hel i (by omega)
      obtain ⟨a, ka, wa⟩ := h n _ _ h2
      exact ⟨a, wa, cs', ka, h1⟩)
    refine ⟨(List.range len).map F, ⟨some ad, cap, by simp, by simpa using hl, by simp, by simp; unfold maxLen at hm; omega, fun _ => ⟨ad, rfl, fun j q hq => ?_⟩⟩, by simp; unfold maxLen at hm; omega, fun a ha => ?_⟩
    · obtain ⟨hj, rfl⟩ : j < len ∧ F j = q := by
        rw [List.getElem?_map] at hq
        rcases Nat.lt_or_ge j len with hj | hj
        · rw [List.getElem?_range hj] at hq; exact ⟨hj, by simpa using hq⟩
        · rw [List.getElem?_eq_none (by simpa using hj)] at hq; simp at hq
      obtain ⟨_, cs', ka, h1⟩ := hF j hj
      obtain ⟨_, hlen, hcell⟩ := World.cells?_some h1
      refine ⟨cs', k.K_len ka, ka, fun i u hu => ?_⟩
      have hi : i < P.cellsOf e := by rw [← hlen]; exact (List.getElem?_eq_some_iff.1 hu).1
      rw [hs, ← add_add, hcell i hi]; exact hu
    · obtain ⟨i, hi, rfl⟩ := List.mem_map.1 ha
      exact (hF i (List.mem_range.1 hi)).1
end
end Go.Proofs.YtjemkdpffjneaaaW.PrintWords
end
