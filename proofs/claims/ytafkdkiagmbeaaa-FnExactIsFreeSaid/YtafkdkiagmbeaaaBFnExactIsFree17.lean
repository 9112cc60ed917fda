/- Contracts of Go functions and plain lemmas over what they compute; printed by the kit's print program or written by hand, joined. -/
import Derived.Test.YtafkdkiagmbeaaaBFnExactIsFree4
import Derived.Test.YtafkdkiagmbeaaaBFnExactIsFree5
import Derived.Test.YtafkdkiagmbeaaaBFnExactIsFree6
import Derived.Test.YtafkdkiagmbeaaaBFnExactIsFree13
import Derived.Test.YtafkdkiagmbeaaaBFnExactIsFree16
import Derived.Test.YtafkdkiagmbeaaaBFnExactIsFree11
import Derived.Test.YtafkdkiagmbeaaaBFnExactIsFree9
import Derived.Test.YtafkdkiagmbeaaaBFnExactIsFree12
import Derived.Test.YtafkdkiagmbeaaaBFnExactIsFree14
import Derived.Test.YtafkdkiagmbeaaaBFnExactIsFree10
import Derived.Test.YtafkdkiagmbeaaaBFnExactIsFree2
import Derived.WalkKit
import Derived.ProofKit
import Derived.OpenShut
import Derived.ChangeOld
import Derived.Deep.Slices
section
namespace Go.Proofs.Ytafkdkiagmbeaaa.Q
open Go.RowKit Go.Proofs.YtafkdkiagmbeaaaW.PrintWords Go.Proofs.YtafkdkiagmbeaaaW.PrintLast Go.Proofs.YtafkdkiagmbeaaaW.PrintMore
attribute [local go_sem] max2_int min2_int max_two min_two max_three min_three max_four min_four   -- for this text's walks alone
set_option linter.unusedVariables false
set_option linter.unusedSimpArgs false

theorem joined_eq (k : Nat) (n e : Int) {i j : Int} (i0 : 0 ≤ i) (i4 : i ≤ 4) (j0 : 0 ≤ j) (j4 : j ≤ 4) (hij : i ≠ j) : spec_l01Joined.f (k + 2) n e i j = some (hasI e i j) := by
  unfold spec_l01Joined.f hasI
  rw [if_neg hij, l01Bit_eq k i0 i4 j0 j4]; rfl
theorem l01Bit_ge {k : Nat} (hk : 2 ≤ k) {i j : Int} (i0 : 0 ≤ i) (i4 : i ≤ 4) (j0 : 0 ≤ j) (j4 : j ≤ 4) : spec_l01Bit.f k i j = some (bitI i j) := by
  obtain ⟨q, rfl⟩ : ∃ q, k = q + 2 := ⟨k - 2, by omega⟩
  exact l01Bit_eq q i0 i4 j0 j4
theorem joined_ge {k : Nat} (hk : 2 ≤ k) (n e : Int) {i j : Int} (i0 : 0 ≤ i) (i4 : i ≤ 4) (j0 : 0 ≤ j) (j4 : j ≤ 4) (hij : i ≠ j) : spec_l01Joined.f k n e i j = some (hasI e i j) := by
  obtain ⟨q, rfl⟩ : ∃ q, k = q + 2 := ⟨k - 2, by omega⟩
  exact joined_eq q n e i0 i4 j0 j4 hij
theorem onS_row {l : List Int} {j : Nat} (n e0 : Int) (h5 : l.length ≤ 5) (h : ∀ i : Nat, i < l.length → 0 ≤ rd l i ∧ rd l i ≤ 4) (hne : ∀ i j : Nat, i < j → j < l.length → rd l i ≠ rd l j) (hj : j < l.length) (N : Int) :
    ∀ (d i : Nat) (e : Int) (k : Nat), i + d = j → d + 3 ≤ k → spec_l01On.l1 k l j i n e0 N e = spec_l01On.l0 (k - (d + 1)) l ((j + 1 : Nat) : Int) n e0 N (loopRow (fun i j => hasI e0 (rd l i) (rd l j)) j d i e)
  | 0, i, e, k, hd, hk => by
    have : i = j := by omega
    subst this
    obtain ⟨k, rfl⟩ : ∃ m, k = m + 1 := ⟨k - 1, by omega⟩
    simp only [spec_l01On.l1, loopRow]
    rw [if_neg (by omega), show wrap64 ((i : Int) + 1) = ((i + 1 : Nat) : Int) from by unfold wrap64; omega]; rfl
  | d + 1, i, e, k, hd, hk => by
    have hw : wrap64 ((i : Int) + 1) = ((i + 1 : Nat) : Int) := by unfold wrap64; omega
    have hi := h i (by omega)
    have hj' := h j hj
    obtain ⟨k, rfl⟩ : ∃ m, k = m + 1 := ⟨k - 1, by omega⟩
    simp only [spec_l01On.l1, loopRow]
    rw [if_pos (by omega), if_pos (by omega), if_pos (by omega), if_pos (by omega), if_pos (by omega), joined_ge (by omega) n e0 hi.1 hi.2 hj'.1 hj'.2 (hne i j (by omega) hj), hw, show k + 1 - (d + 1 + 1) = k - (d + 1) from by omega]
    simp only [Option.bind_some]
    by_cases hb : hasI e0 (rd l i) (rd l j) = true
    rotate_left
    · rw [if_neg hb, if_neg hb]
      exact onS_row n e0 h5 h hne hj N d (i + 1) e k (by omega) (by omega)
    · rw [if_pos hb, if_pos hb, l01Bit_ge (by omega) (by omega) (by omega) (by omega) (by omega)]
      simp only [Option.bind_some]
      exact onS_row n e0 h5 h hne hj N d (i + 1) _ k (by omega) (by omega)
theorem onS_all {l : List Int} (n e0 : Int) (h5 : l.length ≤ 5) (h : ∀ i : Nat, i < l.length → 0 ≤ rd l i ∧ rd l i ≤ 4) (hne : ∀ i j : Nat, i < j → j < l.length → rd l i ≠ rd l j) :
    ∀ (d j : Nat) (e : Int) (k : Nat), j + d = l.length → 7 * d + 3 ≤ k → spec_l01On.l0 k l j n e0 (l.length : Int) e = some ((l.length : Int), loopMade (fun i j => hasI e0 (rd l i) (rd l j)) d j e)
  | 0, j, e, k, hd, hk => by
    obtain ⟨k, rfl⟩ : ∃ m, k = m + 1 := ⟨k - 1, by omega⟩
    simp only [spec_l01On.l0, loopMade]
    rw [if_neg (by omega)]
  | d + 1, j, e, k, hd, hk => by
    obtain ⟨k, rfl⟩ : ∃ m, k = m + 1 := ⟨k - 1, by omega⟩
    simp only [spec_l01On.l0, loopMade]
    rw [if_pos (by omega)]
    have := onS_row n e0 h5 h hne (show j < l.length by omega) (l.length : Int) j 0 e k (by omega) (by omega)
    rw [show ((0 : Nat) : Int) = 0 from rfl] at this
    rw [this]
    exact onS_all n e0 h5 h hne d (j + 1) _ (k - (j + 1)) (by omega) (by omega)
theorem onS_eq (n e : Int) {l : List Int} (h5 : l.length ≤ 5) (h : ∀ i : Nat, i < l.length → 0 ≤ rd l i ∧ rd l i ≤ 4) (hne : ∀ i j : Nat, i < j → j < l.length → rd l i ≠ rd l j) (k : Nat) (hk : 40 ≤ k) :
    spec_l01On.f k n e l = some ((l.length : Int), onI e l) := by
  unfold spec_l01On.f onI madeI
  cases hl : l.length with
  | zero =>
    obtain ⟨k, rfl⟩ : ∃ m, k = m + 1 := ⟨k - 1, by omega⟩
    simp [spec_l01On.l0, loopMade]
  | succ m =>
    have := onS_all n e h5 h hne m 1 0 k (by omega) (by omega)
    rw [hl] at this
    rw [show ((1 : Nat) : Int) = 1 from rfl] at this
    rw [this]
    simp [loopMade, loopRow]

end Go.Proofs.Ytafkdkiagmbeaaa.Q
end

section
namespace Go.Proofs.Ytafkdkiagmbeaaa.Q
open Go.RowKit Go.Proofs.YtafkdkiagmbeaaaW.PrintWords Go.Proofs.YtafkdkiagmbeaaaW.PrintLast Go.Proofs.YtafkdkiagmbeaaaW.PrintMore
attribute [local go_sem] max2_int min2_int max_two min_two max_three min_three max_four min_four   -- for this text's walks alone
set_option linter.unusedVariables false
set_option linter.unusedSimpArgs false

theorem onS_diff (n e : Int) {m : Int} (h0 : 0 ≤ m) (h5 : m ≤ 5) {l : List Int} (h : allDiff (wrap64 (m - 1)) l) (k : Nat) (hk : 40 ≤ k) : spec_l01On.f k n e l = some ((l.length : Int), onI e l) := by
  have hl := allDiff_len h0 h5 h
  have hat : ∀ i : Nat, (hi : i < l.length) → 0 ≤ l[i] ∧ l[i] < m := fun i hi => hl.2 _ (List.getElem_mem hi)
  refine onS_eq n e (by omega) (fun i hi => ?_) (fun i j hij hj => ?_) k hk
  · rw [rd_of_lt l hi]; have := hat i hi; omega
  · rw [rd_of_lt l hj, rd_of_lt l (by omega)]
    exact List.pairwise_iff_getElem.1 h.1 i j (by omega) hj hij
theorem okList_diff {m : Int} (h0 : 0 ≤ m) (h5 : m ≤ 5) {l : List Int} (h : allDiff (wrap64 (m - 1)) l) : okList l := by
  have hl := allDiff_len h0 h5 h
  exact ⟨by omega, fun x hx => by have := hl.2 x hx; omega⟩

end Go.Proofs.Ytafkdkiagmbeaaa.Q
end

section
namespace Go.Proofs.Ytafkdkiagmbeaaa.Q
open Go.RowKit Go.Proofs.YtafkdkiagmbeaaaW.PrintWords Go.Proofs.YtafkdkiagmbeaaaW.PrintLast Go.Proofs.YtafkdkiagmbeaaaW.PrintMore
attribute [local go_sem] max2_int min2_int max_two min_two max_three min_three max_four min_four   -- for this text's walks alone
set_option linter.unusedVariables false
set_option linter.unusedSimpArgs false

theorem andNot_iff (x y : BitVec 32) : x &&& ~~~ y = 0#32 ↔ x &&& y = x := by
  constructor
  · intro h
    ext i hi
    have := congrArg (fun z : BitVec 32 => z[i]) h
    simp only [BitVec.getElem_and, BitVec.getElem_not, BitVec.getElem_zero] at this ⊢
    revert this
    cases x[i] <;> cases y[i] <;> simp
  · intro h
    ext i hi
    have := congrArg (fun z : BitVec 32 => z[i]) h
    simp only [BitVec.getElem_and, BitVec.getElem_not, BitVec.getElem_zero] at this ⊢
    revert this
    cases x[i] <;> cases y[i] <;> simp
theorem part_bits {h : Int} (h0 : 0 ≤ h) (h1 : h ≤ 4294967295) (b : Int) : (Go.bits .andNot .u32 h b == 0) = decide (Go.bits .and .u32 h b = h) := by
  rw [bits_andNot32, bits_and32, Bool.eq_iff_iff, beq_iff_eq, decide_eq_true_eq]
  have hx : ((BitVec.ofInt 32 h).toNat : Int) = h := by rw [BitVec.toNat_ofInt]; omega
  generalize BitVec.ofInt 32 h = x at *
  generalize BitVec.ofInt 32 b = y
  rw [← hx]
  constructor
  · intro e
    have : x &&& ~~~ y = 0#32 := by apply BitVec.eq_of_toNat_eq; simpa using e
    rw [(andNot_iff x y).1 this]
  · intro e
    have : x &&& y = x := by apply BitVec.eq_of_toNat_eq; exact_mod_cast e
    rw [(andNot_iff x y).2 this]; rfl
theorem allDiff_wrap {n : Nat} (hn : n < 6) {l : List Int} (h : allDiff ((n : Int) - 1) l) : allDiff (wrap64 ((n : Int) - 1)) l := by
  rw [show wrap64 ((n : Int) - 1) = (n : Int) - 1 from by unfold wrap64; omega]; exact h
theorem part_loop (n : Nat) (hn : n < 6) (e m h : Int) : ∀ (ls : List (List Int)) (x : List Int) (k : Nat), isChain n (x :: ls) = true → (∀ l ∈ x :: ls, allDiff ((n : Int) - 1) l) → ls.length + 200 ≤ k →
    spec_l01Part.l0 k x true n e m h = some ((x :: ls).any fun l => decide (Go.bits .and .u32 h (onI e l) = h))
  | [], x, k, hc, hd, hk => by
    obtain ⟨k, rfl⟩ : ∃ q, k = q + 2 := ⟨k - 2, by omega⟩
    obtain ⟨y, hy⟩ := chain_one hc
    rw [spec_l01Part.l0, if_pos rfl, onS_diff n e (by omega) (by omega) (allDiff_wrap hn (hd x (List.mem_cons_self))) _ (by omega)]
    simp only [Option.bind_some, List.any_cons, List.any_nil, Bool.or_false]
    by_cases hb : Go.bits .and .u32 h (onI e x) = h
    · rw [if_pos hb, decide_eq_true hb]
    · rw [if_neg hb, decide_eq_false hb, hy _ (by omega)]
      simp only [Option.bind_some]
      rw [spec_l01Part.l0, if_neg (by simp)]
  | z :: ls, x, k, hc, hd, hk => by
    obtain ⟨k, rfl⟩ : ∃ q, k = q + 1 := ⟨k - 1, by omega⟩
    obtain ⟨h1, h2⟩ := chain_cons hc
    have hl : (z :: ls).length = ls.length + 1 := rfl
    rw [spec_l01Part.l0, if_pos rfl, onS_diff n e (by omega) (by omega) (allDiff_wrap hn (hd x (List.mem_cons_self))) _ (by omega)]
    simp only [Option.bind_some]
    rw [List.any_cons]
    by_cases hb : Go.bits .and .u32 h (onI e x) = h
    · rw [if_pos hb, decide_eq_true hb]; rfl
    · rw [if_neg hb, decide_eq_false hb, h1 _ (by omega)]
      simp only [Option.bind_some, Bool.false_or]
      exact part_loop n hn e m h ls z k h2 (fun l hl => hd l (List.mem_cons_of_mem _ hl)) (by omega)
theorem leaves_none : ∀ n, n < 6 → ∀ r, r < 6 → n < r → leaves n r [] = [] := by decide +kernel
theorem leaves_nodup : ∀ n, n < 6 → ∀ r, r < 6 → ∀ l ∈ leaves n r [], allDiff ((n : Int) - 1) l := by decide +kernel
theorem hasPart_eq (n m : Nat) (hn : n < 6) (hm : m < 6) (e h : Int) (h0 : 0 ≤ h) (h1 : h ≤ 4294967295) : impl_Graph_hasPart.f n e m h = some ((leaves n m []).any fun l => decide (Go.bits .and .u32 h (onI e l) = h)) := by
  unfold impl_Graph_hasPart.f impl_listed.f
  rw [if_pos (by simp; omega), lstd_eq]
  rw [runCb_any _ (fun l => decide (Go.bits .and .u32 h (onI e l) = h))]
  · simp
  · intro l hl
    simp only [Int.toNat_natCast, List.length_nil, Nat.sub_zero] at hl
    have hd := leaves_nodup n hn m hm l hl
    unfold impl_Graph_hasPart_1.f
    rw [impl_onT.eq n e (okList_diff (by omega) (by omega) (allDiff_wrap hn hd))]
    simp only [Option.bind_some]
    rw [part_bits h0 h1]
theorem l01Part_eq (n m : Nat) (hn : n < 6) (hm : m < 6) (e h : Int) (k : Nat) (hk : 1000 ≤ k) : spec_l01Part.f k n e m h = some ((leaves n m []).any fun l => decide (Go.bits .and .u32 h (onI e l) = h)) := by
  unfold spec_l01Part.f
  by_cases hmn : (m : Int) > n
  · rw [if_pos hmn, leaves_none n hn m hm (by omega)]; rfl
  · rw [if_neg hmn, firstS_eq m (by omega) (by omega) k (by omega)]
    simp only [Option.bind_some, Int.toNat_natCast]
    obtain ⟨hh, hc⟩ := chains n hn m (by omega)
    have hd := leaves_nodup n hn m hm
    have hlen : (leaves n m []).length ≤ 200 := (show ∀ n, n < 6 → ∀ m, m < 6 → (leaves n m []).length ≤ 200 from by decide +kernel) n hn m hm
    revert hh hc hd hlen
    generalize leaves n m [] = L
    intro hh hc hd hlen
    cases L with
    | nil => simp at hh
    | cons x ls =>
      obtain rfl : x = firstI m := by simpa using hh
      exact part_loop n hn e m h ls _ k hc hd (by simp only [List.length_cons] at hlen; omega)

end Go.Proofs.Ytafkdkiagmbeaaa.Q
end

section
namespace Go.Proofs.Ytafkdkiagmbeaaa.Q
open Go.RowKit Go.Proofs.YtafkdkiagmbeaaaW.PrintWords Go.Proofs.YtafkdkiagmbeaaaW.PrintLast Go.Proofs.YtafkdkiagmbeaaaW.PrintMore
attribute [local go_sem] max2_int min2_int max_two min_two max_three min_three max_four min_four   -- for this text's walks alone
set_option linter.unusedVariables false
set_option linter.unusedSimpArgs false

theorem rdG_nat (l : List S46) {i : Nat} (hi : i < l.length) : rd_T46 l (i : Int) = l[i] := by unfold rd_T46; exact getD_of_lt l _ hi

end Go.Proofs.Ytafkdkiagmbeaaa.Q
end

section
namespace Go.Proofs.Ytafkdkiagmbeaaa.Q
open Go.RowKit Go.Proofs.YtafkdkiagmbeaaaW.PrintWords Go.Proofs.YtafkdkiagmbeaaaW.PrintLast Go.Proofs.YtafkdkiagmbeaaaW.PrintMore
attribute [local go_sem] max2_int min2_int max_two min_two max_three min_three max_four min_four   -- for this text's walks alone
set_option linter.unusedVariables false
set_option linter.unusedSimpArgs false

theorem validG_nat {n e : Int} (h0 : 0 ≤ e) (h : validG n e = true) : ∃ (m f : Nat), n = m ∧ e = f ∧ m < 6 ∧ f < 2 ^ prs m := by
  simp only [validG, decide_eq_true_eq] at h
  refine ⟨n.toNat, e.toNat, by omega, by omega, by omega, ?_⟩
  have := h.2.2
  unfold prs
  have h2 : ((e.toNat : Nat) : Int) < ((2 ^ (n.toNat * (n.toNat - 1) / 2) : Nat) : Int) := by rw [Int.toNat_of_nonneg h0]; exact_mod_cast this
  exact_mod_cast h2

end Go.Proofs.Ytafkdkiagmbeaaa.Q
end

section
namespace Go.Proofs.Ytafkdkiagmbeaaa.Q
open Go.RowKit Go.Proofs.YtafkdkiagmbeaaaW.PrintWords Go.Proofs.YtafkdkiagmbeaaaW.PrintLast Go.Proofs.YtafkdkiagmbeaaaW.PrintMore
attribute [local go_sem] max2_int min2_int max_two min_two max_three min_three max_four min_four   -- for this text's walks alone
set_option linter.unusedVariables false
set_option linter.unusedSimpArgs false

def okGs (L : List S46) : Prop := ∀ x ∈ L, 0 ≤ x.f1 ∧ x.f1 ≤ 4294967295
def forb (L : List S46) : Int := if L.any (fun x => !validG x.f0 x.f1) = true then 1 else if (L.length : Int) > 6 then 3 else 0
theorem forbiddenOk_eq (L : List S46) (hL : L.length ≤ 1048576) (ho : okGs L) (k : Nat) (hk : L.length + 1 ≤ k) : impl_forbiddenOk.f k L = some (forb L) := by
  unfold impl_forbiddenOk.f
  rw [anyGraph_eq _ (fun x => !validG x.f0 x.f1) L hL (fun x hx => by unfold impl_badGraph.f; rw [ValidGraph_eq _ _ (ho x hx).1 (ho x hx).2]; rfl) k hk]
  simp only [Option.bind_some]
  unfold forb
  split
  · rfl
  · split <;> rfl
theorem l01Forbidden_loop (L : List S46) (hL : L.length ≤ 1048576) (ho : okGs L) : ∀ (d i k : Nat), i + d = L.length → d + 1 ≤ k → spec_l01Forbidden.l0 k L i = some (if (L.drop i).any (fun x => !validG x.f0 x.f1) = true then 1 else if (L.length : Int) > 6 then 3 else 0)
  | 0, i, k, hd, hk => by
    obtain ⟨k, rfl⟩ : ∃ q, k = q + 1 := ⟨k - 1, by omega⟩
    rw [spec_l01Forbidden.l0, if_neg (by omega), List.drop_eq_nil_of_le (by omega)]
    simp only [List.any_nil, Bool.false_eq_true, if_false]
    split <;> rfl
  | d + 1, i, k, hd, hk => by
    obtain ⟨k, rfl⟩ : ∃ q, k = q + 1 := ⟨k - 1, by omega⟩
    have hi : i < L.length := by omega
    have hx := ho _ (List.getElem_mem hi)
    rw [spec_l01Forbidden.l0, if_pos (by omega), if_pos (by omega), rdG_nat L hi, l01Ok_eq _ _ hx.1 hx.2, List.drop_eq_getElem_cons hi, List.any_cons]
    simp only [Option.bind_some]
    cases hv : validG L[i].f0 L[i].f1
    · simp
    · simp only [if_true, Bool.not_true, Bool.false_or]
      rw [w64_succ (by omega)]
      exact l01Forbidden_loop L hL ho d (i + 1) k (by omega) (by omega)
theorem l01Forbidden_eq (L : List S46) (hL : L.length ≤ 1048576) (ho : okGs L) (k : Nat) (hk : L.length + 1 ≤ k) : spec_l01Forbidden.f k L = some (forb L) := by
  unfold spec_l01Forbidden.f forb
  have := l01Forbidden_loop L hL ho L.length 0 k (Nat.zero_add _) hk
  rw [show ((0 : Nat) : Int) = 0 from rfl, List.drop_zero] at this
  exact this
theorem forb_zero {L : List S46} (h : forb L = 0) : L.length ≤ 6 ∧ ∀ x ∈ L, validG x.f0 x.f1 = true := by
  unfold forb at h
  split at h
  · cases h
  · next h1 =>
    split at h
    · cases h
    · next h2 =>
      refine ⟨by omega, fun x hx => ?_⟩
      cases hv : validG x.f0 x.f1
      · exact absurd (List.any_eq_true.2 ⟨x, hx, by rw [hv]; rfl⟩) h1
      · rfl
def partB (n : Nat) (e : Int) (x : S46) : Bool := (leaves n x.f0.toNat []).any fun l => decide (Go.bits .and .u32 x.f1 (onI e l) = x.f1)
theorem hasPart_x (n : Nat) (hn : n < 6) (e : Int) (x : S46) (hx : 0 ≤ x.f1 ∧ x.f1 ≤ 4294967295) (hv : validG x.f0 x.f1 = true) : impl_Graph_hasPart.f n e x.f0 x.f1 = some (partB n e x) ∧ ∀ k, 1000 ≤ k → spec_l01Part.f k n e x.f0 x.f1 = some (partB n e x) := by
  obtain ⟨m, f, e1, e2, hm, hf⟩ := validG_nat hx.1 hv
  unfold partB
  rw [e2] at hx
  rw [e1, e2, Int.toNat_natCast]
  exact ⟨hasPart_eq n m hn hm e f hx.1 hx.2, fun k hk => l01Part_eq n m hn hm e f k hk⟩
theorem free_eq (n : Nat) (hn : n < 6) (e : Int) (L : List S46) (ho : okGs L) (hL : L.length ≤ 6) (hv : ∀ x ∈ L, validG x.f0 x.f1 = true) (k : Nat) (hk : 20 ≤ k) : impl_Graph_free.f k n e L = some (!(L.any (partB n e))) := by
  unfold impl_Graph_free.f impl_Graph_119_of_impl_Graph_hasPart.f
  rw [anyGraph_eq _ (partB n e) L (by omega) (fun x hx => (hasPart_x n hn e x (ho x hx) (hv x hx)).1) k (by omega)]
  rfl
theorem l01Free_loop (n : Nat) (hn : n < 6) (e : Int) (L : List S46) (ho : okGs L) (hL : L.length ≤ 6) (hv : ∀ x ∈ L, validG x.f0 x.f1 = true) : ∀ (d i k : Nat), i + d = L.length → d + 1001 ≤ k → spec_l01Free.l0 k L i n e = some (!((L.drop i).any (partB n e)))
  | 0, i, k, hd, hk => by
    obtain ⟨k, rfl⟩ : ∃ q, k = q + 1 := ⟨k - 1, by omega⟩
    rw [spec_l01Free.l0, if_neg (by omega), List.drop_eq_nil_of_le (by omega)]; rfl
  | d + 1, i, k, hd, hk => by
    obtain ⟨k, rfl⟩ : ∃ q, k = q + 1 := ⟨k - 1, by omega⟩
    have hi : i < L.length := by omega
    have hm := List.getElem_mem hi
    rw [spec_l01Free.l0, if_pos (by omega), if_pos (by omega), rdG_nat L hi, (hasPart_x n hn e _ (ho _ hm) (hv _ hm)).2 k (by omega), List.drop_eq_getElem_cons hi, List.any_cons]
    simp only [Option.bind_some]
    cases hp : partB n e L[i]
    · simp only [Bool.false_eq_true, if_false, Bool.false_or]
      rw [w64_succ (by omega)]
      exact l01Free_loop n hn e L ho hL hv d (i + 1) k (by omega) (by omega)
    · simp
theorem l01Free_eq (n : Nat) (hn : n < 6) (e : Int) (L : List S46) (ho : okGs L) (hL : L.length ≤ 6) (hv : ∀ x ∈ L, validG x.f0 x.f1 = true) (k : Nat) (hk : 1010 ≤ k) : spec_l01Free.f k n e L = some (!(L.any (partB n e))) := by
  unfold spec_l01Free.f
  have := l01Free_loop n hn e L ho hL hv L.length 0 k (Nat.zero_add _) (by omega)
  rw [show ((0 : Nat) : Int) = 0 from rfl, List.drop_zero] at this
  exact this

end Go.Proofs.Ytafkdkiagmbeaaa.Q
end

section
namespace Go.Proofs.Ytafkdkiagmbeaaa.Q
open Go.RowKit Go.Proofs.YtafkdkiagmbeaaaW.PrintWords Go.Proofs.YtafkdkiagmbeaaaW.PrintLast Go.Proofs.YtafkdkiagmbeaaaW.PrintMore
attribute [local go_sem] max2_int min2_int max_two min_two max_three min_three max_four min_four   -- for this text's walks alone
set_option linter.unusedVariables false
set_option linter.unusedSimpArgs false

def toG (x : S45) : S46 := ⟨x.f0, x.f1⟩
def toGs (l : List S45) : List S46 := l.map toG
theorem toGraphS_loop (l : List S45) (hl : l.length ≤ 1048576) : ∀ (d i k : Nat) (out : List S46), i + d = l.length → out.length = l.length → d + 1 ≤ k → laws_toGraphS.l0 k l out i = some (out.take i ++ (l.drop i).map toG)
  | 0, i, k, out, hd, ho, hk => by
    obtain ⟨k, rfl⟩ : ∃ q, k = q + 1 := ⟨k - 1, by omega⟩
    rw [laws_toGraphS.l0, if_neg (by omega), List.drop_eq_nil_of_le (by omega), List.take_of_length_le (by omega)]; simp
  | d + 1, i, k, out, hd, ho, hk => by
    obtain ⟨k, rfl⟩ : ∃ q, k = q + 1 := ⟨k - 1, by omega⟩
    rw [laws_toGraphS.l0, if_pos (by omega), if_pos (by omega), laws_toGraph.f]
    simp only [Option.bind_some]
    rw [if_pos (by omega), w64_succ (by omega), Int.toNat_natCast]
    rw [toGraphS_loop l hl d (i + 1) k _ (by omega) (by rw [List.length_set]; exact ho) (by omega), set_take _ _ (by omega), List.append_assoc]
    congr 2
    rw [List.drop_eq_getElem_cons (show i < l.length by omega), List.map_cons]
    show [_] ++ _ = _
    congr 1
    unfold rd_T45
    rw [getD_of_lt _ _ (by omega)]; rfl
theorem toGraphS_eq (l : List S45) (hl : l.length ≤ 1048576) (k : Nat) (hk : 1048577 ≤ k) : laws_toGraphS.f k l = some (toGs l) := by
  unfold laws_toGraphS.f
  rw [if_pos (by omega), if_pos (by omega)]
  have := toGraphS_loop l hl l.length 0 k (List.replicate ((l.length : Int) : Int).toNat z46) (by omega) (by simp) (by omega)
  rw [show ((0 : Nat) : Int) = 0 from rfl] at this
  rw [this]; simp [toGs]

end Go.Proofs.Ytafkdkiagmbeaaa.Q
end

section
namespace Go.Proofs.Ytafkdkiagmbeaaa.Q
open Go.RowKit Go.Proofs.YtafkdkiagmbeaaaW.PrintWords Go.Proofs.YtafkdkiagmbeaaaW.PrintLast Go.Proofs.YtafkdkiagmbeaaaW.PrintMore
attribute [local go_sem] max2_int min2_int max_two min_two max_three min_three max_four min_four   -- for this text's walks alone
set_option linter.unusedVariables false
set_option linter.unusedSimpArgs false

theorem FnExactIsFree_pure (n e : Int) (l : List S45) (_hn : (Lit.int .i64 n).wf = true) (he : (Lit.int .u32 e).wf = true) (hl : l.length < 9223372036854775808 ∧ ∀ b ∈ l, (Lit.int .i64 b.f0).wf = true ∧ (Lit.int .u32 b.f1).wf = true) : ∃ k, laws_FnExactIsFree.f k n e l = some true := by
  obtain ⟨K, hK⟩ : ∃ K : Nat, 2000000 ≤ K := ⟨2000000, Nat.le_refl _⟩
  refine ⟨K + 1, ?_⟩
  have he' : 0 ≤ e ∧ e ≤ 4294967295 := by simpa [Lit.wf, IntKind.min, IntKind.max, IntKind.bits, IntKind.signed] using he
  unfold laws_FnExactIsFree.f laws_szGraphS.f
  by_cases hs : wrap64 (1048576 - (l.length : Int)) < 0
  · rw [if_pos hs]; rfl
  rw [if_neg hs]
  have hl2 : l.length ≤ 1048576 := by have := hl.1; unfold wrap64 at hs; omega
  simp only [Option.bind_some]
  rw [if_neg hs]
  have ho : okGs (toGs l) := fun x hx => by
    obtain ⟨b, hb, rfl⟩ := List.mem_map.1 hx
    have := (hl.2 b hb).2
    simpa [toG, Lit.wf, IntKind.min, IntKind.max, IntKind.bits, IntKind.signed] using this
  have hlen : (toGs l).length = l.length := by unfold toGs; rw [List.length_map]
  have fin : laws_FnExactIsFree.j0 (K + 1) l (toGs l) false = some true := by
    rw [laws_FnExactIsFree.j0, if_neg (by simp), toGraphS_eq l hl2 K (by omega)]
    simp only [Option.bind_some]
    rw [eqGraphS_self (toGs l) (by omega) K (by omega)]
    rfl
  simp only [laws_toGraph.f, Option.bind_some, toGraphS_eq l hl2 (K + 1) (by omega), spec_IsFree.f, impl_IsFree.f, l01Ok_eq n e he'.1 he'.2, ValidGraph_eq n e he'.1 he'.2, forbiddenOk_eq (toGs l) (by omega) ho (K + 1) (by omega), l01Forbidden_eq (toGs l) (by omega) ho (K + 1) (by omega)]
  cases hv : validG n e
  · simp [fin]
  obtain ⟨n, e, rfl, rfl, hn, _⟩ := validG_nat he'.1 hv
  simp only [if_true]
  by_cases hf : forb (toGs l) = 0
  · obtain ⟨h6, hvs⟩ := forb_zero hf
    rw [if_pos hf, free_eq n hn e (toGs l) ho h6 hvs (K + 1) (by omega), l01Free_eq n hn e (toGs l) ho h6 hvs (K + 1) (by omega)]
    simp [fin, hf]
  · rw [if_neg hf]
    simp [fin, hf]

end Go.Proofs.Ytafkdkiagmbeaaa.Q
end

section
namespace Go.Proofs.YtafkdkiagmbeaaaW.PrintWords
open Go Go.RowKit Go.ChangeShapes Go.WideShapes Go.ChangeAt Go.Deep
set_option linter.unusedVariables false
section
variable {H : Type} (enc : TypeId × Value → H) (P : Program) (W : World)
/-- Whatever reads as data of type t stands for a plain value. -/
def Opens {α : Type} (t : TypeId) (k : Kd α) (wf : α → Prop) : Prop :=
  ∀ (fuel : Nat) (cs : List Value) (x : DataW H × List MemPlace), DataW.trod enc P W 0 (fun _ => true) true fuel t cs = some x → ∃ a, k.K W a cs ∧ wf a
end
section
variable {H : Type} {enc : TypeId × Value → H} {P : Program} {W : World}
theorem Opens.int {t : TypeId} {k : IntKind} (ht : P.underlying t = some (.int k)) : Opens enc P W t (Kd.int k) (fun n => (Lit.int k n).wf = true) := by
  intro fuel cs x h
  obtain ⟨n, rfl, _, hw⟩ := DataW.trod_int ht h
  exact ⟨n, rfl, hw⟩
theorem Opens.bool {t : TypeId} (ht : P.underlying t = some .bool) : Opens enc P W t Kd.bool (fun _ => True) := by
  intro fuel cs x h
  obtain ⟨n, rfl, _⟩ := DataW.trod_bool ht h
  exact ⟨n, rfl, trivial⟩
theorem Opens.struct2 {α β : Type} {t : TypeId} {f0 f1 : Field} {k0 : Kd α} {k1 : Kd β} {p0 : α → Prop} {p1 : β → Prop} (ht : P.underlying t = some (.struct #[f0, f1])) (o0 : f0.offset = 0) (o1 : f1.offset = P.cellsOf f0.type) (hc : P.cellsOf t = P.cellsOf f0.type + P.cellsOf f1.type)
    (h0 : Opens enc P W f0.type k0 p0) (h1 : Opens enc P W f1.type k1 p1) : Opens enc P W t (Kd.pair k0 k1) (fun p => p0 p.1 ∧ p1 p.2) := by
  intro fuel cs x h
  obtain ⟨y0, y1, n, _, hl, e0, e1⟩ := trod_struct2 ht h
  obtain ⟨a, ka, wa⟩ := h0 n _ _ e0
  obtain ⟨b, kb, wb⟩ := h1 n _ _ e1
  refine ⟨(a, b), ⟨_, _, ?_, ka, kb⟩, wa, wb⟩
  rw [o0, o1, List.drop_zero, List.take_of_length_le (l := List.drop _ cs) (by rw [List.length_drop, hl, hc]; omega), List.take_append_drop]
theorem Opens.iso {α β : Type} {t : TypeId} {k : Kd α} {p : α → Prop} (f : β → α) (g : α → β) (hfg : ∀ a, f (g a) = a) (h : Opens enc P W t k p) : Opens enc P W t (Kd.iso k f) (fun b => p (f b)) := by
  intro fuel cs x hx
  obtain ⟨a, ka, wa⟩ := h fuel cs x hx
  exact ⟨g a, by show k.K W (f (g a)) cs; rw [hfg]; exact ka, by show p (f (g a)); rw [hfg]; exact wa⟩
theorem Opens.slice {α : Type} (z : α) {t e : TypeId} {k : Kd α} {p : α → Prop} (ht : P.underlying t = some (.slice e)) (hs : k.sz = P.cellsOf e) (h : Opens enc P W e k p) : Opens enc P W t (Kd.slice e k) (fun l => l.length < 9223372036854775808 ∧ ∀ a ∈ l, p a) := by
  haveI : Inhabited α := ⟨z⟩
  intro fuel cs x hx
  rcases open_slice ht hx with ⟨rfl, _⟩ | ⟨ad, len, cap, m, n, D, Pl, rfl, _, hl, hm, hmm, _, hel⟩
  · exact ⟨[], ⟨none, 0, rfl, Nat.le_refl _, rfl, by simp, fun h0 => absurd h0 (Nat.lt_irrefl 0)⟩, by simp, fun a ha => by cases ha⟩
  · have hlm : len ≤ m := by
      rw [hmm]; split
      · exact hl
      · exact Nat.le_refl _
    obtain ⟨F, hF⟩ := choose_lt (α := α) (n := len) (p := fun i a => p a ∧ ∃ cs', k.K W a cs' ∧ W.cells? 0 (ad.add (i * P.cellsOf e)) (P.cellsOf e) = some cs') (fun i hi => by
      obtain ⟨cs', h1, h2⟩ := hel i (by omega)
      obtain ⟨a, ka, wa⟩ := h n _ _ h2
      exact ⟨a, wa, cs', ka, h1⟩)
    refine ⟨(List.range len).map F, ⟨some ad, cap, by simp, by simpa using hl, by simp, by simp; unfold maxLen at hm; omega, fun _ => ⟨ad, rfl, fun j q hq => ?_⟩⟩, by simp; unfold maxLen at hm; omega, fun a ha => ?_⟩
    · obtain ⟨hj, rfl⟩ : j < len ∧ F j = q := by
        rw [List.getElem?_map] at hq
        rcases Nat.lt_or_ge j len with hj | hj
        · rw [List.getElem?_range hj] at hq; exact ⟨hj, by simpa using hq⟩
        · rw [List.getElem?_eq_none (by simpa using hj)] at hq; simp at hq
      obtain ⟨_, cs', ka, h1⟩ := hF j hj
      obtain ⟨_, hlen, hcell⟩ := World.cells?_some h1
      refine ⟨cs', k.K_len ka, ka, fun i u hu => ?_⟩
      have hi : i < P.cellsOf e := by rw [← hlen]; exact (List.getElem?_eq_some_iff.1 hu).1
      rw [hs, ← add_add, hcell i hi]; exact hu
    · obtain ⟨i, hi, rfl⟩ := List.mem_map.1 ha
      exact (hF i (List.mem_range.1 hi)).1
end
end Go.Proofs.YtafkdkiagmbeaaaW.PrintWords
end
