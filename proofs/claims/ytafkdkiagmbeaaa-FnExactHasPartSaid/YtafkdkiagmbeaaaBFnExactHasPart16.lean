/- Contracts of Go functions and plain lemmas over what they compute; printed by the kit's print program or written by hand, joined. -/
import Derived.Test.YtafkdkiagmbeaaaBFnExactHasPart1
import Derived.Test.YtafkdkiagmbeaaaBFnExactHasPart15
import Derived.Test.YtafkdkiagmbeaaaBFnExactHasPart8
import Derived.Test.YtafkdkiagmbeaaaBFnExactHasPart2
import Derived.Test.YtafkdkiagmbeaaaBFnExactHasPart11
import Derived.Test.YtafkdkiagmbeaaaBFnExactHasPart3
import Derived.Test.YtafkdkiagmbeaaaBFnExactHasPart6
import Derived.Test.YtafkdkiagmbeaaaBFnExactHasPart7
import Derived.Test.YtafkdkiagmbeaaaBFnExactHasPart9
import Derived.Test.YtafkdkiagmbeaaaBFnExactHasPart12
import Derived.Test.YtafkdkiagmbeaaaBFnExactHasPart13
import Derived.Test.YtafkdkiagmbeaaaBFnExactHasPart14
import Derived.Test.YtafkdkiagmbeaaaWMore
import Derived.WalkKit
import Derived.ProofKit
import Derived.OpenShut
import Derived.ChangeOld
import Derived.Deep.Slices
section
/- A contract of one Go function: what it returns for its arguments; printed by the kit's print program or written by hand. -/
namespace Go.Proofs.Ytafkdkiagmbeaaa.Q
open Go.RowKit Go.Proofs.YtafkdkiagmbeaaaW.PrintWords Go.Proofs.YtafkdkiagmbeaaaW.PrintLast Go.Proofs.YtafkdkiagmbeaaaW.PrintMore
attribute [local go_sem] max2_int min2_int max_two min_two max_three min_three max_four min_four   -- for this text's walks alone
set_option linter.unusedVariables false
set_option linter.unusedSimpArgs false

/-! #### pure: DiffS -/
theorem diffS_row (l : List Int) (hl : l.length ≤ 1048576) (n : Int) (i : Nat) (hi : i < l.length) :
    ∀ (d j k : Nat), j + d = i → d + 1 ≤ k → ((∀ j', j ≤ j' → ∀ h : j' < i, l[j'] ≠ l[i]) → spec_l01Different.l1 k l n i j = spec_l01Different.l0 (k - (d + 1)) l n ((i + 1 : Nat) : Int)) ∧ (¬ (∀ j', j ≤ j' → ∀ h : j' < i, l[j'] ≠ l[i]) → spec_l01Different.l1 k l n i j = some false)
  | 0, j, k, hd, hk => by
    obtain ⟨k, rfl⟩ : ∃ q, k = q + 1 := ⟨k - 1, by omega⟩
    rw [spec_l01Different.l1, if_neg (by omega), w64_succ (by omega)]
    exact ⟨fun _ => rfl, fun h => absurd (fun j' a b => by omega) h⟩
  | d + 1, j, k, hd, hk => by
    obtain ⟨k, rfl⟩ : ∃ q, k = q + 1 := ⟨k - 1, by omega⟩
    have ih := diffS_row l hl n i hi d (j + 1) k (by omega) (by omega)
    rw [spec_l01Different.l1, if_pos (by omega), if_pos (by omega), if_pos (by omega), if_pos (by omega), if_pos (by omega), w64_succ (by omega), rd_of_lt l hi, rd_of_lt l (show j < l.length by omega), show k + 1 - (d + 1 + 1) = k - (d + 1) from by omega]
    by_cases he : l[j] = l[i]
    · rw [if_pos he]
      exact ⟨fun h => absurd he (h j (Nat.le_refl _) (by omega)), fun _ => rfl⟩
    · rw [if_neg he]
      refine ⟨fun h => ih.1 fun j' a b => h j' (by omega) b, fun h => ih.2 fun h' => h fun j' a b => ?_⟩
      rcases Nat.eq_or_lt_of_le a with rfl | a
      · exact he
      · exact h' j' a b
theorem not_mem_take {l : List Int} {i : Nat} (hi : i < l.length) : l[i] ∉ l.take i ↔ ∀ j', 0 ≤ j' → ∀ h : j' < i, l[j'] ≠ l[i] := by
  constructor
  · intro h j' _ hj e
    refine h ?_
    rw [← e]
    exact List.mem_take_iff_getElem.2 ⟨j', by omega, rfl⟩
  · intro h hm
    obtain ⟨j', hj, e⟩ := List.mem_take_iff_getElem.1 hm
    exact h j' (Nat.zero_le _) (by omega) e
theorem diffS_all (B : Nat) (l : List Int) (hB : l.length + 3 ≤ B) (hl : l.length ≤ 1048576) (n : Int) :
    ∀ (d i k : Nat), i + d = l.length → (d + 1) * B ≤ k → allDiff (wrap64 (n - 1)) (l.take i) → spec_l01Different.l0 k l n i = some (decide (allDiff (wrap64 (n - 1)) l))
  | 0, i, k, hd, hk, ha => by
    obtain ⟨k, rfl⟩ : ∃ q, k = q + 1 := ⟨k - 1, by have := Nat.one_mul B; omega⟩
    rw [spec_l01Different.l0, if_neg (by omega)]
    rw [List.take_of_length_le (by omega)] at ha
    rw [decide_eq_true ha]
  | d + 1, i, k, hd, hk, ha => by
    have hs : (d + 1 + 1) * B = (d + 1) * B + B := Nat.succ_mul (d + 1) B
    obtain ⟨k, rfl⟩ : ∃ q, k = q + 1 := ⟨k - 1, by omega⟩
    have hi : i < l.length := by omega
    have row := diffS_row l hl n i hi i 0 k (by omega) (by omega)
    rw [show ((0 : Nat) : Int) = 0 from rfl] at row
    rw [spec_l01Different.l0, if_pos (by omega), if_pos (by omega), l00In_eq, rd_of_lt l hi]
    simp only [Option.bind_some]
    by_cases hr : 0 ≤ l[i] ∧ l[i] ≤ wrap64 (n - 1)
    · rw [if_pos (decide_eq_true hr)]
      by_cases hm : ∀ j', 0 ≤ j' → ∀ h : j' < i, l[j'] ≠ l[i]
      · rw [row.1 hm]
        exact diffS_all B l hB hl n d (i + 1) (k - (i + 1)) (by omega) (by omega) ((allDiff_take hi).2 ⟨ha, hr, (not_mem_take hi).2 hm⟩)
      · rw [row.2 hm, decide_eq_false fun h => hm ((not_mem_take hi).1 ((allDiff_take hi).1 (allDiff_mono h)).2.2)]
    · rw [if_neg (by simpa using hr), decide_eq_false fun h => hr (h.2 _ (List.getElem_mem hi))]
theorem diffS_eq (l : List Int) (hl : l.length ≤ 1048576) (n : Int) (k : Nat) (hk : 1048577 * 1048579 ≤ k) : spec_l01Different.f k l n = some (decide (allDiff (wrap64 (n - 1)) l)) := by
  unfold spec_l01Different.f
  exact diffS_all 1048579 l (by omega) hl n l.length 0 k (by omega) (Nat.le_trans (Nat.mul_le_mul_right _ (by omega)) hk) (by simp [allDiff])
theorem allDiff_len {n : Int} (h0 : 0 ≤ n) (h5 : n ≤ 5) {l : List Int} (h : allDiff (wrap64 (n - 1)) l) : l.length ≤ n.toNat ∧ ∀ x ∈ l, 0 ≤ x ∧ x < n := by
  have hw : wrap64 (n - 1) = n - 1 := by unfold wrap64; omega
  rw [hw] at h
  have h2 : ∀ x ∈ l, 0 ≤ x ∧ x < n := fun x hx => by have := h.2 x hx; omega
  exact ⟨pigeon n.toNat l h.1 fun x hx => by have := h2 x hx; omega, h2⟩

end Go.Proofs.Ytafkdkiagmbeaaa.Q
end

section
/- A contract of one Go function: what it returns for its arguments; printed by the kit's print program or written by hand. -/
namespace Go.Proofs.Ytafkdkiagmbeaaa.Q
open Go.RowKit Go.Proofs.YtafkdkiagmbeaaaW.PrintWords Go.Proofs.YtafkdkiagmbeaaaW.PrintLast Go.Proofs.YtafkdkiagmbeaaaW.PrintMore
attribute [local go_sem] max2_int min2_int max_two min_two max_three min_three max_four min_four   -- for this text's walks alone
set_option linter.unusedVariables false
set_option linter.unusedSimpArgs false

/-! #### pure: BitsS -/
theorem l01Bit_eq (k : Nat) {i j : Int} (i0 : 0 ≤ i) (i4 : i ≤ 4) (j0 : 0 ≤ j) (j4 : j ≤ 4) : spec_l01Bit.f (k + 2) i j = some (bitI i j) := by
  rcases small4 i0 i4 with rfl | rfl | rfl | rfl | rfl <;> rcases small4 j0 j4 with rfl | rfl | rfl | rfl | rfl <;> kernel_rfl

end Go.Proofs.Ytafkdkiagmbeaaa.Q
end

section
/- A contract of one Go function: what it returns for its arguments; printed by the kit's print program or written by hand. -/
namespace Go.Proofs.Ytafkdkiagmbeaaa.Q
open Go.RowKit Go.Proofs.YtafkdkiagmbeaaaW.PrintWords Go.Proofs.YtafkdkiagmbeaaaW.PrintLast Go.Proofs.YtafkdkiagmbeaaaW.PrintMore
attribute [local go_sem] max2_int min2_int max_two min_two max_three min_three max_four min_four   -- for this text's walks alone
set_option linter.unusedVariables false
set_option linter.unusedSimpArgs false

/-! #### pure: OnS -/
theorem joined_eq (k : Nat) (n e : Int) {i j : Int} (i0 : 0 ≤ i) (i4 : i ≤ 4) (j0 : 0 ≤ j) (j4 : j ≤ 4) (hij : i ≠ j) : spec_l01Joined.f (k + 2) n e i j = some (hasI e i j) := by
  unfold spec_l01Joined.f hasI
  rw [if_neg hij, l01Bit_eq k i0 i4 j0 j4]; rfl
theorem l01Bit_ge {k : Nat} (hk : 2 ≤ k) {i j : Int} (i0 : 0 ≤ i) (i4 : i ≤ 4) (j0 : 0 ≤ j) (j4 : j ≤ 4) : spec_l01Bit.f k i j = some (bitI i j) := by
  obtain ⟨q, rfl⟩ : ∃ q, k = q + 2 := ⟨k - 2, by omega⟩
  exact l01Bit_eq q i0 i4 j0 j4
theorem joined_ge {k : Nat} (hk : 2 ≤ k) (n e : Int) {i j : Int} (i0 : 0 ≤ i) (i4 : i ≤ 4) (j0 : 0 ≤ j) (j4 : j ≤ 4) (hij : i ≠ j) : spec_l01Joined.f k n e i j = some (hasI e i j) := by
  obtain ⟨q, rfl⟩ : ∃ q, k = q + 2 := ⟨k - 2, by omega⟩
  exact joined_eq q n e i0 i4 j0 j4 hij
theorem onS_row {l : List Int} {j : Nat} (n e0 : Int) (h5 : l.length ≤ 5) (h : ∀ i : Nat, i < l.length → 0 ≤ rd l i ∧ rd l i ≤ 4) (hne : ∀ i j : Nat, i < j → j < l.length → rd l i ≠ rd l j) (hj : j < l.length) (N : Int) :
    ∀ (d i : Nat) (e : Int) (k : Nat), i + d = j → d + 3 ≤ k → spec_l01On.l1 k l j i n e0 N e = spec_l01On.l0 (k - (d + 1)) l ((j + 1 : Nat) : Int) n e0 N (loopRow (fun i j => hasI e0 (rd l i) (rd l j)) j d i e)
  | 0, i, e, k, hd, hk => by
    have : i = j := by omega
    subst this
    obtain ⟨k, rfl⟩ : ∃ m, k = m + 1 := ⟨k - 1, by omega⟩
    simp only [spec_l01On.l1, loopRow]
    rw [if_neg (by omega), show wrap64 ((i : Int) + 1) = ((i + 1 : Nat) : Int) from by unfold wrap64; omega]; rfl
  | d + 1, i, e, k, hd, hk => by
    have hw : wrap64 ((i : Int) + 1) = ((i + 1 : Nat) : Int) := by unfold wrap64; omega
    have hi := h i (by omega)
    have hj' := h j hj
    obtain ⟨k, rfl⟩ : ∃ m, k = m + 1 := ⟨k - 1, by omega⟩
    simp only [spec_l01On.l1, loopRow]
    rw [if_pos (by omega), if_pos (by omega), if_pos (by omega), if_pos (by omega), if_pos (by omega), joined_ge (by omega) n e0 hi.1 hi.2 hj'.1 hj'.2 (hne i j (by omega) hj), hw, show k + 1 - (d + 1 + 1) = k - (d + 1) from by omega]
    simp only [Option.bind_some]
    by_cases hb : hasI e0 (rd l i) (rd l j) = true
    rotate_left
    · rw [if_neg hb, if_neg hb]
      exact onS_row n e0 h5 h hne hj N d (i + 1) e k (by omega) (by omega)
    · rw [if_pos hb, if_pos hb, l01Bit_ge (by omega) (by omega) (by omega) (by omega) (by omega)]
      simp only [Option.bind_some]
      exact onS_row n e0 h5 h hne hj N d (i + 1) _ k (by omega) (by omega)
theorem onS_all {l : List Int} (n e0 : Int) (h5 : l.length ≤ 5) (h : ∀ i : Nat, i < l.length → 0 ≤ rd l i ∧ rd l i ≤ 4) (hne : ∀ i j : Nat, i < j → j < l.length → rd l i ≠ rd l j) :
    ∀ (d j : Nat) (e : Int) (k : Nat), j + d = l.length → 7 * d + 3 ≤ k → spec_l01On.l0 k l j n e0 (l.length : Int) e = some ((l.length : Int), loopMade (fun i j => hasI e0 (rd l i) (rd l j)) d j e)
  | 0, j, e, k, hd, hk => by
    obtain ⟨k, rfl⟩ : ∃ m, k = m + 1 := ⟨k - 1, by omega⟩
    simp only [spec_l01On.l0, loopMade]
    rw [if_neg (by omega)]
  | d + 1, j, e, k, hd, hk => by
    obtain ⟨k, rfl⟩ : ∃ m, k = m + 1 := ⟨k - 1, by omega⟩
    simp only [spec_l01On.l0, loopMade]
    rw [if_pos (by omega)]
    have := onS_row n e0 h5 h hne (show j < l.length by omega) (l.length : Int) j 0 e k (by omega) (by omega)
    rw [show ((0 : Nat) : Int) = 0 from rfl] at this
    rw [this]
    exact onS_all n e0 h5 h hne d (j + 1) _ (k - (j + 1)) (by omega) (by omega)
theorem onS_eq (n e : Int) {l : List Int} (h5 : l.length ≤ 5) (h : ∀ i : Nat, i < l.length → 0 ≤ rd l i ∧ rd l i ≤ 4) (hne : ∀ i j : Nat, i < j → j < l.length → rd l i ≠ rd l j) (k : Nat) (hk : 40 ≤ k) :
    spec_l01On.f k n e l = some ((l.length : Int), onI e l) := by
  unfold spec_l01On.f onI madeI
  cases hl : l.length with
  | zero =>
    obtain ⟨k, rfl⟩ : ∃ m, k = m + 1 := ⟨k - 1, by omega⟩
    simp [spec_l01On.l0, loopMade]
  | succ m =>
    have := onS_all n e h5 h hne m 1 0 k (by omega) (by omega)
    rw [hl] at this
    rw [show ((1 : Nat) : Int) = 1 from rfl] at this
    rw [this]
    simp [loopMade, loopRow]

end Go.Proofs.Ytafkdkiagmbeaaa.Q
end

section
/- A contract of one Go function: what it returns for its arguments; printed by the kit's print program or written by hand. -/
namespace Go.Proofs.Ytafkdkiagmbeaaa.Q
open Go.RowKit Go.Proofs.YtafkdkiagmbeaaaW.PrintWords Go.Proofs.YtafkdkiagmbeaaaW.PrintLast Go.Proofs.YtafkdkiagmbeaaaW.PrintMore
attribute [local go_sem] max2_int min2_int max_two min_two max_three min_three max_four min_four   -- for this text's walks alone
set_option linter.unusedVariables false
set_option linter.unusedSimpArgs false

/-! #### pure: OnBoth -/
theorem onS_diff (n e : Int) {m : Int} (h0 : 0 ≤ m) (h5 : m ≤ 5) {l : List Int} (h : allDiff (wrap64 (m - 1)) l) (k : Nat) (hk : 40 ≤ k) : spec_l01On.f k n e l = some ((l.length : Int), onI e l) := by
  have hl := allDiff_len h0 h5 h
  have hat : ∀ i : Nat, (hi : i < l.length) → 0 ≤ l[i] ∧ l[i] < m := fun i hi => hl.2 _ (List.getElem_mem hi)
  refine onS_eq n e (by omega) (fun i hi => ?_) (fun i j hij hj => ?_) k hk
  · rw [rd_of_lt l hi]; have := hat i hi; omega
  · rw [rd_of_lt l hj, rd_of_lt l (by omega)]
    exact List.pairwise_iff_getElem.1 h.1 i j (by omega) hj hij
theorem okList_diff {m : Int} (h0 : 0 ≤ m) (h5 : m ≤ 5) {l : List Int} (h : allDiff (wrap64 (m - 1)) l) : okList l := by
  have hl := allDiff_len h0 h5 h
  exact ⟨by omega, fun x hx => by have := hl.2 x hx; omega⟩

end Go.Proofs.Ytafkdkiagmbeaaa.Q
end

section
/- A contract of one Go function: what it returns for its arguments; printed by the kit's print program or written by hand. -/
namespace Go.Proofs.Ytafkdkiagmbeaaa.Q
open Go.RowKit Go.Proofs.YtafkdkiagmbeaaaW.PrintWords Go.Proofs.YtafkdkiagmbeaaaW.PrintLast Go.Proofs.YtafkdkiagmbeaaaW.PrintMore
attribute [local go_sem] max2_int min2_int max_two min_two max_three min_three max_four min_four   -- for this text's walks alone
set_option linter.unusedVariables false
set_option linter.unusedSimpArgs false

/-! #### pure: ValidNat -/
theorem validG_nat {n e : Int} (h0 : 0 ≤ e) (h : validG n e = true) : ∃ (m f : Nat), n = m ∧ e = f ∧ m < 6 ∧ f < 2 ^ prs m := by
  simp only [validG, decide_eq_true_eq] at h
  refine ⟨n.toNat, e.toNat, by omega, by omega, by omega, ?_⟩
  have := h.2.2
  unfold prs
  have h2 : ((e.toNat : Nat) : Int) < ((2 ^ (n.toNat * (n.toNat - 1) / 2) : Nat) : Int) := by rw [Int.toNat_of_nonneg h0]; exact_mod_cast this
  exact_mod_cast h2

end Go.Proofs.Ytafkdkiagmbeaaa.Q
end

section
/- A contract of one Go function: what it returns for its arguments; printed by the kit's print program or written by hand. -/
namespace Go.Proofs.Ytafkdkiagmbeaaa.Q
open Go.RowKit Go.Proofs.YtafkdkiagmbeaaaW.PrintWords Go.Proofs.YtafkdkiagmbeaaaW.PrintLast Go.Proofs.YtafkdkiagmbeaaaW.PrintMore
attribute [local go_sem] max2_int min2_int max_two min_two max_three min_three max_four min_four   -- for this text's walks alone
set_option linter.unusedVariables false
set_option linter.unusedSimpArgs false

/-! #### pure: LawHasPart -/
theorem andNot_iff (x y : BitVec 32) : x &&& ~~~ y = 0#32 ↔ x &&& y = x := by
  constructor
  · intro h
    ext i hi
    have := congrArg (fun z : BitVec 32 => z[i]) h
    simp only [BitVec.getElem_and, BitVec.getElem_not, BitVec.getElem_zero] at this ⊢
    revert this
    cases x[i] <;> cases y[i] <;> simp
  · intro h
    ext i hi
    have := congrArg (fun z : BitVec 32 => z[i]) h
    simp only [BitVec.getElem_and, BitVec.getElem_not, BitVec.getElem_zero] at this ⊢
    revert this
    cases x[i] <;> cases y[i] <;> simp
theorem part_bits {h : Int} (h0 : 0 ≤ h) (h1 : h ≤ 4294967295) (b : Int) : (Go.bits .andNot .u32 h b == 0) = decide (Go.bits .and .u32 h b = h) := by
  rw [bits_andNot32, bits_and32, Bool.eq_iff_iff, beq_iff_eq, decide_eq_true_eq]
  have hx : ((BitVec.ofInt 32 h).toNat : Int) = h := by rw [BitVec.toNat_ofInt]; omega
  generalize BitVec.ofInt 32 h = x at *
  generalize BitVec.ofInt 32 b = y
  rw [← hx]
  constructor
  · intro e
    have : x &&& ~~~ y = 0#32 := by apply BitVec.eq_of_toNat_eq; simpa using e
    rw [(andNot_iff x y).1 this]
  · intro e
    have : x &&& y = x := by apply BitVec.eq_of_toNat_eq; exact_mod_cast e
    rw [(andNot_iff x y).2 this]; rfl
theorem allDiff_wrap {n : Nat} (hn : n < 6) {l : List Int} (h : allDiff ((n : Int) - 1) l) : allDiff (wrap64 ((n : Int) - 1)) l := by
  rw [show wrap64 ((n : Int) - 1) = (n : Int) - 1 from by unfold wrap64; omega]; exact h
theorem part_loop (n : Nat) (hn : n < 6) (e m h : Int) : ∀ (ls : List (List Int)) (x : List Int) (k : Nat), isChain n (x :: ls) = true → (∀ l ∈ x :: ls, allDiff ((n : Int) - 1) l) → ls.length + 200 ≤ k →
    spec_l01Part.l0 k x true n e m h = some ((x :: ls).any fun l => decide (Go.bits .and .u32 h (onI e l) = h))
  | [], x, k, hc, hd, hk => by
    obtain ⟨k, rfl⟩ : ∃ q, k = q + 2 := ⟨k - 2, by omega⟩
    obtain ⟨y, hy⟩ := chain_one hc
    rw [spec_l01Part.l0, if_pos rfl, onS_diff n e (by omega) (by omega) (allDiff_wrap hn (hd x (List.mem_cons_self))) _ (by omega)]
    simp only [Option.bind_some, List.any_cons, List.any_nil, Bool.or_false]
    by_cases hb : Go.bits .and .u32 h (onI e x) = h
    · rw [if_pos hb, decide_eq_true hb]
    · rw [if_neg hb, decide_eq_false hb, hy _ (by omega)]
      simp only [Option.bind_some]
      rw [spec_l01Part.l0, if_neg (by simp)]
  | z :: ls, x, k, hc, hd, hk => by
    obtain ⟨k, rfl⟩ : ∃ q, k = q + 1 := ⟨k - 1, by omega⟩
    obtain ⟨h1, h2⟩ := chain_cons hc
    have hl : (z :: ls).length = ls.length + 1 := rfl
    rw [spec_l01Part.l0, if_pos rfl, onS_diff n e (by omega) (by omega) (allDiff_wrap hn (hd x (List.mem_cons_self))) _ (by omega)]
    simp only [Option.bind_some]
    rw [List.any_cons]
    by_cases hb : Go.bits .and .u32 h (onI e x) = h
    · rw [if_pos hb, decide_eq_true hb]; rfl
    · rw [if_neg hb, decide_eq_false hb, h1 _ (by omega)]
      simp only [Option.bind_some, Bool.false_or]
      exact part_loop n hn e m h ls z k h2 (fun l hl => hd l (List.mem_cons_of_mem _ hl)) (by omega)
theorem leaves_none : ∀ n, n < 6 → ∀ r, r < 6 → n < r → leaves n r [] = [] := by decide +kernel
theorem leaves_nodup : ∀ n, n < 6 → ∀ r, r < 6 → ∀ l ∈ leaves n r [], allDiff ((n : Int) - 1) l := by decide +kernel
theorem hasPart_eq (n m : Nat) (hn : n < 6) (hm : m < 6) (e h : Int) (h0 : 0 ≤ h) (h1 : h ≤ 4294967295) : impl_Graph_hasPart.f n e m h = some ((leaves n m []).any fun l => decide (Go.bits .and .u32 h (onI e l) = h)) := by
  unfold impl_Graph_hasPart.f impl_listed.f
  rw [if_pos (by simp; omega), lstd_eq]
  rw [runCb_any _ (fun l => decide (Go.bits .and .u32 h (onI e l) = h))]
  · simp
  · intro l hl
    simp only [Int.toNat_natCast, List.length_nil, Nat.sub_zero] at hl
    have hd := leaves_nodup n hn m hm l hl
    unfold impl_Graph_hasPart_1.f
    rw [impl_onT.eq n e (okList_diff (by omega) (by omega) (allDiff_wrap hn hd))]
    simp only [Option.bind_some]
    rw [part_bits h0 h1]
theorem l01Part_eq (n m : Nat) (hn : n < 6) (hm : m < 6) (e h : Int) (k : Nat) (hk : 1000 ≤ k) : spec_l01Part.f k n e m h = some ((leaves n m []).any fun l => decide (Go.bits .and .u32 h (onI e l) = h)) := by
  unfold spec_l01Part.f
  by_cases hmn : (m : Int) > n
  · rw [if_pos hmn, leaves_none n hn m hm (by omega)]; rfl
  · rw [if_neg hmn, firstS_eq m (by omega) (by omega) k (by omega)]
    simp only [Option.bind_some, Int.toNat_natCast]
    obtain ⟨hh, hc⟩ := chains n hn m (by omega)
    have hd := leaves_nodup n hn m hm
    have hlen : (leaves n m []).length ≤ 200 := (show ∀ n, n < 6 → ∀ m, m < 6 → (leaves n m []).length ≤ 200 from by decide +kernel) n hn m hm
    revert hh hc hd hlen
    generalize leaves n m [] = L
    intro hh hc hd hlen
    cases L with
    | nil => simp at hh
    | cons x ls =>
      obtain rfl : x = firstI m := by simpa using hh
      exact part_loop n hn e m h ls _ k hc hd (by simp only [List.length_cons] at hlen; omega)
theorem FnExactHasPart_pure (n e m h : Int) (_hn : (Lit.int .i64 n).wf = true) (he : (Lit.int .u32 e).wf = true) (_hm : (Lit.int .i64 m).wf = true) (hh : (Lit.int .u32 h).wf = true) : ∃ k, laws_FnExactHasPart.f k n e m h = some true := by
  refine ⟨1000, ?_⟩
  have he' : 0 ≤ e ∧ e ≤ 4294967295 := by simpa [Lit.wf, IntKind.min, IntKind.max, IntKind.bits, IntKind.signed] using he
  have hh' : 0 ≤ h ∧ h ≤ 4294967295 := by simpa [Lit.wf, IntKind.min, IntKind.max, IntKind.bits, IntKind.signed] using hh
  simp only [laws_FnExactHasPart.f, laws_toGraph.f, Option.bind_some, spec_HasPart.f, impl_HasPart.f, l01Ok_eq n e he'.1 he'.2, ValidGraph_eq n e he'.1 he'.2, l01Ok_eq m h hh'.1 hh'.2, ValidGraph_eq m h hh'.1 hh'.2]
  cases hv : validG n e
  · rfl
  cases hw : validG m h
  · rfl
  obtain ⟨n, e, rfl, rfl, hn, _⟩ := validG_nat he'.1 hv
  obtain ⟨m, h, rfl, rfl, hm, _⟩ := validG_nat hh'.1 hw
  simp only [if_true, hasPart_eq n m hn hm e h hh'.1 hh'.2, l01Part_eq n m hn hm e h 1000 (by omega), Option.bind_some, bne_self_eq_false, Bool.false_eq_true, if_false]

end Go.Proofs.Ytafkdkiagmbeaaa.Q
end

section
/- How the data of an argument open into plain values: whole numbers, structs of two fields, arrays of two, slices of such; of whatever program. -/
namespace Go.Proofs.YtafkdkiagmbeaaaW.PrintWords
open Go Go.RowKit Go.ChangeShapes Go.WideShapes Go.ChangeAt Go.Deep
set_option linter.unusedVariables false
section
variable {H : Type} (enc : TypeId × Value → H) (P : Program) (W : World)
/-- Whatever reads as data of type t stands for a plain value. -/
def Opens {α : Type} (t : TypeId) (k : Kd α) (wf : α → Prop) : Prop :=
  ∀ (fuel : Nat) (cs : List Value) (x : DataW H × List MemPlace), DataW.trod enc P W 0 (fun _ => true) true fuel t cs = some x → ∃ a, k.K W a cs ∧ wf a
end
section
variable {H : Type} {enc : TypeId × Value → H} {P : Program} {W : World}
theorem Opens.int {t : TypeId} {k : IntKind} (ht : P.underlying t = some (.int k)) : Opens enc P W t (Kd.int k) (fun n => (Lit.int k n).wf = true) := by
  intro fuel cs x h
  obtain ⟨n, rfl, _, hw⟩ := DataW.trod_int ht h
  exact ⟨n, rfl, hw⟩
theorem Opens.bool {t : TypeId} (ht : P.underlying t = some .bool) : Opens enc P W t Kd.bool (fun _ => True) := by
  intro fuel cs x h
  obtain ⟨n, rfl, _⟩ := DataW.trod_bool ht h
  exact ⟨n, rfl, trivial⟩
theorem Opens.struct2 {α β : Type} {t : TypeId} {f0 f1 : Field} {k0 : Kd α} {k1 : Kd β} {p0 : α → Prop} {p1 : β → Prop} (ht : P.underlying t = some (.struct #[f0, f1])) (o0 : f0.offset = 0) (o1 : f1.offset = P.cellsOf f0.type) (hc : P.cellsOf t = P.cellsOf f0.type + P.cellsOf f1.type)
    (h0 : Opens enc P W f0.type k0 p0) (h1 : Opens enc P W f1.type k1 p1) : Opens enc P W t (Kd.pair k0 k1) (fun p => p0 p.1 ∧ p1 p.2) := by
  intro fuel cs x h
  obtain ⟨y0, y1, n, _, hl, e0, e1⟩ := trod_struct2 ht h
  obtain ⟨a, ka, wa⟩ := h0 n _ _ e0
  obtain ⟨b, kb, wb⟩ := h1 n _ _ e1
  refine ⟨(a, b), ⟨_, _, ?_, ka, kb⟩, wa, wb⟩
  rw [o0, o1, List.drop_zero, List.take_of_length_le (l := List.drop _ cs) (by rw [List.length_drop, hl, hc]; omega), List.take_append_drop]
theorem Opens.iso {α β : Type} {t : TypeId} {k : Kd α} {p : α → Prop} (f : β → α) (g : α → β) (hfg : ∀ a, f (g a) = a) (h : Opens enc P W t k p) : Opens enc P W t (Kd.iso k f) (fun b => p (f b)) := by
  intro fuel cs x hx
  obtain ⟨a, ka, wa⟩ := h fuel cs x hx
  exact ⟨g a, by show k.K W (f (g a)) cs; rw [hfg]; exact ka, by show p (f (g a)); rw [hfg]; exact wa⟩
theorem Opens.slice {α : Type} (z : α) {t e : TypeId} {k : Kd α} {p : α → Prop} (ht : P.underlying t = some (.slice e)) (hs : k.sz = P.cellsOf e) (h : Opens enc P W e k p) : Opens enc P W t (Kd.slice e k) (fun l => l.length < 9223372036854775808 ∧ ∀ a ∈ l, p a) := by
  haveI : Inhabited α := ⟨z⟩
  intro fuel cs x hx
  rcases open_slice ht hx with ⟨rfl, _⟩ | ⟨ad, len, cap, m, n, D, Pl, rfl, _, hl, hm, hmm, _, hel⟩
  · exact ⟨[], ⟨none, 0, rfl, Nat.le_refl _, rfl, by simp, fun h0 => absurd h0 (Nat.lt_irrefl 0)⟩, by simp, fun a ha => by cases ha⟩
  · have hlm : len ≤ m := by
      rw [hmm]; split
      · exact hl
      · exact Nat.le_refl _
    obtain ⟨F, hF⟩ := choose_lt (α := α) (n := len) (p := fun i a => p a ∧ ∃ cs', k.K W a cs' ∧ W.cells? 0 (ad.add (i * P.cellsOf e)) (P.cellsOf e) = some cs') (fun i hi => by
      obtain ⟨cs', h1, h2⟩ := hel i (by omega)
      obtain ⟨a, ka, wa⟩ := h n _ _ h2
      exact ⟨a, wa, cs', ka, h1⟩)
    refine ⟨(List.range len).map F, ⟨some ad, cap, by simp, by simpa using hl, by simp, by simp; unfold maxLen at hm; omega, fun _ => ⟨ad, rfl, fun j q hq => ?_⟩⟩, by simp; unfold maxLen at hm; omega, fun a ha => ?_⟩
    · obtain ⟨hj, rfl⟩ : j < len ∧ F j = q := by
        rw [List.getElem?_map] at hq
        rcases Nat.lt_or_ge j len with hj | hj
        · rw [List.getElem?_range hj] at hq; exact ⟨hj, by simpa using hq⟩
        · rw [List.getElem?_eq_none (by simpa using hj)] at hq; simp at hq
      obtain ⟨_, cs', ka, h1⟩ := hF j hj
      obtain ⟨_, hlen, hcell⟩ := World.cells?_some h1
      refine ⟨cs', k.K_len ka, ka, fun i u hu => ?_⟩
      have hi : i < P.cellsOf e := by rw [← hlen]; exact (List.getElem?_eq_some_iff.1 hu).1
      rw [hs, ← add_add, hcell i hi]; exact hu
    · obtain ⟨i, hi, rfl⟩ := List.mem_map.1 ha
      exact (hF i (List.mem_range.1 hi)).1
end
end Go.Proofs.YtafkdkiagmbeaaaW.PrintWords
end
