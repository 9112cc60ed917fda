/- Contracts of Go functions and plain lemmas over what they compute; printed by the kit's print program or written by hand, joined. -/
import Derived.Test.YtafkdkiagmbeaaaBFnExactFlagOf1
import Derived.Test.YtafkdkiagmbeaaaBFnExactFlagOf7
import Derived.Test.YtafkdkiagmbeaaaBFnExactFlagOf2
import Derived.Test.YtafkdkiagmbeaaaBFnExactFlagOf8
import Derived.Test.YtafkdkiagmbeaaaBFnExactFlagOf11
import Derived.Test.YtafkdkiagmbeaaaBFnExactFlagOf4
import Derived.Test.YtafkdkiagmbeaaaBFnExactFlagOf9
import Derived.Test.YtafkdkiagmbeaaaBFnExactFlagOf10
import Derived.Test.YtafkdkiagmbeaaaBFnExactFlagOf5
import Derived.Test.YtafkdkiagmbeaaaBFnExactFlagOf13
import Derived.Test.YtafkdkiagmbeaaaBFnExactFlagOf6
import Derived.Test.YtafkdkiagmbeaaaBFnExactFlagOf12
import Derived.Test.YtafkdkiagmbeaaaBFnExactFlagOf14
section
/- A contract of one Go function: what it returns for its arguments; printed by the kit's print program or written by hand. -/
namespace Go.Proofs.Ytafkdkiagmbeaaa.Q
open Go.RowKit Go.Proofs.YtafkdkiagmbeaaaW.PrintWords Go.Proofs.YtafkdkiagmbeaaaW.PrintLast Go.Proofs.YtafkdkiagmbeaaaW.PrintMore
attribute [local go_sem] max2_int min2_int max_two min_two max_three min_three max_four min_four   -- for this text's walks alone
set_option linter.unusedVariables false
set_option linter.unusedSimpArgs false

/-! #### pure: Base -/
theorem l00In_eq (a b c : Int) : spec_l00In.f a b c = some (decide (b ≤ a ∧ a ≤ c)) := by
  unfold spec_l00In.f
  by_cases h : a ≥ b
  · rw [if_pos h]; congr 1; rw [decide_eq_decide]; omega
  · rw [if_neg h]; congr 1; symm; rw [decide_eq_false_iff_not]; omega
theorem small5 {n : Int} (h0 : 0 ≤ n) (h5 : n ≤ 5) : n = 0 ∨ n = 1 ∨ n = 2 ∨ n = 3 ∨ n = 4 ∨ n = 5 := by omega

end Go.Proofs.Ytafkdkiagmbeaaa.Q
end

section
/- A contract of one Go function: what it returns for its arguments; printed by the kit's print program or written by hand. -/
namespace Go.Proofs.Ytafkdkiagmbeaaa.Q
open Go.RowKit Go.Proofs.YtafkdkiagmbeaaaW.PrintWords Go.Proofs.YtafkdkiagmbeaaaW.PrintLast Go.Proofs.YtafkdkiagmbeaaaW.PrintMore
attribute [local go_sem] max2_int min2_int max_two min_two max_three min_three max_four min_four   -- for this text's walks alone
set_option linter.unusedVariables false
set_option linter.unusedSimpArgs false

/-! #### pure: Lists -/
theorem w64_succ {i : Nat} (h : i < 1048577) : wrap64 ((i : Int) + 1) = ((i + 1 : Nat) : Int) := by unfold wrap64; omega
theorem getD_of_lt {α : Type} (l : List α) (d : α) {i : Nat} (h : i < l.length) : l.getD ((i : Int)).toNat d = l[i] := by
  rw [Int.toNat_natCast, List.getD_eq_getElem?_getD, List.getElem?_eq_getElem h]; rfl
theorem set_take {α : Type} (out : List α) (x : α) {i : Nat} (h : i < out.length) : (out.set i x).take (i + 1) = out.take i ++ [x] := by
  rw [List.take_succ_eq_append_getElem (by rw [List.length_set]; exact h), List.take_set_of_le (Nat.le_refl _), List.getElem_set_self]
theorem rd_of_lt (l : List Int) {i : Nat} (h : i < l.length) : rd l (i : Int) = l[i] := by unfold rd; exact getD_of_lt l 0 h
theorem pigeon : ∀ (n : Nat) (l : List Int), l.Nodup → (∀ x ∈ l, 0 ≤ x ∧ x < (n : Int)) → l.length ≤ n
  | 0, l, _, h => by
    cases l with
    | nil => exact Nat.le_refl _
    | cons a l => have := h a (List.mem_cons_self); omega
  | n + 1, l, hd, h => by
    by_cases hn : (n : Int) ∈ l
    · have := pigeon n (l.erase n) (hd.erase _) fun x hx => by
        rw [hd.mem_erase_iff] at hx
        have := h x hx.2
        have := hx.1
        omega
      rw [List.length_erase_of_mem hn] at this
      omega
    · have := pigeon n l hd fun x hx => by
        have := h x hx
        have : x ≠ n := fun e => hn (e ▸ hx)
        omega
      omega

end Go.Proofs.Ytafkdkiagmbeaaa.Q
end

section
/- A contract of one Go function: what it returns for its arguments; printed by the kit's print program or written by hand. -/
namespace Go.Proofs.Ytafkdkiagmbeaaa.Q
open Go.RowKit Go.Proofs.YtafkdkiagmbeaaaW.PrintWords Go.Proofs.YtafkdkiagmbeaaaW.PrintLast Go.Proofs.YtafkdkiagmbeaaaW.PrintMore
attribute [local go_sem] max2_int min2_int max_two min_two max_three min_three max_four min_four   -- for this text's walks alone
set_option linter.unusedVariables false
set_option linter.unusedSimpArgs false

/-! #### pure: DiffS -/
theorem diffS_row (l : List Int) (hl : l.length ≤ 1048576) (n : Int) (i : Nat) (hi : i < l.length) :
    ∀ (d j k : Nat), j + d = i → d + 1 ≤ k → ((∀ j', j ≤ j' → ∀ h : j' < i, l[j'] ≠ l[i]) → spec_l01Different.l1 k l n i j = spec_l01Different.l0 (k - (d + 1)) l n ((i + 1 : Nat) : Int)) ∧ (¬ (∀ j', j ≤ j' → ∀ h : j' < i, l[j'] ≠ l[i]) → spec_l01Different.l1 k l n i j = some false)
  | 0, j, k, hd, hk => by
    obtain ⟨k, rfl⟩ : ∃ q, k = q + 1 := ⟨k - 1, by omega⟩
    rw [spec_l01Different.l1, if_neg (by omega), w64_succ (by omega)]
    exact ⟨fun _ => rfl, fun h => absurd (fun j' a b => by omega) h⟩
  | d + 1, j, k, hd, hk => by
    obtain ⟨k, rfl⟩ : ∃ q, k = q + 1 := ⟨k - 1, by omega⟩
    have ih := diffS_row l hl n i hi d (j + 1) k (by omega) (by omega)
    rw [spec_l01Different.l1, if_pos (by omega), if_pos (by omega), if_pos (by omega), if_pos (by omega), if_pos (by omega), w64_succ (by omega), rd_of_lt l hi, rd_of_lt l (show j < l.length by omega), show k + 1 - (d + 1 + 1) = k - (d + 1) from by omega]
    by_cases he : l[j] = l[i]
    · rw [if_pos he]
      exact ⟨fun h => absurd he (h j (Nat.le_refl _) (by omega)), fun _ => rfl⟩
    · rw [if_neg he]
      refine ⟨fun h => ih.1 fun j' a b => h j' (by omega) b, fun h => ih.2 fun h' => h fun j' a b => ?_⟩
      rcases Nat.eq_or_lt_of_le a with rfl | a
      · exact he
      · exact h' j' a b
theorem not_mem_take {l : List Int} {i : Nat} (hi : i < l.length) : l[i] ∉ l.take i ↔ ∀ j', 0 ≤ j' → ∀ h : j' < i, l[j'] ≠ l[i] := by
  constructor
  · intro h j' _ hj e
    refine h ?_
    rw [← e]
    exact List.mem_take_iff_getElem.2 ⟨j', by omega, rfl⟩
  · intro h hm
    obtain ⟨j', hj, e⟩ := List.mem_take_iff_getElem.1 hm
    exact h j' (Nat.zero_le _) (by omega) e
theorem diffS_all (B : Nat) (l : List Int) (hB : l.length + 3 ≤ B) (hl : l.length ≤ 1048576) (n : Int) :
    ∀ (d i k : Nat), i + d = l.length → (d + 1) * B ≤ k → allDiff (wrap64 (n - 1)) (l.take i) → spec_l01Different.l0 k l n i = some (decide (allDiff (wrap64 (n - 1)) l))
  | 0, i, k, hd, hk, ha => by
    obtain ⟨k, rfl⟩ : ∃ q, k = q + 1 := ⟨k - 1, by have := Nat.one_mul B; omega⟩
    rw [spec_l01Different.l0, if_neg (by omega)]
    rw [List.take_of_length_le (by omega)] at ha
    rw [decide_eq_true ha]
  | d + 1, i, k, hd, hk, ha => by
    have hs : (d + 1 + 1) * B = (d + 1) * B + B := Nat.succ_mul (d + 1) B
    obtain ⟨k, rfl⟩ : ∃ q, k = q + 1 := ⟨k - 1, by omega⟩
    have hi : i < l.length := by omega
    have row := diffS_row l hl n i hi i 0 k (by omega) (by omega)
    rw [show ((0 : Nat) : Int) = 0 from rfl] at row
    rw [spec_l01Different.l0, if_pos (by omega), if_pos (by omega), l00In_eq, rd_of_lt l hi]
    simp only [Option.bind_some]
    by_cases hr : 0 ≤ l[i] ∧ l[i] ≤ wrap64 (n - 1)
    · rw [if_pos (decide_eq_true hr)]
      by_cases hm : ∀ j', 0 ≤ j' → ∀ h : j' < i, l[j'] ≠ l[i]
      · rw [row.1 hm]
        exact diffS_all B l hB hl n d (i + 1) (k - (i + 1)) (by omega) (by omega) ((allDiff_take hi).2 ⟨ha, hr, (not_mem_take hi).2 hm⟩)
      · rw [row.2 hm, decide_eq_false fun h => hm ((not_mem_take hi).1 ((allDiff_take hi).1 (allDiff_mono h)).2.2)]
    · rw [if_neg (by simpa using hr), decide_eq_false fun h => hr (h.2 _ (List.getElem_mem hi))]
theorem diffS_eq (l : List Int) (hl : l.length ≤ 1048576) (n : Int) (k : Nat) (hk : 1048577 * 1048579 ≤ k) : spec_l01Different.f k l n = some (decide (allDiff (wrap64 (n - 1)) l)) := by
  unfold spec_l01Different.f
  exact diffS_all 1048579 l (by omega) hl n l.length 0 k (by omega) (Nat.le_trans (Nat.mul_le_mul_right _ (by omega)) hk) (by simp [allDiff])
theorem allDiff_len {n : Int} (h0 : 0 ≤ n) (h5 : n ≤ 5) {l : List Int} (h : allDiff (wrap64 (n - 1)) l) : l.length ≤ n.toNat ∧ ∀ x ∈ l, 0 ≤ x ∧ x < n := by
  have hw : wrap64 (n - 1) = n - 1 := by unfold wrap64; omega
  rw [hw] at h
  have h2 : ∀ x ∈ l, 0 ≤ x ∧ x < n := fun x hx => by have := h.2 x hx; omega
  exact ⟨pigeon n.toNat l h.1 fun x hx => by have := h2 x hx; omega, h2⟩

end Go.Proofs.Ytafkdkiagmbeaaa.Q
end

section
/- A contract of one Go function: what it returns for its arguments; printed by the kit's print program or written by hand. -/
namespace Go.Proofs.Ytafkdkiagmbeaaa.Q
open Go.RowKit Go.Proofs.YtafkdkiagmbeaaaW.PrintWords Go.Proofs.YtafkdkiagmbeaaaW.PrintLast Go.Proofs.YtafkdkiagmbeaaaW.PrintMore
attribute [local go_sem] max2_int min2_int max_two min_two max_three min_three max_four min_four   -- for this text's walks alone
set_option linter.unusedVariables false
set_option linter.unusedSimpArgs false

/-! #### pure: Among -/
theorem mem_drop_cons {l : List Int} {i : Nat} (hi : i < l.length) (x : Int) : x ∈ l.drop i ↔ l[i] = x ∨ x ∈ l.drop (i + 1) := by
  rw [List.drop_eq_getElem_cons hi, List.mem_cons, eq_comm]
theorem among_loop (l : List Int) (hl : l.length ≤ 1048576) (x : Int) : ∀ (d i k : Nat), i + d = l.length → d + 1 ≤ k → spec_l01Among.l0 k l x i = some (decide (x ∈ l.drop i))
  | 0, i, k, hd, hk => by
    obtain ⟨k, rfl⟩ : ∃ q, k = q + 1 := ⟨k - 1, by omega⟩
    rw [spec_l01Among.l0, if_neg (by omega), List.drop_eq_nil_of_le (by omega)]; rfl
  | d + 1, i, k, hd, hk => by
    obtain ⟨k, rfl⟩ : ∃ q, k = q + 1 := ⟨k - 1, by omega⟩
    have hi : i < l.length := by omega
    have ih := among_loop l hl x d (i + 1) k (by omega) (by omega)
    rw [spec_l01Among.l0, if_pos (by omega), if_pos (by omega), w64_succ (by omega), rd_of_lt l hi]
    by_cases h : l[i] = x
    · rw [if_pos h, decide_eq_true ((mem_drop_cons hi x).2 (Or.inl h))]
    · rw [if_neg h, ih]
      congr 1
      rw [decide_eq_decide, mem_drop_cons hi]
      exact ⟨fun a => Or.inr a, fun a => a.resolve_left h⟩
theorem among_eq (l : List Int) (hl : l.length ≤ 1048576) (x : Int) (k : Nat) (hk : l.length + 1 ≤ k) : spec_l01Among.f k l x = some (decide (x ∈ l)) := by
  unfold spec_l01Among.f
  exact among_loop l hl x l.length 0 k (by omega) hk

end Go.Proofs.Ytafkdkiagmbeaaa.Q
end

section
/- A contract of one Go function: what it returns for its arguments; printed by the kit's print program or written by hand. -/
namespace Go.Proofs.Ytafkdkiagmbeaaa.Q
open Go.RowKit Go.Proofs.YtafkdkiagmbeaaaW.PrintWords Go.Proofs.YtafkdkiagmbeaaaW.PrintLast Go.Proofs.YtafkdkiagmbeaaaW.PrintMore
attribute [local go_sem] max2_int min2_int max_two min_two max_three min_three max_four min_four   -- for this text's walks alone
set_option linter.unusedVariables false
set_option linter.unusedSimpArgs false

/-! #### pure: Contains -/
theorem index_loop (l : List Int) (hl : l.length ≤ 1048576) (x : Int) : ∀ (d i k : Nat), i + d = l.length → d + 1 ≤ k → (x ∈ l.drop i → ∃ r : Int, 0 ≤ r ∧ slices_Index_int64_int64.l0 k l x (l.length : Int) i = some r) ∧ (x ∉ l.drop i → slices_Index_int64_int64.l0 k l x (l.length : Int) i = some (-1))
  | 0, i, k, hd, hk => by
    obtain ⟨k, rfl⟩ : ∃ q, k = q + 1 := ⟨k - 1, by omega⟩
    rw [slices_Index_int64_int64.l0, if_neg (by omega), List.drop_eq_nil_of_le (by omega)]
    exact ⟨fun h => absurd h (by simp), fun _ => rfl⟩
  | d + 1, i, k, hd, hk => by
    obtain ⟨k, rfl⟩ : ∃ q, k = q + 1 := ⟨k - 1, by omega⟩
    have hi : i < l.length := by omega
    have ih := index_loop l hl x d (i + 1) k (by omega) (by omega)
    rw [slices_Index_int64_int64.l0, if_pos (by omega), if_pos (by omega), if_pos (by omega), w64_succ (by omega), rd_of_lt l hi, mem_drop_cons hi]
    by_cases h : x = l[i]
    · rw [if_pos h]
      exact ⟨fun _ => ⟨i, by omega, rfl⟩, fun a => absurd (Or.inl h.symm) a⟩
    · rw [if_neg h]
      exact ⟨fun a => ih.1 (a.resolve_left (fun e => h e.symm)), fun a => ih.2 (fun b => a (Or.inr b))⟩
theorem contains_eq (l : List Int) (hl : l.length ≤ 1048576) (x : Int) (k : Nat) (hk : l.length + 1 ≤ k) : slices_Contains_int64_int64.f k l x = some (decide (x ∈ l)) := by
  unfold slices_Contains_int64_int64.f slices_Index_int64_int64.f
  have h := index_loop l hl x l.length 0 k (by omega) hk
  rw [show ((0 : Nat) : Int) = 0 from rfl, List.drop_zero] at h
  by_cases m : x ∈ l
  · obtain ⟨r, h0, e⟩ := h.1 m
    rw [e, decide_eq_true m]; simp [h0]
  · rw [h.2 m, decide_eq_false m]; rfl

end Go.Proofs.Ytafkdkiagmbeaaa.Q
end

section
/- A contract of one Go function: what it returns for its arguments; printed by the kit's print program or written by hand. -/
namespace Go.Proofs.Ytafkdkiagmbeaaa.Q
open Go.RowKit Go.Proofs.YtafkdkiagmbeaaaW.PrintWords Go.Proofs.YtafkdkiagmbeaaaW.PrintLast Go.Proofs.YtafkdkiagmbeaaaW.PrintMore
attribute [local go_sem] max2_int min2_int max_two min_two max_three min_three max_four min_four   -- for this text's walks alone
set_option linter.unusedVariables false
set_option linter.unusedSimpArgs false

/-! #### pure: BitsS -/
theorem l01Bit_eq (k : Nat) {i j : Int} (i0 : 0 ≤ i) (i4 : i ≤ 4) (j0 : 0 ≤ j) (j4 : j ≤ 4) : spec_l01Bit.f (k + 2) i j = some (bitI i j) := by
  rcases small4 i0 i4 with rfl | rfl | rfl | rfl | rfl <;> rcases small4 j0 j4 with rfl | rfl | rfl | rfl | rfl <;> kernel_rfl

end Go.Proofs.Ytafkdkiagmbeaaa.Q
end

section
/- A contract of one Go function: what it returns for its arguments; printed by the kit's print program or written by hand. -/
namespace Go.Proofs.Ytafkdkiagmbeaaa.Q
open Go.RowKit Go.Proofs.YtafkdkiagmbeaaaW.PrintWords Go.Proofs.YtafkdkiagmbeaaaW.PrintLast Go.Proofs.YtafkdkiagmbeaaaW.PrintMore
attribute [local go_sem] max2_int min2_int max_two min_two max_three min_three max_four min_four   -- for this text's walks alone
set_option linter.unusedVariables false
set_option linter.unusedSimpArgs false

/-! #### pure: OnS -/
theorem joined_eq (k : Nat) (n e : Int) {i j : Int} (i0 : 0 ≤ i) (i4 : i ≤ 4) (j0 : 0 ≤ j) (j4 : j ≤ 4) (hij : i ≠ j) : spec_l01Joined.f (k + 2) n e i j = some (hasI e i j) := by
  unfold spec_l01Joined.f hasI
  rw [if_neg hij, l01Bit_eq k i0 i4 j0 j4]; rfl
theorem l01Bit_ge {k : Nat} (hk : 2 ≤ k) {i j : Int} (i0 : 0 ≤ i) (i4 : i ≤ 4) (j0 : 0 ≤ j) (j4 : j ≤ 4) : spec_l01Bit.f k i j = some (bitI i j) := by
  obtain ⟨q, rfl⟩ : ∃ q, k = q + 2 := ⟨k - 2, by omega⟩
  exact l01Bit_eq q i0 i4 j0 j4
theorem joined_ge {k : Nat} (hk : 2 ≤ k) (n e : Int) {i j : Int} (i0 : 0 ≤ i) (i4 : i ≤ 4) (j0 : 0 ≤ j) (j4 : j ≤ 4) (hij : i ≠ j) : spec_l01Joined.f k n e i j = some (hasI e i j) := by
  obtain ⟨q, rfl⟩ : ∃ q, k = q + 2 := ⟨k - 2, by omega⟩
  exact joined_eq q n e i0 i4 j0 j4 hij
theorem onS_row {l : List Int} {j : Nat} (n e0 : Int) (h5 : l.length ≤ 5) (h : ∀ i : Nat, i < l.length → 0 ≤ rd l i ∧ rd l i ≤ 4) (hne : ∀ i j : Nat, i < j → j < l.length → rd l i ≠ rd l j) (hj : j < l.length) (N : Int) :
    ∀ (d i : Nat) (e : Int) (k : Nat), i + d = j → d + 3 ≤ k → spec_l01On.l1 k l j i n e0 N e = spec_l01On.l0 (k - (d + 1)) l ((j + 1 : Nat) : Int) n e0 N (loopRow (fun i j => hasI e0 (rd l i) (rd l j)) j d i e)
  | 0, i, e, k, hd, hk => by
    have : i = j := by omega
    subst this
    obtain ⟨k, rfl⟩ : ∃ m, k = m + 1 := ⟨k - 1, by omega⟩
    simp only [spec_l01On.l1, loopRow]
    rw [if_neg (by omega), show wrap64 ((i : Int) + 1) = ((i + 1 : Nat) : Int) from by unfold wrap64; omega]; rfl
  | d + 1, i, e, k, hd, hk => by
    have hw : wrap64 ((i : Int) + 1) = ((i + 1 : Nat) : Int) := by unfold wrap64; omega
    have hi := h i (by omega)
    have hj' := h j hj
    obtain ⟨k, rfl⟩ : ∃ m, k = m + 1 := ⟨k - 1, by omega⟩
    simp only [spec_l01On.l1, loopRow]
    rw [if_pos (by omega), if_pos (by omega), if_pos (by omega), if_pos (by omega), if_pos (by omega), joined_ge (by omega) n e0 hi.1 hi.2 hj'.1 hj'.2 (hne i j (by omega) hj), hw, show k + 1 - (d + 1 + 1) = k - (d + 1) from by omega]
    simp only [Option.bind_some]
    by_cases hb : hasI e0 (rd l i) (rd l j) = true
    rotate_left
    · rw [if_neg hb, if_neg hb]
      exact onS_row n e0 h5 h hne hj N d (i + 1) e k (by omega) (by omega)
    · rw [if_pos hb, if_pos hb, l01Bit_ge (by omega) (by omega) (by omega) (by omega) (by omega)]
      simp only [Option.bind_some]
      exact onS_row n e0 h5 h hne hj N d (i + 1) _ k (by omega) (by omega)
theorem onS_all {l : List Int} (n e0 : Int) (h5 : l.length ≤ 5) (h : ∀ i : Nat, i < l.length → 0 ≤ rd l i ∧ rd l i ≤ 4) (hne : ∀ i j : Nat, i < j → j < l.length → rd l i ≠ rd l j) :
    ∀ (d j : Nat) (e : Int) (k : Nat), j + d = l.length → 7 * d + 3 ≤ k → spec_l01On.l0 k l j n e0 (l.length : Int) e = some ((l.length : Int), loopMade (fun i j => hasI e0 (rd l i) (rd l j)) d j e)
  | 0, j, e, k, hd, hk => by
    obtain ⟨k, rfl⟩ : ∃ m, k = m + 1 := ⟨k - 1, by omega⟩
    simp only [spec_l01On.l0, loopMade]
    rw [if_neg (by omega)]
  | d + 1, j, e, k, hd, hk => by
    obtain ⟨k, rfl⟩ : ∃ m, k = m + 1 := ⟨k - 1, by omega⟩
    simp only [spec_l01On.l0, loopMade]
    rw [if_pos (by omega)]
    have := onS_row n e0 h5 h hne (show j < l.length by omega) (l.length : Int) j 0 e k (by omega) (by omega)
    rw [show ((0 : Nat) : Int) = 0 from rfl] at this
    rw [this]
    exact onS_all n e0 h5 h hne d (j + 1) _ (k - (j + 1)) (by omega) (by omega)
theorem onS_eq (n e : Int) {l : List Int} (h5 : l.length ≤ 5) (h : ∀ i : Nat, i < l.length → 0 ≤ rd l i ∧ rd l i ≤ 4) (hne : ∀ i j : Nat, i < j → j < l.length → rd l i ≠ rd l j) (k : Nat) (hk : 40 ≤ k) :
    spec_l01On.f k n e l = some ((l.length : Int), onI e l) := by
  unfold spec_l01On.f onI madeI
  cases hl : l.length with
  | zero =>
    obtain ⟨k, rfl⟩ : ∃ m, k = m + 1 := ⟨k - 1, by omega⟩
    simp [spec_l01On.l0, loopMade]
  | succ m =>
    have := onS_all n e h5 h hne m 1 0 k (by omega) (by omega)
    rw [hl] at this
    rw [show ((1 : Nat) : Int) = 1 from rfl] at this
    rw [this]
    simp [loopMade, loopRow]

end Go.Proofs.Ytafkdkiagmbeaaa.Q
end

section
/- A contract of one Go function: what it returns for its arguments; printed by the kit's print program or written by hand. -/
namespace Go.Proofs.Ytafkdkiagmbeaaa.Q
open Go.RowKit Go.Proofs.YtafkdkiagmbeaaaW.PrintWords Go.Proofs.YtafkdkiagmbeaaaW.PrintLast Go.Proofs.YtafkdkiagmbeaaaW.PrintMore
attribute [local go_sem] max2_int min2_int max_two min_two max_three min_three max_four min_four   -- for this text's walks alone
set_option linter.unusedVariables false
set_option linter.unusedSimpArgs false

/-! #### pure: OnBoth -/
theorem onS_diff (n e : Int) {m : Int} (h0 : 0 ≤ m) (h5 : m ≤ 5) {l : List Int} (h : allDiff (wrap64 (m - 1)) l) (k : Nat) (hk : 40 ≤ k) : spec_l01On.f k n e l = some ((l.length : Int), onI e l) := by
  have hl := allDiff_len h0 h5 h
  have hat : ∀ i : Nat, (hi : i < l.length) → 0 ≤ l[i] ∧ l[i] < m := fun i hi => hl.2 _ (List.getElem_mem hi)
  refine onS_eq n e (by omega) (fun i hi => ?_) (fun i j hij hj => ?_) k hk
  · rw [rd_of_lt l hi]; have := hat i hi; omega
  · rw [rd_of_lt l hj, rd_of_lt l (by omega)]
    exact List.pairwise_iff_getElem.1 h.1 i j (by omega) hj hij
theorem okList_diff {m : Int} (h0 : 0 ≤ m) (h5 : m ≤ 5) {l : List Int} (h : allDiff (wrap64 (m - 1)) l) : okList l := by
  have hl := allDiff_len h0 h5 h
  exact ⟨by omega, fun x hx => by have := hl.2 x hx; omega⟩

end Go.Proofs.Ytafkdkiagmbeaaa.Q
end

section
/- A contract of one Go function: what it returns for its arguments; printed by the kit's print program or written by hand. -/
namespace Go.Proofs.Ytafkdkiagmbeaaa.Q
open Go.RowKit Go.Proofs.YtafkdkiagmbeaaaW.PrintWords Go.Proofs.YtafkdkiagmbeaaaW.PrintLast Go.Proofs.YtafkdkiagmbeaaaW.PrintMore
attribute [local go_sem] max2_int min2_int max_two min_two max_three min_three max_four min_four   -- for this text's walks alone
set_option linter.unusedVariables false
set_option linter.unusedSimpArgs false

/-! #### pure: FlagOfB -/
def addRest (l : List Int) : Nat → Nat → List Int → List Int
  | 0, _, x => x
  | d + 1, i, x => addRest l d (i + 1) (if (i : Int) ∈ l then x else x ++ [(i : Int)])
theorem flagOf_loop (l : List Int) (hl : l.length ≤ 1048576) (n e : Int) : ∀ (d i k : Nat) (x : List Int), ((i + d : Nat) : Int) = n → i + d ≤ 5 → x.length + d ≤ 1048600 → d + l.length + 3 ≤ k → impl_flagOf.l0 k l x n i n e = (impl_onT.f n e (addRest l d i x)).bind fun bt => some ((l.length : Int), bt.1, bt.2)
  | 0, i, k, x, hd, h5, hx, hk => by
    obtain ⟨k, rfl⟩ : ∃ q, k = q + 1 := ⟨k - 1, by omega⟩
    rw [impl_flagOf.l0, if_neg (by omega)]; rfl
  | d + 1, i, k, x, hd, h5, hx, hk => by
    obtain ⟨k, rfl⟩ : ∃ q, k = q + 1 := ⟨k - 1, by omega⟩
    rw [impl_flagOf.l0, if_pos (by omega), contains_eq l hl i k (by omega), w64_succ (by omega)]
    simp only [Option.bind_some, decide_eq_true_eq, addRest]
    by_cases h : (i : Int) ∈ l
    · rw [if_pos h, if_pos h]
      exact flagOf_loop l hl n e d (i + 1) k x (by omega) (by omega) (by omega) (by omega)
    · rw [if_neg h, if_neg h, if_pos (by omega)]
      exact flagOf_loop l hl n e d (i + 1) k _ (by omega) (by omega) (by rw [List.length_append]; simp only [List.length_cons, List.length_nil]; omega) (by omega)
theorem l03FlagOf_loop (l : List Int) (hl : l.length ≤ 1048576) (n e : Int) : ∀ (d i k : Nat) (x : List Int), ((i + d : Nat) : Int) = n → i + d ≤ 5 → x.length + d ≤ 1048600 → d + l.length + 3 ≤ k → spec_l03FlagOf.l0 k l x i n e = (spec_l01On.f (k - (d + 1)) n e (addRest l d i x)).bind fun bt => some ((l.length : Int), bt.1, bt.2)
  | 0, i, k, x, hd, h5, hx, hk => by
    obtain ⟨k, rfl⟩ : ∃ q, k = q + 1 := ⟨k - 1, by omega⟩
    rw [spec_l03FlagOf.l0, if_neg (by omega)]; rfl
  | d + 1, i, k, x, hd, h5, hx, hk => by
    obtain ⟨k, rfl⟩ : ∃ q, k = q + 1 := ⟨k - 1, by omega⟩
    rw [spec_l03FlagOf.l0, if_pos (by omega), among_eq l hl i k (by omega), w64_succ (by omega), show k + 1 - (d + 1 + 1) = k - (d + 1) from by omega]
    simp only [Option.bind_some, decide_eq_true_eq, addRest]
    by_cases h : (i : Int) ∈ l
    · rw [if_pos h, if_pos h]
      exact l03FlagOf_loop l hl n e d (i + 1) k x (by omega) (by omega) (by omega) (by omega)
    · rw [if_neg h, if_neg h, if_pos (by omega)]
      exact l03FlagOf_loop l hl n e d (i + 1) k _ (by omega) (by omega) (by rw [List.length_append]; simp only [List.length_cons, List.length_nil]; omega) (by omega)
theorem addRest_diff (l : List Int) (m : Int) : ∀ (d i : Nat) (x : List Int), ((i + d : Nat) : Int) ≤ m + 1 → allDiff m x → (∀ y ∈ x, y ∈ l ∨ y < i) → allDiff m (addRest l d i x)
  | 0, i, x, _, h, _ => h
  | d + 1, i, x, hm, h, hy => by
    rw [addRest]
    by_cases hi : (i : Int) ∈ l
    · rw [if_pos hi]
      exact addRest_diff l m d (i + 1) x (by omega) h fun y a => (hy y a).imp id fun b => by omega
    · rw [if_neg hi]
      have hx : (i : Int) ∉ x := fun a => (hy _ a).elim hi (fun b => by omega)
      refine addRest_diff l m d (i + 1) _ (by omega) ⟨?_, fun y a => ?_⟩ fun y a => ?_
      · rw [List.nodup_append]
        refine ⟨h.1, by simp, fun a ha b hb => ?_⟩
        rw [List.mem_singleton] at hb
        subst hb
        exact fun e => hx (e ▸ ha)
      · rcases List.mem_append.1 a with a | a
        · exact h.2 y a
        · rw [List.mem_singleton] at a; subst a; omega
      · rcases List.mem_append.1 a with a | a
        · exact (hy y a).imp id fun b => by omega
        · rw [List.mem_singleton] at a; subst a; exact Or.inr (by omega)
/-- What the flag of a valid graph and of labels is, by both. -/
theorem flagOf_both {n : Int} (e : Int) (h0 : 0 ≤ n) (h5 : n ≤ 5) {l : List Int} (hd : allDiff (wrap64 (n - 1)) l) (k : Nat) (hk : 60 ≤ k) :
    impl_flagOf.f k n e l = some ((l.length : Int), ((addRest l n.toNat 0 l).length : Int), onI e (addRest l n.toNat 0 l)) ∧ spec_l03FlagOf.f k n e l = some ((l.length : Int), ((addRest l n.toNat 0 l).length : Int), onI e (addRest l n.toNat 0 l)) := by
  have hl := allDiff_len h0 h5 hd
  have ha : allDiff (wrap64 (n - 1)) (addRest l n.toNat 0 l) := addRest_diff l _ n.toNat 0 l (by unfold wrap64; omega) hd fun y a => Or.inl a
  constructor
  · unfold impl_flagOf.f slices_Clone_int64_int64.f
    simp only [Option.bind_some, List.nil_append, List.length_nil]
    rw [if_pos (by omega)]
    simp only [Option.bind_some]
    have := flagOf_loop l (by omega) n e n.toNat 0 k l (by omega) (by omega) (by omega) (by omega)
    rw [show ((0 : Nat) : Int) = 0 from rfl] at this
    rw [this, impl_onT.eq n e (okList_diff h0 h5 ha)]; rfl
  · unfold spec_l03FlagOf.f
    simp only [Option.bind_some, List.nil_append, List.length_nil]
    rw [if_pos (by omega)]
    have := l03FlagOf_loop l (by omega) n e n.toNat 0 k l (by omega) (by omega) (by omega) (by omega)
    rw [show ((0 : Nat) : Int) = 0 from rfl] at this
    rw [this, onS_diff n e h0 h5 ha _ (by omega)]; rfl

end Go.Proofs.Ytafkdkiagmbeaaa.Q
end

section
/- A contract of one Go function: what it returns for its arguments; printed by the kit's print program or written by hand. -/
namespace Go.Proofs.Ytafkdkiagmbeaaa.Q
open Go.RowKit Go.Proofs.YtafkdkiagmbeaaaW.PrintWords Go.Proofs.YtafkdkiagmbeaaaW.PrintLast Go.Proofs.YtafkdkiagmbeaaaW.PrintMore
attribute [local go_sem] max2_int min2_int max_two min_two max_three min_three max_four min_four   -- for this text's walks alone
set_option linter.unusedVariables false
set_option linter.unusedSimpArgs false

/-! #### pure: In -/
theorem in_eq (a b c : Int) : impl_in.f a b c = some (decide (b ≤ a ∧ a ≤ c)) := by
  unfold impl_in.f
  by_cases h : a ≥ b
  · rw [if_pos h]; congr 1; rw [decide_eq_decide]; omega
  · rw [if_neg h]; congr 1; symm; rw [decide_eq_false_iff_not]; omega

end Go.Proofs.Ytafkdkiagmbeaaa.Q
end

section
/- A contract of one Go function: what it returns for its arguments; printed by the kit's print program or written by hand. -/
namespace Go.Proofs.Ytafkdkiagmbeaaa.Q
open Go.RowKit Go.Proofs.YtafkdkiagmbeaaaW.PrintWords Go.Proofs.YtafkdkiagmbeaaaW.PrintLast Go.Proofs.YtafkdkiagmbeaaaW.PrintMore
attribute [local go_sem] max2_int min2_int max_two min_two max_three min_three max_four min_four   -- for this text's walks alone
set_option linter.unusedVariables false
set_option linter.unusedSimpArgs false

/-! #### pure: Valid -/
def validG (n e : Int) : Bool := decide (0 ≤ n ∧ n ≤ 5 ∧ e < 2 ^ (n.toNat * (n.toNat - 1) / 2))
theorem l01Ok_eq (n e : Int) (h0 : 0 ≤ e) (h1 : e ≤ 4294967295) : spec_l01Ok.f n e = some (validG n e) := by
  have hw : wrap64 e = e := by unfold wrap64; omega
  unfold spec_l01Ok.f validG
  rw [l00In_eq, hw]; simp only [Option.bind_some]
  by_cases h : 0 ≤ n ∧ n ≤ 5
  · rw [if_pos (by simpa using h)]
    obtain ⟨ha, hb⟩ := h
    rcases small5 ha hb with rfl | rfl | rfl | rfl | rfl | rfl
    all_goals
      simp only [spec_l01Bits.f]
      simp [wrap64, IntKind.wrap_u64, shl, IntKind.wrap_i64, IntKind.bits]
  · rw [if_neg (by simpa using h)]; congr 1; symm; rw [decide_eq_false_iff_not]; omega

end Go.Proofs.Ytafkdkiagmbeaaa.Q
end

section
/- A contract of one Go function: what it returns for its arguments; printed by the kit's print program or written by hand. -/
namespace Go.Proofs.Ytafkdkiagmbeaaa.Q
open Go.RowKit Go.Proofs.YtafkdkiagmbeaaaW.PrintWords Go.Proofs.YtafkdkiagmbeaaaW.PrintLast Go.Proofs.YtafkdkiagmbeaaaW.PrintMore
attribute [local go_sem] max2_int min2_int max_two min_two max_three min_three max_four min_four   -- for this text's walks alone
set_option linter.unusedVariables false
set_option linter.unusedSimpArgs false

/-! #### pure: ImplValid -/
theorem ValidGraph_eq (n e : Int) (h0 : 0 ≤ e) (h1 : e ≤ 4294967295) : impl_ValidGraph.f n e = some (validG n e) := by
  unfold impl_ValidGraph.f validG
  rw [in_eq]; simp only [Option.bind_some]
  by_cases h : 0 ≤ n ∧ n ≤ 5
  · rw [if_pos (by simpa using h)]
    obtain ⟨ha, hb⟩ := h
    rcases small5 ha hb with rfl | rfl | rfl | rfl | rfl | rfl
    all_goals
      simp only [impl_pairs.f]
      simp [wrap64, shr, IntKind.bits]
    all_goals (first | done | (rw [Bool.eq_iff_iff]; simp; omega))
  · rw [if_neg (by simpa using h)]; congr 1; symm; rw [decide_eq_false_iff_not]; omega

end Go.Proofs.Ytafkdkiagmbeaaa.Q
end

section
/- A contract of one Go function: what it returns for its arguments; printed by the kit's print program or written by hand. -/
namespace Go.Proofs.Ytafkdkiagmbeaaa.Q
open Go.RowKit Go.Proofs.YtafkdkiagmbeaaaW.PrintWords Go.Proofs.YtafkdkiagmbeaaaW.PrintLast Go.Proofs.YtafkdkiagmbeaaaW.PrintMore
attribute [local go_sem] max2_int min2_int max_two min_two max_three min_three max_four min_four   -- for this text's walks alone
set_option linter.unusedVariables false
set_option linter.unusedSimpArgs false

/-! #### pure: Int64S -/
theorem toInt64S_loop (l : List Int) (hl : l.length ≤ 1048576) : ∀ (d i k : Nat) (out : List Int), i + d = l.length → out.length = l.length → d + 1 ≤ k → laws_toInt64S.l0 k l out i = some (out.take i ++ l.drop i)
  | 0, i, k, out, hd, ho, hk => by
    obtain ⟨k, rfl⟩ : ∃ q, k = q + 1 := ⟨k - 1, by omega⟩
    rw [laws_toInt64S.l0, if_neg (by omega), List.drop_eq_nil_of_le (by omega), List.take_of_length_le (by omega)]; simp
  | d + 1, i, k, out, hd, ho, hk => by
    obtain ⟨k, rfl⟩ : ∃ q, k = q + 1 := ⟨k - 1, by omega⟩
    rw [laws_toInt64S.l0, if_pos (by omega), if_pos (by omega), if_pos (by omega), w64_succ (by omega), Int.toNat_natCast, rd_of_lt l (by omega)]
    rw [toInt64S_loop l hl d (i + 1) k _ (by omega) (by rw [List.length_set]; exact ho) (by omega), set_take _ _ (by omega), List.append_assoc]
    congr 2
    rw [List.drop_eq_getElem_cons (show i < l.length by omega)]
    rfl
theorem toInt64S_eq (l : List Int) (hl : l.length ≤ 1048576) (k : Nat) (hk : 1048577 ≤ k) : laws_toInt64S.f k l = some l := by
  unfold laws_toInt64S.f
  rw [if_pos (by omega), if_pos (by omega)]
  have := toInt64S_loop l hl l.length 0 k (List.replicate ((l.length : Int) : Int).toNat 0) (by omega) (by simp) (by omega)
  rw [show ((0 : Nat) : Int) = 0 from rfl] at this
  rw [this]; simp
theorem eqInt64S_loop (l : List Int) (hl : l.length ≤ 1048576) : ∀ (d i k : Nat), i + d = l.length → d + 1 ≤ k → laws_eqInt64S.l0 k l l i = some true
  | 0, i, k, hd, hk => by
    obtain ⟨k, rfl⟩ : ∃ q, k = q + 1 := ⟨k - 1, by omega⟩
    rw [laws_eqInt64S.l0, if_neg (by omega)]
  | d + 1, i, k, hd, hk => by
    obtain ⟨k, rfl⟩ : ∃ q, k = q + 1 := ⟨k - 1, by omega⟩
    rw [laws_eqInt64S.l0, if_pos (by omega), if_pos (by omega), if_pos (by omega), if_pos rfl, w64_succ (by omega)]
    exact eqInt64S_loop l hl d (i + 1) k (by omega) (by omega)
theorem eqInt64S_self (l : List Int) (hl : l.length ≤ 1048576) (k : Nat) (hk : 1048577 ≤ k) : laws_eqInt64S.f k l l = some true := by
  unfold laws_eqInt64S.f
  rw [if_pos rfl]; exact eqInt64S_loop l hl l.length 0 k (by omega) (by omega)

end Go.Proofs.Ytafkdkiagmbeaaa.Q
end

section
/- A contract of one Go function: what it returns for its arguments; printed by the kit's print program or written by hand. -/
namespace Go.Proofs.Ytafkdkiagmbeaaa.Q
open Go.RowKit Go.Proofs.YtafkdkiagmbeaaaW.PrintWords Go.Proofs.YtafkdkiagmbeaaaW.PrintLast Go.Proofs.YtafkdkiagmbeaaaW.PrintMore
attribute [local go_sem] max2_int min2_int max_two min_two max_three min_three max_four min_four   -- for this text's walks alone
set_option linter.unusedVariables false
set_option linter.unusedSimpArgs false

/-! #### pure: LawFlagOf -/
theorem FnExactFlagOf_pure (n e : Int) (l : List Int) (_hn : (Lit.int .i64 n).wf = true) (he : (Lit.int .u32 e).wf = true) (hl : l.length < 9223372036854775808 ∧ ∀ x ∈ l, (Lit.int .i64 x).wf = true) : ∃ k, laws_FnExactFlagOf.f k n e l = some true := by
  refine ⟨1048577 * 1048579, ?_⟩
  have he' : 0 ≤ e ∧ e ≤ 4294967295 := by simpa [Lit.wf, IntKind.min, IntKind.max, IntKind.bits, IntKind.signed] using he
  unfold laws_FnExactFlagOf.f
  by_cases hs : (l.length : Int) > 1048576
  · rw [if_pos hs]
  rw [if_neg hs]
  have hl' : l.length ≤ 1048576 := by omega
  simp only [laws_toGraph.f, Option.bind_some, toInt64S_eq l hl' (1048577 * 1048579) (by omega), spec_FlagOf.f, impl_FlagOf.f, l01Ok_eq n e he'.1 he'.2, ValidGraph_eq n e he'.1 he'.2, diffS_eq l hl' n (1048577 * 1048579) (Nat.le_refl _), impl_different.f]
  have fin : ∀ a b c d : Int, ((laws_eqFlag.f a b c a b c).bind fun t347 => (if t347 = true then (laws_FnExactFlagOf.j0 (1048577 * 1048579) l l (d != d)) else (laws_FnExactFlagOf.j0 (1048577 * 1048579) l l true))) = some true := by
    intro a b c d
    simp only [laws_eqFlag.f, laws_eqGraph.f, if_true, Option.bind_some, bne_self_eq_false]
    obtain ⟨q, hq⟩ : ∃ q, 1048577 * 1048579 = q + 1 := ⟨1048577 * 1048579 - 1, by omega⟩
    rw [hq, laws_FnExactFlagOf.j0, if_neg (by simp), toInt64S_eq l hl' q (by omega)]
    simp only [Option.bind_some, eqInt64S_self l hl' q (by omega), if_true]
  cases hv : validG n e
  · exact fin 0 0 0 1
  · simp only [validG, decide_eq_true_eq] at hv
    simp only [if_true]
    by_cases h3 : (l.length : Int) > 3
    · simp only [if_pos h3, Option.bind_some]
      exact fin 0 0 0 2
    simp only [if_neg h3]
    by_cases hd : allDiff (wrap64 (n - 1)) l
    · have h := flagOf_both e hv.1 hv.2.1 hd (1048577 * 1048579) (by omega)
      simp only [decide_eq_true hd, if_true, h.1, h.2, Option.bind_some]
      exact fin _ _ _ 0
    · simp only [decide_eq_false hd, Bool.false_eq_true, if_false, Option.bind_some]
      exact fin 0 0 0 2

end Go.Proofs.Ytafkdkiagmbeaaa.Q
end
