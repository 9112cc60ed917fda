/- Contracts of Go functions and plain lemmas over what they compute; printed by the kit's print program or written by hand, joined. -/
import Derived.Test.YtbojkjpfccjgeaaBFnExactGraphOf4
import Derived.Test.YtbojkjpfccjgeaaBFnExactGraphOf6
import Derived.Test.YtbojkjpfccjgeaaBFnExactGraphOf7
import Derived.Test.YtbojkjpfccjgeaaBFnExactGraphOf5
import Derived.Test.YtbojkjpfccjgeaaBFnExactGraphOf8
import Derived.Test.YtbojkjpfccjgeaaBFnExactGraphOf9
import Derived.Test.YtbojkjpfccjgeaaBFnExactGraphOf10
import Derived.Test.YtbojkjpfccjgeaaBFnExactGraphOf11
import Derived.Test.YtbojkjpfccjgeaaBFnExactGraphOf3
import Derived.WalkKit
import Derived.ProofKit
import Derived.OpenShut
import Derived.ChangeOld
import Derived.Deep.Slices
section
namespace Go.Proofs.Ytbojkjpfccjgeaa.Q
open Go.RowKit Go.Proofs.YtbojkjpfccjgeaaW.PrintWords Go.Proofs.YtbojkjpfccjgeaaW.PrintLast Go.Proofs.YtbojkjpfccjgeaaW.PrintMore
attribute [local go_sem] max2_int min2_int max_two min_two max_three min_three max_four min_four   -- for this text's walks alone
set_option linter.unusedVariables false
set_option linter.unusedSimpArgs false

theorem l00In_eq (a b c : Int) : spec_l00In.f a b c = some (decide (b ≤ a ∧ a ≤ c)) := by
  unfold spec_l00In.f
  by_cases h : a ≥ b
  · rw [if_pos h]; congr 1; rw [decide_eq_decide]; omega
  · rw [if_neg h]; congr 1; symm; rw [decide_eq_false_iff_not]; omega
end Go.Proofs.Ytbojkjpfccjgeaa.Q
end

section
namespace Go.Proofs.Ytbojkjpfccjgeaa.Q
open Go.RowKit Go.Proofs.YtbojkjpfccjgeaaW.PrintWords Go.Proofs.YtbojkjpfccjgeaaW.PrintLast Go.Proofs.YtbojkjpfccjgeaaW.PrintMore
attribute [local go_sem] max2_int min2_int max_two min_two max_three min_three max_four min_four   -- for this text's walks alone
set_option linter.unusedVariables false
set_option linter.unusedSimpArgs false

def prs (n : Nat) : Nat := n * (n - 1) / 2
def bitIx (i j : Nat) : Nat := if i > j then prs i + j else prs j + i
def bitI (i j : Int) : Int := 2 ^ bitIx i.toNat j.toNat
theorem small4 {n : Int} (h0 : 0 ≤ n) (h5 : n ≤ 4) : n = 0 ∨ n = 1 ∨ n = 2 ∨ n = 3 ∨ n = 4 := by omega
theorem bit_eq {i j : Int} (i0 : 0 ≤ i) (i4 : i ≤ 4) (j0 : 0 ≤ j) (j4 : j ≤ 4) : impl_bit.f i j = some (bitI i j) := by
  rcases small4 i0 i4 with rfl | rfl | rfl | rfl | rfl <;> rcases small4 j0 j4 with rfl | rfl | rfl | rfl | rfl <;> decide +kernel

end Go.Proofs.Ytbojkjpfccjgeaa.Q
end

section
namespace Go.Proofs.Ytbojkjpfccjgeaa.Q
open Go.RowKit Go.Proofs.YtbojkjpfccjgeaaW.PrintWords Go.Proofs.YtbojkjpfccjgeaaW.PrintLast Go.Proofs.YtbojkjpfccjgeaaW.PrintMore
attribute [local go_sem] max2_int min2_int max_two min_two max_three min_three max_four min_four   -- for this text's walks alone
set_option linter.unusedVariables false
set_option linter.unusedSimpArgs false

def idxI {α : Type} (p : α → Bool) : List α → Nat → Int
  | [], _ => -1
  | x :: xs, i => if p x = true then (i : Int) else idxI p xs (i + 1)
theorem idxI_any {α : Type} (p : α → Bool) : ∀ (L : List α) (i : Nat), decide (idxI p L i ≥ 0) = L.any p
  | [], _ => by simp [idxI]
  | x :: xs, i => by
    rw [idxI, List.any_cons]
    by_cases h : p x = true
    · rw [if_pos h, h]; simp
    · rw [if_neg h, idxI_any p xs (i + 1)]; simp [Bool.eq_false_iff.2 h]

end Go.Proofs.Ytbojkjpfccjgeaa.Q
end

section
namespace Go.Proofs.Ytbojkjpfccjgeaa.Q
open Go.RowKit Go.Proofs.YtbojkjpfccjgeaaW.PrintWords Go.Proofs.YtbojkjpfccjgeaaW.PrintLast Go.Proofs.YtbojkjpfccjgeaaW.PrintMore
attribute [local go_sem] max2_int min2_int max_two min_two max_three min_three max_four min_four   -- for this text's walks alone
set_option linter.unusedVariables false
set_option linter.unusedSimpArgs false

theorem in_eq (a b c : Int) : impl_in.f a b c = some (decide (b ≤ a ∧ a ≤ c)) := by
  unfold impl_in.f
  by_cases h : a ≥ b
  · rw [if_pos h]; congr 1; rw [decide_eq_decide]; omega
  · rw [if_neg h]; congr 1; symm; rw [decide_eq_false_iff_not]; omega

end Go.Proofs.Ytbojkjpfccjgeaa.Q
end

section
namespace Go.Proofs.Ytbojkjpfccjgeaa.Q
open Go.RowKit Go.Proofs.YtbojkjpfccjgeaaW.PrintWords Go.Proofs.YtbojkjpfccjgeaaW.PrintLast Go.Proofs.YtbojkjpfccjgeaaW.PrintMore
attribute [local go_sem] max2_int min2_int max_two min_two max_three min_three max_four min_four   -- for this text's walks alone
set_option linter.unusedVariables false
set_option linter.unusedSimpArgs false

theorem w64_succ {i : Nat} (h : i < 2097152) : wrap64 ((i : Int) + 1) = ((i + 1 : Nat) : Int) := by unfold wrap64; omega
theorem getD_of_lt {α : Type} (l : List α) (d : α) {i : Nat} (h : i < l.length) : l.getD ((i : Int)).toNat d = l[i] := by
  rw [Int.toNat_natCast, List.getD_eq_getElem?_getD, List.getElem?_eq_getElem h]; rfl
theorem set_take {α : Type} (out : List α) (x : α) {i : Nat} (h : i < out.length) : (out.set i x).take (i + 1) = out.take i ++ [x] := by
  rw [List.take_succ_eq_append_getElem (by rw [List.length_set]; exact h), List.take_set_of_le (Nat.le_refl _), List.getElem_set_self]
end Go.Proofs.Ytbojkjpfccjgeaa.Q
end

section
namespace Go.Proofs.Ytbojkjpfccjgeaa.Q
open Go.RowKit Go.Proofs.YtbojkjpfccjgeaaW.PrintWords Go.Proofs.YtbojkjpfccjgeaaW.PrintLast Go.Proofs.YtbojkjpfccjgeaaW.PrintMore
attribute [local go_sem] max2_int min2_int max_two min_two max_three min_three max_four min_four   -- for this text's walks alone
set_option linter.unusedVariables false
set_option linter.unusedSimpArgs false

end Go.Proofs.Ytbojkjpfccjgeaa.Q
end

section
namespace Go.Proofs.Ytbojkjpfccjgeaa.Q
open Go.RowKit Go.Proofs.YtbojkjpfccjgeaaW.PrintWords Go.Proofs.YtbojkjpfccjgeaaW.PrintLast Go.Proofs.YtbojkjpfccjgeaaW.PrintMore
attribute [local go_sem] max2_int min2_int max_two min_two max_three min_three max_four min_four   -- for this text's walks alone
set_option linter.unusedVariables false
set_option linter.unusedSimpArgs false

end Go.Proofs.Ytbojkjpfccjgeaa.Q
end

section
namespace Go.Proofs.Ytbojkjpfccjgeaa.Q
open Go.RowKit Go.Proofs.YtbojkjpfccjgeaaW.PrintWords Go.Proofs.YtbojkjpfccjgeaaW.PrintLast Go.Proofs.YtbojkjpfccjgeaaW.PrintMore
attribute [local go_sem] max2_int min2_int max_two min_two max_three min_three max_four min_four   -- for this text's walks alone
set_option linter.unusedVariables false
set_option linter.unusedSimpArgs false

theorem l01Bit_eq (k : Nat) {i j : Int} (i0 : 0 ≤ i) (i4 : i ≤ 4) (j0 : 0 ≤ j) (j4 : j ≤ 4) : spec_l01Bit.f (k + 2) i j = some (bitI i j) := by
  rcases small4 i0 i4 with rfl | rfl | rfl | rfl | rfl <;> rcases small4 j0 j4 with rfl | rfl | rfl | rfl | rfl <;> kernel_rfl

end Go.Proofs.Ytbojkjpfccjgeaa.Q
end

section
namespace Go.Proofs.Ytbojkjpfccjgeaa.Q
open Go.RowKit Go.Proofs.YtbojkjpfccjgeaaW.PrintWords Go.Proofs.YtbojkjpfccjgeaaW.PrintLast Go.Proofs.YtbojkjpfccjgeaaW.PrintMore
attribute [local go_sem] max2_int min2_int max_two min_two max_three min_three max_four min_four   -- for this text's walks alone
set_option linter.unusedVariables false
set_option linter.unusedSimpArgs false

end Go.Proofs.Ytbojkjpfccjgeaa.Q
end

section
namespace Go.Proofs.Ytbojkjpfccjgeaa.Q
open Go.RowKit Go.Proofs.YtbojkjpfccjgeaaW.PrintWords Go.Proofs.YtbojkjpfccjgeaaW.PrintLast Go.Proofs.YtbojkjpfccjgeaaW.PrintMore
attribute [local go_sem] max2_int min2_int max_two min_two max_three min_three max_four min_four   -- for this text's walks alone
set_option linter.unusedVariables false
set_option linter.unusedSimpArgs false

theorem l01Bit_ge {k : Nat} (hk : 2 ≤ k) {i j : Int} (i0 : 0 ≤ i) (i4 : i ≤ 4) (j0 : 0 ≤ j) (j4 : j ≤ 4) : spec_l01Bit.f k i j = some (bitI i j) := by
  obtain ⟨q, rfl⟩ : ∃ q, k = q + 2 := ⟨k - 2, by omega⟩
  exact l01Bit_eq q i0 i4 j0 j4
end Go.Proofs.Ytbojkjpfccjgeaa.Q
end

section
namespace Go.Proofs.Ytbojkjpfccjgeaa.Q
open Go.RowKit Go.Proofs.YtbojkjpfccjgeaaW.PrintWords Go.Proofs.YtbojkjpfccjgeaaW.PrintLast Go.Proofs.YtbojkjpfccjgeaaW.PrintMore
attribute [local go_sem] max2_int min2_int max_two min_two max_three min_three max_four min_four   -- for this text's walks alone
set_option linter.unusedVariables false
set_option linter.unusedSimpArgs false

def pairB (n i j : Int) : Bool := decide (0 ≤ i ∧ i < n ∧ 0 ≤ j ∧ j < n ∧ i ≠ j)
theorem l01Pair_eq {n i j : Int} (h0 : 0 ≤ n) (h5 : n ≤ 5) : spec_l01Pair.f n i j = some (pairB n i j) := by
  have hw : wrap64 (n - 1) = n - 1 := by unfold wrap64; omega
  unfold spec_l01Pair.f pairB
  rw [hw, l00In_eq, l00In_eq]; simp only [Option.bind_some]
  by_cases h : 0 ≤ i ∧ i ≤ n - 1
  · rw [if_pos (by simpa using h)]
    by_cases h' : 0 ≤ j ∧ j ≤ n - 1
    · rw [if_pos (by simpa using h')]; congr 1
      by_cases e : i = j
      · subst e; simp
      · rw [bne_iff_ne.mpr e]; symm; rw [decide_eq_true_eq]; omega
    · rw [if_neg (by simpa using h')]; congr 1; symm; rw [decide_eq_false_iff_not]; omega
  · rw [if_neg (by simpa using h)]; congr 1; symm; rw [decide_eq_false_iff_not]; omega

end Go.Proofs.Ytbojkjpfccjgeaa.Q
end

section
namespace Go.Proofs.Ytbojkjpfccjgeaa.Q
open Go.RowKit Go.Proofs.YtbojkjpfccjgeaaW.PrintWords Go.Proofs.YtbojkjpfccjgeaaW.PrintLast Go.Proofs.YtbojkjpfccjgeaaW.PrintMore
attribute [local go_sem] max2_int min2_int max_two min_two max_three min_three max_four min_four   -- for this text's walks alone
set_option linter.unusedVariables false
set_option linter.unusedSimpArgs false

theorem isPair_eq {n i j : Int} (h0 : 0 ≤ n) (h5 : n ≤ 5) : impl_isPair.f n i j = some (pairB n i j) := by
  rw [← l01Pair_eq h0 h5]; unfold impl_isPair.f spec_l01Pair.f
  rw [in_eq, in_eq, l00In_eq, l00In_eq]

end Go.Proofs.Ytbojkjpfccjgeaa.Q
end

section
namespace Go.Proofs.Ytbojkjpfccjgeaa.Q
open Go.RowKit Go.Proofs.YtbojkjpfccjgeaaW.PrintWords Go.Proofs.YtbojkjpfccjgeaaW.PrintLast Go.Proofs.YtbojkjpfccjgeaaW.PrintMore
attribute [local go_sem] max2_int min2_int max_two min_two max_three min_three max_four min_four   -- for this text's walks alone
set_option linter.unusedVariables false
set_option linter.unusedSimpArgs false

theorem idxP2_loop (cb : Int → Int → Option Bool) (p : S71 → Bool) (L : List S71) (hL : L.length ≤ 1048576) (hcb : ∀ x ∈ L, cb x.f0 x.f1 = some (p x)) : ∀ (d i k : Nat), i + d = L.length → d + 1 ≤ k → slices_IndexFunc_2_int64_2_int64.l0 cb k L (L.length : Int) i = some (idxI p (L.drop i) i)
  | 0, i, k, hd, hk => by
    obtain ⟨k, rfl⟩ : ∃ q, k = q + 1 := ⟨k - 1, by omega⟩
    rw [slices_IndexFunc_2_int64_2_int64.l0, if_neg (by omega), List.drop_eq_nil_of_le (by omega)]; rfl
  | d + 1, i, k, hd, hk => by
    obtain ⟨k, rfl⟩ : ∃ q, k = q + 1 := ⟨k - 1, by omega⟩
    have hi : i < L.length := by omega
    have hr : rd_T71 L (i : Int) = L[i] := by unfold rd_T71; exact getD_of_lt L _ hi
    rw [slices_IndexFunc_2_int64_2_int64.l0]
    simp only [hr]
    rw [if_pos (by omega), if_pos (by omega), if_pos (by omega), hcb _ (List.getElem_mem hi), w64_succ (by omega), List.drop_eq_getElem_cons hi, idxI]
    simp only [Option.bind_some]
    split
    · rfl
    · exact idxP2_loop cb p L hL hcb d (i + 1) k (by omega) (by omega)
theorem idxP2_eq (cb : Int → Int → Option Bool) (p : S71 → Bool) (L : List S71) (hL : L.length ≤ 1048576) (hcb : ∀ x ∈ L, cb x.f0 x.f1 = some (p x)) (k : Nat) (hk : L.length + 1 ≤ k) : slices_IndexFunc_2_int64_2_int64.f cb k L = some (idxI p L 0) := by
  unfold slices_IndexFunc_2_int64_2_int64.f
  have := idxP2_loop cb p L hL hcb L.length 0 k (Nat.zero_add _) hk
  rw [show ((0 : Nat) : Int) = 0 from rfl, List.drop_zero] at this
  exact this
theorem anyP2_eq (cb : Int → Int → Option Bool) (p : S71 → Bool) (L : List S71) (hL : L.length ≤ 1048576) (hcb : ∀ x ∈ L, cb x.f0 x.f1 = some (p x)) (k : Nat) (hk : L.length + 1 ≤ k) : slices_ContainsFunc_2_int64_2_int64.f cb k L = some (L.any p) := by
  unfold slices_ContainsFunc_2_int64_2_int64.f
  rw [idxP2_eq cb p L hL hcb k hk]
  simp only [Option.bind_some, idxI_any]
theorem rdP_nat (l : List S71) {i : Nat} (hi : i < l.length) : rd_T71 l (i : Int) = l[i] := by unfold rd_T71; exact getD_of_lt l _ hi
theorem toInt64A2S_loop (l : List S71) (hl : l.length ≤ 1048576) : ∀ (d i k : Nat) (out : List S71), i + d = l.length → out.length = l.length → d + 1 ≤ k → laws_toInt64A2S.l0 k l out i = some (out.take i ++ l.drop i)
  | 0, i, k, out, hd, ho, hk => by
    obtain ⟨k, rfl⟩ : ∃ q, k = q + 1 := ⟨k - 1, by omega⟩
    rw [laws_toInt64A2S.l0, if_neg (by omega), List.drop_eq_nil_of_le (by omega), List.take_of_length_le (by omega)]; simp
  | d + 1, i, k, out, hd, ho, hk => by
    obtain ⟨k, rfl⟩ : ∃ q, k = q + 1 := ⟨k - 1, by omega⟩
    have hi : i < l.length := by omega
    rw [laws_toInt64A2S.l0, if_pos (by omega), if_pos (by omega), laws_toInt64A2.f]
    simp only [Option.bind_some]
    rw [if_pos (by omega), w64_succ (by omega), Int.toNat_natCast, rdP_nat l hi]
    rw [toInt64A2S_loop l hl d (i + 1) k _ (by omega) (by rw [List.length_set]; exact ho) (by omega), set_take _ _ (by omega), List.append_assoc, List.drop_eq_getElem_cons hi]
    rfl
theorem toInt64A2S_eq (l : List S71) (hl : l.length ≤ 1048576) (k : Nat) (hk : 1048577 ≤ k) : laws_toInt64A2S.f k l = some l := by
  unfold laws_toInt64A2S.f
  rw [if_pos (by omega), if_pos (by omega)]
  have := toInt64A2S_loop l hl l.length 0 k (List.replicate ((l.length : Int) : Int).toNat z71) (by omega) (by simp) (by omega)
  rw [show ((0 : Nat) : Int) = 0 from rfl] at this
  rw [this]; simp
theorem eqInt64A2S_loop (l : List S71) (hl : l.length ≤ 1048576) : ∀ (d i k : Nat), i + d = l.length → d + 1 ≤ k → laws_eqInt64A2S.l0 k l l i = some true
  | 0, i, k, hd, hk => by
    obtain ⟨k, rfl⟩ : ∃ q, k = q + 1 := ⟨k - 1, by omega⟩
    rw [laws_eqInt64A2S.l0, if_neg (by omega)]
  | d + 1, i, k, hd, hk => by
    obtain ⟨k, rfl⟩ : ∃ q, k = q + 1 := ⟨k - 1, by omega⟩
    rw [laws_eqInt64A2S.l0, if_pos (by omega), if_pos (by omega), if_pos (by omega), laws_eqInt64A2.f]
    simp only [decide_true, Bool.and_self, Option.bind_some, if_true]
    rw [w64_succ (by omega)]
    exact eqInt64A2S_loop l hl d (i + 1) k (by omega) (by omega)
theorem eqInt64A2S_self (l : List S71) (hl : l.length ≤ 1048576) (k : Nat) (hk : 1048577 ≤ k) : laws_eqInt64A2S.f k l l = some true := by
  unfold laws_eqInt64A2S.f
  rw [if_pos rfl]; exact eqInt64A2S_loop l hl l.length 0 k (by omega) (by omega)
def orE (e : Int) (L : List S71) : Int := L.foldl (fun e p => Go.bits .or .u32 e (bitI p.f0 p.f1)) e
theorem pairB_le {n i j : Int} (h5 : n ≤ 5) (h : pairB n i j = true) : 0 ≤ i ∧ i ≤ 4 ∧ 0 ≤ j ∧ j ≤ 4 := by
  simp only [pairB, decide_eq_true_eq] at h; omega
theorem graphOfS_loop (n : Int) (h0 : 0 ≤ n) (h5 : n ≤ 5) (L : List S71) (hL : L.length ≤ 1048576) : ∀ (d i k : Nat) (e : Int), i + d = L.length → d + 10 ≤ k →
    spec_GraphOf.l0 k n L i n e = some (if (L.drop i).all (fun p => pairB n p.f0 p.f1) = true then (n, orE e (L.drop i), 0) else (0, 0, 2))
  | 0, i, k, e, hd, hk => by
    obtain ⟨k, rfl⟩ : ∃ q, k = q + 1 := ⟨k - 1, by omega⟩
    rw [spec_GraphOf.l0, if_neg (by omega), List.drop_eq_nil_of_le (by omega)]; rfl
  | d + 1, i, k, e, hd, hk => by
    obtain ⟨k, rfl⟩ : ∃ q, k = q + 1 := ⟨k - 1, by omega⟩
    have hi : i < L.length := by omega
    rw [spec_GraphOf.l0, if_pos (by omega), if_pos (by omega)]
    simp only [rdP_nat L hi]
    rw [l01Pair_eq h0 h5, List.drop_eq_getElem_cons hi, List.all_cons]
    simp only [Option.bind_some]
    cases hp : pairB n L[i].f0 L[i].f1
    · simp
    · obtain ⟨a, b, c, d'⟩ := pairB_le h5 hp
      simp only [if_true, Bool.true_and]
      rw [l01Bit_ge (by omega) a b c d', w64_succ (by omega)]
      simp only [Option.bind_some]
      rw [graphOfS_loop n h0 h5 L hL d (i + 1) k _ (by omega) (by omega)]; rfl
theorem graphOfI_loop (n : Int) (h5 : n ≤ 5) (L : List S71) (hL : L.length ≤ 1048576) (hp : ∀ p ∈ L, pairB n p.f0 p.f1 = true) : ∀ (d i k : Nat) (e : Int), i + d = L.length → d + 1 ≤ k →
    impl_GraphOf.l0 k L (L.length : Int) i n e = some (n, orE e (L.drop i), 0)
  | 0, i, k, e, hd, hk => by
    obtain ⟨k, rfl⟩ : ∃ q, k = q + 1 := ⟨k - 1, by omega⟩
    rw [impl_GraphOf.l0, if_neg (by omega), List.drop_eq_nil_of_le (by omega)]; rfl
  | d + 1, i, k, e, hd, hk => by
    obtain ⟨k, rfl⟩ : ∃ q, k = q + 1 := ⟨k - 1, by omega⟩
    have hi : i < L.length := by omega
    obtain ⟨a, b, c, d'⟩ := pairB_le h5 (hp _ (List.getElem_mem hi))
    rw [impl_GraphOf.l0, if_pos (by omega), if_pos (by omega), if_pos (by omega)]
    simp only [rdP_nat L hi]
    rw [bit_eq a b c d', w64_succ (by omega), List.drop_eq_getElem_cons hi]
    simp only [Option.bind_some]
    rw [graphOfI_loop n h5 L hL hp d (i + 1) k _ (by omega) (by omega)]; rfl
theorem FnExactGraphOf_pure (n : Int) (l : List S71) (_hn : (Lit.int .i64 n).wf = true) (hl : l.length < 9223372036854775808 ∧ ∀ b ∈ l, (Lit.int .i64 b.f0).wf = true ∧ (Lit.int .i64 b.f1).wf = true) : ∃ k, laws_FnExactGraphOf.f k n l = some true := by
  obtain ⟨K, hK⟩ : ∃ K : Nat, 2000000 ≤ K := ⟨2000000, Nat.le_refl _⟩
  refine ⟨K + 1, ?_⟩
  unfold laws_FnExactGraphOf.f laws_szInt64A2S.f
  by_cases hs : wrap64 (1048576 - (l.length : Int)) < 0
  · rw [if_pos hs]; rfl
  rw [if_neg hs]
  have hl2 : l.length ≤ 1048576 := by have := hl.1; unfold wrap64 at hs; omega
  simp only [Option.bind_some]
  rw [if_neg hs]
  have fin : laws_FnExactGraphOf.j0 (K + 1) l l false = some true := by
    rw [laws_FnExactGraphOf.j0, if_neg (by simp), toInt64A2S_eq l hl2 K (by omega)]
    simp only [Option.bind_some]
    rw [eqInt64A2S_self l hl2 K (by omega)]
    rfl
  obtain ⟨a, b, c, hsp, him⟩ : ∃ a b c : Int, spec_GraphOf.f (K + 1) n l = some (a, b, c) ∧ impl_GraphOf.f (K + 1) n l = some (a, b, c) := by
    unfold spec_GraphOf.f impl_GraphOf.f impl_sizeOk.f
    rw [l00In_eq, in_eq]
    simp only [Option.bind_some]
    by_cases hk : 0 ≤ n ∧ n ≤ 5
    · simp only [decide_eq_true hk, if_true]
      rw [anyP2_eq _ (fun p => !pairB n p.f0 p.f1) l hl2 (fun p _ => by unfold impl_GraphOf_1.f; rw [isPair_eq hk.1 hk.2]; rfl) (K + 1) (by omega)]
      have h1 := graphOfS_loop n hk.1 hk.2 l hl2 l.length 0 (K + 1) 0 (Nat.zero_add _) (by omega)
      rw [show ((0 : Nat) : Int) = 0 from rfl, List.drop_zero] at h1
      rw [h1]
      simp only [Option.bind_some, impl_GraphOf.j0]
      by_cases hall : l.all (fun p => pairB n p.f0 p.f1) = true
      · have hp : ∀ p ∈ l, pairB n p.f0 p.f1 = true := fun p hp => List.all_eq_true.1 hall p hp
        have hany : l.any (fun p => !pairB n p.f0 p.f1) = false := by rw [List.any_eq_false]; intro p hp2; rw [hp p hp2]; simp
        have h2 := graphOfI_loop n hk.2 l hl2 hp l.length 0 K 0 (Nat.zero_add _) (by omega)
        rw [show ((0 : Nat) : Int) = 0 from rfl, List.drop_zero] at h2
        rw [if_pos hall, hany, if_neg (by simp), h2]
        exact ⟨_, _, _, rfl, rfl⟩
      · have hany : l.any (fun p => !pairB n p.f0 p.f1) = true := by
          cases h : l.any (fun p => !pairB n p.f0 p.f1)
          · exfalso; apply hall; rw [List.all_eq_true]; intro p hp; have := List.any_eq_false.1 h p hp; simpa using this
          · rfl
        rw [if_neg hall, hany, if_pos rfl]
        exact ⟨0, 0, 2, rfl, rfl⟩
    · simp only [decide_eq_false hk, Bool.false_eq_true, if_false]
      exact ⟨0, 0, 2, rfl, by simp [impl_GraphOf.j0]⟩
  rw [toInt64A2S_eq l hl2 (K + 1) (by omega)]
  simp only [Option.bind_some, hsp, him, laws_eqGraph.f, if_true, bne_self_eq_false]
  exact fin

end Go.Proofs.Ytbojkjpfccjgeaa.Q
end

section
namespace Go.Proofs.YtbojkjpfccjgeaaW.PrintWords
open Go Go.RowKit Go.ChangeShapes Go.WideShapes Go.ChangeAt Go.Deep
set_option linter.unusedVariables false
section
variable {H : Type} (enc : TypeId × Value → H) (P : Program) (W : World)
/-- Whatever reads as data of type t stands for a plain value. -/
def Opens {α : Type} (t : TypeId) (k : Kd α) (wf : α → Prop) : Prop :=
  ∀ (fuel : Nat) (cs : List Value) (x : DataW H × List MemPlace), DataW.trod enc P W 0 (fun _ => true) true fuel t cs = some x → ∃ a, k.K W a cs ∧ wf a
end
section
variable {H : Type} {enc : TypeId × Value → H} {P : Program} {W : World}
theorem Opens.int {t : TypeId} {k : IntKind} (ht : P.underlying t = some (.int k)) : Opens enc P W t (Kd.int k) (fun n => (Lit.int k n).wf = true) := by
  intro fuel cs x h
  obtain ⟨n, rfl, _, hw⟩ := DataW.trod_int ht h
  exact ⟨n, rfl, hw⟩
theorem Opens.bool {t : TypeId} (ht : P.underlying t = some .bool) : Opens enc P W t Kd.bool (fun _ => True) := by
  intro fuel cs x h
  obtain ⟨n, rfl, _⟩ := DataW.trod_bool ht h
  exact ⟨n, rfl, trivial⟩
theorem Opens.array2 {α : Type} {t e : TypeId} {k : Kd α} {p : α → Prop} (ht : P.underlying t = some (.array 2 e)) (hc : P.cellsOf t = P.cellsOf e + P.cellsOf e) (h : Opens enc P W e k p) : Opens enc P W t (Kd.pair k k) (fun q => p q.1 ∧ p q.2) := by
  intro fuel cs x hx
  obtain ⟨xs, n, _, _, hl, hlen, hf⟩ := DataW.trod_array ht hx
  match xs, hlen with
  | [y0, y1], _ =>
    obtain ⟨a, ka, wa⟩ := h n _ _ (by simpa using hf 0 (by omega))
    obtain ⟨b, kb, wb⟩ := h n _ _ (by simpa using hf 1 (by omega))
    refine ⟨(a, b), ⟨_, _, ?_, ka, kb⟩, wa, wb⟩
    rw [List.take_of_length_le (l := List.drop _ cs) (by rw [List.length_drop, hl, hc]; omega), List.take_append_drop]
theorem Opens.iso {α β : Type} {t : TypeId} {k : Kd α} {p : α → Prop} (f : β → α) (g : α → β) (hfg : ∀ a, f (g a) = a) (h : Opens enc P W t k p) : Opens enc P W t (Kd.iso k f) (fun b => p (f b)) := by
  intro fuel cs x hx
  obtain ⟨a, ka, wa⟩ := h fuel cs x hx
  exact ⟨g a, by show k.K W (f (g a)) cs; rw [hfg]; exact ka, by show p (f (g a)); rw [hfg]; exact wa⟩
theorem Opens.slice {α : Type} (z : α) {t e : TypeId} {k : Kd α} {p : α → Prop} (ht : P.underlying t = some (.slice e)) (hs : k.sz = P.cellsOf e) (h : Opens enc P W e k p) : Opens enc P W t (Kd.slice e k) (fun l => l.length < 9223372036854775808 ∧ ∀ a ∈ l, p a) := by
  haveI : Inhabited α := ⟨z⟩
  intro fuel cs x hx
  rcases open_slice ht hx with ⟨rfl, _⟩ | ⟨ad, len, cap, m, n, D, Pl, rfl, _, hl, hm, hmm, _, hel⟩
  · exact ⟨[], ⟨none, 0, rfl, Nat.le_refl _, rfl, by simp, fun h0 => absurd h0 (Nat.lt_irrefl 0)⟩, by simp, fun a ha => by cases ha⟩
  · have hlm : len ≤ m := by
      rw [hmm]; split
      · exact hl
      · exact Nat.le_refl _
    obtain ⟨F, hF⟩ := choose_lt (α := α) (n := len) (p := fun i a => p a ∧ ∃ cs', k.K W a cs' ∧ W.cells? 0 (ad.add (i * P.cellsOf e)) (P.cellsOf e) = some cs') (fun i hi => by
      obtain ⟨cs', h1, h2⟩ := hel i (by omega)
      obtain ⟨a, ka, wa⟩ := h n _ _ h2
      exact ⟨a, wa, cs', ka, h1⟩)
    refine ⟨(List.range len).map F, ⟨some ad, cap, by simp, by simpa using hl, by simp, by simp; unfold maxLen at hm; omega, fun _ => ⟨ad, rfl, fun j q hq => ?_⟩⟩, by simp; unfold maxLen at hm; omega, fun a ha => ?_⟩
    · obtain ⟨hj, rfl⟩ : j < len ∧ F j = q := by
        rw [List.getElem?_map] at hq
        rcases Nat.lt_or_ge j len with hj | hj
        · rw [List.getElem?_range hj] at hq; exact ⟨hj, by simpa using hq⟩
        · rw [List.getElem?_eq_none (by simpa using hj)] at hq; simp at hq
      obtain ⟨_, cs', ka, h1⟩ := hF j hj
      obtain ⟨_, hlen, hcell⟩ := World.cells?_some h1
      refine ⟨cs', k.K_len ka, ka, fun i u hu => ?_⟩
      have hi : i < P.cellsOf e := by rw [← hlen]; exact (List.getElem?_eq_some_iff.1 hu).1
      rw [hs, ← add_add, hcell i hi]; exact hu
    · obtain ⟨i, hi, rfl⟩ := List.mem_map.1 ha
      exact (hF i (List.mem_range.1 hi)).1
end
end Go.Proofs.YtbojkjpfccjgeaaW.PrintWords
end
