/- A contract of one Go function: what it returns for its arguments; printed by the kit's print program or written by hand. -/
import Derived.Test.YtijbdgijagmbfaaQ0
import Derived.Test.YtijbdgijagmbfaaQF24
import Derived.Test.YtijbdgijagmbfaaQF61
import Derived.Test.YtijbdgijagmbfaaQF35
import Derived.Test.YtijbdgijagmbfaaQF62
import Derived.Test.YtijbdgijagmbfaaQF37
import Derived.Test.YtijbdgijagmbfaaQF81
import Derived.Test.YtijbdgijagmbfaaQF65
import Derived.Test.YtijbdgijagmbfaaQF39
namespace Go.Proofs.Ytijbdgijagmbfaa.Q
open Go.RowKit Go.Proofs.YtijbdgijagmbfaaW.PrintWords Go.Proofs.YtijbdgijagmbfaaW.PrintLast Go.Proofs.YtijbdgijagmbfaaW.PrintMore
attribute [local go_sem] max2_int min2_int max_two min_two max_three min_three max_four min_four   -- for this text's walks alone
set_option linter.unusedVariables false
set_option linter.unusedSimpArgs false

/-! #### pure: FracS -/
theorem w64_succ {i : Nat} (h : i < 1048577) : wrap64 ((i : Int) + 1) = ((i + 1 : Nat) : Int) := by unfold wrap64; omega
theorem getD_of_lt {α : Type} (l : List α) (d : α) {i : Nat} (h : i < l.length) : l.getD ((i : Int)).toNat d = l[i] := by
  rw [Int.toNat_natCast, List.getD_eq_getElem?_getD, List.getElem?_eq_getElem h]; rfl
theorem set_take {α : Type} (out : List α) (x : α) {i : Nat} (h : i < out.length) : (out.set i x).take (i + 1) = out.take i ++ [x] := by
  rw [List.take_succ_eq_append_getElem (by rw [List.length_set]; exact h), List.take_set_of_le (Nat.le_refl _), List.getElem_set_self]
def toF (x : S40) : S42 := ⟨x.f0, x.f1⟩
def toFs (l : List S40) : List S42 := l.map toF
def toFss (l : List (List S40)) : List (List S42) := l.map toFs
def sizeFss (l : List (List S40)) : Nat := l.length + (l.map List.length).sum
theorem toFractionS_loop (l : List S40) (hl : l.length ≤ 1048576) : ∀ (d i k : Nat) (out : List S42), i + d = l.length → out.length = l.length → d + 1 ≤ k → laws_toFractionS.l0 k l out i = some (out.take i ++ (l.drop i).map toF)
  | 0, i, k, out, hd, ho, hk => by
    obtain ⟨k, rfl⟩ : ∃ q, k = q + 1 := ⟨k - 1, by omega⟩
    rw [laws_toFractionS.l0, if_neg (by omega), List.drop_eq_nil_of_le (by omega), List.take_of_length_le (by omega)]; simp
  | d + 1, i, k, out, hd, ho, hk => by
    obtain ⟨k, rfl⟩ : ∃ q, k = q + 1 := ⟨k - 1, by omega⟩
    rw [laws_toFractionS.l0, if_pos (by omega), if_pos (by omega), laws_toFraction.f]
    simp only [Option.bind_some]
    rw [if_pos (by omega), w64_succ (by omega), Int.toNat_natCast]
    rw [toFractionS_loop l hl d (i + 1) k _ (by omega) (by rw [List.length_set]; exact ho) (by omega), set_take _ _ (by omega), List.append_assoc]
    congr 2
    rw [List.drop_eq_getElem_cons (show i < l.length by omega), List.map_cons]
    show [_] ++ _ = _
    congr 1
    unfold rd_T40
    rw [getD_of_lt _ _ (by omega)]; rfl
theorem toFractionS_eq (l : List S40) (hl : l.length ≤ 1048576) (k : Nat) (hk : 1048577 ≤ k) : laws_toFractionS.f k l = some (toFs l) := by
  unfold laws_toFractionS.f
  rw [if_pos (by omega), if_pos (by omega)]
  have := toFractionS_loop l hl l.length 0 k (List.replicate ((l.length : Int) : Int).toNat z42) (by omega) (by simp) (by omega)
  rw [show ((0 : Nat) : Int) = 0 from rfl] at this
  rw [this]; simp [toFs]
theorem toFractionSS_loop (l : List (List S40)) (hl : l.length ≤ 1048576) (hr : ∀ r ∈ l, r.length ≤ 1048576) : ∀ (d i k : Nat) (out : List (List S42)), i + d = l.length → out.length = l.length → d + 1048578 ≤ k → laws_toFractionSS.l0 k l out i = some (out.take i ++ (l.drop i).map toFs)
  | 0, i, k, out, hd, ho, hk => by
    obtain ⟨k, rfl⟩ : ∃ q, k = q + 1 := ⟨k - 1, by omega⟩
    rw [laws_toFractionSS.l0, if_neg (by omega), List.drop_eq_nil_of_le (by omega), List.take_of_length_le (by omega)]; simp
  | d + 1, i, k, out, hd, ho, hk => by
    obtain ⟨k, rfl⟩ : ∃ q, k = q + 1 := ⟨k - 1, by omega⟩
    rw [laws_toFractionSS.l0, if_pos (by omega), if_pos (by omega)]
    unfold rd_L7
    rw [getD_of_lt _ _ (show i < l.length by omega), toFractionS_eq _ (hr _ (List.getElem_mem _)) k (by omega)]
    simp only [Option.bind_some]
    rw [if_pos (by omega), w64_succ (by omega), Int.toNat_natCast]
    rw [toFractionSS_loop l hl hr d (i + 1) k _ (by omega) (by rw [List.length_set]; exact ho) (by omega), set_take _ _ (by omega), List.append_assoc]
    congr 2
    rw [List.drop_eq_getElem_cons (show i < l.length by omega), List.map_cons]
    rfl
theorem toFractionSS_eq (l : List (List S40)) (hl : l.length ≤ 1048576) (hr : ∀ r ∈ l, r.length ≤ 1048576) (k : Nat) (hk : 2097154 ≤ k) : laws_toFractionSS.f k l = some (toFss l) := by
  unfold laws_toFractionSS.f
  rw [if_pos (by omega), if_pos (by omega)]
  have := toFractionSS_loop l hl hr l.length 0 k (List.replicate ((l.length : Int) : Int).toNat []) (by omega) (by simp) (by omega)
  rw [show ((0 : Nat) : Int) = 0 from rfl] at this
  rw [this]; simp [toFss]
/-- The size that is left, or -1; and then every length is small. -/
theorem szFractionSS_loop (l : List (List S40)) (hl : l.length ≤ 1048576) : ∀ (d i k : Nat) (left : Int), 0 ≤ left → left ≤ 1048576 → (∀ r ∈ l, r.length < 9223372036854775808) → i + d = l.length → d + 1 ≤ k → ∃ s, laws_szFractionSS.l0 k l left i = some s ∧ s ≤ 1048576 ∧ (¬ s < 0 → ∀ r ∈ l.drop i, r.length ≤ 1048576)
  | 0, i, k, left, h0, h1, hr, hd, hk => by
    obtain ⟨k, rfl⟩ : ∃ q, k = q + 1 := ⟨k - 1, by omega⟩
    rw [laws_szFractionSS.l0, if_neg (by omega)]
    exact ⟨left, rfl, h1, fun _ r hr => by rw [List.drop_eq_nil_of_le (by omega)] at hr; cases hr⟩
  | d + 1, i, k, left, h0, h1, hr, hd, hk => by
    obtain ⟨k, rfl⟩ : ∃ q, k = q + 1 := ⟨k - 1, by omega⟩
    have hi : i < l.length := by omega
    have hri := hr _ (List.getElem_mem hi)
    rw [laws_szFractionSS.l0, if_pos (by omega), if_pos (by omega)]
    unfold rd_L7
    rw [getD_of_lt _ _ hi, laws_szFractionS.f, show wrap64 (left - (l[i].length : Int)) = left - (l[i].length : Int) from by unfold wrap64; omega]
    by_cases h : left - (l[i].length : Int) < 0
    · rw [if_pos h]
      exact ⟨-1, by simp, by omega, fun h => absurd (by omega) h⟩
    · rw [if_neg h]
      simp only [Option.bind_some]
      rw [if_neg h, w64_succ (by omega)]
      obtain ⟨s, e, hs, hx⟩ := szFractionSS_loop l hl d (i + 1) k (left - (l[i].length : Int)) (by omega) (by omega) hr (by omega) (by omega)
      refine ⟨s, e, hs, fun hn r hr => ?_⟩
      rw [List.drop_eq_getElem_cons hi, List.mem_cons] at hr
      rcases hr with rfl | hr
      · omega
      · exact hx hn r hr
theorem szFractionSS_eq (l : List (List S40)) (hl : l.length < 9223372036854775808) (hr : ∀ r ∈ l, r.length < 9223372036854775808) (left : Int) (h0 : 0 ≤ left) (h1 : left ≤ 1048576) (k : Nat) (hk : 1048578 ≤ k) :
    ∃ s, laws_szFractionSS.f k l left = some s ∧ s ≤ 1048576 ∧ (¬ s < 0 → l.length ≤ 1048576 ∧ ∀ r ∈ l, r.length ≤ 1048576) := by
  unfold laws_szFractionSS.f
  rw [show wrap64 (left - (l.length : Int)) = left - (l.length : Int) from by unfold wrap64; omega]
  by_cases h : left - (l.length : Int) < 0
  · rw [if_pos h]; exact ⟨-1, rfl, by omega, fun h => absurd (by omega) h⟩
  · rw [if_neg h]
    obtain ⟨s, e, hs, hx⟩ := szFractionSS_loop l (by omega) l.length 0 k (left - (l.length : Int)) (by omega) (by omega) hr (by omega) (by omega)
    exact ⟨s, e, hs, fun hn => ⟨by omega, hx hn⟩⟩
theorem eqFractionS_loop (l : List S42) (hl : l.length ≤ 1048576) : ∀ (d i k : Nat), i + d = l.length → d + 1 ≤ k → laws_eqFractionS.l0 k l l i = some true
  | 0, i, k, hd, hk => by
    obtain ⟨k, rfl⟩ : ∃ q, k = q + 1 := ⟨k - 1, by omega⟩
    rw [laws_eqFractionS.l0, if_neg (by omega)]
  | d + 1, i, k, hd, hk => by
    obtain ⟨k, rfl⟩ : ∃ q, k = q + 1 := ⟨k - 1, by omega⟩
    rw [laws_eqFractionS.l0, if_pos (by omega), if_pos (by omega), if_pos (by omega), laws_eqFraction.f, if_pos rfl, if_pos rfl]
    simp only [Option.bind_some, if_true]
    rw [w64_succ (by omega)]
    exact eqFractionS_loop l hl d (i + 1) k (by omega) (by omega)
theorem eqFractionS_self (l : List S42) (hl : l.length ≤ 1048576) (k : Nat) (hk : 1048577 ≤ k) : laws_eqFractionS.f k l l = some true := by
  unfold laws_eqFractionS.f
  rw [if_pos rfl]; exact eqFractionS_loop l hl l.length 0 k (by omega) (by omega)
theorem eqFractionSS_loop (l : List (List S42)) (hl : l.length ≤ 1048576) (hr : ∀ r ∈ l, r.length ≤ 1048576) : ∀ (d i k : Nat), i + d = l.length → d + 1048578 ≤ k → laws_eqFractionSS.l0 k l l i = some true
  | 0, i, k, hd, hk => by
    obtain ⟨k, rfl⟩ : ∃ q, k = q + 1 := ⟨k - 1, by omega⟩
    rw [laws_eqFractionSS.l0, if_neg (by omega)]
  | d + 1, i, k, hd, hk => by
    obtain ⟨k, rfl⟩ : ∃ q, k = q + 1 := ⟨k - 1, by omega⟩
    rw [laws_eqFractionSS.l0, if_pos (by omega), if_pos (by omega), if_pos (by omega)]
    unfold rd_L9
    rw [getD_of_lt _ _ (show i < l.length by omega), eqFractionS_self _ (hr _ (List.getElem_mem _)) k (by omega)]
    simp only [Option.bind_some, if_true]
    rw [w64_succ (by omega)]
    exact eqFractionSS_loop l hl hr d (i + 1) k (by omega) (by omega)
theorem eqFractionSS_self (l : List (List S42)) (hl : l.length ≤ 1048576) (hr : ∀ r ∈ l, r.length ≤ 1048576) (k : Nat) (hk : 2097154 ≤ k) : laws_eqFractionSS.f k l l = some true := by
  unfold laws_eqFractionSS.f
  rw [if_pos rfl]; exact eqFractionSS_loop l hl hr l.length 0 k (by omega) (by omega)
theorem toFss_small {l : List (List S40)} (h : l.length ≤ 1048576 ∧ ∀ r ∈ l, r.length ≤ 1048576) : (toFss l).length ≤ 1048576 ∧ ∀ r ∈ toFss l, r.length ≤ 1048576 := by
  refine ⟨by simpa [toFss] using h.1, fun r hr => ?_⟩
  obtain ⟨q, hq, rfl⟩ := List.mem_map.1 hr
  simpa [toFs] using h.2 q hq

end Go.Proofs.Ytijbdgijagmbfaa.Q
