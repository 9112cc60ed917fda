/- Contracts of Go functions and plain lemmas over what they compute; printed by the kit's print program or written by hand, joined. -/
import Derived.Test.YtafkdkiagmbeaaaBFnExactScaleMatrix4
import Derived.Test.YtafkdkiagmbeaaaBFnExactScaleMatrix5
import Derived.Test.YtafkdkiagmbeaaaBFnExactScaleMatrix10
import Derived.Test.YtafkdkiagmbeaaaBFnExactScaleMatrix6
import Derived.Test.YtafkdkiagmbeaaaBFnExactScaleMatrix8
import Derived.Test.YtafkdkiagmbeaaaBFnExactScaleMatrix12
import Derived.Test.YtafkdkiagmbeaaaBFnExactScaleMatrix13
import Derived.Test.YtafkdkiagmbeaaaBFnExactScaleMatrix11
import Derived.Test.YtafkdkiagmbeaaaBFnExactScaleMatrix7
import Derived.Test.YtafkdkiagmbeaaaBFnExactScaleMatrix9
import Derived.Test.YtafkdkiagmbeaaaBFnExactScaleMatrix14
import Derived.Test.YtafkdkiagmbeaaaBFnExactScaleMatrix15
import Derived.Test.YtafkdkiagmbeaaaBFnExactScaleMatrix2
import Derived.WalkKit
import Derived.ProofKit
import Derived.OpenShut
import Derived.ChangeOld
import Derived.Deep.Slices
section
namespace Go.Proofs.Ytafkdkiagmbeaaa.Q
open Go.RowKit Go.Proofs.YtafkdkiagmbeaaaW.PrintWords Go.Proofs.YtafkdkiagmbeaaaW.PrintLast Go.Proofs.YtafkdkiagmbeaaaW.PrintMore
attribute [local go_sem] max2_int min2_int max_two min_two max_three min_three max_four min_four   -- for this text's walks alone
set_option linter.unusedVariables false
set_option linter.unusedSimpArgs false

theorem w64_succ {i : Nat} (h : i < 2097152) : wrap64 ((i : Int) + 1) = ((i + 1 : Nat) : Int) := by unfold wrap64; omega
theorem getD_of_lt {α : Type} (l : List α) (d : α) {i : Nat} (h : i < l.length) : l.getD ((i : Int)).toNat d = l[i] := by
  rw [Int.toNat_natCast, List.getD_eq_getElem?_getD, List.getElem?_eq_getElem h]; rfl
theorem set_take {α : Type} (out : List α) (x : α) {i : Nat} (h : i < out.length) : (out.set i x).take (i + 1) = out.take i ++ [x] := by
  rw [List.take_succ_eq_append_getElem (by rw [List.length_set]; exact h), List.take_set_of_le (Nat.le_refl _), List.getElem_set_self]
end Go.Proofs.Ytafkdkiagmbeaaa.Q
end

section
namespace Go.Proofs.Ytafkdkiagmbeaaa.Q
open Go.RowKit Go.Proofs.YtafkdkiagmbeaaaW.PrintWords Go.Proofs.YtafkdkiagmbeaaaW.PrintLast Go.Proofs.YtafkdkiagmbeaaaW.PrintMore
attribute [local go_sem] max2_int min2_int max_two min_two max_three min_three max_four min_four   -- for this text's walks alone
set_option linter.unusedVariables false
set_option linter.unusedSimpArgs false

theorem eqFractionS_loop (l : List S40) (hl : l.length ≤ 1048576) : ∀ (d i k : Nat), i + d = l.length → d + 1 ≤ k → laws_eqFractionS.l0 k l l i = some true
  | 0, i, k, hd, hk => by
    obtain ⟨k, rfl⟩ : ∃ q, k = q + 1 := ⟨k - 1, by omega⟩
    rw [laws_eqFractionS.l0, if_neg (by omega)]
  | d + 1, i, k, hd, hk => by
    obtain ⟨k, rfl⟩ : ∃ q, k = q + 1 := ⟨k - 1, by omega⟩
    rw [laws_eqFractionS.l0, if_pos (by omega), if_pos (by omega), if_pos (by omega), laws_eqFraction.f, if_pos rfl, if_pos rfl]
    simp only [Option.bind_some, if_true]
    rw [w64_succ (by omega)]
    exact eqFractionS_loop l hl d (i + 1) k (by omega) (by omega)
theorem eqFractionS_self (l : List S40) (hl : l.length ≤ 1048576) (k : Nat) (hk : 1048577 ≤ k) : laws_eqFractionS.f k l l = some true := by
  unfold laws_eqFractionS.f
  rw [if_pos rfl]; exact eqFractionS_loop l hl l.length 0 k (by omega) (by omega)

end Go.Proofs.Ytafkdkiagmbeaaa.Q
end

section
namespace Go.Proofs.Ytafkdkiagmbeaaa.Q
open Go.RowKit Go.Proofs.YtafkdkiagmbeaaaW.PrintWords Go.Proofs.YtafkdkiagmbeaaaW.PrintLast Go.Proofs.YtafkdkiagmbeaaaW.PrintMore
attribute [local go_sem] max2_int min2_int max_two min_two max_three min_three max_four min_four   -- for this text's walks alone
set_option linter.unusedVariables false
set_option linter.unusedSimpArgs false

def toF (x : S36) : S40 := ⟨x.f0, x.f1⟩
def toFs (l : List S36) : List S40 := l.map toF
def toFss (l : List (List S36)) : List (List S40) := l.map toFs
theorem toFractionS_loop (l : List S36) (hl : l.length ≤ 1048576) : ∀ (d i k : Nat) (out : List S40), i + d = l.length → out.length = l.length → d + 1 ≤ k → laws_toFractionS.l0 k l out i = some (out.take i ++ (l.drop i).map toF)
  | 0, i, k, out, hd, ho, hk => by
    obtain ⟨k, rfl⟩ : ∃ q, k = q + 1 := ⟨k - 1, by omega⟩
    rw [laws_toFractionS.l0, if_neg (by omega), List.drop_eq_nil_of_le (by omega), List.take_of_length_le (by omega)]; simp
  | d + 1, i, k, out, hd, ho, hk => by
    obtain ⟨k, rfl⟩ : ∃ q, k = q + 1 := ⟨k - 1, by omega⟩
    rw [laws_toFractionS.l0, if_pos (by omega), if_pos (by omega), laws_toFraction.f]
    simp only [Option.bind_some]
    rw [if_pos (by omega), w64_succ (by omega), Int.toNat_natCast]
    rw [toFractionS_loop l hl d (i + 1) k _ (by omega) (by rw [List.length_set]; exact ho) (by omega), set_take _ _ (by omega), List.append_assoc]
    congr 2
    rw [List.drop_eq_getElem_cons (show i < l.length by omega), List.map_cons]
    show [_] ++ _ = _
    congr 1
    unfold rd_T36
    rw [getD_of_lt _ _ (by omega)]; rfl
theorem toFractionS_eq (l : List S36) (hl : l.length ≤ 1048576) (k : Nat) (hk : 1048577 ≤ k) : laws_toFractionS.f k l = some (toFs l) := by
  unfold laws_toFractionS.f
  rw [if_pos (by omega), if_pos (by omega)]
  have := toFractionS_loop l hl l.length 0 k (List.replicate ((l.length : Int) : Int).toNat z40) (by omega) (by simp) (by omega)
  rw [show ((0 : Nat) : Int) = 0 from rfl] at this
  rw [this]; simp [toFs]
theorem toFractionSS_loop (l : List (List S36)) (hl : l.length ≤ 1048576) (hr : ∀ r ∈ l, r.length ≤ 1048576) : ∀ (d i k : Nat) (out : List (List S40)), i + d = l.length → out.length = l.length → d + 1048578 ≤ k → laws_toFractionSS.l0 k l out i = some (out.take i ++ (l.drop i).map toFs)
  | 0, i, k, out, hd, ho, hk => by
    obtain ⟨k, rfl⟩ : ∃ q, k = q + 1 := ⟨k - 1, by omega⟩
    rw [laws_toFractionSS.l0, if_neg (by omega), List.drop_eq_nil_of_le (by omega), List.take_of_length_le (by omega)]; simp
  | d + 1, i, k, out, hd, ho, hk => by
    obtain ⟨k, rfl⟩ : ∃ q, k = q + 1 := ⟨k - 1, by omega⟩
    rw [laws_toFractionSS.l0, if_pos (by omega), if_pos (by omega)]
    unfold rd_L6
    rw [getD_of_lt _ _ (show i < l.length by omega), toFractionS_eq _ (hr _ (List.getElem_mem _)) k (by omega)]
    simp only [Option.bind_some]
    rw [if_pos (by omega), w64_succ (by omega), Int.toNat_natCast]
    rw [toFractionSS_loop l hl hr d (i + 1) k _ (by omega) (by rw [List.length_set]; exact ho) (by omega), set_take _ _ (by omega), List.append_assoc]
    congr 2
    rw [List.drop_eq_getElem_cons (show i < l.length by omega), List.map_cons]
    rfl
theorem toFractionSS_eq (l : List (List S36)) (hl : l.length ≤ 1048576) (hr : ∀ r ∈ l, r.length ≤ 1048576) (k : Nat) (hk : 2097154 ≤ k) : laws_toFractionSS.f k l = some (toFss l) := by
  unfold laws_toFractionSS.f
  rw [if_pos (by omega), if_pos (by omega)]
  have := toFractionSS_loop l hl hr l.length 0 k (List.replicate ((l.length : Int) : Int).toNat []) (by omega) (by simp) (by omega)
  rw [show ((0 : Nat) : Int) = 0 from rfl] at this
  rw [this]; simp [toFss]
/-- The size that is left, or -1; and then every length is small. -/
theorem szFractionSS_loop (l : List (List S36)) (hl : l.length ≤ 1048576) : ∀ (d i k : Nat) (left : Int), 0 ≤ left → left ≤ 1048576 → (∀ r ∈ l, r.length < 9223372036854775808) → i + d = l.length → d + 1 ≤ k → ∃ s, laws_szFractionSS.l0 k l left i = some s ∧ s ≤ 1048576 ∧ (¬ s < 0 → ∀ r ∈ l.drop i, r.length ≤ 1048576)
  | 0, i, k, left, h0, h1, hr, hd, hk => by
    obtain ⟨k, rfl⟩ : ∃ q, k = q + 1 := ⟨k - 1, by omega⟩
    rw [laws_szFractionSS.l0, if_neg (by omega)]
    exact ⟨left, rfl, h1, fun _ r hr => by rw [List.drop_eq_nil_of_le (by omega)] at hr; cases hr⟩
  | d + 1, i, k, left, h0, h1, hr, hd, hk => by
    obtain ⟨k, rfl⟩ : ∃ q, k = q + 1 := ⟨k - 1, by omega⟩
    have hi : i < l.length := by omega
    have hri := hr _ (List.getElem_mem hi)
    rw [laws_szFractionSS.l0, if_pos (by omega), if_pos (by omega)]
    unfold rd_L6
    rw [getD_of_lt _ _ hi, laws_szFractionS.f, show wrap64 (left - (l[i].length : Int)) = left - (l[i].length : Int) from by unfold wrap64; omega]
    by_cases h : left - (l[i].length : Int) < 0
    · rw [if_pos h]
      exact ⟨-1, by simp, by omega, fun h => absurd (by omega) h⟩
    · rw [if_neg h]
      simp only [Option.bind_some]
      rw [if_neg h, w64_succ (by omega)]
      obtain ⟨s, e, hs, hx⟩ := szFractionSS_loop l hl d (i + 1) k (left - (l[i].length : Int)) (by omega) (by omega) hr (by omega) (by omega)
      refine ⟨s, e, hs, fun hn r hr => ?_⟩
      rw [List.drop_eq_getElem_cons hi, List.mem_cons] at hr
      rcases hr with rfl | hr
      · omega
      · exact hx hn r hr
theorem szFractionSS_eq (l : List (List S36)) (hl : l.length < 9223372036854775808) (hr : ∀ r ∈ l, r.length < 9223372036854775808) (left : Int) (h0 : 0 ≤ left) (h1 : left ≤ 1048576) (k : Nat) (hk : 1048578 ≤ k) :
    ∃ s, laws_szFractionSS.f k l left = some s ∧ s ≤ 1048576 ∧ (¬ s < 0 → l.length ≤ 1048576 ∧ ∀ r ∈ l, r.length ≤ 1048576) := by
  unfold laws_szFractionSS.f
  rw [show wrap64 (left - (l.length : Int)) = left - (l.length : Int) from by unfold wrap64; omega]
  by_cases h : left - (l.length : Int) < 0
  · rw [if_pos h]; exact ⟨-1, rfl, by omega, fun h => absurd (by omega) h⟩
  · rw [if_neg h]
    obtain ⟨s, e, hs, hx⟩ := szFractionSS_loop l (by omega) l.length 0 k (left - (l.length : Int)) (by omega) (by omega) hr (by omega) (by omega)
    exact ⟨s, e, hs, fun hn => ⟨by omega, hx hn⟩⟩
theorem eqFractionSS_loop (l : List (List S40)) (hl : l.length ≤ 1048576) (hr : ∀ r ∈ l, r.length ≤ 1048576) : ∀ (d i k : Nat), i + d = l.length → d + 1048578 ≤ k → laws_eqFractionSS.l0 k l l i = some true
  | 0, i, k, hd, hk => by
    obtain ⟨k, rfl⟩ : ∃ q, k = q + 1 := ⟨k - 1, by omega⟩
    rw [laws_eqFractionSS.l0, if_neg (by omega)]
  | d + 1, i, k, hd, hk => by
    obtain ⟨k, rfl⟩ : ∃ q, k = q + 1 := ⟨k - 1, by omega⟩
    rw [laws_eqFractionSS.l0, if_pos (by omega), if_pos (by omega), if_pos (by omega)]
    unfold rd_L3
    rw [getD_of_lt _ _ (show i < l.length by omega), eqFractionS_self _ (hr _ (List.getElem_mem _)) k (by omega)]
    simp only [Option.bind_some, if_true]
    rw [w64_succ (by omega)]
    exact eqFractionSS_loop l hl hr d (i + 1) k (by omega) (by omega)
theorem eqFractionSS_self (l : List (List S40)) (hl : l.length ≤ 1048576) (hr : ∀ r ∈ l, r.length ≤ 1048576) (k : Nat) (hk : 2097154 ≤ k) : laws_eqFractionSS.f k l l = some true := by
  unfold laws_eqFractionSS.f
  rw [if_pos rfl]; exact eqFractionSS_loop l hl hr l.length 0 k (by omega) (by omega)
theorem toFss_small {l : List (List S36)} (h : l.length ≤ 1048576 ∧ ∀ r ∈ l, r.length ≤ 1048576) : (toFss l).length ≤ 1048576 ∧ ∀ r ∈ toFss l, r.length ≤ 1048576 := by
  refine ⟨by simpa [toFss] using h.1, fun r hr => ?_⟩
  obtain ⟨q, hq, rfl⟩ := List.mem_map.1 hr
  simpa [toFs] using h.2 q hq

end Go.Proofs.Ytafkdkiagmbeaaa.Q
end

section
namespace Go.Proofs.Ytafkdkiagmbeaaa.Q
open Go.RowKit Go.Proofs.YtafkdkiagmbeaaaW.PrintWords Go.Proofs.YtafkdkiagmbeaaaW.PrintLast Go.Proofs.YtafkdkiagmbeaaaW.PrintMore
attribute [local go_sem] max2_int min2_int max_two min_two max_three min_three max_four min_four   -- for this text's walks alone
set_option linter.unusedVariables false
set_option linter.unusedSimpArgs false

def markR : Nat → Int → List S40
  | 0, _ => []
  | d + 1, m => ⟨m, m + 1⟩ :: markR d (m + 2)
theorem markR_length : ∀ d m, (markR d m).length = d
  | 0, _ => rfl
  | d + 1, m => by rw [markR, List.length_cons, markR_length d]
theorem rdR_nat (l : List S40) {i : Nat} (hi : i < l.length) : rd_T40 l (i : Int) = l[i] := by unfold rd_T40; exact getD_of_lt l _ hi
theorem markFractionS_loop : ∀ (d i k : Nat) (L : List S40) (m : Int), i + d = L.length → L.length ≤ 1048576 → 0 ≤ m → m + 2 * d ≤ 2147483648 → d + 1 ≤ k → laws_markFractionS.l0 k L m i = some (m + 2 * d, L.take i ++ markR d m)
  | 0, i, k, L, m, hd, hL, h0, h1, hk => by
    obtain ⟨k, rfl⟩ : ∃ q, k = q + 1 := ⟨k - 1, by omega⟩
    rw [laws_markFractionS.l0, if_neg (by omega), List.take_of_length_le (by omega), markR, List.append_nil]
    congr 2; omega
  | d + 1, i, k, L, m, hd, hL, h0, h1, hk => by
    obtain ⟨k, rfl⟩ : ∃ q, k = q + 1 := ⟨k - 1, by omega⟩
    have hi : i < L.length := by omega
    have hm1 : wrap64 (m + 1) = m + 1 := by unfold wrap64; omega
    have hm2 : wrap64 (m + 1 + 1) = m + 2 := by unfold wrap64; omega
    rw [laws_markFractionS.l0, if_pos (by omega), if_pos (by omega)]
    simp only [Option.bind_some, Int.toNat_natCast, hm1, hm2]
    generalize (rd_T40 L (i : Int)).f1 = q
    rw [w64_succ (by omega), rdR_nat _ (by rw [List.length_set]; exact hi), List.getElem_set_self, List.set_set]
    rw [markFractionS_loop d (i + 1) k _ (m + 2) (by rw [List.length_set]; omega) (by rw [List.length_set]; exact hL) (by omega) (by omega) (by omega), set_take _ _ hi, List.append_assoc]
    congr 2
    omega
theorem markFractionS_eq (L : List S40) (hL : L.length ≤ 1048576) (m : Int) (h0 : 0 ≤ m) (h1 : m ≤ 1000000) (k : Nat) (hk : 1048577 ≤ k) : laws_markFractionS.f k L m = some (m + 2 * L.length, markR L.length m) := by
  unfold laws_markFractionS.f
  have := markFractionS_loop L.length 0 k L m (by omega) hL h0 (by omega) (by omega)
  rw [show ((0 : Nat) : Int) = 0 from rfl] at this
  rw [this]; simp
theorem heldFractionS_loop : ∀ (d k : Nat) (pre : List S40) (m : Int), pre.length + d ≤ 1048576 → 0 ≤ m → m + 2 * d ≤ 2147483648 → d + 1 ≤ k → laws_heldFractionS.l0 k (pre ++ markR d m) m pre.length = some (m + 2 * d)
  | 0, k, pre, m, hL, h0, h1, hk => by
    obtain ⟨k, rfl⟩ : ∃ q, k = q + 1 := ⟨k - 1, by omega⟩
    rw [laws_heldFractionS.l0, if_neg (by simp [markR])]
    congr 1; omega
  | d + 1, k, pre, m, hL, h0, h1, hk => by
    obtain ⟨k, rfl⟩ : ∃ q, k = q + 1 := ⟨k - 1, by omega⟩
    have hlen : (pre ++ markR (d + 1) m).length = pre.length + (d + 1) := by rw [List.length_append, markR_length]
    have hi : pre.length < (pre ++ markR (d + 1) m).length := by omega
    have hg : (pre ++ markR (d + 1) m)[pre.length] = ⟨m, m + 1⟩ := by simp [markR]
    have hm1 : wrap64 (m + 1) = m + 1 := by unfold wrap64; omega
    have hm2 : wrap64 (m + 1 + 1) = m + 2 := by unfold wrap64; omega
    rw [laws_heldFractionS.l0, if_pos (by omega), if_pos (by omega), rdR_nat _ hi, hg]
    simp only [hm1, hm2, if_true]
    rw [w64_succ (by omega)]
    have := heldFractionS_loop d k (pre ++ [⟨m, m + 1⟩]) (m + 2) (by rw [List.length_append]; simp only [List.length_cons, List.length_nil]; omega) (by omega) (by omega) (by omega)
    rw [List.length_append, List.append_assoc] at this
    simp only [List.length_cons, List.length_nil] at this
    rw [show pre ++ markR (d + 1) m = pre ++ ([⟨m, m + 1⟩] ++ markR d (m + 2)) from rfl, this]
    congr 1; omega
theorem heldFractionS_eq (d : Nat) (hd : d ≤ 1048576) (m : Int) (h0 : 0 ≤ m) (h1 : m ≤ 1000000) (k : Nat) (hk : 1048577 ≤ k) : laws_heldFractionS.f k (markR d m) m = some (m + 2 * d) := by
  unfold laws_heldFractionS.f
  exact heldFractionS_loop d k [] m (by simpa using hd) h0 (by omega) (by omega)

end Go.Proofs.Ytafkdkiagmbeaaa.Q
end

section
namespace Go.Proofs.Ytafkdkiagmbeaaa.Q
open Go.RowKit Go.Proofs.YtafkdkiagmbeaaaW.PrintWords Go.Proofs.YtafkdkiagmbeaaaW.PrintLast Go.Proofs.YtafkdkiagmbeaaaW.PrintMore
attribute [local go_sem] max2_int min2_int max_two min_two max_three min_three max_four min_four   -- for this text's walks alone
set_option linter.unusedVariables false
set_option linter.unusedSimpArgs false

theorem common_eq : ∀ (k a b : Nat), b < k → spec_l02Common.l0 k (a : Int) (b : Int) = some ((Nat.gcd a b : Nat) : Int) := by
  intro k
  induction k with
  | zero => intro a b h; omega
  | succ k ih =>
    intro a b h
    simp only [spec_l02Common.l0]
    by_cases hb : b = 0
    · subst hb; simp
    · rw [if_neg (by omega), ← Int.ofNat_tmod, ih b (a % b) (by have := Nat.mod_lt a (Nat.pos_of_ne_zero hb); omega)]
      rw [Nat.gcd_comm b, ← Nat.gcd_rec, Nat.gcd_comm]

end Go.Proofs.Ytafkdkiagmbeaaa.Q
end

section
namespace Go.Proofs.Ytafkdkiagmbeaaa.Q
open Go.RowKit Go.Proofs.YtafkdkiagmbeaaaW.PrintWords Go.Proofs.YtafkdkiagmbeaaaW.PrintLast Go.Proofs.YtafkdkiagmbeaaaW.PrintMore
attribute [local go_sem] max2_int min2_int max_two min_two max_three min_three max_four min_four   -- for this text's walks alone
set_option linter.unusedVariables false
set_option linter.unusedSimpArgs false

theorem size_eq {a : Int} (h0 : -9223372036854775807 ≤ a) (h1 : a ≤ 9223372036854775807) : impl_size.f a = some ((a.natAbs : Nat) : Int) := by
  have hw : wrap64 (-a) = -a := by unfold wrap64; omega
  unfold impl_size.f mx; rw [hw]; congr 1; split <;> omega
theorem gcd_eq : ∀ (k : Nat) (a b : Int), b.natAbs < k → a.natAbs ≤ 9223372036854775807 → b.natAbs ≤ 9223372036854775807 → impl_gcd.l0 k a b = some ((Nat.gcd a.natAbs b.natAbs : Nat) : Int) := by
  intro k
  induction k with
  | zero => intro a b h; omega
  | succ k ih =>
    intro a b h ha hb
    simp only [impl_gcd.l0]
    by_cases e : b = 0
    · subst e; rw [if_pos rfl, size_eq (by omega) (by omega)]; simp
    · have e' : 0 < b.natAbs := by omega
      have hm : (a.tmod b).natAbs = a.natAbs % b.natAbs := Int.natAbs_tmod a b
      have hl := Nat.mod_lt a.natAbs e'
      rw [if_neg e, ih b (a.tmod b) (by omega) hb (by omega), hm, Nat.gcd_comm b.natAbs, ← Nat.gcd_rec, Nat.gcd_comm]

end Go.Proofs.Ytafkdkiagmbeaaa.Q
end

section
namespace Go.Proofs.Ytafkdkiagmbeaaa.Q
open Go.RowKit Go.Proofs.YtafkdkiagmbeaaaW.PrintWords Go.Proofs.YtafkdkiagmbeaaaW.PrintLast Go.Proofs.YtafkdkiagmbeaaaW.PrintMore
attribute [local go_sem] max2_int min2_int max_two min_two max_three min_three max_four min_four   -- for this text's walks alone
set_option linter.unusedVariables false
set_option linter.unusedSimpArgs false

theorem l00In_eq (a b c : Int) : spec_l00In.f a b c = some (decide (b ≤ a ∧ a ≤ c)) := by
  unfold spec_l00In.f
  by_cases h : a ≥ b
  · rw [if_pos h]; congr 1; rw [decide_eq_decide]; omega
  · rw [if_neg h]; congr 1; symm; rw [decide_eq_false_iff_not]; omega
end Go.Proofs.Ytafkdkiagmbeaaa.Q
end

section
namespace Go.Proofs.Ytafkdkiagmbeaaa.Q
open Go.RowKit Go.Proofs.YtafkdkiagmbeaaaW.PrintWords Go.Proofs.YtafkdkiagmbeaaaW.PrintLast Go.Proofs.YtafkdkiagmbeaaaW.PrintMore
attribute [local go_sem] max2_int min2_int max_two min_two max_three min_three max_four min_four   -- for this text's walks alone
set_option linter.unusedVariables false
set_option linter.unusedSimpArgs false

def okF (p q : Int) : Bool := decide (-1000000000 ≤ p ∧ p ≤ 1000000000 ∧ 1 ≤ q ∧ q ≤ 1000000000 ∧ Nat.gcd p.natAbs q.natAbs = 1)
theorem abs_eq {a : Int} (h0 : -9223372036854775807 ≤ a) (h1 : a ≤ 9223372036854775807) : spec_l02Abs.f a = some ((a.natAbs : Nat) : Int) := by
  have hw : wrap64 (-a) = -a := by unfold wrap64; omega
  unfold spec_l02Abs.f; rw [hw]; split <;> (congr 1; omega)
theorem l02Ok_eq (k : Nat) (hk : 1000000000 < k) (p q : Int) : spec_l02Ok.f k p q = some (okF p q) := by
  unfold spec_l02Ok.f okF
  rw [l00In_eq, l00In_eq]; simp only [Option.bind_some]
  by_cases h : -1000000000 ≤ p ∧ p ≤ 1000000000
  · rw [if_pos (by simpa using h)]
    by_cases h' : 1 ≤ q ∧ q ≤ 1000000000
    · obtain ⟨q', rfl⟩ : ∃ q' : Nat, q = q' := ⟨q.toNat, by omega⟩
      rw [if_pos (by simpa using h'), abs_eq (by omega) (by omega)]; simp only [Option.bind_some]
      unfold spec_l02Common.f
      rw [common_eq k _ _ (by omega)]; simp only [Option.bind_some]
      congr 1
      by_cases g : Nat.gcd p.natAbs q' = 1
      · rw [g, show (((1 : Nat) : Int) == 1) = true from rfl]; symm; rw [decide_eq_true_eq, Int.natAbs_natCast]; exact ⟨h.1, h.2, h'.1, h'.2, g⟩
      · rw [show (((Nat.gcd p.natAbs q' : Nat) : Int) == 1) = false from by rw [beq_eq_false_iff_ne]; omega]; symm; rw [decide_eq_false_iff_not, Int.natAbs_natCast]; exact fun x => g x.2.2.2.2
    · rw [if_neg (by simpa using h')]; congr 1; symm; rw [decide_eq_false_iff_not]; omega
  · rw [if_neg (by simpa using h)]; congr 1; symm; rw [decide_eq_false_iff_not]; omega

end Go.Proofs.Ytafkdkiagmbeaaa.Q
end

section
namespace Go.Proofs.Ytafkdkiagmbeaaa.Q
open Go.RowKit Go.Proofs.YtafkdkiagmbeaaaW.PrintWords Go.Proofs.YtafkdkiagmbeaaaW.PrintLast Go.Proofs.YtafkdkiagmbeaaaW.PrintMore
attribute [local go_sem] max2_int min2_int max_two min_two max_three min_three max_four min_four   -- for this text's walks alone
set_option linter.unusedVariables false
set_option linter.unusedSimpArgs false

/-- A quotient of a number by one above 0 in lowest terms, with the reference's code. -/
def lowS (p q : Int) : Int × Int × Int :=
  let g : Int := ((Nat.gcd p.natAbs q.natAbs : Nat) : Int)
  if (((p.tdiv g).natAbs : Nat) : Int) > 1000000000 then (0, 0, 3) else if q.tdiv g > 1000000000 then (0, 0, 3) else (p.tdiv g, q.tdiv g, 0)
theorem tdiv_bound (p : Int) (g : Nat) : (p.tdiv (g : Int)).natAbs ≤ p.natAbs := by rw [Int.natAbs_tdiv]; exact Nat.div_le_self _ _
theorem w64_id {a : Int} (h : a.natAbs ≤ 9223372036854775807) : wrap64 a = a := by unfold wrap64; omega
theorem spec_low (k : Nat) (hk : 1000000000000000002 ≤ k) (p q : Int) (hp : p.natAbs ≤ 1000000000000000000) (h0 : 0 < q) (hq : q ≤ 1000000000000000000) : spec_l02Lowest.f k p q = some (lowS p q) := by
  obtain ⟨k, rfl⟩ : ∃ m, k = m + 1 := ⟨k - 1, by omega⟩
  unfold spec_l02Lowest.f
  rw [if_neg (by omega), spec_l02Lowest.j0, abs_eq (by omega) (by omega)]
  simp only [Option.bind_some]
  obtain ⟨q', rfl⟩ : ∃ q' : Nat, q = q' := ⟨q.toNat, by omega⟩
  have hg : 0 < Nat.gcd p.natAbs q' := Nat.gcd_pos_of_pos_right _ (by omega)
  unfold spec_l02Common.f
  rw [common_eq k _ _ (by omega)]
  simp only [Option.bind_some]
  have b1 := tdiv_bound p (Nat.gcd p.natAbs q')
  have b2 := tdiv_bound (q' : Int) (Nat.gcd p.natAbs q')
  rw [if_neg (by omega), w64_id (by omega), w64_id (a := (q' : Int).tdiv _) (by rw [Int.natAbs_natCast] at b2; omega), abs_eq (by omega) (by omega)]
  simp only [Option.bind_some]
  unfold lowS
  simp only [Int.natAbs_natCast]
  split
  · rfl
  · split <;> rfl
theorem impl_low (k : Nat) (hk : 1000000000000000002 ≤ k) (p q : Int) (hp : p.natAbs ≤ 1000000000000000000) (h0 : 0 < q) (hq : q ≤ 1000000000000000000) : impl_lowest.f k p q = some (p.tdiv ((Nat.gcd p.natAbs q.natAbs : Nat) : Int), q.tdiv ((Nat.gcd p.natAbs q.natAbs : Nat) : Int)) := by
  have hg : 0 < Nat.gcd p.natAbs q.natAbs := Nat.gcd_pos_of_pos_right _ (by omega)
  unfold impl_lowest.f impl_gcd.f
  rw [gcd_eq k p q (by omega) (by omega) (by omega)]
  simp only [Option.bind_some]
  have b1 := tdiv_bound p (Nat.gcd p.natAbs q.natAbs)
  have b2 := tdiv_bound q (Nat.gcd p.natAbs q.natAbs)
  rw [if_neg (by omega), if_neg (by omega), w64_id (by omega), w64_id (by omega)]
/-- A product by the program: with a great part it is 0, and that is kept in mind. -/
theorem impl_mul (k : Nat) (hk : 1000000000000000002 ≤ k) (s : Bool) (a b c d : Int) (hp : (a * c).natAbs ≤ 1000000000000000000) (h0 : 0 < b * d) (hq : b * d ≤ 1000000000000000000) :
    impl_sums_mul.f k s a b c d = some (if (lowS (a * c) (b * d)).2.2 = 0 then ((lowS (a * c) (b * d)).1, (lowS (a * c) (b * d)).2.1, s) else (0, 1, true)) := by
  unfold impl_sums_mul.f
  rw [w64_id (by omega), w64_id (a := b * d) (by omega), impl_low k hk _ _ hp h0 hq]
  simp only [Option.bind_some]
  have b1 := tdiv_bound (a * c) (Nat.gcd (a * c).natAbs (b * d).natAbs)
  unfold impl_sums_kept.f impl_Fraction_small.f impl_zero.f
  rw [size_eq (by omega) (by omega)]
  simp only [Option.bind_some]
  by_cases h1 : ((((a * c).tdiv ((Nat.gcd (a * c).natAbs (b * d).natAbs : Nat) : Int)).natAbs : Nat) : Int) ≤ 1000000000
  · rw [if_pos h1]
    simp only [Option.bind_some]
    by_cases h2 : (b * d).tdiv ((Nat.gcd (a * c).natAbs (b * d).natAbs : Nat) : Int) ≤ 1000000000
    · have e : lowS (a * c) (b * d) = ((a * c).tdiv ((Nat.gcd (a * c).natAbs (b * d).natAbs : Nat) : Int), (b * d).tdiv ((Nat.gcd (a * c).natAbs (b * d).natAbs : Nat) : Int), 0) := by unfold lowS; simp only []; rw [if_neg (by omega), if_neg (by omega)]
      rw [e, if_pos (by simpa using h2)]; rfl
    · have e : lowS (a * c) (b * d) = (0, 0, 3) := by unfold lowS; simp only []; rw [if_neg (by omega), if_pos (by omega)]
      rw [e, if_neg (by simpa using h2)]; rfl
  · have e : lowS (a * c) (b * d) = (0, 0, 3) := by unfold lowS; simp only []; rw [if_pos (by omega)]
    rw [e, if_neg h1]; rfl
theorem spec_mul (k : Nat) (hk : 1000000000000000002 ≤ k) (a b c d : Int) (hp : (a * c).natAbs ≤ 1000000000000000000) (h0 : 0 < b * d) (hq : b * d ≤ 1000000000000000000) : spec_l02Mul.f k a b c d = some (lowS (a * c) (b * d)) := by
  unfold spec_l02Mul.f
  rw [w64_id (by omega), w64_id (a := b * d) (by omega), spec_low k hk _ _ hp h0 hq]; rfl
theorem lowS_code (p q : Int) : (lowS p q).2.2 = 0 ∨ lowS p q = (0, 0, 3) := by
  unfold lowS; simp only []; split
  · exact .inr rfl
  · split
    · exact .inr rfl
    · exact .inl rfl
/-- Products of valid fractions are within reach. -/
theorem mul_reach {a b c d : Int} (h1 : okF a b = true) (h2 : okF c d = true) : (a * c).natAbs ≤ 1000000000000000000 ∧ 0 < b * d ∧ b * d ≤ 1000000000000000000 := by
  unfold okF at h1 h2
  rw [decide_eq_true_eq] at h1 h2
  refine ⟨?_, Int.mul_pos (by omega) (by omega), ?_⟩
  · rw [Int.natAbs_mul]
    exact Nat.le_trans (Nat.mul_le_mul (show a.natAbs ≤ 1000000000 by omega) (show c.natAbs ≤ 1000000000 by omega)) (by decide)
  · obtain ⟨b', rfl⟩ : ∃ b' : Nat, b = b' := ⟨b.toNat, by omega⟩
    obtain ⟨d', rfl⟩ : ∃ d' : Nat, d = d' := ⟨d.toNat, by omega⟩
    have := Nat.mul_le_mul (show b' ≤ 1000000000 by omega) (show d' ≤ 1000000000 by omega)
    rw [← Int.natCast_mul]; omega

end Go.Proofs.Ytafkdkiagmbeaaa.Q
end

section
namespace Go.Proofs.Ytafkdkiagmbeaaa.Q
open Go.RowKit Go.Proofs.YtafkdkiagmbeaaaW.PrintWords Go.Proofs.YtafkdkiagmbeaaaW.PrintLast Go.Proofs.YtafkdkiagmbeaaaW.PrintMore
attribute [local go_sem] max2_int min2_int max_two min_two max_three min_three max_four min_four   -- for this text's walks alone
set_option linter.unusedVariables false
set_option linter.unusedSimpArgs false

/-- The rows, marked one after the other, and the number behind. -/
def markM : List (List S40) → Int → List (List S40) × Int
  | [], m => ([], m)
  | r :: rs, m => (markR r.length m :: (markM rs (m + 2 * r.length)).1, (markM rs (m + 2 * r.length)).2)
def sumL : List (List S40) → Nat
  | [] => 0
  | r :: rs => r.length + sumL rs
theorem markM_snd : ∀ (R : List (List S40)) (m : Int), (markM R m).2 = m + 2 * sumL R
  | [], m => by simp [markM, sumL]
  | r :: rs, m => by rw [markM, sumL]; simp only []; rw [markM_snd rs]; omega
theorem getDAt_ {α : Type} (pre : List α) (x : α) (post : List α) (d : α) : (pre ++ x :: post).getD (((pre.length : Nat) : Int)).toNat d = x := by
  rw [Int.toNat_natCast, List.getD_eq_getElem?_getD, List.getElem?_append_right (Nat.le_refl _), Nat.sub_self]; rfl
theorem setAt_ {α : Type} (pre : List α) (x y : α) (post : List α) : (pre ++ x :: post).set pre.length y = pre ++ y :: post := by
  rw [List.set_append_right _ _ (Nat.le_refl _), Nat.sub_self]; rfl
theorem markSS_loop : ∀ (R pre : List (List S40)) (m : Int) (k : Nat), pre.length + R.length ≤ 1048576 → (∀ r ∈ R, r.length ≤ 1048576) → 0 ≤ m → m + 2 * sumL R ≤ 1000000 → R.length + 1048578 ≤ k →
    laws_markFractionSS.l0 k (pre ++ R) m pre.length = some ((markM R m).2, pre ++ (markM R m).1)
  | [], pre, m, k, hL, hr, h0, h1, hk => by
    obtain ⟨k, rfl⟩ : ∃ q, k = q + 1 := ⟨k - 1, by omega⟩
    rw [laws_markFractionSS.l0, if_neg (by simp), markM]
  | r :: rs, pre, m, k, hL, hr, h0, h1, hk => by
    obtain ⟨k, rfl⟩ : ∃ q, k = q + 1 := ⟨k - 1, by omega⟩
    rw [sumL] at h1
    rw [List.length_cons] at hL hk
    rw [laws_markFractionSS.l0, if_pos (by simp; omega), if_pos (by omega)]
    unfold rd_L3
    rw [getDAt_, markFractionS_eq r (hr r List.mem_cons_self) m h0 (by omega) k (by omega)]
    simp only [Option.bind_some, Int.toNat_natCast]
    rw [setAt_, w64_succ (by omega)]
    have := markSS_loop rs (pre ++ [markR r.length m]) (m + 2 * r.length) k (by simp; omega) (fun x hx => hr x (List.mem_cons_of_mem _ hx)) (by omega) (by omega) (by omega)
    rw [List.append_assoc, List.append_assoc] at this
    simp only [List.length_append, List.length_cons, List.length_nil, List.singleton_append] at this
    rw [markM]
    exact this
theorem heldSS_loop : ∀ (R pre : List (List S40)) (m : Int) (k : Nat), pre.length + R.length ≤ 1048576 → (∀ r ∈ R, r.length ≤ 1048576) → 0 ≤ m → m + 2 * sumL R ≤ 1000000 → R.length + 1048578 ≤ k →
    laws_heldFractionSS.l0 k (pre ++ (markM R m).1) m pre.length = some (markM R m).2
  | [], pre, m, k, hL, hr, h0, h1, hk => by
    obtain ⟨k, rfl⟩ : ∃ q, k = q + 1 := ⟨k - 1, by omega⟩
    rw [markM, laws_heldFractionSS.l0, if_neg (by simp)]
  | r :: rs, pre, m, k, hL, hr, h0, h1, hk => by
    obtain ⟨k, rfl⟩ : ∃ q, k = q + 1 := ⟨k - 1, by omega⟩
    rw [sumL] at h1
    rw [List.length_cons] at hL hk
    have := heldSS_loop rs (pre ++ [markR r.length m]) (m + 2 * r.length) k (by simp; omega) (fun x hx => hr x (List.mem_cons_of_mem _ hx)) (by omega) (by omega) (by omega)
    rw [markM]
    simp only []
    rw [laws_heldFractionSS.l0, if_pos (by simp; omega), if_pos (by omega)]
    unfold rd_L3
    rw [getDAt_, heldFractionS_eq r.length (hr r List.mem_cons_self) m h0 (by omega) k (by omega)]
    simp only [Option.bind_some]
    rw [if_neg (by omega), w64_succ (by omega)]
    rw [List.append_assoc] at this
    simp only [List.length_append, List.length_cons, List.length_nil, List.singleton_append] at this
    exact this
theorem markSS_eq (R : List (List S40)) (h : R.length ≤ 1048576) (hr : ∀ r ∈ R, r.length ≤ 1048576) (hs : sumL R ≤ 10000) (k : Nat) (hk : 2097154 ≤ k) : laws_markFractionSS.f k R 1 = some (1 + 2 * (sumL R : Int), (markM R 1).1) := by
  have := markSS_loop R [] 1 k (by simpa using h) hr (by omega) (by omega) (by omega)
  rw [markM_snd] at this
  exact this
theorem heldSS_eq (R : List (List S40)) (h : R.length ≤ 1048576) (hr : ∀ r ∈ R, r.length ≤ 1048576) (hs : sumL R ≤ 10000) (k : Nat) (hk : 2097154 ≤ k) : laws_heldFractionSS.f k (markM R 1).1 1 = some (1 + 2 * (sumL R : Int)) := by
  have := heldSS_loop R [] 1 k (by simpa using h) hr (by omega) (by omega) (by omega)
  rw [markM_snd] at this
  exact this
theorem sumL_le : ∀ (R : List (List S40)) (b : Nat), (∀ r ∈ R, r.length ≤ b) → sumL R ≤ R.length * b
  | [], b, _ => Nat.zero_le _
  | r :: rs, b, h => by
    have a := sumL_le rs b (fun x hx => h x (List.mem_cons_of_mem _ hx))
    have c := h r List.mem_cons_self
    rw [sumL, List.length_cons, Nat.add_mul, Nat.one_mul]; omega

end Go.Proofs.Ytafkdkiagmbeaaa.Q
end

section
namespace Go.Proofs.Ytafkdkiagmbeaaa.Q
open Go.RowKit Go.Proofs.YtafkdkiagmbeaaaW.PrintWords Go.Proofs.YtafkdkiagmbeaaaW.PrintLast Go.Proofs.YtafkdkiagmbeaaaW.PrintMore
attribute [local go_sem] max2_int min2_int max_two min_two max_three min_three max_four min_four   -- for this text's walks alone
set_option linter.unusedVariables false
set_option linter.unusedSimpArgs false

theorem ValidFraction_eq (k : Nat) (hk : 1000000000 < k) (p q : Int) : impl_ValidFraction.f k p q = some (okF p q) := by
  unfold impl_ValidFraction.f okF
  by_cases h : q > 0 ∧ p ≥ -1000000000 ∧ p ≤ 1000000000 ∧ q ≤ 1000000000
  · obtain ⟨a, b, c, d⟩ := h
    rw [if_pos a, if_pos b, if_pos c, if_pos d]
    unfold impl_gcd.f
    rw [gcd_eq k p q (by omega) (by omega) (by omega)]; simp only [Option.bind_some]
    congr 1
    by_cases g : Nat.gcd p.natAbs q.natAbs = 1
    · rw [show (((Nat.gcd p.natAbs q.natAbs : Nat) : Int) == 1) = true from by rw [g]; rfl]; symm; rw [decide_eq_true_eq]; exact ⟨b, c, by omega, d, g⟩
    · rw [show (((Nat.gcd p.natAbs q.natAbs : Nat) : Int) == 1) = false from by rw [beq_eq_false_iff_ne]; omega]; symm; rw [decide_eq_false_iff_not]; exact fun x => g x.2.2.2.2
  · rw [show decide (-1000000000 ≤ p ∧ p ≤ 1000000000 ∧ 1 ≤ q ∧ q ≤ 1000000000 ∧ Nat.gcd p.natAbs q.natAbs = 1) = false from by rw [decide_eq_false_iff_not]; omega]
    split
    · split
      · split
        · split
          · omega
          · rfl
        · rfl
      · rfl
    · rfl

end Go.Proofs.Ytafkdkiagmbeaaa.Q
end

section
namespace Go.Proofs.Ytafkdkiagmbeaaa.Q
open Go.RowKit Go.Proofs.YtafkdkiagmbeaaaW.PrintWords Go.Proofs.YtafkdkiagmbeaaaW.PrintLast Go.Proofs.YtafkdkiagmbeaaaW.PrintMore
attribute [local go_sem] max2_int min2_int max_two min_two max_three min_three max_four min_four   -- for this text's walks alone
set_option linter.unusedVariables false
set_option linter.unusedSimpArgs false

section
variable (c : Nat → Nat → Int) (v : Nat → Nat → S40) (n : Nat)
/-- What the program writes for a place: the product, or 0 in place of one that is too great. -/
def cellP (i j : Nat) : S40 := if c i j = 0 then v i j else ⟨0, 1⟩
def rowP (i : Nat) : Nat → Nat → List S40
  | 0, _ => []
  | d + 1, j => cellP c v i j :: rowP i d (j + 1)
def badR (i : Nat) : Nat → Nat → Bool
  | 0, _ => false
  | d + 1, j => (c i j != 0) || badR i d (j + 1)
def rowsP : Nat → Nat → List (List S40)
  | 0, _ => []
  | d + 1, i => rowP c v i n 0 :: rowsP d (i + 1)
def badP : Nat → Nat → Bool
  | 0, _ => false
  | d + 1, i => badR c i n 0 || badP d (i + 1)
theorem rowP_length (i : Nat) : ∀ d j, (rowP c v i d j).length = d
  | 0, _ => rfl
  | d + 1, j => by rw [rowP, List.length_cons, rowP_length i d]
theorem rowsP_length : ∀ d i, (rowsP c v n d i).length = d
  | 0, _ => rfl
  | d + 1, i => by rw [rowsP, List.length_cons, rowsP_length d]
theorem rowsP_row : ∀ d i, ∀ r ∈ rowsP c v n d i, r.length = n
  | 0, _, r, h => by cases h
  | d + 1, i, r, h => by
    rw [rowsP, List.mem_cons] at h
    rcases h with rfl | h
    · exact rowP_length c v i n 0
    · exact rowsP_row d (i + 1) r h
variable {c v n}
theorem matrix_row (hn : n ≤ 8) {cb : Int → Int → Bool → Option (Int × Int × Bool)} {i : Nat} (hcb : ∀ (j : Nat) (s : Bool), j < n → cb i j s = some (if c i j = 0 then ((v i j).f0, (v i j).f1, s) else (0, 1, true))) (X : List (List S40)) (hX : X.length ≤ 8) :
    ∀ (d j k : Nat) (P : List S40) (s : Bool), j + d = n → P.length = j → d + 1 ≤ k →
      impl_matrix.s1 cb k n X i P n i n j s = impl_matrix.s0 cb (k - (d + 1)) n (X ++ [P ++ rowP c v i d j]) n (wrap64 ((i : Int) + 1)) (s || badR c i d j)
  | 0, j, k, P, s, hd, hP, hk => by
    obtain ⟨k, rfl⟩ : ∃ q, k = q + 1 := ⟨k - 1, by omega⟩
    rw [impl_matrix.s1, if_neg (by omega), if_pos (by omega), rowP, badR, List.append_nil, Bool.or_false]; rfl
  | d + 1, j, k, P, s, hd, hP, hk => by
    obtain ⟨k, rfl⟩ : ∃ q, k = q + 1 := ⟨k - 1, by omega⟩
    rw [impl_matrix.s1, if_pos (by omega), hcb j s (by omega)]
    simp only [Option.bind_some]
    rw [if_pos (by omega), w64_succ (by omega), show k + 1 - (d + 1 + 1) = k - (d + 1) from by omega, rowP, badR]
    by_cases h : c i j = 0
    · rw [if_pos h, matrix_row hn hcb X hX d (j + 1) k _ s (by omega) (by simp; omega) (by omega)]
      rw [List.append_assoc, show (c i j != 0) = false from by simp [h], Bool.false_or]
      unfold cellP; rw [if_pos h]; rfl
    · rw [if_neg h, matrix_row hn hcb X hX d (j + 1) k _ true (by omega) (by simp; omega) (by omega)]
      rw [List.append_assoc, show (c i j != 0) = true from by simp [h], Bool.true_or, Bool.or_true]
      unfold cellP; rw [if_neg h]; rfl
theorem matrix_rows (hn : n ≤ 8) {cb : Int → Int → Bool → Option (Int × Int × Bool)} (hcb : ∀ (i j : Nat) (s : Bool), i < n → j < n → cb i j s = some (if c i j = 0 then ((v i j).f0, (v i j).f1, s) else (0, 1, true))) :
    ∀ (d i k : Nat) (X : List (List S40)) (s : Bool), i + d = n → X.length = i → d * 10 + 1 ≤ k → impl_matrix.s0 cb k n X n i s = some (X ++ rowsP c v n d i, s || badP c n d i)
  | 0, i, k, X, s, hd, hX, hk => by
    obtain ⟨k, rfl⟩ : ∃ q, k = q + 1 := ⟨k - 1, by omega⟩
    rw [impl_matrix.s0, if_neg (by omega), rowsP, badP, List.append_nil, Bool.or_false]
  | d + 1, i, k, X, s, hd, hX, hk => by
    obtain ⟨k, rfl⟩ : ∃ q, k = q + 1 := ⟨k - 1, by omega⟩
    have row := matrix_row hn (i := i) (fun j s hj => hcb i j s (by omega) hj) X (by omega) n 0 k [] s (by omega) rfl (by omega)
    rw [show ((0 : Nat) : Int) = 0 from rfl] at row
    rw [impl_matrix.s0, if_pos (by omega), row, w64_succ (by omega), matrix_rows hn hcb d (i + 1) _ _ _ (by omega) (by simp; omega) (by omega)]
    rw [rowsP, badP, List.append_assoc, Bool.or_assoc]; rfl
theorem matrix_all (hn : n ≤ 8) {cb : Int → Int → Bool → Option (Int × Int × Bool)} (hcb : ∀ (i j : Nat) (s : Bool), i < n → j < n → cb i j s = some (if c i j = 0 then ((v i j).f0, (v i j).f1, s) else (0, 1, true))) (k : Nat) (hk : 100 ≤ k) :
    impl_matrix.fs cb k n false = some (rowsP c v n n 0, badP c n n 0) := by
  unfold impl_matrix.fs
  have := matrix_rows hn hcb n 0 k [] false (by omega) rfl (by omega)
  rw [show ((0 : Nat) : Int) = 0 from rfl] at this
  rw [this]; rfl
end

end Go.Proofs.Ytafkdkiagmbeaaa.Q
end

section
namespace Go.Proofs.Ytafkdkiagmbeaaa.Q
open Go.RowKit Go.Proofs.YtafkdkiagmbeaaaW.PrintWords Go.Proofs.YtafkdkiagmbeaaaW.PrintLast Go.Proofs.YtafkdkiagmbeaaaW.PrintMore
attribute [local go_sem] max2_int min2_int max_two min_two max_three min_three max_four min_four   -- for this text's walks alone
set_option linter.unusedVariables false
set_option linter.unusedSimpArgs false

def rowX (X : List (List S40)) (i : Nat) : List S40 := X.getD i []
theorem rowX_at (A R : List (List S40)) (Q : List S40) : rowX (A ++ Q :: R) A.length = Q := by
  unfold rowX
  rw [List.getD_eq_getElem?_getD, List.getElem?_append_right (Nat.le_refl _), Nat.sub_self]; rfl
section
variable {c : Nat → Nat → Int} {v : Nat → Nat → S40} {n K0 : Nat} {L0 : Nat → List (List S40) → Int → Option (List (List S40) × Int)} {L1 : Nat → List (List S40) → Int → Int → Option (List (List S40) × Int)}
theorem spec_row (z : S40) {i : Nat} (hi : i < n) (hc : ∀ j, c i j = 0 ∨ c i j = 3)
    (H1 : ∀ (k : Nat) X (j : Nat), K0 ≤ k → j < n → X.length = n → (rowX X i).length = n → L1 (k + 1) X i j = if c i j = 0 then L1 k (X.set i ((rowX X i).set j (v i j))) i ((j + 1 : Nat) : Int) else some ([], c i j))
    (H1e : ∀ (k : Nat) X, L1 (k + 1) X i n = L0 k X ((i + 1 : Nat) : Int)) :
    ∀ (d j k : Nat) (A R : List (List S40)) (P : List S40), j + d = n → A.length = i → P.length = j → A.length + 1 + R.length = n → K0 + d + 1 ≤ k →
      L1 k (A ++ (P ++ List.replicate d z) :: R) i j = if badR c i d j = true then some ([], 3) else L0 (k - (d + 1)) (A ++ (P ++ rowP c v i d j) :: R) ((i + 1 : Nat) : Int)
  | 0, j, k, A, R, P, hd, hA, hP, hR, hk => by
    obtain ⟨k, rfl⟩ : ∃ q, k = q + 1 := ⟨k - 1, by omega⟩
    obtain rfl : j = n := by omega
    rw [H1e, badR, if_neg (by simp), rowP]; rfl
  | d + 1, j, k, A, R, P, hd, hA, hP, hR, hk => by
    obtain ⟨k, rfl⟩ : ∃ q, k = q + 1 := ⟨k - 1, by omega⟩
    subst hA
    rw [H1 k _ j (by omega) (by omega) (by simp; omega) (by rw [rowX_at]; simp; omega), rowX_at]
    rcases hc j with h | h
    · rw [if_pos h, badR, show (c A.length j != 0) = false from by simp [h], Bool.false_or]
      have ih := spec_row z hi hc H1 H1e d (j + 1) k A R (P ++ [v A.length j]) (by omega) rfl (by simp; omega) hR (by omega)
      rw [show k + 1 - (d + 1 + 1) = k - (d + 1) from by omega, rowP]
      have e : (A ++ (P ++ List.replicate (d + 1) z) :: R).set A.length ((P ++ List.replicate (d + 1) z).set j (v A.length j)) = A ++ (P ++ [v A.length j] ++ List.replicate d z) :: R := by
        rw [setAt_, List.replicate_succ, ← hP, setAt_, List.append_assoc]; rfl
      rw [e, ih]
      unfold cellP; rw [if_pos h, List.append_assoc]; rfl
    · rw [if_neg (by rw [h]; decide), badR, show (c A.length j != 0) = true from by simp [h], Bool.true_or, if_pos rfl, h]
theorem spec_rows (z : S40) (hc : ∀ i j, c i j = 0 ∨ c i j = 3)
    (H1 : ∀ (k : Nat) X (i j : Nat), K0 ≤ k → i < n → j < n → X.length = n → (rowX X i).length = n → L1 (k + 1) X i j = if c i j = 0 then L1 k (X.set i ((rowX X i).set j (v i j))) i ((j + 1 : Nat) : Int) else some ([], c i j))
    (H1e : ∀ (k : Nat) X (i : Nat), i < n → L1 (k + 1) X i n = L0 k X ((i + 1 : Nat) : Int))
    (H0 : ∀ (k : Nat) X (i : Nat), i < n → L0 (k + 1) X i = L1 k X i 0) (H0e : ∀ (k : Nat) X, L0 (k + 1) X n = some (X, 0)) (hn : n ≤ 8) :
    ∀ (d i k : Nat) (A : List (List S40)), i + d = n → A.length = i → K0 + d * 10 + 20 ≤ k →
      L0 k (A ++ List.replicate d (List.replicate n z)) i = if badP c n d i = true then some ([], 3) else some (A ++ rowsP c v n d i, 0)
  | 0, i, k, A, hd, hA, hk => by
    obtain ⟨k, rfl⟩ : ∃ q, k = q + 1 := ⟨k - 1, by omega⟩
    obtain rfl : i = n := by omega
    rw [H0e, badP, if_neg (by simp), rowsP]; rfl
  | d + 1, i, k, A, hd, hA, hk => by
    obtain ⟨k, rfl⟩ : ∃ q, k = q + 1 := ⟨k - 1, by omega⟩
    have row := spec_row (c := c) (v := v) (n := n) (K0 := K0) (L0 := L0) (L1 := L1) z (i := i) (by omega) (hc i) (fun k X j a b x y => H1 k X i j a (by omega) b x y) (fun k X => H1e k X i (by omega)) n 0 k A (List.replicate d (List.replicate n z)) [] (by omega) hA rfl (by simp; omega) (by omega)
    rw [H0 k _ i (by omega), List.replicate_succ]
    rw [show ((0 : Nat) : Int) = 0 from rfl, List.nil_append] at row
    rw [row, badP]
    cases hb : badR c i n 0
    · rw [if_neg (by simp), Bool.false_or]
      have ih := spec_rows z hc H1 H1e H0 H0e hn d (i + 1) (k - (n + 1)) (A ++ [rowP c v i n 0]) (by omega) (by simp; omega) (by omega)
      rw [List.append_assoc] at ih
      rw [List.nil_append, rowsP]
      exact ih.trans (by rw [List.append_assoc]; rfl)
    · rw [if_pos rfl, Bool.true_or, if_pos rfl]
end
instance instDecS : DecidableEq S40 := fun a b => if h : a.f0 = b.f0 ∧ a.f1 = b.f1 then isTrue (by cases a; cases b; simp_all) else isFalse (by rintro rfl; exact h ⟨rfl, rfl⟩)
theorem empty_all : ∀ n : Nat, n < 9 → spec_l02Empty.f 200 (n : Int) = some (List.replicate n (List.replicate n (⟨0, 1⟩ : S40))) := by decide +kernel
theorem empty_eq {n : Nat} (hn : n ≤ 8) (k : Nat) (hk : 200 ≤ k) : spec_l02Empty.f k (n : Int) = some (List.replicate n (List.replicate n (⟨0, 1⟩ : S40))) :=
  LeO_ge (F := fun k => spec_l02Empty.f k (n : Int)) (fun k => spec_l02Empty.mono _ k) hk _ (empty_all n (by omega))

end Go.Proofs.Ytafkdkiagmbeaaa.Q
end

section
namespace Go.Proofs.Ytafkdkiagmbeaaa.Q
open Go.RowKit Go.Proofs.YtafkdkiagmbeaaaW.PrintWords Go.Proofs.YtafkdkiagmbeaaaW.PrintLast Go.Proofs.YtafkdkiagmbeaaaW.PrintMore
attribute [local go_sem] max2_int min2_int max_two min_two max_three min_three max_four min_four   -- for this text's walks alone
set_option linter.unusedVariables false
set_option linter.unusedSimpArgs false

theorem neF2 (a b : S40) : ((!((a.f0) == (b.f0)) || (!((a.f1) == (b.f1)))) = true) ↔ a ≠ b := by
  obtain ⟨a0, a1⟩ := a
  obtain ⟨b0, b1⟩ := b
  simp only [Bool.or_eq_true, Bool.not_eq_true', beq_eq_false_iff_ne, ne_eq, S40.mk.injEq]
  by_cases h : a0 = b0 <;> simp [h]
def okS (f : S40) : Prop := okF f.f0 f.f1 = true
abbrev rowM (M : List (List S40)) (i : Nat) : List S40 := M.getD i []
abbrev atM (M : List (List S40)) (i j : Nat) : S40 := (rowM M i).getD j z40
theorem rdL_nat (M : List (List S40)) (i : Nat) : rd_L3 M (i : Int) = rowM M i := id rfl
theorem rdT_nat (l : List S40) (i : Nat) : rd_T40 l (i : Int) = l.getD i z40 := id rfl
/-- A square matrix of ordered sizes, all of whose entries are valid fractions, symmetric. -/
def goodM (M : List (List S40)) : Prop := M.length ≤ 8 ∧ (∀ i, i < M.length → (rowM M i).length = M.length) ∧ ∀ i, i < M.length → ∀ j, j < M.length → okS (atM M i j) ∧ atM M i j = atM M j i
theorem specM_l2 (M : List (List S40)) (h8 : M.length ≤ 8) (hrow : ∀ i, i < M.length → (rowM M i).length = M.length) (i : Nat) (hi : i < M.length) :
    ∀ (d j k : Nat), j + d = M.length → d + 1000000002 ≤ k → ((∀ j', j ≤ j' → j' < M.length → okS (atM M i j') ∧ atM M i j' = atM M j' i) → spec_l02Matrix.l2 k M i j = spec_l02Matrix.l1 (k - (d + 1)) M ((i + 1 : Nat) : Int)) ∧ (¬ (∀ j', j ≤ j' → j' < M.length → okS (atM M i j') ∧ atM M i j' = atM M j' i) → spec_l02Matrix.l2 k M i j = some false)
  | 0, j, k, hd, hk => by
    obtain ⟨k, rfl⟩ : ∃ q, k = q + 1 := ⟨k - 1, by omega⟩
    rw [spec_l02Matrix.l2, if_neg (by omega), w64_succ (by omega)]
    exact ⟨fun _ => rfl, fun h => absurd (fun j' a b => by omega) h⟩
  | d + 1, j, k, hd, hk => by
    obtain ⟨k, rfl⟩ : ∃ q, k = q + 1 := ⟨k - 1, by omega⟩
    have hj : j < M.length := by omega
    have ih := specM_l2 M h8 hrow i hi d (j + 1) k (by omega) (by omega)
    have hri := hrow i hi
    have hrj := hrow j hj
    rw [spec_l02Matrix.l2]
    simp only [rdL_nat, rdT_nat]
    rw [if_pos (by omega), if_pos (by omega), if_pos (by omega), if_pos (by omega), if_pos (by omega), l02Ok_eq k (by omega)]
    simp only [Option.bind_some]
    by_cases ho : okF ((rowM M i).getD j z40).f0 ((rowM M i).getD j z40).f1 = true
    · rw [if_pos ho, if_pos (by omega), w64_succ (by omega), show k + 1 - (d + 1 + 1) = k - (d + 1) from by omega]
      by_cases he : atM M i j = atM M j i
      · rw [if_neg (by rw [neF2]; exact fun x => x he)]
        refine ⟨fun h => ih.1 fun j' a b => h j' (by omega) b, fun h => ih.2 fun h' => h fun j' a b => ?_⟩
        rcases Nat.eq_or_lt_of_le a with rfl | a
        · exact ⟨ho, he⟩
        · exact h' j' a b
      · rw [if_pos (by rw [neF2]; exact he)]
        exact ⟨fun h => absurd (h j (Nat.le_refl _) hj).2 he, fun _ => rfl⟩
    · rw [if_neg ho]
      exact ⟨fun h => absurd (h j (Nat.le_refl _) hj).1 ho, fun _ => rfl⟩
theorem specM_l1 (M : List (List S40)) (h8 : M.length ≤ 8) (hrow : ∀ i, i < M.length → (rowM M i).length = M.length) :
    ∀ (d i k : Nat), i + d = M.length → d * 10 + 1000000020 ≤ k → ((∀ i', i ≤ i' → i' < M.length → ∀ j, j < M.length → okS (atM M i' j) ∧ atM M i' j = atM M j i') → spec_l02Matrix.l1 k M i = some true) ∧ (¬ (∀ i', i ≤ i' → i' < M.length → ∀ j, j < M.length → okS (atM M i' j) ∧ atM M i' j = atM M j i') → spec_l02Matrix.l1 k M i = some false)
  | 0, i, k, hd, hk => by
    obtain ⟨k, rfl⟩ : ∃ q, k = q + 1 := ⟨k - 1, by omega⟩
    rw [spec_l02Matrix.l1, if_neg (by omega)]
    exact ⟨fun _ => rfl, fun h => absurd (fun j' a b => by omega) h⟩
  | d + 1, i, k, hd, hk => by
    obtain ⟨k, rfl⟩ : ∃ q, k = q + 1 := ⟨k - 1, by omega⟩
    have hi : i < M.length := by omega
    have row := specM_l2 M h8 hrow i hi M.length 0 k (by omega) (by omega)
    have ih := specM_l1 M h8 hrow d (i + 1) (k - (M.length + 1)) (by omega) (by omega)
    rw [show ((0 : Nat) : Int) = 0 from rfl] at row
    rw [spec_l02Matrix.l1, if_pos (by omega)]
    by_cases hr : ∀ j', 0 ≤ j' → j' < M.length → okS (atM M i j') ∧ atM M i j' = atM M j' i
    · rw [row.1 hr]
      refine ⟨fun h => ih.1 fun i' a b => h i' (by omega) b, fun h => ih.2 fun h' => h fun i' a b => ?_⟩
      rcases Nat.eq_or_lt_of_le a with rfl | a
      · exact fun j hj => hr j (Nat.zero_le _) hj
      · exact h' i' a b
    · rw [row.2 hr]
      exact ⟨fun h => absurd (fun j' _ b => h i (Nat.le_refl _) hi j' b) hr, fun _ => rfl⟩
theorem specM_l0 (M : List (List S40)) (h8 : M.length ≤ 8) :
    ∀ (d i k : Nat), i + d = M.length → d + 1 ≤ k → ((∀ i', i ≤ i' → i' < M.length → (rowM M i').length = M.length) → spec_l02Matrix.l0 k M i = spec_l02Matrix.l1 (k - (d + 1)) M 0) ∧ (¬ (∀ i', i ≤ i' → i' < M.length → (rowM M i').length = M.length) → spec_l02Matrix.l0 k M i = some false)
  | 0, i, k, hd, hk => by
    obtain ⟨k, rfl⟩ : ∃ q, k = q + 1 := ⟨k - 1, by omega⟩
    rw [spec_l02Matrix.l0, if_neg (by omega)]
    exact ⟨fun _ => rfl, fun h => absurd (fun j' a b => by omega) h⟩
  | d + 1, i, k, hd, hk => by
    obtain ⟨k, rfl⟩ : ∃ q, k = q + 1 := ⟨k - 1, by omega⟩
    have hi : i < M.length := by omega
    have ih := specM_l0 M h8 d (i + 1) k (by omega) (by omega)
    rw [spec_l02Matrix.l0]
    simp only [rdL_nat]
    rw [if_pos (by omega), if_pos (by omega), w64_succ (by omega), show k + 1 - (d + 1 + 1) = k - (d + 1) from by omega]
    by_cases hr : (rowM M i).length = M.length
    · rw [if_pos (by omega)]
      refine ⟨fun h => ih.1 fun i' a b => h i' (by omega) b, fun h => ih.2 fun h' => h fun i' a b => ?_⟩
      rcases Nat.eq_or_lt_of_le a with rfl | a
      · exact hr
      · exact h' i' a b
    · rw [if_neg (by omega)]
      exact ⟨fun h => absurd (h i (Nat.le_refl _) hi) hr, fun _ => rfl⟩
theorem l02M_eq (M : List (List S40)) (k : Nat) (hk : 1000000200 ≤ k) : (goodM M → spec_l02Matrix.f k M = some true) ∧ (¬ goodM M → spec_l02Matrix.f k M = some false) := by
  unfold spec_l02Matrix.f
  by_cases h8 : M.length ≤ 8
  · rw [if_neg (by omega)]
    have a := specM_l0 M h8 M.length 0 k (by omega) (by omega)
    rw [show ((0 : Nat) : Int) = 0 from rfl] at a
    by_cases hr : ∀ i', 0 ≤ i' → i' < M.length → (rowM M i').length = M.length
    · have hr' : ∀ i, i < M.length → (rowM M i).length = M.length := fun i hi => hr i (Nat.zero_le _) hi
      have b := specM_l1 M h8 hr' M.length 0 (k - (M.length + 1)) (by omega) (by omega)
      rw [show ((0 : Nat) : Int) = 0 from rfl] at b
      rw [a.1 hr]
      exact ⟨fun h => b.1 fun i' _ hi => h.2.2 i' hi, fun h => b.2 fun h' => h ⟨h8, hr', fun i hi => h' i (Nat.zero_le _) hi⟩⟩
    · rw [a.2 hr]
      exact ⟨fun h => absurd (fun i' _ hi => h.2.1 i' hi) hr, fun _ => rfl⟩
  · rw [if_pos (by omega)]
    exact ⟨fun h => absurd h.1 h8, fun _ => rfl⟩
theorem badT_eq (p q : Int) : impl_badFractionT.f p q = some (!okF p q) := by
  refine impl_badFractionT.of p q (k := 1000000001) ?_
  unfold impl_badFraction.f
  rw [ValidFraction_eq 1000000001 (by omega)]; rfl
theorem idxF_loop (l : List S40) (hl : l.length ≤ 256) (cb : Int → Int → Option Bool) (hcb : ∀ p q, cb p q = some (!okF p q)) :
    ∀ (d i k : Nat), i + d = l.length → d + 1 ≤ k → ((∀ i', i ≤ i' → i' < l.length → okS (l.getD i' z40)) → impl_Fraction_130.l0 cb k l (l.length : Int) i = some (-1)) ∧ (¬ (∀ i', i ≤ i' → i' < l.length → okS (l.getD i' z40)) → ∃ r : Int, 0 ≤ r ∧ impl_Fraction_130.l0 cb k l (l.length : Int) i = some r)
  | 0, i, k, hd, hk => by
    obtain ⟨k, rfl⟩ : ∃ q, k = q + 1 := ⟨k - 1, by omega⟩
    rw [impl_Fraction_130.l0, if_neg (by omega)]
    exact ⟨fun _ => rfl, fun h => absurd (fun j' a b => by omega) h⟩
  | d + 1, i, k, hd, hk => by
    obtain ⟨k, rfl⟩ : ∃ q, k = q + 1 := ⟨k - 1, by omega⟩
    have hi : i < l.length := by omega
    have ih := idxF_loop l hl cb hcb d (i + 1) k (by omega) (by omega)
    rw [impl_Fraction_130.l0, if_pos (by omega), if_pos (by omega), if_pos (by omega), hcb, w64_succ (by omega)]
    simp only [Option.bind_some, rdT_nat]
    by_cases ho : okF (l.getD i z40).f0 (l.getD i z40).f1 = true
    · rw [if_neg (by rw [ho]; simp)]
      refine ⟨fun h => ih.1 fun i' a b => h i' (by omega) b, fun h => ih.2 fun h' => h fun i' a b => ?_⟩
      rcases Nat.eq_or_lt_of_le a with rfl | a
      · exact ho
      · exact h' i' a b
    · rw [if_pos (by simpa using ho)]
      exact ⟨fun h => absurd (h i (Nat.le_refl _) hi) ho, fun _ => ⟨i, by omega, rfl⟩⟩
def goodL (n : Nat) (l : List S40) : Prop := l.length = n ∧ l.length ≤ 256 ∧ ∀ i, i < l.length → okS (l.getD i z40)
theorem VM1_eq (l : List S40) (M : List (List S40)) : (goodL M.length l → impl_ValidMatrix_1T.f l M = some false) ∧ (¬ goodL M.length l → impl_ValidMatrix_1T.f l M = some true) := by
  have key : ∀ r, impl_ValidMatrix_1.f 1000 l M = some r → impl_ValidMatrix_1T.f l M = some r := fun r h => impl_ValidMatrix_1T.of l M h
  unfold impl_ValidMatrix_1.f impl_validList.f impl_Fraction_100.f impl_Fraction_130.f at key
  by_cases hn : l.length = M.length
  · rw [if_pos (by omega)] at key
    by_cases hl : l.length ≤ 256
    · rw [if_pos (by omega)] at key
      have a := idxF_loop l hl (fun y0_0 y0_1 => impl_badFractionT.f y0_0 y0_1) badT_eq l.length 0 1000 (by omega) (by omega)
      rw [show ((0 : Nat) : Int) = 0 from rfl] at a
      refine ⟨fun h => key _ ?_, fun h => key _ ?_⟩
      · rw [a.1 fun i' _ hi => h.2.2 i' hi]; rfl
      · obtain ⟨r, h0, hr⟩ := a.2 fun h' => h ⟨hn, hl, fun i hi => h' i (Nat.zero_le _) hi⟩
        rw [hr]; simp [h0]
    · rw [if_neg (by omega)] at key
      exact ⟨fun h => absurd h.2.1 hl, fun _ => key _ rfl⟩
  · rw [if_neg (by omega)] at key
    exact ⟨fun h => absurd h.1 hn, fun _ => key _ rfl⟩
theorem idxM_loop (l : List (List S40)) (hl : l.length ≤ 256) (n : Nat) (cb : List S40 → Option Bool) (hcb : ∀ r, (goodL n r → cb r = some false) ∧ (¬ goodL n r → cb r = some true)) :
    ∀ (d i k : Nat), i + d = l.length → d + 1 ≤ k → ((∀ i', i ≤ i' → i' < l.length → goodL n (l.getD i' [])) → impl_Fraction_133.l0 cb k l (l.length : Int) i = some (-1)) ∧ (¬ (∀ i', i ≤ i' → i' < l.length → goodL n (l.getD i' [])) → ∃ r : Int, 0 ≤ r ∧ impl_Fraction_133.l0 cb k l (l.length : Int) i = some r)
  | 0, i, k, hd, hk => by
    obtain ⟨k, rfl⟩ : ∃ q, k = q + 1 := ⟨k - 1, by omega⟩
    rw [impl_Fraction_133.l0, if_neg (by omega)]
    exact ⟨fun _ => rfl, fun h => absurd (fun j' a b => by omega) h⟩
  | d + 1, i, k, hd, hk => by
    obtain ⟨k, rfl⟩ : ∃ q, k = q + 1 := ⟨k - 1, by omega⟩
    have hi : i < l.length := by omega
    have ih := idxM_loop l hl n cb hcb d (i + 1) k (by omega) (by omega)
    rw [impl_Fraction_133.l0, if_pos (by omega), if_pos (by omega), if_pos (by omega), w64_succ (by omega)]
    simp only [rdL_nat]
    by_cases ho : goodL n (rowM l i)
    · rw [(hcb _).1 ho]
      simp only [Option.bind_some, Bool.false_eq_true, if_false]
      refine ⟨fun h => ih.1 fun i' a b => h i' (by omega) b, fun h => ih.2 fun h' => h fun i' a b => ?_⟩
      rcases Nat.eq_or_lt_of_le a with rfl | a
      · exact ho
      · exact h' i' a b
    · rw [(hcb _).2 ho]
      simp only [Option.bind_some, if_true]
      exact ⟨fun h => absurd (h i (Nat.le_refl _) hi) ho, fun _ => ⟨i, by omega, rfl⟩⟩
theorem implM_l1 (M : List (List S40)) (h8 : M.length ≤ 8) (hrow : ∀ i, i < M.length → (rowM M i).length = M.length) (i : Nat) (hi : i < M.length) (x15 : List (List S40)) (x16 : Int) :
    ∀ (d j k : Nat), j + d = M.length → d + 1 ≤ k → ((∀ j', j ≤ j' → j' < M.length → atM M j' i = atM M i j') → impl_ValidMatrix.l1 k i x15 x16 i (rowM M i) (M.length : Int) j M = impl_ValidMatrix.l0 (k - (d + 1)) x15 x16 ((i + 1 : Nat) : Int) M) ∧ (¬ (∀ j', j ≤ j' → j' < M.length → atM M j' i = atM M i j') → impl_ValidMatrix.l1 k i x15 x16 i (rowM M i) (M.length : Int) j M = some false)
  | 0, j, k, hd, hk => by
    obtain ⟨k, rfl⟩ : ∃ q, k = q + 1 := ⟨k - 1, by omega⟩
    rw [impl_ValidMatrix.l1, if_neg (by omega), w64_succ (by omega)]
    exact ⟨fun _ => rfl, fun h => absurd (fun j' a b => by omega) h⟩
  | d + 1, j, k, hd, hk => by
    obtain ⟨k, rfl⟩ : ∃ q, k = q + 1 := ⟨k - 1, by omega⟩
    have hj : j < M.length := by omega
    have ih := implM_l1 M h8 hrow i hi x15 x16 d (j + 1) k (by omega) (by omega)
    have hri := hrow i hi
    have hrj := hrow j hj
    rw [impl_ValidMatrix.l1]
    simp only [rdL_nat, rdT_nat]
    rw [if_pos (by omega), if_pos (by omega), if_pos (by omega), if_pos (by omega), if_pos (by omega), if_pos (by omega), w64_succ (by omega), show k + 1 - (d + 1 + 1) = k - (d + 1) from by omega]
    by_cases he : atM M j i = atM M i j
    · rw [if_neg (by rw [neF2]; exact fun x => x he)]
      refine ⟨fun h => ih.1 fun j' a b => h j' (by omega) b, fun h => ih.2 fun h' => h fun j' a b => ?_⟩
      rcases Nat.eq_or_lt_of_le a with rfl | a
      · exact he
      · exact h' j' a b
    · rw [if_pos (by rw [neF2]; exact he)]
      exact ⟨fun h => absurd (h j (Nat.le_refl _) hj) he, fun _ => rfl⟩
theorem implM_l0 (M : List (List S40)) (h8 : M.length ≤ 8) (hrow : ∀ i, i < M.length → (rowM M i).length = M.length) :
    ∀ (d i k : Nat), i + d = M.length → d * 12 + 20 ≤ k → ((∀ i', i ≤ i' → i' < M.length → ∀ j, j < M.length → atM M j i' = atM M i' j) → impl_ValidMatrix.l0 k M (M.length : Int) i M = some true) ∧ (¬ (∀ i', i ≤ i' → i' < M.length → ∀ j, j < M.length → atM M j i' = atM M i' j) → impl_ValidMatrix.l0 k M (M.length : Int) i M = some false)
  | 0, i, k, hd, hk => by
    obtain ⟨k, rfl⟩ : ∃ q, k = q + 1 := ⟨k - 1, by omega⟩
    rw [impl_ValidMatrix.l0, if_neg (by omega)]
    exact ⟨fun _ => rfl, fun h => absurd (fun j' a b => by omega) h⟩
  | d + 1, i, k, hd, hk => by
    obtain ⟨k, rfl⟩ : ∃ q, k = q + 1 := ⟨k - 1, by omega⟩
    have hi : i < M.length := by omega
    have row := implM_l1 M h8 hrow i hi M (M.length : Int) M.length 0 k (by omega) (by omega)
    have ih := implM_l0 M h8 hrow d (i + 1) (k - (M.length + 1)) (by omega) (by omega)
    rw [show ((0 : Nat) : Int) = 0 from rfl] at row
    rw [impl_ValidMatrix.l0, if_pos (by omega), if_pos (by omega), if_pos (by omega)]
    simp only [rdL_nat]
    rw [show ((rowM M i).length : Int) = (M.length : Int) from by rw [hrow i hi]]
    by_cases hr : ∀ j', 0 ≤ j' → j' < M.length → atM M j' i = atM M i j'
    · rw [row.1 hr]
      refine ⟨fun h => ih.1 fun i' a b => h i' (by omega) b, fun h => ih.2 fun h' => h fun i' a b => ?_⟩
      rcases Nat.eq_or_lt_of_le a with rfl | a
      · exact fun j hj => hr j (Nat.zero_le _) hj
      · exact h' i' a b
    · rw [row.2 hr]
      exact ⟨fun h => absurd (fun j' _ b => h i (Nat.le_refl _) hi j' b) hr, fun _ => rfl⟩
theorem ValidMatrix_eq (M : List (List S40)) (k : Nat) (hk : 1000 ≤ k) : (goodM M → impl_ValidMatrix.f k M = some true) ∧ (¬ goodM M → impl_ValidMatrix.f k M = some false) := by
  obtain ⟨k, rfl⟩ : ∃ q, k = q + 1 := ⟨k - 1, by omega⟩
  unfold impl_ValidMatrix.f
  by_cases h8 : M.length ≤ 8
  · rw [if_neg (by omega)]
    unfold impl_Fraction_107.f impl_Fraction_133.f
    have a := idxM_loop M (by omega) M.length (fun y0 => impl_ValidMatrix_1T.f y0 M) (fun r => VM1_eq r M) M.length 0 (k + 1) (by omega) (by omega)
    rw [show ((0 : Nat) : Int) = 0 from rfl] at a
    by_cases hr : ∀ i', 0 ≤ i' → i' < M.length → goodL M.length (M.getD i' [])
    · rw [a.1 hr]
      simp only [Option.bind_some]
      rw [show decide ((-1 : Int) ≥ 0) = false from rfl, impl_ValidMatrix.j0, if_neg (by simp)]
      have hrow : ∀ i, i < M.length → (rowM M i).length = M.length := fun i hi => (hr i (Nat.zero_le _) hi).1
      have b := implM_l0 M h8 hrow M.length 0 k (by omega) (by omega)
      rw [show ((0 : Nat) : Int) = 0 from rfl] at b
      refine ⟨fun h => b.1 fun i' _ hi j hj => (h.2.2 j hj i' hi).2, fun h => b.2 fun h' => h ⟨h8, hrow, fun i hi j hj => ⟨?_, (h' i (Nat.zero_le _) hi j hj).symm⟩⟩⟩
      exact (hr i (Nat.zero_le _) hi).2.2 j (by rw [(hr i (Nat.zero_le _) hi).1]; exact hj)
    · obtain ⟨r, h0, hr'⟩ := a.2 hr
      rw [hr']
      simp only [Option.bind_some]
      rw [show decide (r ≥ 0) = true from by simpa using h0, impl_ValidMatrix.j0, if_pos rfl]
      refine ⟨fun h => absurd (fun i' _ hi => ⟨h.2.1 i' hi, by have := h.2.1 i' hi; show (rowM M i').length ≤ 256; omega, fun j hj => (h.2.2 i' hi j (by have := h.2.1 i' hi; exact (by rw [← this]; exact hj))).1⟩) hr, fun _ => rfl⟩
  · rw [if_pos (by omega), impl_ValidMatrix.j0, if_pos rfl]
    exact ⟨fun h => absurd h.1 h8, fun _ => rfl⟩

end Go.Proofs.Ytafkdkiagmbeaaa.Q
end

section
namespace Go.Proofs.Ytafkdkiagmbeaaa.Q
open Go.RowKit Go.Proofs.YtafkdkiagmbeaaaW.PrintWords Go.Proofs.YtafkdkiagmbeaaaW.PrintLast Go.Proofs.YtafkdkiagmbeaaaW.PrintMore
attribute [local go_sem] max2_int min2_int max_two min_two max_three min_three max_four min_four   -- for this text's walks alone
set_option linter.unusedVariables false
set_option linter.unusedSimpArgs false

section
variable (M : List (List S40)) (p q : Int)
def scL (i j : Nat) : Int × Int × Int := lowS ((atM M i j).f0 * p) ((atM M i j).f1 * q)
def scC (i j : Nat) : Int := (scL M p q i j).2.2
def scV (i j : Nat) : S40 := ⟨(scL M p q i j).1, (scL M p q i j).2.1⟩
theorem sc_code (i j : Nat) : scC M p q i j = 0 ∨ scC M p q i j = 3 := by
  unfold scC
  rcases lowS_code ((atM M i j).f0 * p) ((atM M i j).f1 * q) with h | h
  · exact .inl h
  · right; unfold scL; rw [h]
variable {M p q} (hg : goodM M) (hq : okF p q = true)
include hg hq
theorem specSc_eq (k : Nat) (hk : 1000000000000000200 ≤ k) : spec_l02Scale.f k M p q = some (if badP (scC M p q) M.length M.length 0 = true then ([], 3) else (rowsP (scC M p q) (scV M p q) M.length M.length 0, 0)) := by
  have h8 := hg.1
  have key := spec_rows (c := scC M p q) (v := scV M p q) (n := M.length) (K0 := 1000000000000000002) (L0 := fun k X i => spec_l02Scale.l0 k M X i p q) (L1 := fun k X i j => spec_l02Scale.l1 k M X i j p q) (⟨0, 1⟩ : S40) (sc_code M p q)
    (fun k X i j hK hi hj hX hr => by
      have ho := mul_reach (hg.2.2 i hi j hj).1 hq
      have hri := hg.2.1 i hi
      rw [spec_l02Scale.l1]
      simp only [rdL_nat, rdT_nat]
      rw [if_pos (by omega), if_pos (by omega), if_pos (by omega), if_pos (by omega), if_pos (by omega)]
      rw [spec_mul k (by omega) _ _ _ _ ho.1 ho.2.1 ho.2.2]
      simp only [Option.bind_some]
      show (if scC M p q i j = 0 then _ else _) = _
      by_cases h : scC M p q i j = 0
      · rw [if_pos h, if_pos h, if_pos (by omega), if_pos (by show (j : Int) < ((rowX X i).length : Int); omega), w64_succ (by omega), Int.toNat_natCast, Int.toNat_natCast]; rfl
      · rw [if_neg h, if_neg h]; rfl)
    (fun k X i hi => by rw [spec_l02Scale.l1, if_neg (by omega), w64_succ (by omega)])
    (fun k X i hi => by rw [spec_l02Scale.l0, if_pos (by omega)])
    (fun k X => by rw [spec_l02Scale.l0, if_neg (by omega)]) h8 M.length 0 k [] (by omega) rfl (by omega)
  unfold spec_l02Scale.f
  rw [empty_eq h8 k (by omega)]
  simp only [Option.bind_some]
  rw [List.nil_append, List.nil_append, show ((0 : Nat) : Int) = 0 from rfl] at key
  rw [key]; split <;> rfl
theorem implSc_eq (k : Nat) (hk : 1000 ≤ k) : impl_matrix.fs (fun y0 y1 s_ => impl_ScaleMatrix_1T.f y0 y1 s_ M p q) k (M.length : Int) false = some (rowsP (scC M p q) (scV M p q) M.length M.length 0, badP (scC M p q) M.length M.length 0) :=
  matrix_all hg.1 (fun i j s hi hj => by
    have ho := mul_reach (hg.2.2 i hi j hj).1 hq
    have hri := hg.2.1 i hi
    refine impl_ScaleMatrix_1T.of (k := 1000000000000000002) _ _ _ _ _ _ ?_
    unfold impl_ScaleMatrix_1.f
    simp only [rdL_nat, rdT_nat]
    rw [if_pos (by omega), if_pos (by omega), if_pos (by omega), if_pos (by omega)]
    rw [impl_mul _ (Nat.le_refl _) s _ _ _ _ ho.1 ho.2.1 ho.2.2]; rfl) k (by omega)
end
theorem scale_both (M : List (List S40)) (p q : Int) : ∃ (R : List (List S40)) (cd : Int), R.length ≤ 8 ∧ (∀ r ∈ R, r.length ≤ 8) ∧ ∀ k, 1000000000000000210 ≤ k → spec_ScaleMatrix.f k M p q = some (R, cd) ∧ impl_ScaleMatrix.f k M p q = some (R, cd) := by
  by_cases hg : goodM M
  · by_cases hq : okF p q = true
    · have h8 := hg.1
      by_cases hb : badP (scC M p q) M.length M.length 0 = true
      · refine ⟨[], 3, by simp, by simp, fun k hk => ⟨?_, ?_⟩⟩
        · unfold spec_ScaleMatrix.f
          rw [(l02M_eq M k (by omega)).1 hg]; simp only [Option.bind_some, if_true]
          rw [l02Ok_eq k (by omega), hq]; simp only [Option.bind_some, if_true]
          rw [specSc_eq hg hq k (by omega), if_pos hb]; rfl
        · unfold impl_ScaleMatrix.f
          rw [(ValidMatrix_eq M k (by omega)).1 hg]; simp only [Option.bind_some, if_true]
          rw [ValidFraction_eq k (by omega), hq]; simp only [Option.bind_some]
          obtain ⟨k, rfl⟩ : ∃ m, k = m + 1 := ⟨k - 1, by omega⟩
          rw [impl_ScaleMatrix.j0, if_neg (by simp), implSc_eq hg hq k (by omega), hb]; rfl
      · have hb' : badP (scC M p q) M.length M.length 0 = false := by simpa using hb
        refine ⟨rowsP (scC M p q) (scV M p q) M.length M.length 0, 0, by rw [rowsP_length]; exact h8, fun r hr => by rw [rowsP_row _ _ _ _ _ r hr]; exact h8, fun k hk => ⟨?_, ?_⟩⟩
        · unfold spec_ScaleMatrix.f
          rw [(l02M_eq M k (by omega)).1 hg]; simp only [Option.bind_some, if_true]
          rw [l02Ok_eq k (by omega), hq]; simp only [Option.bind_some, if_true]
          rw [specSc_eq hg hq k (by omega), if_neg hb]; rfl
        · unfold impl_ScaleMatrix.f
          rw [(ValidMatrix_eq M k (by omega)).1 hg]; simp only [Option.bind_some, if_true]
          rw [ValidFraction_eq k (by omega), hq]; simp only [Option.bind_some]
          obtain ⟨k, rfl⟩ : ∃ m, k = m + 1 := ⟨k - 1, by omega⟩
          rw [impl_ScaleMatrix.j0, if_neg (by simp), implSc_eq hg hq k (by omega), hb']; rfl
    · have hq' : okF p q = false := by simpa using hq
      refine ⟨[], 1, by simp, by simp, fun k hk => ⟨?_, ?_⟩⟩
      · unfold spec_ScaleMatrix.f
        rw [(l02M_eq M k (by omega)).1 hg]; simp only [Option.bind_some, if_true]
        rw [l02Ok_eq k (by omega), hq']; rfl
      · unfold impl_ScaleMatrix.f
        rw [(ValidMatrix_eq M k (by omega)).1 hg]; simp only [Option.bind_some, if_true]
        rw [ValidFraction_eq k (by omega), hq']; simp only [Option.bind_some]
        obtain ⟨k, rfl⟩ : ∃ m, k = m + 1 := ⟨k - 1, by omega⟩
        rw [impl_ScaleMatrix.j0, if_pos (by simp)]
  · refine ⟨[], 1, by simp, by simp, fun k hk => ⟨?_, ?_⟩⟩
    · unfold spec_ScaleMatrix.f
      rw [(l02M_eq M k (by omega)).2 hg]; rfl
    · unfold impl_ScaleMatrix.f
      rw [(ValidMatrix_eq M k (by omega)).2 hg]; simp only [Option.bind_some, Bool.false_eq_true, if_false]
      obtain ⟨k, rfl⟩ : ∃ m, k = m + 1 := ⟨k - 1, by omega⟩
      rw [impl_ScaleMatrix.j0, if_pos rfl]
theorem sumL_toFss : ∀ m : List (List S36), sumL (toFss m) = (m.map List.length).sum
  | [] => rfl
  | r :: rs => by rw [show toFss (r :: rs) = toFs r :: toFss rs from rfl, sumL, sumL_toFss rs]; simp [toFs]
theorem markS_big (L : List S40) (hL : L.length ≤ 1048576) (m : Int) (h0 : 0 ≤ m) (h1 : m + 2 * L.length ≤ 2147483648) (k : Nat) (hk : 1048577 ≤ k) : laws_markFractionS.f k L m = some (m + 2 * L.length, markR L.length m) := by
  unfold laws_markFractionS.f
  have := markFractionS_loop L.length 0 k L m (by omega) hL h0 (by omega) (by omega)
  rw [show ((0 : Nat) : Int) = 0 from rfl] at this
  rw [this]; simp
theorem markSS_big : ∀ (R pre : List (List S40)) (m : Int) (k : Nat), pre.length + R.length ≤ 1048576 → (∀ r ∈ R, r.length ≤ 1048576) → 0 ≤ m → m + 2 * sumL R ≤ 2147483648 → R.length + 1048578 ≤ k →
    laws_markFractionSS.l0 k (pre ++ R) m pre.length = some ((markM R m).2, pre ++ (markM R m).1)
  | [], pre, m, k, hL, hr, h0, h1, hk => by
    obtain ⟨k, rfl⟩ : ∃ q, k = q + 1 := ⟨k - 1, by omega⟩
    rw [laws_markFractionSS.l0, if_neg (by simp), markM]
  | r :: rs, pre, m, k, hL, hr, h0, h1, hk => by
    obtain ⟨k, rfl⟩ : ∃ q, k = q + 1 := ⟨k - 1, by omega⟩
    rw [sumL] at h1
    rw [List.length_cons] at hL hk
    rw [laws_markFractionSS.l0, if_pos (by simp; omega), if_pos (by omega)]
    unfold rd_L3
    rw [getDAt_, markS_big r (hr r List.mem_cons_self) m h0 (by omega) k (by omega)]
    simp only [Option.bind_some, Int.toNat_natCast]
    rw [setAt_, w64_succ (by omega)]
    have := markSS_big rs (pre ++ [markR r.length m]) (m + 2 * r.length) k (by simp; omega) (fun x hx => hr x (List.mem_cons_of_mem _ hx)) (by omega) (by omega) (by omega)
    rw [List.append_assoc, List.append_assoc] at this
    simp only [List.length_append, List.length_cons, List.length_nil, List.singleton_append] at this
    rw [markM]
    exact this
theorem szSum_loop (l : List (List S36)) (hl : l.length ≤ 1048576) : ∀ (d i k : Nat) (left : Int), 0 ≤ left → left ≤ 1048576 → (∀ r ∈ l, r.length < 9223372036854775808) → i + d = l.length → d + 1 ≤ k → ∃ s, laws_szFractionSS.l0 k l left i = some s ∧ (¬ s < 0 → ((((l.drop i).map List.length).sum : Nat) : Int) ≤ left)
  | 0, i, k, left, h0, h1, hr, hd, hk => by
    obtain ⟨k, rfl⟩ : ∃ q, k = q + 1 := ⟨k - 1, by omega⟩
    rw [laws_szFractionSS.l0, if_neg (by omega)]
    exact ⟨left, rfl, fun _ => by rw [List.drop_eq_nil_of_le (by omega)]; simpa using h0⟩
  | d + 1, i, k, left, h0, h1, hr, hd, hk => by
    obtain ⟨k, rfl⟩ : ∃ q, k = q + 1 := ⟨k - 1, by omega⟩
    have hi : i < l.length := by omega
    have hri := hr _ (List.getElem_mem hi)
    rw [laws_szFractionSS.l0, if_pos (by omega), if_pos (by omega)]
    unfold rd_L6
    rw [getD_of_lt _ _ hi, laws_szFractionS.f, show wrap64 (left - (l[i].length : Int)) = left - (l[i].length : Int) from by unfold wrap64; omega]
    by_cases h : left - (l[i].length : Int) < 0
    · rw [if_pos h]
      exact ⟨-1, by simp, fun h => absurd (by omega) h⟩
    · rw [if_neg h]
      simp only [Option.bind_some]
      rw [if_neg h, w64_succ (by omega)]
      obtain ⟨s, e, hx⟩ := szSum_loop l hl d (i + 1) k (left - (l[i].length : Int)) (by omega) (by omega) hr (by omega) (by omega)
      refine ⟨s, e, fun hn => ?_⟩
      have := hx hn
      rw [List.drop_eq_getElem_cons hi, List.map_cons, List.sum_cons]
      omega
theorem szSum_eq (l : List (List S36)) (hl : l.length < 9223372036854775808) (hr : ∀ r ∈ l, r.length < 9223372036854775808) (k : Nat) (hk : 1048578 ≤ k) :
    ∃ s, laws_szFractionSS.f k l 1048576 = some s ∧ (¬ s < 0 → (l.map List.length).sum ≤ 1048576) := by
  unfold laws_szFractionSS.f
  rw [show wrap64 (1048576 - (l.length : Int)) = 1048576 - (l.length : Int) from by unfold wrap64; omega]
  by_cases h : 1048576 - (l.length : Int) < 0
  · rw [if_pos h]; exact ⟨-1, rfl, fun h => absurd (by omega) h⟩
  · rw [if_neg h]
    obtain ⟨s, e, hx⟩ := szSum_loop l (by omega) l.length 0 k (1048576 - (l.length : Int)) (by omega) (by omega) hr (by omega) (by omega)
    refine ⟨s, e, fun hn => ?_⟩
    have := hx hn
    rw [List.drop_zero] at this
    omega
theorem FnExactScaleMatrix_pure (m : List (List S36)) (p q : Int) (hm : m.length < 9223372036854775808 ∧ ∀ r ∈ m, r.length < 9223372036854775808 ∧ ∀ b ∈ r, (Lit.int .i64 b.f0).wf = true ∧ (Lit.int .i64 b.f1).wf = true) (_hp : (Lit.int .i64 p).wf = true) (_hq : (Lit.int .i64 q).wf = true) : ∃ k, laws_FnExactScaleMatrix.f k m p q = some true := by
  refine ⟨1000000000000000300, ?_⟩
  unfold laws_FnExactScaleMatrix.f
  obtain ⟨s, es, hs, hx⟩ := szFractionSS_eq m hm.1 (fun r hr => (hm.2 r hr).1) 1048576 (by omega) (by omega) 1000000000000000300 (by omega)
  obtain ⟨s', es', hx'⟩ := szSum_eq m hm.1 (fun r hr => (hm.2 r hr).1) 1000000000000000300 (by omega)
  obtain rfl : s = s' := Option.some.inj (es.symm.trans es')
  rw [es]; simp only [Option.bind_some]
  by_cases h1 : s < 0
  · rw [if_pos h1]
  rw [if_neg h1]
  have tm := toFss_small (hx h1)
  have hsm : sumL (toFss m) ≤ 1048576 := by rw [sumL_toFss]; exact hx' h1
  have mk : laws_markFractionSS.f 1000000000000000299 (toFss m) 1 = some (1 + 2 * (sumL (toFss m) : Int), (markM (toFss m) 1).1) := by
    have := markSS_big (toFss m) [] 1 1000000000000000299 (by simpa using tm.1) tm.2 (by omega) (by omega) (by have := tm.1; omega)
    rw [markM_snd] at this
    exact this
  obtain ⟨R, cd, h8, hr8, key⟩ := scale_both (toFss m) p q
  have hR : R.length ≤ 1048576 := by omega
  have hr : ∀ r ∈ R, r.length ≤ 1048576 := fun r h => Nat.le_trans (hr8 r h) (by omega)
  have hsum : sumL R ≤ 10000 := Nat.le_trans (sumL_le R 8 hr8) (by omega)
  simp only [laws_toFraction.f, toFractionSS_eq m (hx h1).1 (hx h1).2 _ (show 2097154 ≤ 1000000000000000300 by omega), Option.bind_some, (key 1000000000000000300 (by omega)).1, (key 1000000000000000300 (by omega)).2, eqFractionSS_self R hR hr _ (show 2097154 ≤ 1000000000000000300 by omega), if_true, bne_self_eq_false]
  rw [laws_FnExactScaleMatrix.j0, if_neg (by simp)]
  simp only [toFractionSS_eq m (hx h1).1 (hx h1).2 _ (show 2097154 ≤ 1000000000000000299 by omega), Option.bind_some, eqFractionSS_self _ tm.1 tm.2 _ (show 2097154 ≤ 1000000000000000299 by omega), if_true, mk]
  rw [if_neg (by omega), eqFractionSS_self R hR hr _ (by omega)]
  simp only [Option.bind_some, if_true, bne_self_eq_false]
  rw [laws_FnExactScaleMatrix.j1, if_neg (by simp)]
  simp only [markSS_eq R hR hr hsum _ (show 2097154 ≤ 1000000000000000298 by omega), Option.bind_some, heldSS_eq R hR hr hsum _ (show 2097154 ≤ 1000000000000000298 by omega)]
  rw [if_neg (by omega), if_pos trivial]
  simp only [laws_toFraction.f, toFractionSS_eq m (hx h1).1 (hx h1).2 _ (show 2097154 ≤ 1000000000000000298 by omega), Option.bind_some, (key 1000000000000000298 (by omega)).2, eqFractionSS_self R hR hr _ (show 2097154 ≤ 1000000000000000298 by omega), if_true, bne_self_eq_false]
  rw [laws_FnExactScaleMatrix.j2, if_neg (by simp)]
  simp only [Option.bind_some, heldSS_eq R hR hr hsum _ (show 2097154 ≤ 1000000000000000297 by omega)]
  rw [if_neg (by omega), if_pos trivial]

end Go.Proofs.Ytafkdkiagmbeaaa.Q
end

section
namespace Go.Proofs.YtafkdkiagmbeaaaW.PrintWords
open Go Go.RowKit Go.ChangeShapes Go.WideShapes Go.ChangeAt Go.Deep
set_option linter.unusedVariables false
section
variable {H : Type} (enc : TypeId × Value → H) (P : Program) (W : World)
/-- Whatever reads as data of type t stands for a plain value. -/
def Opens {α : Type} (t : TypeId) (k : Kd α) (wf : α → Prop) : Prop :=
  ∀ (fuel : Nat) (cs : List Value) (x : DataW H × List MemPlace), DataW.trod enc P W 0 (fun _ => true) true fuel t cs = some x → ∃ a, k.K W a cs ∧ wf a
end
section
variable {H : Type} {enc : TypeId × Value → H} {P : Program} {W : World}
theorem Opens.int {t : TypeId} {k : IntKind} (ht : P.underlying t = some (.int k)) : Opens enc P W t (Kd.int k) (fun n => (Lit.int k n).wf = true) := by
  intro fuel cs x h
  obtain ⟨n, rfl, _, hw⟩ := DataW.trod_int ht h
  exact ⟨n, rfl, hw⟩
theorem Opens.bool {t : TypeId} (ht : P.underlying t = some .bool) : Opens enc P W t Kd.bool (fun _ => True) := by
  intro fuel cs x h
  obtain ⟨n, rfl, _⟩ := DataW.trod_bool ht h
  exact ⟨n, rfl, trivial⟩
theorem Opens.struct2 {α β : Type} {t : TypeId} {f0 f1 : Field} {k0 : Kd α} {k1 : Kd β} {p0 : α → Prop} {p1 : β → Prop} (ht : P.underlying t = some (.struct #[f0, f1])) (o0 : f0.offset = 0) (o1 : f1.offset = P.cellsOf f0.type) (hc : P.cellsOf t = P.cellsOf f0.type + P.cellsOf f1.type)
    (h0 : Opens enc P W f0.type k0 p0) (h1 : Opens enc P W f1.type k1 p1) : Opens enc P W t (Kd.pair k0 k1) (fun p => p0 p.1 ∧ p1 p.2) := by
  intro fuel cs x h
  obtain ⟨y0, y1, n, _, hl, e0, e1⟩ := trod_struct2 ht h
  obtain ⟨a, ka, wa⟩ := h0 n _ _ e0
  obtain ⟨b, kb, wb⟩ := h1 n _ _ e1
  refine ⟨(a, b), ⟨_, _, ?_, ka, kb⟩, wa, wb⟩
  rw [o0, o1, List.drop_zero, List.take_of_length_le (l := List.drop _ cs) (by rw [List.length_drop, hl, hc]; omega), List.take_append_drop]
theorem Opens.iso {α β : Type} {t : TypeId} {k : Kd α} {p : α → Prop} (f : β → α) (g : α → β) (hfg : ∀ a, f (g a) = a) (h : Opens enc P W t k p) : Opens enc P W t (Kd.iso k f) (fun b => p (f b)) := by
  intro fuel cs x hx
  obtain ⟨a, ka, wa⟩ := h fuel cs x hx
  exact ⟨g a, by show k.K W (f (g a)) cs; rw [hfg]; exact ka, by show p (f (g a)); rw [hfg]; exact wa⟩
theorem Opens.slice {α : Type} (z : α) {t e : TypeId} {k : Kd α} {p : α → Prop} (ht : P.underlying t = some (.slice e)) (hs : k.sz = P.cellsOf e) (h : Opens enc P W e k p) : Opens enc P W t (Kd.slice e k) (fun l => l.length < 9223372036854775808 ∧ ∀ a ∈ l, p a) := by
  haveI : Inhabited α := ⟨z⟩
  intro fuel cs x hx
  rcases open_slice ht hx with ⟨rfl, _⟩ | ⟨ad, len, cap, m, n, D, Pl, rfl, _, hl, hm, hmm, _, hel⟩
  · exact ⟨[], ⟨none, 0, rfl, Nat.le_refl _, rfl, by simp, fun h0 => absurd h0 (Nat.lt_irrefl 0)⟩, by simp, fun a ha => by cases ha⟩
  · have hlm : len ≤ m := by
      rw [hmm]; split
      · exact hl
      · exact Nat.le_refl _
    obtain ⟨F, hF⟩ := choose_lt (α := α) (n := len) (p := fun i a => p a ∧ ∃ cs', k.K W a cs' ∧ W.cells? 0 (ad.add (i * P.cellsOf e)) (P.cellsOf e) = some cs') (fun i hi => by
      obtain ⟨cs', h1, h2⟩ := hel i (by omega)
      obtain ⟨a, ka, wa⟩ := h n _ _ h2
      exact ⟨a, wa, cs', ka, h1⟩)
    refine ⟨(List.range len).map F, ⟨some ad, cap, by simp, by simpa using hl, by simp, by simp; unfold maxLen at hm; omega, fun _ => ⟨ad, rfl, fun j q hq => ?_⟩⟩, by simp; unfold maxLen at hm; omega, fun a ha => ?_⟩
    · obtain ⟨hj, rfl⟩ : j < len ∧ F j = q := by
        rw [List.getElem?_map] at hq
        rcases Nat.lt_or_ge j len with hj | hj
        · rw [List.getElem?_range hj] at hq; exact ⟨hj, by simpa using hq⟩
        · rw [List.getElem?_eq_none (by simpa using hj)] at hq; simp at hq
      obtain ⟨_, cs', ka, h1⟩ := hF j hj
      obtain ⟨_, hlen, hcell⟩ := World.cells?_some h1
      refine ⟨cs', k.K_len ka, ka, fun i u hu => ?_⟩
      have hi : i < P.cellsOf e := by rw [← hlen]; exact (List.getElem?_eq_some_iff.1 hu).1
      rw [hs, ← add_add, hcell i hi]; exact hu
    · obtain ⟨i, hi, rfl⟩ := List.mem_map.1 ha
      exact (hF i (List.mem_range.1 hi)).1
end
end Go.Proofs.YtafkdkiagmbeaaaW.PrintWords
end
