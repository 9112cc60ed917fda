/- Contracts of Go functions and plain lemmas over what they compute; printed by the kit's print program or written by hand, joined. -/
import Derived.Test.YtafkdkiagmbeaaaBFnExactSquareMatrix4
import Derived.Test.YtafkdkiagmbeaaaBFnExactSquareMatrix12
import Derived.Test.YtafkdkiagmbeaaaBFnExactSquareMatrix13
import Derived.Test.YtafkdkiagmbeaaaBFnExactSquareMatrix8
import Derived.Test.YtafkdkiagmbeaaaBFnExactSquareMatrix14
import Derived.Test.YtafkdkiagmbeaaaBFnExactSquareMatrix6
import Derived.Test.YtafkdkiagmbeaaaBFnExactSquareMatrix9
import Derived.Test.YtafkdkiagmbeaaaBFnExactSquareMatrix10
import Derived.Test.YtafkdkiagmbeaaaBFnExactSquareMatrix11
import Derived.Test.YtafkdkiagmbeaaaBFnExactSquareMatrix5
import Derived.Test.YtafkdkiagmbeaaaBFnExactSquareMatrix7
import Derived.Test.YtafkdkiagmbeaaaBFnExactSquareMatrix15
import Derived.Test.YtafkdkiagmbeaaaBFnExactSquareMatrix3
import Derived.WalkKit
import Derived.ProofKit
import Derived.OpenShut
import Derived.ChangeOld
import Derived.Deep.Slices
section
namespace Go.Proofs.Ytafkdkiagmbeaaa.Q
open Go.RowKit Go.Proofs.YtafkdkiagmbeaaaW.PrintWords Go.Proofs.YtafkdkiagmbeaaaW.PrintLast Go.Proofs.YtafkdkiagmbeaaaW.PrintMore
attribute [local go_sem] max2_int min2_int max_two min_two max_three min_three max_four min_four   -- for this text's walks alone
set_option linter.unusedVariables false
set_option linter.unusedSimpArgs false

theorem w64_succ {i : Nat} (h : i < 2097152) : wrap64 ((i : Int) + 1) = ((i + 1 : Nat) : Int) := by unfold wrap64; omega
theorem getD_of_lt {α : Type} (l : List α) (d : α) {i : Nat} (h : i < l.length) : l.getD ((i : Int)).toNat d = l[i] := by
  rw [Int.toNat_natCast, List.getD_eq_getElem?_getD, List.getElem?_eq_getElem h]; rfl
theorem set_take {α : Type} (out : List α) (x : α) {i : Nat} (h : i < out.length) : (out.set i x).take (i + 1) = out.take i ++ [x] := by
  rw [List.take_succ_eq_append_getElem (by rw [List.length_set]; exact h), List.take_set_of_le (Nat.le_refl _), List.getElem_set_self]
end Go.Proofs.Ytafkdkiagmbeaaa.Q
end

section
namespace Go.Proofs.Ytafkdkiagmbeaaa.Q
open Go.RowKit Go.Proofs.YtafkdkiagmbeaaaW.PrintWords Go.Proofs.YtafkdkiagmbeaaaW.PrintLast Go.Proofs.YtafkdkiagmbeaaaW.PrintMore
attribute [local go_sem] max2_int min2_int max_two min_two max_three min_three max_four min_four   -- for this text's walks alone
set_option linter.unusedVariables false
set_option linter.unusedSimpArgs false

theorem eqFractionS_loop (l : List S40) (hl : l.length ≤ 1048576) : ∀ (d i k : Nat), i + d = l.length → d + 1 ≤ k → laws_eqFractionS.l0 k l l i = some true
  | 0, i, k, hd, hk => by
    obtain ⟨k, rfl⟩ : ∃ q, k = q + 1 := ⟨k - 1, by omega⟩
    rw [laws_eqFractionS.l0, if_neg (by omega)]
  | d + 1, i, k, hd, hk => by
    obtain ⟨k, rfl⟩ : ∃ q, k = q + 1 := ⟨k - 1, by omega⟩
    rw [laws_eqFractionS.l0, if_pos (by omega), if_pos (by omega), if_pos (by omega), laws_eqFraction.f, if_pos rfl, if_pos rfl]
    simp only [Option.bind_some, if_true]
    rw [w64_succ (by omega)]
    exact eqFractionS_loop l hl d (i + 1) k (by omega) (by omega)
theorem eqFractionS_self (l : List S40) (hl : l.length ≤ 1048576) (k : Nat) (hk : 1048577 ≤ k) : laws_eqFractionS.f k l l = some true := by
  unfold laws_eqFractionS.f
  rw [if_pos rfl]; exact eqFractionS_loop l hl l.length 0 k (by omega) (by omega)

end Go.Proofs.Ytafkdkiagmbeaaa.Q
end

section
namespace Go.Proofs.Ytafkdkiagmbeaaa.Q
open Go.RowKit Go.Proofs.YtafkdkiagmbeaaaW.PrintWords Go.Proofs.YtafkdkiagmbeaaaW.PrintLast Go.Proofs.YtafkdkiagmbeaaaW.PrintMore
attribute [local go_sem] max2_int min2_int max_two min_two max_three min_three max_four min_four   -- for this text's walks alone
set_option linter.unusedVariables false
set_option linter.unusedSimpArgs false

end Go.Proofs.Ytafkdkiagmbeaaa.Q
end

section
namespace Go.Proofs.Ytafkdkiagmbeaaa.Q
open Go.RowKit Go.Proofs.YtafkdkiagmbeaaaW.PrintWords Go.Proofs.YtafkdkiagmbeaaaW.PrintLast Go.Proofs.YtafkdkiagmbeaaaW.PrintMore
attribute [local go_sem] max2_int min2_int max_two min_two max_three min_three max_four min_four   -- for this text's walks alone
set_option linter.unusedVariables false
set_option linter.unusedSimpArgs false

end Go.Proofs.Ytafkdkiagmbeaaa.Q
end

section
namespace Go.Proofs.Ytafkdkiagmbeaaa.Q
open Go.RowKit Go.Proofs.YtafkdkiagmbeaaaW.PrintWords Go.Proofs.YtafkdkiagmbeaaaW.PrintLast Go.Proofs.YtafkdkiagmbeaaaW.PrintMore
attribute [local go_sem] max2_int min2_int max_two min_two max_three min_three max_four min_four   -- for this text's walks alone
set_option linter.unusedVariables false
set_option linter.unusedSimpArgs false

def toF (x : S36) : S40 := ⟨x.f0, x.f1⟩
def toFs (l : List S36) : List S40 := l.map toF
theorem toFractionS_loop (l : List S36) (hl : l.length ≤ 1048576) : ∀ (d i k : Nat) (out : List S40), i + d = l.length → out.length = l.length → d + 1 ≤ k → laws_toFractionS.l0 k l out i = some (out.take i ++ (l.drop i).map toF)
  | 0, i, k, out, hd, ho, hk => by
    obtain ⟨k, rfl⟩ : ∃ q, k = q + 1 := ⟨k - 1, by omega⟩
    rw [laws_toFractionS.l0, if_neg (by omega), List.drop_eq_nil_of_le (by omega), List.take_of_length_le (by omega)]; simp
  | d + 1, i, k, out, hd, ho, hk => by
    obtain ⟨k, rfl⟩ : ∃ q, k = q + 1 := ⟨k - 1, by omega⟩
    rw [laws_toFractionS.l0, if_pos (by omega), if_pos (by omega), laws_toFraction.f]
    simp only [Option.bind_some]
    rw [if_pos (by omega), w64_succ (by omega), Int.toNat_natCast]
    rw [toFractionS_loop l hl d (i + 1) k _ (by omega) (by rw [List.length_set]; exact ho) (by omega), set_take _ _ (by omega), List.append_assoc]
    congr 2
    rw [List.drop_eq_getElem_cons (show i < l.length by omega), List.map_cons]
    show [_] ++ _ = _
    congr 1
    unfold rd_T36
    rw [getD_of_lt _ _ (by omega)]; rfl
theorem toFractionS_eq (l : List S36) (hl : l.length ≤ 1048576) (k : Nat) (hk : 1048577 ≤ k) : laws_toFractionS.f k l = some (toFs l) := by
  unfold laws_toFractionS.f
  rw [if_pos (by omega), if_pos (by omega)]
  have := toFractionS_loop l hl l.length 0 k (List.replicate ((l.length : Int) : Int).toNat z40) (by omega) (by simp) (by omega)
  rw [show ((0 : Nat) : Int) = 0 from rfl] at this
  rw [this]; simp [toFs]
theorem eqFractionSS_loop (l : List (List S40)) (hl : l.length ≤ 1048576) (hr : ∀ r ∈ l, r.length ≤ 1048576) : ∀ (d i k : Nat), i + d = l.length → d + 1048578 ≤ k → laws_eqFractionSS.l0 k l l i = some true
  | 0, i, k, hd, hk => by
    obtain ⟨k, rfl⟩ : ∃ q, k = q + 1 := ⟨k - 1, by omega⟩
    rw [laws_eqFractionSS.l0, if_neg (by omega)]
  | d + 1, i, k, hd, hk => by
    obtain ⟨k, rfl⟩ : ∃ q, k = q + 1 := ⟨k - 1, by omega⟩
    rw [laws_eqFractionSS.l0, if_pos (by omega), if_pos (by omega), if_pos (by omega)]
    unfold rd_L3
    rw [getD_of_lt _ _ (show i < l.length by omega), eqFractionS_self _ (hr _ (List.getElem_mem _)) k (by omega)]
    simp only [Option.bind_some, if_true]
    rw [w64_succ (by omega)]
    exact eqFractionSS_loop l hl hr d (i + 1) k (by omega) (by omega)
theorem eqFractionSS_self (l : List (List S40)) (hl : l.length ≤ 1048576) (hr : ∀ r ∈ l, r.length ≤ 1048576) (k : Nat) (hk : 2097154 ≤ k) : laws_eqFractionSS.f k l l = some true := by
  unfold laws_eqFractionSS.f
  rw [if_pos rfl]; exact eqFractionSS_loop l hl hr l.length 0 k (by omega) (by omega)
end Go.Proofs.Ytafkdkiagmbeaaa.Q
end

section
namespace Go.Proofs.Ytafkdkiagmbeaaa.Q
open Go.RowKit Go.Proofs.YtafkdkiagmbeaaaW.PrintWords Go.Proofs.YtafkdkiagmbeaaaW.PrintLast Go.Proofs.YtafkdkiagmbeaaaW.PrintMore
attribute [local go_sem] max2_int min2_int max_two min_two max_three min_three max_four min_four   -- for this text's walks alone
set_option linter.unusedVariables false
set_option linter.unusedSimpArgs false

def markR : Nat → Int → List S40
  | 0, _ => []
  | d + 1, m => ⟨m, m + 1⟩ :: markR d (m + 2)
theorem markR_length : ∀ d m, (markR d m).length = d
  | 0, _ => rfl
  | d + 1, m => by rw [markR, List.length_cons, markR_length d]
theorem rdR_nat (l : List S40) {i : Nat} (hi : i < l.length) : rd_T40 l (i : Int) = l[i] := by unfold rd_T40; exact getD_of_lt l _ hi
theorem markFractionS_loop : ∀ (d i k : Nat) (L : List S40) (m : Int), i + d = L.length → L.length ≤ 1048576 → 0 ≤ m → m + 2 * d ≤ 2147483648 → d + 1 ≤ k → laws_markFractionS.l0 k L m i = some (m + 2 * d, L.take i ++ markR d m)
  | 0, i, k, L, m, hd, hL, h0, h1, hk => by
    obtain ⟨k, rfl⟩ : ∃ q, k = q + 1 := ⟨k - 1, by omega⟩
    rw [laws_markFractionS.l0, if_neg (by omega), List.take_of_length_le (by omega), markR, List.append_nil]
    congr 2; omega
  | d + 1, i, k, L, m, hd, hL, h0, h1, hk => by
    obtain ⟨k, rfl⟩ : ∃ q, k = q + 1 := ⟨k - 1, by omega⟩
    have hi : i < L.length := by omega
    have hm1 : wrap64 (m + 1) = m + 1 := by unfold wrap64; omega
    have hm2 : wrap64 (m + 1 + 1) = m + 2 := by unfold wrap64; omega
    rw [laws_markFractionS.l0, if_pos (by omega), if_pos (by omega)]
    simp only [Option.bind_some, Int.toNat_natCast, hm1, hm2]
    generalize (rd_T40 L (i : Int)).f1 = q
    rw [w64_succ (by omega), rdR_nat _ (by rw [List.length_set]; exact hi), List.getElem_set_self, List.set_set]
    rw [markFractionS_loop d (i + 1) k _ (m + 2) (by rw [List.length_set]; omega) (by rw [List.length_set]; exact hL) (by omega) (by omega) (by omega), set_take _ _ hi, List.append_assoc]
    congr 2
    omega
theorem markFractionS_eq (L : List S40) (hL : L.length ≤ 1048576) (m : Int) (h0 : 0 ≤ m) (h1 : m ≤ 1000000) (k : Nat) (hk : 1048577 ≤ k) : laws_markFractionS.f k L m = some (m + 2 * L.length, markR L.length m) := by
  unfold laws_markFractionS.f
  have := markFractionS_loop L.length 0 k L m (by omega) hL h0 (by omega) (by omega)
  rw [show ((0 : Nat) : Int) = 0 from rfl] at this
  rw [this]; simp
theorem heldFractionS_loop : ∀ (d k : Nat) (pre : List S40) (m : Int), pre.length + d ≤ 1048576 → 0 ≤ m → m + 2 * d ≤ 2147483648 → d + 1 ≤ k → laws_heldFractionS.l0 k (pre ++ markR d m) m pre.length = some (m + 2 * d)
  | 0, k, pre, m, hL, h0, h1, hk => by
    obtain ⟨k, rfl⟩ : ∃ q, k = q + 1 := ⟨k - 1, by omega⟩
    rw [laws_heldFractionS.l0, if_neg (by simp [markR])]
    congr 1; omega
  | d + 1, k, pre, m, hL, h0, h1, hk => by
    obtain ⟨k, rfl⟩ : ∃ q, k = q + 1 := ⟨k - 1, by omega⟩
    have hlen : (pre ++ markR (d + 1) m).length = pre.length + (d + 1) := by rw [List.length_append, markR_length]
    have hi : pre.length < (pre ++ markR (d + 1) m).length := by omega
    have hg : (pre ++ markR (d + 1) m)[pre.length] = ⟨m, m + 1⟩ := by simp [markR]
    have hm1 : wrap64 (m + 1) = m + 1 := by unfold wrap64; omega
    have hm2 : wrap64 (m + 1 + 1) = m + 2 := by unfold wrap64; omega
    rw [laws_heldFractionS.l0, if_pos (by omega), if_pos (by omega), rdR_nat _ hi, hg]
    simp only [hm1, hm2, if_true]
    rw [w64_succ (by omega)]
    have := heldFractionS_loop d k (pre ++ [⟨m, m + 1⟩]) (m + 2) (by rw [List.length_append]; simp only [List.length_cons, List.length_nil]; omega) (by omega) (by omega) (by omega)
    rw [List.length_append, List.append_assoc] at this
    simp only [List.length_cons, List.length_nil] at this
    rw [show pre ++ markR (d + 1) m = pre ++ ([⟨m, m + 1⟩] ++ markR d (m + 2)) from rfl, this]
    congr 1; omega
theorem heldFractionS_eq (d : Nat) (hd : d ≤ 1048576) (m : Int) (h0 : 0 ≤ m) (h1 : m ≤ 1000000) (k : Nat) (hk : 1048577 ≤ k) : laws_heldFractionS.f k (markR d m) m = some (m + 2 * d) := by
  unfold laws_heldFractionS.f
  exact heldFractionS_loop d k [] m (by simpa using hd) h0 (by omega) (by omega)

end Go.Proofs.Ytafkdkiagmbeaaa.Q
end

section
namespace Go.Proofs.Ytafkdkiagmbeaaa.Q
open Go.RowKit Go.Proofs.YtafkdkiagmbeaaaW.PrintWords Go.Proofs.YtafkdkiagmbeaaaW.PrintLast Go.Proofs.YtafkdkiagmbeaaaW.PrintMore
attribute [local go_sem] max2_int min2_int max_two min_two max_three min_three max_four min_four   -- for this text's walks alone
set_option linter.unusedVariables false
set_option linter.unusedSimpArgs false

theorem common_eq : ∀ (k a b : Nat), b < k → spec_l02Common.l0 k (a : Int) (b : Int) = some ((Nat.gcd a b : Nat) : Int) := by
  intro k
  induction k with
  | zero => intro a b h; omega
  | succ k ih =>
    intro a b h
    simp only [spec_l02Common.l0]
    by_cases hb : b = 0
    · subst hb; simp
    · rw [if_neg (by omega), ← Int.ofNat_tmod, ih b (a % b) (by have := Nat.mod_lt a (Nat.pos_of_ne_zero hb); omega)]
      rw [Nat.gcd_comm b, ← Nat.gcd_rec, Nat.gcd_comm]

end Go.Proofs.Ytafkdkiagmbeaaa.Q
end

section
namespace Go.Proofs.Ytafkdkiagmbeaaa.Q
open Go.RowKit Go.Proofs.YtafkdkiagmbeaaaW.PrintWords Go.Proofs.YtafkdkiagmbeaaaW.PrintLast Go.Proofs.YtafkdkiagmbeaaaW.PrintMore
attribute [local go_sem] max2_int min2_int max_two min_two max_three min_three max_four min_four   -- for this text's walks alone
set_option linter.unusedVariables false
set_option linter.unusedSimpArgs false

theorem size_eq {a : Int} (h0 : -9223372036854775807 ≤ a) (h1 : a ≤ 9223372036854775807) : impl_size.f a = some ((a.natAbs : Nat) : Int) := by
  have hw : wrap64 (-a) = -a := by unfold wrap64; omega
  unfold impl_size.f mx; rw [hw]; congr 1; split <;> omega
theorem gcd_eq : ∀ (k : Nat) (a b : Int), b.natAbs < k → a.natAbs ≤ 9223372036854775807 → b.natAbs ≤ 9223372036854775807 → impl_gcd.l0 k a b = some ((Nat.gcd a.natAbs b.natAbs : Nat) : Int) := by
  intro k
  induction k with
  | zero => intro a b h; omega
  | succ k ih =>
    intro a b h ha hb
    simp only [impl_gcd.l0]
    by_cases e : b = 0
    · subst e; rw [if_pos rfl, size_eq (by omega) (by omega)]; simp
    · have e' : 0 < b.natAbs := by omega
      have hm : (a.tmod b).natAbs = a.natAbs % b.natAbs := Int.natAbs_tmod a b
      have hl := Nat.mod_lt a.natAbs e'
      rw [if_neg e, ih b (a.tmod b) (by omega) hb (by omega), hm, Nat.gcd_comm b.natAbs, ← Nat.gcd_rec, Nat.gcd_comm]

end Go.Proofs.Ytafkdkiagmbeaaa.Q
end

section
namespace Go.Proofs.Ytafkdkiagmbeaaa.Q
open Go.RowKit Go.Proofs.YtafkdkiagmbeaaaW.PrintWords Go.Proofs.YtafkdkiagmbeaaaW.PrintLast Go.Proofs.YtafkdkiagmbeaaaW.PrintMore
attribute [local go_sem] max2_int min2_int max_two min_two max_three min_three max_four min_four   -- for this text's walks alone
set_option linter.unusedVariables false
set_option linter.unusedSimpArgs false

theorem l00In_eq (a b c : Int) : spec_l00In.f a b c = some (decide (b ≤ a ∧ a ≤ c)) := by
  unfold spec_l00In.f
  by_cases h : a ≥ b
  · rw [if_pos h]; congr 1; rw [decide_eq_decide]; omega
  · rw [if_neg h]; congr 1; symm; rw [decide_eq_false_iff_not]; omega
end Go.Proofs.Ytafkdkiagmbeaaa.Q
end

section
namespace Go.Proofs.Ytafkdkiagmbeaaa.Q
open Go.RowKit Go.Proofs.YtafkdkiagmbeaaaW.PrintWords Go.Proofs.YtafkdkiagmbeaaaW.PrintLast Go.Proofs.YtafkdkiagmbeaaaW.PrintMore
attribute [local go_sem] max2_int min2_int max_two min_two max_three min_three max_four min_four   -- for this text's walks alone
set_option linter.unusedVariables false
set_option linter.unusedSimpArgs false

def okF (p q : Int) : Bool := decide (-1000000000 ≤ p ∧ p ≤ 1000000000 ∧ 1 ≤ q ∧ q ≤ 1000000000 ∧ Nat.gcd p.natAbs q.natAbs = 1)
theorem abs_eq {a : Int} (h0 : -9223372036854775807 ≤ a) (h1 : a ≤ 9223372036854775807) : spec_l02Abs.f a = some ((a.natAbs : Nat) : Int) := by
  have hw : wrap64 (-a) = -a := by unfold wrap64; omega
  unfold spec_l02Abs.f; rw [hw]; split <;> (congr 1; omega)
theorem l02Ok_eq (k : Nat) (hk : 1000000000 < k) (p q : Int) : spec_l02Ok.f k p q = some (okF p q) := by
  unfold spec_l02Ok.f okF
  rw [l00In_eq, l00In_eq]; simp only [Option.bind_some]
  by_cases h : -1000000000 ≤ p ∧ p ≤ 1000000000
  · rw [if_pos (by simpa using h)]
    by_cases h' : 1 ≤ q ∧ q ≤ 1000000000
    · obtain ⟨q', rfl⟩ : ∃ q' : Nat, q = q' := ⟨q.toNat, by omega⟩
      rw [if_pos (by simpa using h'), abs_eq (by omega) (by omega)]; simp only [Option.bind_some]
      unfold spec_l02Common.f
      rw [common_eq k _ _ (by omega)]; simp only [Option.bind_some]
      congr 1
      by_cases g : Nat.gcd p.natAbs q' = 1
      · rw [g, show (((1 : Nat) : Int) == 1) = true from rfl]; symm; rw [decide_eq_true_eq, Int.natAbs_natCast]; exact ⟨h.1, h.2, h'.1, h'.2, g⟩
      · rw [show (((Nat.gcd p.natAbs q' : Nat) : Int) == 1) = false from by rw [beq_eq_false_iff_ne]; omega]; symm; rw [decide_eq_false_iff_not, Int.natAbs_natCast]; exact fun x => g x.2.2.2.2
    · rw [if_neg (by simpa using h')]; congr 1; symm; rw [decide_eq_false_iff_not]; omega
  · rw [if_neg (by simpa using h)]; congr 1; symm; rw [decide_eq_false_iff_not]; omega

end Go.Proofs.Ytafkdkiagmbeaaa.Q
end

section
namespace Go.Proofs.Ytafkdkiagmbeaaa.Q
open Go.RowKit Go.Proofs.YtafkdkiagmbeaaaW.PrintWords Go.Proofs.YtafkdkiagmbeaaaW.PrintLast Go.Proofs.YtafkdkiagmbeaaaW.PrintMore
attribute [local go_sem] max2_int min2_int max_two min_two max_three min_three max_four min_four   -- for this text's walks alone
set_option linter.unusedVariables false
set_option linter.unusedSimpArgs false

/-- A quotient of a number by one above 0 in lowest terms, with the reference's code. -/
def lowS (p q : Int) : Int × Int × Int :=
  let g : Int := ((Nat.gcd p.natAbs q.natAbs : Nat) : Int)
  if (((p.tdiv g).natAbs : Nat) : Int) > 1000000000 then (0, 0, 3) else if q.tdiv g > 1000000000 then (0, 0, 3) else (p.tdiv g, q.tdiv g, 0)
theorem tdiv_bound (p : Int) (g : Nat) : (p.tdiv (g : Int)).natAbs ≤ p.natAbs := by rw [Int.natAbs_tdiv]; exact Nat.div_le_self _ _
theorem w64_id {a : Int} (h : a.natAbs ≤ 9223372036854775807) : wrap64 a = a := by unfold wrap64; omega
theorem spec_low (k : Nat) (hk : 1000000000000000002 ≤ k) (p q : Int) (hp : p.natAbs ≤ 1000000000000000000) (h0 : 0 < q) (hq : q ≤ 1000000000000000000) : spec_l02Lowest.f k p q = some (lowS p q) := by
  obtain ⟨k, rfl⟩ : ∃ m, k = m + 1 := ⟨k - 1, by omega⟩
  unfold spec_l02Lowest.f
  rw [if_neg (by omega), spec_l02Lowest.j0, abs_eq (by omega) (by omega)]
  simp only [Option.bind_some]
  obtain ⟨q', rfl⟩ : ∃ q' : Nat, q = q' := ⟨q.toNat, by omega⟩
  have hg : 0 < Nat.gcd p.natAbs q' := Nat.gcd_pos_of_pos_right _ (by omega)
  unfold spec_l02Common.f
  rw [common_eq k _ _ (by omega)]
  simp only [Option.bind_some]
  have b1 := tdiv_bound p (Nat.gcd p.natAbs q')
  have b2 := tdiv_bound (q' : Int) (Nat.gcd p.natAbs q')
  rw [if_neg (by omega), w64_id (by omega), w64_id (a := (q' : Int).tdiv _) (by rw [Int.natAbs_natCast] at b2; omega), abs_eq (by omega) (by omega)]
  simp only [Option.bind_some]
  unfold lowS
  simp only [Int.natAbs_natCast]
  split
  · rfl
  · split <;> rfl
theorem impl_low (k : Nat) (hk : 1000000000000000002 ≤ k) (p q : Int) (hp : p.natAbs ≤ 1000000000000000000) (h0 : 0 < q) (hq : q ≤ 1000000000000000000) : impl_lowest.f k p q = some (p.tdiv ((Nat.gcd p.natAbs q.natAbs : Nat) : Int), q.tdiv ((Nat.gcd p.natAbs q.natAbs : Nat) : Int)) := by
  have hg : 0 < Nat.gcd p.natAbs q.natAbs := Nat.gcd_pos_of_pos_right _ (by omega)
  unfold impl_lowest.f impl_gcd.f
  rw [gcd_eq k p q (by omega) (by omega) (by omega)]
  simp only [Option.bind_some]
  have b1 := tdiv_bound p (Nat.gcd p.natAbs q.natAbs)
  have b2 := tdiv_bound q (Nat.gcd p.natAbs q.natAbs)
  rw [if_neg (by omega), if_neg (by omega), w64_id (by omega), w64_id (by omega)]
/-- A product by the program: with a great part it is 0, and that is kept in mind. -/
theorem impl_mul (k : Nat) (hk : 1000000000000000002 ≤ k) (s : Bool) (a b c d : Int) (hp : (a * c).natAbs ≤ 1000000000000000000) (h0 : 0 < b * d) (hq : b * d ≤ 1000000000000000000) :
    impl_sums_mul.f k s a b c d = some (if (lowS (a * c) (b * d)).2.2 = 0 then ((lowS (a * c) (b * d)).1, (lowS (a * c) (b * d)).2.1, s) else (0, 1, true)) := by
  unfold impl_sums_mul.f
  rw [w64_id (by omega), w64_id (a := b * d) (by omega), impl_low k hk _ _ hp h0 hq]
  simp only [Option.bind_some]
  have b1 := tdiv_bound (a * c) (Nat.gcd (a * c).natAbs (b * d).natAbs)
  unfold impl_sums_kept.f impl_Fraction_small.f impl_zero.f
  rw [size_eq (by omega) (by omega)]
  simp only [Option.bind_some]
  by_cases h1 : ((((a * c).tdiv ((Nat.gcd (a * c).natAbs (b * d).natAbs : Nat) : Int)).natAbs : Nat) : Int) ≤ 1000000000
  · rw [if_pos h1]
    simp only [Option.bind_some]
    by_cases h2 : (b * d).tdiv ((Nat.gcd (a * c).natAbs (b * d).natAbs : Nat) : Int) ≤ 1000000000
    · have e : lowS (a * c) (b * d) = ((a * c).tdiv ((Nat.gcd (a * c).natAbs (b * d).natAbs : Nat) : Int), (b * d).tdiv ((Nat.gcd (a * c).natAbs (b * d).natAbs : Nat) : Int), 0) := by unfold lowS; simp only []; rw [if_neg (by omega), if_neg (by omega)]
      rw [e, if_pos (by simpa using h2)]; rfl
    · have e : lowS (a * c) (b * d) = (0, 0, 3) := by unfold lowS; simp only []; rw [if_neg (by omega), if_pos (by omega)]
      rw [e, if_neg (by simpa using h2)]; rfl
  · have e : lowS (a * c) (b * d) = (0, 0, 3) := by unfold lowS; simp only []; rw [if_pos (by omega)]
    rw [e, if_neg h1]; rfl
theorem spec_mul (k : Nat) (hk : 1000000000000000002 ≤ k) (a b c d : Int) (hp : (a * c).natAbs ≤ 1000000000000000000) (h0 : 0 < b * d) (hq : b * d ≤ 1000000000000000000) : spec_l02Mul.f k a b c d = some (lowS (a * c) (b * d)) := by
  unfold spec_l02Mul.f
  rw [w64_id (by omega), w64_id (a := b * d) (by omega), spec_low k hk _ _ hp h0 hq]; rfl
theorem lowS_code (p q : Int) : (lowS p q).2.2 = 0 ∨ lowS p q = (0, 0, 3) := by
  unfold lowS; simp only []; split
  · exact .inr rfl
  · split
    · exact .inr rfl
    · exact .inl rfl
/-- Products of valid fractions are within reach. -/
theorem mul_reach {a b c d : Int} (h1 : okF a b = true) (h2 : okF c d = true) : (a * c).natAbs ≤ 1000000000000000000 ∧ 0 < b * d ∧ b * d ≤ 1000000000000000000 := by
  unfold okF at h1 h2
  rw [decide_eq_true_eq] at h1 h2
  refine ⟨?_, Int.mul_pos (by omega) (by omega), ?_⟩
  · rw [Int.natAbs_mul]
    exact Nat.le_trans (Nat.mul_le_mul (show a.natAbs ≤ 1000000000 by omega) (show c.natAbs ≤ 1000000000 by omega)) (by decide)
  · obtain ⟨b', rfl⟩ : ∃ b' : Nat, b = b' := ⟨b.toNat, by omega⟩
    obtain ⟨d', rfl⟩ : ∃ d' : Nat, d = d' := ⟨d.toNat, by omega⟩
    have := Nat.mul_le_mul (show b' ≤ 1000000000 by omega) (show d' ≤ 1000000000 by omega)
    rw [← Int.natCast_mul]; omega

end Go.Proofs.Ytafkdkiagmbeaaa.Q
end

section
namespace Go.Proofs.Ytafkdkiagmbeaaa.Q
open Go.RowKit Go.Proofs.YtafkdkiagmbeaaaW.PrintWords Go.Proofs.YtafkdkiagmbeaaaW.PrintLast Go.Proofs.YtafkdkiagmbeaaaW.PrintMore
attribute [local go_sem] max2_int min2_int max_two min_two max_three min_three max_four min_four   -- for this text's walks alone
set_option linter.unusedVariables false
set_option linter.unusedSimpArgs false

/-- The rows, marked one after the other, and the number behind. -/
def markM : List (List S40) → Int → List (List S40) × Int
  | [], m => ([], m)
  | r :: rs, m => (markR r.length m :: (markM rs (m + 2 * r.length)).1, (markM rs (m + 2 * r.length)).2)
def sumL : List (List S40) → Nat
  | [] => 0
  | r :: rs => r.length + sumL rs
theorem markM_snd : ∀ (R : List (List S40)) (m : Int), (markM R m).2 = m + 2 * sumL R
  | [], m => by simp [markM, sumL]
  | r :: rs, m => by rw [markM, sumL]; simp only []; rw [markM_snd rs]; omega
theorem getDAt_ {α : Type} (pre : List α) (x : α) (post : List α) (d : α) : (pre ++ x :: post).getD (((pre.length : Nat) : Int)).toNat d = x := by
  rw [Int.toNat_natCast, List.getD_eq_getElem?_getD, List.getElem?_append_right (Nat.le_refl _), Nat.sub_self]; rfl
theorem setAt_ {α : Type} (pre : List α) (x y : α) (post : List α) : (pre ++ x :: post).set pre.length y = pre ++ y :: post := by
  rw [List.set_append_right _ _ (Nat.le_refl _), Nat.sub_self]; rfl
theorem markSS_loop : ∀ (R pre : List (List S40)) (m : Int) (k : Nat), pre.length + R.length ≤ 1048576 → (∀ r ∈ R, r.length ≤ 1048576) → 0 ≤ m → m + 2 * sumL R ≤ 1000000 → R.length + 1048578 ≤ k →
    laws_markFractionSS.l0 k (pre ++ R) m pre.length = some ((markM R m).2, pre ++ (markM R m).1)
  | [], pre, m, k, hL, hr, h0, h1, hk => by
    obtain ⟨k, rfl⟩ : ∃ q, k = q + 1 := ⟨k - 1, by omega⟩
    rw [laws_markFractionSS.l0, if_neg (by simp), markM]
  | r :: rs, pre, m, k, hL, hr, h0, h1, hk => by
    obtain ⟨k, rfl⟩ : ∃ q, k = q + 1 := ⟨k - 1, by omega⟩
    rw [sumL] at h1
    rw [List.length_cons] at hL hk
    rw [laws_markFractionSS.l0, if_pos (by simp; omega), if_pos (by omega)]
    unfold rd_L3
    rw [getDAt_, markFractionS_eq r (hr r List.mem_cons_self) m h0 (by omega) k (by omega)]
    simp only [Option.bind_some, Int.toNat_natCast]
    rw [setAt_, w64_succ (by omega)]
    have := markSS_loop rs (pre ++ [markR r.length m]) (m + 2 * r.length) k (by simp; omega) (fun x hx => hr x (List.mem_cons_of_mem _ hx)) (by omega) (by omega) (by omega)
    rw [List.append_assoc, List.append_assoc] at this
    simp only [List.length_append, List.length_cons, List.length_nil, List.singleton_append] at this
    rw [markM]
    exact this
theorem heldSS_loop : ∀ (R pre : List (List S40)) (m : Int) (k : Nat), pre.length + R.length ≤ 1048576 → (∀ r ∈ R, r.length ≤ 1048576) → 0 ≤ m → m + 2 * sumL R ≤ 1000000 → R.length + 1048578 ≤ k →
    laws_heldFractionSS.l0 k (pre ++ (markM R m).1) m pre.length = some (markM R m).2
  | [], pre, m, k, hL, hr, h0, h1, hk => by
    obtain ⟨k, rfl⟩ : ∃ q, k = q + 1 := ⟨k - 1, by omega⟩
    rw [markM, laws_heldFractionSS.l0, if_neg (by simp)]
  | r :: rs, pre, m, k, hL, hr, h0, h1, hk => by
    obtain ⟨k, rfl⟩ : ∃ q, k = q + 1 := ⟨k - 1, by omega⟩
    rw [sumL] at h1
    rw [List.length_cons] at hL hk
    have := heldSS_loop rs (pre ++ [markR r.length m]) (m + 2 * r.length) k (by simp; omega) (fun x hx => hr x (List.mem_cons_of_mem _ hx)) (by omega) (by omega) (by omega)
    rw [markM]
    simp only []
    rw [laws_heldFractionSS.l0, if_pos (by simp; omega), if_pos (by omega)]
    unfold rd_L3
    rw [getDAt_, heldFractionS_eq r.length (hr r List.mem_cons_self) m h0 (by omega) k (by omega)]
    simp only [Option.bind_some]
    rw [if_neg (by omega), w64_succ (by omega)]
    rw [List.append_assoc] at this
    simp only [List.length_append, List.length_cons, List.length_nil, List.singleton_append] at this
    exact this
theorem markSS_eq (R : List (List S40)) (h : R.length ≤ 1048576) (hr : ∀ r ∈ R, r.length ≤ 1048576) (hs : sumL R ≤ 10000) (k : Nat) (hk : 2097154 ≤ k) : laws_markFractionSS.f k R 1 = some (1 + 2 * (sumL R : Int), (markM R 1).1) := by
  have := markSS_loop R [] 1 k (by simpa using h) hr (by omega) (by omega) (by omega)
  rw [markM_snd] at this
  exact this
theorem heldSS_eq (R : List (List S40)) (h : R.length ≤ 1048576) (hr : ∀ r ∈ R, r.length ≤ 1048576) (hs : sumL R ≤ 10000) (k : Nat) (hk : 2097154 ≤ k) : laws_heldFractionSS.f k (markM R 1).1 1 = some (1 + 2 * (sumL R : Int)) := by
  have := heldSS_loop R [] 1 k (by simpa using h) hr (by omega) (by omega) (by omega)
  rw [markM_snd] at this
  exact this
theorem sumL_le : ∀ (R : List (List S40)) (b : Nat), (∀ r ∈ R, r.length ≤ b) → sumL R ≤ R.length * b
  | [], b, _ => Nat.zero_le _
  | r :: rs, b, h => by
    have a := sumL_le rs b (fun x hx => h x (List.mem_cons_of_mem _ hx))
    have c := h r List.mem_cons_self
    rw [sumL, List.length_cons, Nat.add_mul, Nat.one_mul]; omega

end Go.Proofs.Ytafkdkiagmbeaaa.Q
end

section
namespace Go.Proofs.Ytafkdkiagmbeaaa.Q
open Go.RowKit Go.Proofs.YtafkdkiagmbeaaaW.PrintWords Go.Proofs.YtafkdkiagmbeaaaW.PrintLast Go.Proofs.YtafkdkiagmbeaaaW.PrintMore
attribute [local go_sem] max2_int min2_int max_two min_two max_three min_three max_four min_four   -- for this text's walks alone
set_option linter.unusedVariables false
set_option linter.unusedSimpArgs false

section
variable (c : Nat → Nat → Int) (v : Nat → Nat → S40) (n : Nat)
/-- What the program writes for a place: the product, or 0 in place of one that is too great. -/
def cellP (i j : Nat) : S40 := if c i j = 0 then v i j else ⟨0, 1⟩
def rowP (i : Nat) : Nat → Nat → List S40
  | 0, _ => []
  | d + 1, j => cellP c v i j :: rowP i d (j + 1)
def badR (i : Nat) : Nat → Nat → Bool
  | 0, _ => false
  | d + 1, j => (c i j != 0) || badR i d (j + 1)
def rowsP : Nat → Nat → List (List S40)
  | 0, _ => []
  | d + 1, i => rowP c v i n 0 :: rowsP d (i + 1)
def badP : Nat → Nat → Bool
  | 0, _ => false
  | d + 1, i => badR c i n 0 || badP d (i + 1)
theorem rowP_length (i : Nat) : ∀ d j, (rowP c v i d j).length = d
  | 0, _ => rfl
  | d + 1, j => by rw [rowP, List.length_cons, rowP_length i d]
theorem rowsP_length : ∀ d i, (rowsP c v n d i).length = d
  | 0, _ => rfl
  | d + 1, i => by rw [rowsP, List.length_cons, rowsP_length d]
theorem rowsP_row : ∀ d i, ∀ r ∈ rowsP c v n d i, r.length = n
  | 0, _, r, h => by cases h
  | d + 1, i, r, h => by
    rw [rowsP, List.mem_cons] at h
    rcases h with rfl | h
    · exact rowP_length c v i n 0
    · exact rowsP_row d (i + 1) r h
variable {c v n}
theorem matrix_row (hn : n ≤ 8) {cb : Int → Int → Bool → Option (Int × Int × Bool)} {i : Nat} (hcb : ∀ (j : Nat) (s : Bool), j < n → cb i j s = some (if c i j = 0 then ((v i j).f0, (v i j).f1, s) else (0, 1, true))) (X : List (List S40)) (hX : X.length ≤ 8) :
    ∀ (d j k : Nat) (P : List S40) (s : Bool), j + d = n → P.length = j → d + 1 ≤ k →
      impl_matrix.s1 cb k n X i P n i n j s = impl_matrix.s0 cb (k - (d + 1)) n (X ++ [P ++ rowP c v i d j]) n (wrap64 ((i : Int) + 1)) (s || badR c i d j)
  | 0, j, k, P, s, hd, hP, hk => by
    obtain ⟨k, rfl⟩ : ∃ q, k = q + 1 := ⟨k - 1, by omega⟩
    rw [impl_matrix.s1, if_neg (by omega), if_pos (by omega), rowP, badR, List.append_nil, Bool.or_false]; rfl
  | d + 1, j, k, P, s, hd, hP, hk => by
    obtain ⟨k, rfl⟩ : ∃ q, k = q + 1 := ⟨k - 1, by omega⟩
    rw [impl_matrix.s1, if_pos (by omega), hcb j s (by omega)]
    simp only [Option.bind_some]
    rw [if_pos (by omega), w64_succ (by omega), show k + 1 - (d + 1 + 1) = k - (d + 1) from by omega, rowP, badR]
    by_cases h : c i j = 0
    · rw [if_pos h, matrix_row hn hcb X hX d (j + 1) k _ s (by omega) (by simp; omega) (by omega)]
      rw [List.append_assoc, show (c i j != 0) = false from by simp [h], Bool.false_or]
      unfold cellP; rw [if_pos h]; rfl
    · rw [if_neg h, matrix_row hn hcb X hX d (j + 1) k _ true (by omega) (by simp; omega) (by omega)]
      rw [List.append_assoc, show (c i j != 0) = true from by simp [h], Bool.true_or, Bool.or_true]
      unfold cellP; rw [if_neg h]; rfl
theorem matrix_rows (hn : n ≤ 8) {cb : Int → Int → Bool → Option (Int × Int × Bool)} (hcb : ∀ (i j : Nat) (s : Bool), i < n → j < n → cb i j s = some (if c i j = 0 then ((v i j).f0, (v i j).f1, s) else (0, 1, true))) :
    ∀ (d i k : Nat) (X : List (List S40)) (s : Bool), i + d = n → X.length = i → d * 10 + 1 ≤ k → impl_matrix.s0 cb k n X n i s = some (X ++ rowsP c v n d i, s || badP c n d i)
  | 0, i, k, X, s, hd, hX, hk => by
    obtain ⟨k, rfl⟩ : ∃ q, k = q + 1 := ⟨k - 1, by omega⟩
    rw [impl_matrix.s0, if_neg (by omega), rowsP, badP, List.append_nil, Bool.or_false]
  | d + 1, i, k, X, s, hd, hX, hk => by
    obtain ⟨k, rfl⟩ : ∃ q, k = q + 1 := ⟨k - 1, by omega⟩
    have row := matrix_row hn (i := i) (fun j s hj => hcb i j s (by omega) hj) X (by omega) n 0 k [] s (by omega) rfl (by omega)
    rw [show ((0 : Nat) : Int) = 0 from rfl] at row
    rw [impl_matrix.s0, if_pos (by omega), row, w64_succ (by omega), matrix_rows hn hcb d (i + 1) _ _ _ (by omega) (by simp; omega) (by omega)]
    rw [rowsP, badP, List.append_assoc, Bool.or_assoc]; rfl
theorem matrix_all (hn : n ≤ 8) {cb : Int → Int → Bool → Option (Int × Int × Bool)} (hcb : ∀ (i j : Nat) (s : Bool), i < n → j < n → cb i j s = some (if c i j = 0 then ((v i j).f0, (v i j).f1, s) else (0, 1, true))) (k : Nat) (hk : 100 ≤ k) :
    impl_matrix.fs cb k n false = some (rowsP c v n n 0, badP c n n 0) := by
  unfold impl_matrix.fs
  have := matrix_rows hn hcb n 0 k [] false (by omega) rfl (by omega)
  rw [show ((0 : Nat) : Int) = 0 from rfl] at this
  rw [this]; rfl
end

end Go.Proofs.Ytafkdkiagmbeaaa.Q
end

section
namespace Go.Proofs.Ytafkdkiagmbeaaa.Q
open Go.RowKit Go.Proofs.YtafkdkiagmbeaaaW.PrintWords Go.Proofs.YtafkdkiagmbeaaaW.PrintLast Go.Proofs.YtafkdkiagmbeaaaW.PrintMore
attribute [local go_sem] max2_int min2_int max_two min_two max_three min_three max_four min_four   -- for this text's walks alone
set_option linter.unusedVariables false
set_option linter.unusedSimpArgs false

def rowX (X : List (List S40)) (i : Nat) : List S40 := X.getD i []
theorem rowX_at (A R : List (List S40)) (Q : List S40) : rowX (A ++ Q :: R) A.length = Q := by
  unfold rowX
  rw [List.getD_eq_getElem?_getD, List.getElem?_append_right (Nat.le_refl _), Nat.sub_self]; rfl
section
variable {c : Nat → Nat → Int} {v : Nat → Nat → S40} {n K0 : Nat} {L0 : Nat → List (List S40) → Int → Option (List (List S40) × Int)} {L1 : Nat → List (List S40) → Int → Int → Option (List (List S40) × Int)}
theorem spec_row (z : S40) {i : Nat} (hi : i < n) (hc : ∀ j, c i j = 0 ∨ c i j = 3)
    (H1 : ∀ (k : Nat) X (j : Nat), K0 ≤ k → j < n → X.length = n → (rowX X i).length = n → L1 (k + 1) X i j = if c i j = 0 then L1 k (X.set i ((rowX X i).set j (v i j))) i ((j + 1 : Nat) : Int) else some ([], c i j))
    (H1e : ∀ (k : Nat) X, L1 (k + 1) X i n = L0 k X ((i + 1 : Nat) : Int)) :
    ∀ (d j k : Nat) (A R : List (List S40)) (P : List S40), j + d = n → A.length = i → P.length = j → A.length + 1 + R.length = n → K0 + d + 1 ≤ k →
      L1 k (A ++ (P ++ List.replicate d z) :: R) i j = if badR c i d j = true then some ([], 3) else L0 (k - (d + 1)) (A ++ (P ++ rowP c v i d j) :: R) ((i + 1 : Nat) : Int)
  | 0, j, k, A, R, P, hd, hA, hP, hR, hk => by
    obtain ⟨k, rfl⟩ : ∃ q, k = q + 1 := ⟨k - 1, by omega⟩
    obtain rfl : j = n := by omega
    rw [H1e, badR, if_neg (by simp), rowP]; rfl
  | d + 1, j, k, A, R, P, hd, hA, hP, hR, hk => by
    obtain ⟨k, rfl⟩ : ∃ q, k = q + 1 := ⟨k - 1, by omega⟩
    subst hA
    rw [H1 k _ j (by omega) (by omega) (by simp; omega) (by rw [rowX_at]; simp; omega), rowX_at]
    rcases hc j with h | h
    · rw [if_pos h, badR, show (c A.length j != 0) = false from by simp [h], Bool.false_or]
      have ih := spec_row z hi hc H1 H1e d (j + 1) k A R (P ++ [v A.length j]) (by omega) rfl (by simp; omega) hR (by omega)
      rw [show k + 1 - (d + 1 + 1) = k - (d + 1) from by omega, rowP]
      have e : (A ++ (P ++ List.replicate (d + 1) z) :: R).set A.length ((P ++ List.replicate (d + 1) z).set j (v A.length j)) = A ++ (P ++ [v A.length j] ++ List.replicate d z) :: R := by
        rw [setAt_, List.replicate_succ, ← hP, setAt_, List.append_assoc]; rfl
      rw [e, ih]
      unfold cellP; rw [if_pos h, List.append_assoc]; rfl
    · rw [if_neg (by rw [h]; decide), badR, show (c A.length j != 0) = true from by simp [h], Bool.true_or, if_pos rfl, h]
theorem spec_rows (z : S40) (hc : ∀ i j, c i j = 0 ∨ c i j = 3)
    (H1 : ∀ (k : Nat) X (i j : Nat), K0 ≤ k → i < n → j < n → X.length = n → (rowX X i).length = n → L1 (k + 1) X i j = if c i j = 0 then L1 k (X.set i ((rowX X i).set j (v i j))) i ((j + 1 : Nat) : Int) else some ([], c i j))
    (H1e : ∀ (k : Nat) X (i : Nat), i < n → L1 (k + 1) X i n = L0 k X ((i + 1 : Nat) : Int))
    (H0 : ∀ (k : Nat) X (i : Nat), i < n → L0 (k + 1) X i = L1 k X i 0) (H0e : ∀ (k : Nat) X, L0 (k + 1) X n = some (X, 0)) (hn : n ≤ 8) :
    ∀ (d i k : Nat) (A : List (List S40)), i + d = n → A.length = i → K0 + d * 10 + 20 ≤ k →
      L0 k (A ++ List.replicate d (List.replicate n z)) i = if badP c n d i = true then some ([], 3) else some (A ++ rowsP c v n d i, 0)
  | 0, i, k, A, hd, hA, hk => by
    obtain ⟨k, rfl⟩ : ∃ q, k = q + 1 := ⟨k - 1, by omega⟩
    obtain rfl : i = n := by omega
    rw [H0e, badP, if_neg (by simp), rowsP]; rfl
  | d + 1, i, k, A, hd, hA, hk => by
    obtain ⟨k, rfl⟩ : ∃ q, k = q + 1 := ⟨k - 1, by omega⟩
    have row := spec_row (c := c) (v := v) (n := n) (K0 := K0) (L0 := L0) (L1 := L1) z (i := i) (by omega) (hc i) (fun k X j a b x y => H1 k X i j a (by omega) b x y) (fun k X => H1e k X i (by omega)) n 0 k A (List.replicate d (List.replicate n z)) [] (by omega) hA rfl (by simp; omega) (by omega)
    rw [H0 k _ i (by omega), List.replicate_succ]
    rw [show ((0 : Nat) : Int) = 0 from rfl, List.nil_append] at row
    rw [row, badP]
    cases hb : badR c i n 0
    · rw [if_neg (by simp), Bool.false_or]
      have ih := spec_rows z hc H1 H1e H0 H0e hn d (i + 1) (k - (n + 1)) (A ++ [rowP c v i n 0]) (by omega) (by simp; omega) (by omega)
      rw [List.append_assoc] at ih
      rw [List.nil_append, rowsP]
      exact ih.trans (by rw [List.append_assoc]; rfl)
    · rw [if_pos rfl, Bool.true_or, if_pos rfl]
end
instance instDecS : DecidableEq S40 := fun a b => if h : a.f0 = b.f0 ∧ a.f1 = b.f1 then isTrue (by cases a; cases b; simp_all) else isFalse (by rintro rfl; exact h ⟨rfl, rfl⟩)
theorem empty_all : ∀ n : Nat, n < 9 → spec_l02Empty.f 200 (n : Int) = some (List.replicate n (List.replicate n (⟨0, 1⟩ : S40))) := by decide +kernel
theorem empty_eq {n : Nat} (hn : n ≤ 8) (k : Nat) (hk : 200 ≤ k) : spec_l02Empty.f k (n : Int) = some (List.replicate n (List.replicate n (⟨0, 1⟩ : S40))) :=
  LeO_ge (F := fun k => spec_l02Empty.f k (n : Int)) (fun k => spec_l02Empty.mono _ k) hk _ (empty_all n (by omega))

end Go.Proofs.Ytafkdkiagmbeaaa.Q
end

section
namespace Go.Proofs.Ytafkdkiagmbeaaa.Q
open Go.RowKit Go.Proofs.YtafkdkiagmbeaaaW.PrintWords Go.Proofs.YtafkdkiagmbeaaaW.PrintLast Go.Proofs.YtafkdkiagmbeaaaW.PrintMore
attribute [local go_sem] max2_int min2_int max_two min_two max_three min_three max_four min_four   -- for this text's walks alone
set_option linter.unusedVariables false
set_option linter.unusedSimpArgs false

theorem eqA40 (d : Nat) (w : World) (x0 y0 : Int) (x1 y1 : Int) :
    (Op.equalIn (d + 2) 40 (.agg #[.int .i64 x0, .int .i64 x1]) (.agg #[.int .i64 y0, .int .i64 y1])).run Try.prog w = .ok (x0 == y0 && (x1 == y1)) w := by
  refine eqA_of Try.underlying40 (by kernel_rfl) ?_
  refine eqf_cons (by rfl) (by go_simp; rfl) (by go_simp; rfl) (by go_simp) ?_
  exact eqf_last (by rfl) (by go_simp; rfl) (by go_simp; rfl) (by go_simp)
end Go.Proofs.Ytafkdkiagmbeaaa.Q
end

section
namespace Go.Proofs.Ytafkdkiagmbeaaa.Q
open Go.RowKit Go.Proofs.YtafkdkiagmbeaaaW.PrintWords Go.Proofs.YtafkdkiagmbeaaaW.PrintLast Go.Proofs.YtafkdkiagmbeaaaW.PrintMore
attribute [local go_sem] max2_int min2_int max_two min_two max_three min_three max_four min_four   -- for this text's walks alone
set_option linter.unusedVariables false
set_option linter.unusedSimpArgs false

attribute [local go_sem high] eqA40
end Go.Proofs.Ytafkdkiagmbeaaa.Q
end

section
namespace Go.Proofs.Ytafkdkiagmbeaaa.Q
open Go.RowKit Go.Proofs.YtafkdkiagmbeaaaW.PrintWords Go.Proofs.YtafkdkiagmbeaaaW.PrintLast Go.Proofs.YtafkdkiagmbeaaaW.PrintMore
attribute [local go_sem] max2_int min2_int max_two min_two max_three min_three max_four min_four   -- for this text's walks alone
set_option linter.unusedVariables false
set_option linter.unusedSimpArgs false

end Go.Proofs.Ytafkdkiagmbeaaa.Q
end

section
namespace Go.Proofs.Ytafkdkiagmbeaaa.Q
open Go.RowKit Go.Proofs.YtafkdkiagmbeaaaW.PrintWords Go.Proofs.YtafkdkiagmbeaaaW.PrintLast Go.Proofs.YtafkdkiagmbeaaaW.PrintMore
attribute [local go_sem] max2_int min2_int max_two min_two max_three min_three max_four min_four   -- for this text's walks alone
set_option linter.unusedVariables false
set_option linter.unusedSimpArgs false

end Go.Proofs.Ytafkdkiagmbeaaa.Q
end

section
namespace Go.Proofs.Ytafkdkiagmbeaaa.Q
open Go.RowKit Go.Proofs.YtafkdkiagmbeaaaW.PrintWords Go.Proofs.YtafkdkiagmbeaaaW.PrintLast Go.Proofs.YtafkdkiagmbeaaaW.PrintMore
attribute [local go_sem] max2_int min2_int max_two min_two max_three min_three max_four min_four   -- for this text's walks alone
set_option linter.unusedVariables false
set_option linter.unusedSimpArgs false

end Go.Proofs.Ytafkdkiagmbeaaa.Q
end

section
namespace Go.Proofs.Ytafkdkiagmbeaaa.Q
open Go.RowKit Go.Proofs.YtafkdkiagmbeaaaW.PrintWords Go.Proofs.YtafkdkiagmbeaaaW.PrintLast Go.Proofs.YtafkdkiagmbeaaaW.PrintMore
attribute [local go_sem] max2_int min2_int max_two min_two max_three min_three max_four min_four   -- for this text's walks alone
set_option linter.unusedVariables false
set_option linter.unusedSimpArgs false

end Go.Proofs.Ytafkdkiagmbeaaa.Q
end

section
namespace Go.Proofs.Ytafkdkiagmbeaaa.Q
open Go.RowKit Go.Proofs.YtafkdkiagmbeaaaW.PrintWords Go.Proofs.YtafkdkiagmbeaaaW.PrintLast Go.Proofs.YtafkdkiagmbeaaaW.PrintMore
attribute [local go_sem] max2_int min2_int max_two min_two max_three min_three max_four min_four   -- for this text's walks alone
set_option linter.unusedVariables false
set_option linter.unusedSimpArgs false

attribute [local go_sem high] eqA40
end Go.Proofs.Ytafkdkiagmbeaaa.Q
end

section
namespace Go.Proofs.Ytafkdkiagmbeaaa.Q
open Go.RowKit Go.Proofs.YtafkdkiagmbeaaaW.PrintWords Go.Proofs.YtafkdkiagmbeaaaW.PrintLast Go.Proofs.YtafkdkiagmbeaaaW.PrintMore
attribute [local go_sem] max2_int min2_int max_two min_two max_three min_three max_four min_four   -- for this text's walks alone
set_option linter.unusedVariables false
set_option linter.unusedSimpArgs false

theorem ValidFraction_eq (k : Nat) (hk : 1000000000 < k) (p q : Int) : impl_ValidFraction.f k p q = some (okF p q) := by
  unfold impl_ValidFraction.f okF
  by_cases h : q > 0 ∧ p ≥ -1000000000 ∧ p ≤ 1000000000 ∧ q ≤ 1000000000
  · obtain ⟨a, b, c, d⟩ := h
    rw [if_pos a, if_pos b, if_pos c, if_pos d]
    unfold impl_gcd.f
    rw [gcd_eq k p q (by omega) (by omega) (by omega)]; simp only [Option.bind_some]
    congr 1
    by_cases g : Nat.gcd p.natAbs q.natAbs = 1
    · rw [show (((Nat.gcd p.natAbs q.natAbs : Nat) : Int) == 1) = true from by rw [g]; rfl]; symm; rw [decide_eq_true_eq]; exact ⟨b, c, by omega, d, g⟩
    · rw [show (((Nat.gcd p.natAbs q.natAbs : Nat) : Int) == 1) = false from by rw [beq_eq_false_iff_ne]; omega]; symm; rw [decide_eq_false_iff_not]; exact fun x => g x.2.2.2.2
  · rw [show decide (-1000000000 ≤ p ∧ p ≤ 1000000000 ∧ 1 ≤ q ∧ q ≤ 1000000000 ∧ Nat.gcd p.natAbs q.natAbs = 1) = false from by rw [decide_eq_false_iff_not]; omega]
    split
    · split
      · split
        · split
          · omega
          · rfl
        · rfl
      · rfl
    · rfl

end Go.Proofs.Ytafkdkiagmbeaaa.Q
end

section
namespace Go.Proofs.Ytafkdkiagmbeaaa.Q
open Go.RowKit Go.Proofs.YtafkdkiagmbeaaaW.PrintWords Go.Proofs.YtafkdkiagmbeaaaW.PrintLast Go.Proofs.YtafkdkiagmbeaaaW.PrintMore
attribute [local go_sem] max2_int min2_int max_two min_two max_three min_three max_four min_four   -- for this text's walks alone
set_option linter.unusedVariables false
set_option linter.unusedSimpArgs false

def okS (f : S40) : Prop := okF f.f0 f.f1 = true
abbrev rowM (M : List (List S40)) (i : Nat) : List S40 := M.getD i []
theorem rdL_nat (M : List (List S40)) (i : Nat) : rd_L3 M (i : Int) = rowM M i := id rfl
theorem rdT_nat (l : List S40) (i : Nat) : rd_T40 l (i : Int) = l.getD i z40 := id rfl
theorem badT_eq (p q : Int) : impl_badFractionT.f p q = some (!okF p q) := by
  refine impl_badFractionT.of p q (k := 1000000001) ?_
  unfold impl_badFraction.f
  rw [ValidFraction_eq 1000000001 (by omega)]; rfl
theorem idxF_loop (l : List S40) (hl : l.length ≤ 256) (cb : Int → Int → Option Bool) (hcb : ∀ p q, cb p q = some (!okF p q)) :
    ∀ (d i k : Nat), i + d = l.length → d + 1 ≤ k → ((∀ i', i ≤ i' → i' < l.length → okS (l.getD i' z40)) → impl_Fraction_130.l0 cb k l (l.length : Int) i = some (-1)) ∧ (¬ (∀ i', i ≤ i' → i' < l.length → okS (l.getD i' z40)) → ∃ r : Int, 0 ≤ r ∧ impl_Fraction_130.l0 cb k l (l.length : Int) i = some r)
  | 0, i, k, hd, hk => by
    obtain ⟨k, rfl⟩ : ∃ q, k = q + 1 := ⟨k - 1, by omega⟩
    rw [impl_Fraction_130.l0, if_neg (by omega)]
    exact ⟨fun _ => rfl, fun h => absurd (fun j' a b => by omega) h⟩
  | d + 1, i, k, hd, hk => by
    obtain ⟨k, rfl⟩ : ∃ q, k = q + 1 := ⟨k - 1, by omega⟩
    have hi : i < l.length := by omega
    have ih := idxF_loop l hl cb hcb d (i + 1) k (by omega) (by omega)
    rw [impl_Fraction_130.l0, if_pos (by omega), if_pos (by omega), if_pos (by omega), hcb, w64_succ (by omega)]
    simp only [Option.bind_some, rdT_nat]
    by_cases ho : okF (l.getD i z40).f0 (l.getD i z40).f1 = true
    · rw [if_neg (by rw [ho]; simp)]
      refine ⟨fun h => ih.1 fun i' a b => h i' (by omega) b, fun h => ih.2 fun h' => h fun i' a b => ?_⟩
      rcases Nat.eq_or_lt_of_le a with rfl | a
      · exact ho
      · exact h' i' a b
    · rw [if_pos (by simpa using ho)]
      exact ⟨fun h => absurd (h i (Nat.le_refl _) hi) ho, fun _ => ⟨i, by omega, rfl⟩⟩
end Go.Proofs.Ytafkdkiagmbeaaa.Q
end

section
namespace Go.Proofs.Ytafkdkiagmbeaaa.Q
open Go.RowKit Go.Proofs.YtafkdkiagmbeaaaW.PrintWords Go.Proofs.YtafkdkiagmbeaaaW.PrintLast Go.Proofs.YtafkdkiagmbeaaaW.PrintMore
attribute [local go_sem] max2_int min2_int max_two min_two max_three min_three max_four min_four   -- for this text's walks alone
set_option linter.unusedVariables false
set_option linter.unusedSimpArgs false

theorem specList_loop (l : List S40) (hl : l.length ≤ 1048576) :
    ∀ (d i k : Nat), i + d = l.length → d + 1000000002 ≤ k → ((∀ i', i ≤ i' → i' < l.length → okS (l.getD i' z40)) → spec_l02List.l0 k l i = some (decide ((l.length : Int) ≤ 256))) ∧ (¬ (∀ i', i ≤ i' → i' < l.length → okS (l.getD i' z40)) → spec_l02List.l0 k l i = some false)
  | 0, i, k, hd, hk => by
    obtain ⟨k, rfl⟩ : ∃ q, k = q + 1 := ⟨k - 1, by omega⟩
    rw [spec_l02List.l0, if_neg (by omega)]
    exact ⟨fun _ => rfl, fun h => absurd (fun j' a b => by omega) h⟩
  | d + 1, i, k, hd, hk => by
    obtain ⟨k, rfl⟩ : ∃ q, k = q + 1 := ⟨k - 1, by omega⟩
    have hi : i < l.length := by omega
    have ih := specList_loop l hl d (i + 1) k (by omega) (by omega)
    rw [spec_l02List.l0, if_pos (by omega), if_pos (by omega), l02Ok_eq k (by omega), w64_succ (by omega)]
    simp only [Option.bind_some, rdT_nat]
    by_cases ho : okF (l.getD i z40).f0 (l.getD i z40).f1 = true
    · rw [if_pos ho]
      refine ⟨fun h => ih.1 fun i' a b => h i' (by omega) b, fun h => ih.2 fun h' => h fun i' a b => ?_⟩
      rcases Nat.eq_or_lt_of_le a with rfl | a
      · exact ho
      · exact h' i' a b
    · rw [if_neg ho]
      exact ⟨fun h => absurd (h i (Nat.le_refl _) hi) ho, fun _ => rfl⟩
/-- A list of at most 256 valid fractions. -/
def goodS (l : List S40) : Prop := l.length ≤ 256 ∧ ∀ i, i < l.length → okS (l.getD i z40)
theorem specList_eq (l : List S40) (hl : l.length ≤ 1048576) (k : Nat) (hk : 1002000000 ≤ k) : (goodS l → spec_l02List.f k l = some true) ∧ (¬ goodS l → spec_l02List.f k l = some false) := by
  have a := specList_loop l hl l.length 0 k (by omega) (by omega)
  rw [show ((0 : Nat) : Int) = 0 from rfl] at a
  unfold spec_l02List.f
  refine ⟨fun h => ?_, fun h => ?_⟩
  · rw [a.1 fun i' _ hi => h.2 i' hi, decide_eq_true (by have := h.1; omega)]
  · by_cases h' : ∀ i', 0 ≤ i' → i' < l.length → okS (l.getD i' z40)
    · rw [a.1 h', decide_eq_false fun hx => h ⟨by omega, fun i hi => h' i (Nat.zero_le _) hi⟩]
    · exact a.2 h'
theorem validList_eq (l : List S40) (k : Nat) (hk : 1000 ≤ k) : (goodS l → impl_validList.f k l = some true) ∧ (¬ goodS l → impl_validList.f k l = some false) := by
  unfold impl_validList.f impl_Fraction_100.f impl_Fraction_130.f
  by_cases hl : l.length ≤ 256
  · rw [if_pos (by omega)]
    have a := idxF_loop l hl (fun y0_0 y0_1 => impl_badFractionT.f y0_0 y0_1) badT_eq l.length 0 k (by omega) (by omega)
    rw [show ((0 : Nat) : Int) = 0 from rfl] at a
    refine ⟨fun h => ?_, fun h => ?_⟩
    · rw [a.1 fun i' _ hi => h.2 i' hi]; rfl
    · obtain ⟨r, h0, hr⟩ := a.2 fun h' => h ⟨hl, fun i hi => h' i (Nat.zero_le _) hi⟩
      rw [hr]; simp [h0]
  · rw [if_neg (by omega)]
    exact ⟨fun h => absurd h.1 hl, fun _ => rfl⟩
section
variable (l : List S40)
def sqL (i j : Nat) : Int × Int × Int := lowS ((l.getD i z40).f0 * (l.getD j z40).f0) ((l.getD i z40).f1 * (l.getD j z40).f1)
def sqC (i j : Nat) : Int := (sqL l i j).2.2
def sqV (i j : Nat) : S40 := ⟨(sqL l i j).1, (sqL l i j).2.1⟩
theorem sq_code (i j : Nat) : sqC l i j = 0 ∨ sqC l i j = 3 := by
  unfold sqC
  rcases lowS_code ((l.getD i z40).f0 * (l.getD j z40).f0) ((l.getD i z40).f1 * (l.getD j z40).f1) with h | h
  · exact .inl h
  · right; unfold sqL; rw [h]
variable {l} (hg : goodS l) (h8 : l.length ≤ 8)
include hg h8
theorem specSq_eq (k : Nat) (hk : 1000000000000000200 ≤ k) : spec_l02Square.f k l = some (if badP (sqC l) l.length l.length 0 = true then ([], 3) else (rowsP (sqC l) (sqV l) l.length l.length 0, 0)) := by
  have key := spec_rows (c := sqC l) (v := sqV l) (n := l.length) (K0 := 1000000000000000002) (L0 := fun k X i => spec_l02Square.l0 k l X i) (L1 := fun k X i j => spec_l02Square.l1 k l X i j) (⟨0, 1⟩ : S40) (sq_code l)
    (fun k X i j hK hi hj hX hr => by
      have ho := mul_reach (hg.2 i hi) (hg.2 j hj)
      rw [spec_l02Square.l1, if_pos (by omega), if_pos (by omega), if_pos (by omega), if_pos (by omega)]
      simp only [rdT_nat]
      rw [spec_mul k (by omega) _ _ _ _ ho.1 ho.2.1 ho.2.2]
      simp only [Option.bind_some]
      unfold rowX at hr ⊢
      show (if sqC l i j = 0 then _ else _) = _
      by_cases h : sqC l i j = 0
      · rw [if_pos h, if_pos h, if_pos (by omega), rdL_nat, if_pos (by show (j : Int) < ((X.getD i []).length : Int); omega), w64_succ (by omega), Int.toNat_natCast, Int.toNat_natCast]; rfl
      · rw [if_neg h, if_neg h]; rfl)
    (fun k X i hi => by rw [spec_l02Square.l1, if_neg (by omega), w64_succ (by omega)])
    (fun k X i hi => by rw [spec_l02Square.l0, if_pos (by omega)])
    (fun k X => by rw [spec_l02Square.l0, if_neg (by omega)]) h8 l.length 0 k [] (by omega) rfl (by omega)
  unfold spec_l02Square.f
  rw [empty_eq h8 k (by omega)]
  simp only [Option.bind_some]
  rw [List.nil_append, List.nil_append, show ((0 : Nat) : Int) = 0 from rfl] at key
  rw [key]; split <;> rfl
theorem implSq_eq (k : Nat) (hk : 1000 ≤ k) : impl_matrix.fs (fun y0 y1 s_ => impl_SquareMatrix_1T.f y0 y1 s_ l) k (l.length : Int) false = some (rowsP (sqC l) (sqV l) l.length l.length 0, badP (sqC l) l.length l.length 0) :=
  matrix_all h8 (fun i j s hi hj => by
    have ho := mul_reach (hg.2 i hi) (hg.2 j hj)
    refine impl_SquareMatrix_1T.of (k := 1000000000000000002) _ _ _ _ ?_
    unfold impl_SquareMatrix_1.f
    rw [if_pos (by omega), if_pos (by omega), if_pos (by omega), if_pos (by omega)]
    simp only [rdT_nat]
    rw [impl_mul _ (Nat.le_refl _) s _ _ _ _ ho.1 ho.2.1 ho.2.2]; rfl) k (by omega)
end
theorem square_both (l : List S40) (hl : l.length ≤ 1048576) : ∃ (R : List (List S40)) (cd : Int), R.length ≤ 8 ∧ (∀ r ∈ R, r.length ≤ 8) ∧ ∀ k, 1000000000000000200 ≤ k → spec_SquareMatrix.f k l = some (R, cd) ∧ impl_SquareMatrix.f k l = some (R, cd) := by
  by_cases hg : goodS l
  · by_cases h8 : l.length ≤ 8
    · by_cases hb : badP (sqC l) l.length l.length 0 = true
      · refine ⟨[], 3, by simp, by simp, fun k hk => ⟨?_, ?_⟩⟩
        · unfold spec_SquareMatrix.f
          rw [(specList_eq l hl k (by omega)).1 hg]; simp only [Option.bind_some, if_true]
          rw [if_neg (by omega), specSq_eq hg h8 k hk, if_pos hb]; rfl
        · unfold impl_SquareMatrix.f
          rw [(validList_eq l k (by omega)).1 hg]; simp only [Option.bind_some, if_true]
          rw [if_neg (by omega), implSq_eq hg h8 k (by omega), hb]; rfl
      · have hb' : badP (sqC l) l.length l.length 0 = false := by simpa using hb
        refine ⟨rowsP (sqC l) (sqV l) l.length l.length 0, 0, by rw [rowsP_length]; exact h8, fun r hr => by rw [rowsP_row _ _ _ _ _ r hr]; exact h8, fun k hk => ⟨?_, ?_⟩⟩
        · unfold spec_SquareMatrix.f
          rw [(specList_eq l hl k (by omega)).1 hg]; simp only [Option.bind_some, if_true]
          rw [if_neg (by omega), specSq_eq hg h8 k hk, if_neg hb]; rfl
        · unfold impl_SquareMatrix.f
          rw [(validList_eq l k (by omega)).1 hg]; simp only [Option.bind_some, if_true]
          rw [if_neg (by omega), implSq_eq hg h8 k (by omega), hb']; rfl
    · refine ⟨[], 2, by simp, by simp, fun k hk => ⟨?_, ?_⟩⟩
      · unfold spec_SquareMatrix.f
        rw [(specList_eq l hl k (by omega)).1 hg]; simp only [Option.bind_some, if_true]
        rw [if_pos (by omega)]
      · unfold impl_SquareMatrix.f
        rw [(validList_eq l k (by omega)).1 hg]; simp only [Option.bind_some, if_true]
        rw [if_pos (by omega)]
  · refine ⟨[], 1, by simp, by simp, fun k hk => ⟨?_, ?_⟩⟩
    · unfold spec_SquareMatrix.f
      rw [(specList_eq l hl k (by omega)).2 hg]; rfl
    · unfold impl_SquareMatrix.f
      rw [(validList_eq l k (by omega)).2 hg]; rfl
theorem FnExactSquareMatrix_pure (m : List S36) (hm : m.length < 9223372036854775808 ∧ ∀ b ∈ m, (Lit.int .i64 b.f0).wf = true ∧ (Lit.int .i64 b.f1).wf = true) : ∃ k, laws_FnExactSquareMatrix.f k m = some true := by
  refine ⟨1000000000000000300, ?_⟩
  unfold laws_FnExactSquareMatrix.f laws_szFractionS.f
  rw [show wrap64 (1048576 - (m.length : Int)) = 1048576 - (m.length : Int) from by unfold wrap64; have := hm.1; omega]
  by_cases h1 : (1048576 - (m.length : Int)) < 0
  · rw [if_pos h1]; rfl
  rw [if_neg h1]
  simp only [Option.bind_some]
  rw [if_neg h1]
  have hl : m.length ≤ 1048576 := by omega
  have hl' : (toFs m).length ≤ 1048576 := by simpa [toFs] using hl
  obtain ⟨R, cd, h8, hr8, key⟩ := square_both (toFs m) hl'
  have hR : R.length ≤ 1048576 := by omega
  have hr : ∀ r ∈ R, r.length ≤ 1048576 := fun r h => Nat.le_trans (hr8 r h) (by omega)
  have hs : sumL R ≤ 10000 := Nat.le_trans (sumL_le R 8 hr8) (by omega)
  simp only [toFractionS_eq m hl _ (show 1048577 ≤ 1000000000000000300 by omega), Option.bind_some, (key 1000000000000000300 (by omega)).1, (key 1000000000000000300 (by omega)).2, eqFractionSS_self R hR hr _ (show 2097154 ≤ 1000000000000000300 by omega), if_true, bne_self_eq_false]
  rw [laws_FnExactSquareMatrix.j0, if_neg (by simp)]
  simp only [toFractionS_eq m hl _ (show 1048577 ≤ 1000000000000000299 by omega), Option.bind_some, eqFractionS_self _ hl' _ (show 1048577 ≤ 1000000000000000299 by omega), if_true, markFractionS_eq _ hl' 1 (by omega) (by omega) _ (show 1048577 ≤ 1000000000000000299 by omega)]
  rw [if_neg (by omega), eqFractionSS_self R hR hr _ (by omega)]
  simp only [Option.bind_some, if_true, bne_self_eq_false]
  rw [laws_FnExactSquareMatrix.j1, if_neg (by simp)]
  simp only [markSS_eq R hR hr hs _ (show 2097154 ≤ 1000000000000000298 by omega), Option.bind_some, heldSS_eq R hR hr hs _ (show 2097154 ≤ 1000000000000000298 by omega)]
  rw [if_neg (by omega), if_pos trivial]
  simp only [toFractionS_eq m hl _ (show 1048577 ≤ 1000000000000000298 by omega), Option.bind_some, (key 1000000000000000298 (by omega)).2, eqFractionSS_self R hR hr _ (show 2097154 ≤ 1000000000000000298 by omega), if_true, bne_self_eq_false]
  rw [laws_FnExactSquareMatrix.j2, if_neg (by simp)]
  simp only [Option.bind_some, heldSS_eq R hR hr hs _ (show 2097154 ≤ 1000000000000000297 by omega)]
  rw [if_neg (by omega), if_pos trivial]

end Go.Proofs.Ytafkdkiagmbeaaa.Q
end

section
namespace Go.Proofs.YtafkdkiagmbeaaaW.PrintWords
open Go Go.RowKit Go.ChangeShapes Go.WideShapes Go.ChangeAt Go.Deep
set_option linter.unusedVariables false
section
variable {H : Type} (enc : TypeId × Value → H) (P : Program) (W : World)
/-- Whatever reads as data of type t stands for a plain value. -/
def Opens {α : Type} (t : TypeId) (k : Kd α) (wf : α → Prop) : Prop :=
  ∀ (fuel : Nat) (cs : List Value) (x : DataW H × List MemPlace), DataW.trod enc P W 0 (fun _ => true) true fuel t cs = some x → ∃ a, k.K W a cs ∧ wf a
end
section
variable {H : Type} {enc : TypeId × Value → H} {P : Program} {W : World}
theorem Opens.int {t : TypeId} {k : IntKind} (ht : P.underlying t = some (.int k)) : Opens enc P W t (Kd.int k) (fun n => (Lit.int k n).wf = true) := by
  intro fuel cs x h
  obtain ⟨n, rfl, _, hw⟩ := DataW.trod_int ht h
  exact ⟨n, rfl, hw⟩
theorem Opens.bool {t : TypeId} (ht : P.underlying t = some .bool) : Opens enc P W t Kd.bool (fun _ => True) := by
  intro fuel cs x h
  obtain ⟨n, rfl, _⟩ := DataW.trod_bool ht h
  exact ⟨n, rfl, trivial⟩
theorem Opens.struct2 {α β : Type} {t : TypeId} {f0 f1 : Field} {k0 : Kd α} {k1 : Kd β} {p0 : α → Prop} {p1 : β → Prop} (ht : P.underlying t = some (.struct #[f0, f1])) (o0 : f0.offset = 0) (o1 : f1.offset = P.cellsOf f0.type) (hc : P.cellsOf t = P.cellsOf f0.type + P.cellsOf f1.type)
    (h0 : Opens enc P W f0.type k0 p0) (h1 : Opens enc P W f1.type k1 p1) : Opens enc P W t (Kd.pair k0 k1) (fun p => p0 p.1 ∧ p1 p.2) := by
  intro fuel cs x h
  obtain ⟨y0, y1, n, _, hl, e0, e1⟩ := trod_struct2 ht h
  obtain ⟨a, ka, wa⟩ := h0 n _ _ e0
  obtain ⟨b, kb, wb⟩ := h1 n _ _ e1
  refine ⟨(a, b), ⟨_, _, ?_, ka, kb⟩, wa, wb⟩
  rw [o0, o1, List.drop_zero, List.take_of_length_le (l := List.drop _ cs) (by rw [List.length_drop, hl, hc]; omega), List.take_append_drop]
theorem Opens.iso {α β : Type} {t : TypeId} {k : Kd α} {p : α → Prop} (f : β → α) (g : α → β) (hfg : ∀ a, f (g a) = a) (h : Opens enc P W t k p) : Opens enc P W t (Kd.iso k f) (fun b => p (f b)) := by
  intro fuel cs x hx
  obtain ⟨a, ka, wa⟩ := h fuel cs x hx
  exact ⟨g a, by show k.K W (f (g a)) cs; rw [hfg]; exact ka, by show p (f (g a)); rw [hfg]; exact wa⟩
theorem Opens.slice {α : Type} (z : α) {t e : TypeId} {k : Kd α} {p : α → Prop} (ht : P.underlying t = some (.slice e)) (hs : k.sz = P.cellsOf e) (h : Opens enc P W e k p) : Opens enc P W t (Kd.slice e k) (fun l => l.length < 9223372036854775808 ∧ ∀ a ∈ l, p a) := by
  haveI : Inhabited α := ⟨z⟩
  intro fuel cs x hx
  rcases open_slice ht hx with ⟨rfl, _⟩ | ⟨ad, len, cap, m, n, D, Pl, rfl, _, hl, hm, hmm, _, hel⟩
  · exact ⟨[], ⟨none, 0, rfl, Nat.le_refl _, rfl, by simp, fun h0 => absurd h0 (Nat.lt_irrefl 0)⟩, by simp, fun a ha => by cases ha⟩
  · have hlm : len ≤ m := by
      rw [hmm]; split
      · exact hl
      · exact Nat.le_refl _
    obtain ⟨F, hF⟩ := choose_lt (α := α) (n := len) (p := fun i a => p a ∧ ∃ cs', k.K W a cs' ∧ W.cells? 0 (ad.add (i * P.cellsOf e)) (P.cellsOf e) = some cs') (fun i hi => by
      obtain ⟨cs', h1, h2⟩ := hel i (by omega)
      obtain ⟨a, ka, wa⟩ := h n _ _ h2
      exact ⟨a, wa, cs', ka, h1⟩)
    refine ⟨(List.range len).map F, ⟨some ad, cap, by simp, by simpa using hl, by simp, by simp; unfold maxLen at hm; omega, fun _ => ⟨ad, rfl, fun j q hq => ?_⟩⟩, by simp; unfold maxLen at hm; omega, fun a ha => ?_⟩
    · obtain ⟨hj, rfl⟩ : j < len ∧ F j = q := by
        rw [List.getElem?_map] at hq
        rcases Nat.lt_or_ge j len with hj | hj
        · rw [List.getElem?_range hj] at hq; exact ⟨hj, by simpa using hq⟩
        · rw [List.getElem?_eq_none (by simpa using hj)] at hq; simp at hq
      obtain ⟨_, cs', ka, h1⟩ := hF j hj
      obtain ⟨_, hlen, hcell⟩ := World.cells?_some h1
      refine ⟨cs', k.K_len ka, ka, fun i u hu => ?_⟩
      have hi : i < P.cellsOf e := by rw [← hlen]; exact (List.getElem?_eq_some_iff.1 hu).1
      rw [hs, ← add_add, hcell i hi]; exact hu
    · obtain ⟨i, hi, rfl⟩ := List.mem_map.1 ha
      exact (hF i (List.mem_range.1 hi)).1
end
end Go.Proofs.YtafkdkiagmbeaaaW.PrintWords
end
