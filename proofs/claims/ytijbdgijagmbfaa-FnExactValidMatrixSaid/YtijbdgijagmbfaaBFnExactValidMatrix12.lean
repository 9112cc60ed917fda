/- Contracts of Go functions and plain lemmas over what they compute; printed by the kit's print program or written by hand, joined. -/
import Derived.Test.YtijbdgijagmbfaaBFnExactValidMatrix1
import Derived.Test.YtijbdgijagmbfaaBFnExactValidMatrix2
import Derived.Test.YtijbdgijagmbfaaBFnExactValidMatrix3
import Derived.Test.YtijbdgijagmbfaaBFnExactValidMatrix4
import Derived.Test.YtijbdgijagmbfaaBFnExactValidMatrix5
import Derived.Test.YtijbdgijagmbfaaBFnExactValidMatrix6
import Derived.Test.YtijbdgijagmbfaaBFnExactValidMatrix8
import Derived.Test.YtijbdgijagmbfaaBFnExactValidMatrix9
import Derived.Test.YtijbdgijagmbfaaBFnExactValidMatrix7
import Derived.Test.YtijbdgijagmbfaaBFnExactValidMatrix10
import Derived.Test.YtijbdgijagmbfaaBFnExactValidMatrix11
section
/- A contract of one Go function: what it returns for its arguments; printed by the kit's print program or written by hand. -/
namespace Go.Proofs.Ytijbdgijagmbfaa.Q
open Go.RowKit Go.Proofs.YtijbdgijagmbfaaW.PrintWords Go.Proofs.YtijbdgijagmbfaaW.PrintLast Go.Proofs.YtijbdgijagmbfaaW.PrintMore
attribute [local go_sem] max2_int min2_int max_two min_two max_three min_three max_four min_four   -- for this text's walks alone
set_option linter.unusedVariables false
set_option linter.unusedSimpArgs false

/-! #### pure: FracS -/
theorem w64_succ {i : Nat} (h : i < 1048577) : wrap64 ((i : Int) + 1) = ((i + 1 : Nat) : Int) := by unfold wrap64; omega
theorem getD_of_lt {α : Type} (l : List α) (d : α) {i : Nat} (h : i < l.length) : l.getD ((i : Int)).toNat d = l[i] := by
  rw [Int.toNat_natCast, List.getD_eq_getElem?_getD, List.getElem?_eq_getElem h]; rfl
theorem set_take {α : Type} (out : List α) (x : α) {i : Nat} (h : i < out.length) : (out.set i x).take (i + 1) = out.take i ++ [x] := by
  rw [List.take_succ_eq_append_getElem (by rw [List.length_set]; exact h), List.take_set_of_le (Nat.le_refl _), List.getElem_set_self]
def toF (x : S40) : S42 := ⟨x.f0, x.f1⟩
def toFs (l : List S40) : List S42 := l.map toF
def toFss (l : List (List S40)) : List (List S42) := l.map toFs
def sizeFss (l : List (List S40)) : Nat := l.length + (l.map List.length).sum
theorem toFractionS_loop (l : List S40) (hl : l.length ≤ 1048576) : ∀ (d i k : Nat) (out : List S42), i + d = l.length → out.length = l.length → d + 1 ≤ k → laws_toFractionS.l0 k l out i = some (out.take i ++ (l.drop i).map toF)
  | 0, i, k, out, hd, ho, hk => by
    obtain ⟨k, rfl⟩ : ∃ q, k = q + 1 := ⟨k - 1, by omega⟩
    rw [laws_toFractionS.l0, if_neg (by omega), List.drop_eq_nil_of_le (by omega), List.take_of_length_le (by omega)]; simp
  | d + 1, i, k, out, hd, ho, hk => by
    obtain ⟨k, rfl⟩ : ∃ q, k = q + 1 := ⟨k - 1, by omega⟩
    rw [laws_toFractionS.l0, if_pos (by omega), if_pos (by omega), laws_toFraction.f]
    simp only [Option.bind_some]
    rw [if_pos (by omega), w64_succ (by omega), Int.toNat_natCast]
    rw [toFractionS_loop l hl d (i + 1) k _ (by omega) (by rw [List.length_set]; exact ho) (by omega), set_take _ _ (by omega), List.append_assoc]
    congr 2
    rw [List.drop_eq_getElem_cons (show i < l.length by omega), List.map_cons]
    show [_] ++ _ = _
    congr 1
    unfold rd_T40
    rw [getD_of_lt _ _ (by omega)]; rfl
theorem toFractionS_eq (l : List S40) (hl : l.length ≤ 1048576) (k : Nat) (hk : 1048577 ≤ k) : laws_toFractionS.f k l = some (toFs l) := by
  unfold laws_toFractionS.f
  rw [if_pos (by omega), if_pos (by omega)]
  have := toFractionS_loop l hl l.length 0 k (List.replicate ((l.length : Int) : Int).toNat z42) (by omega) (by simp) (by omega)
  rw [show ((0 : Nat) : Int) = 0 from rfl] at this
  rw [this]; simp [toFs]
theorem toFractionSS_loop (l : List (List S40)) (hl : l.length ≤ 1048576) (hr : ∀ r ∈ l, r.length ≤ 1048576) : ∀ (d i k : Nat) (out : List (List S42)), i + d = l.length → out.length = l.length → d + 1048578 ≤ k → laws_toFractionSS.l0 k l out i = some (out.take i ++ (l.drop i).map toFs)
  | 0, i, k, out, hd, ho, hk => by
    obtain ⟨k, rfl⟩ : ∃ q, k = q + 1 := ⟨k - 1, by omega⟩
    rw [laws_toFractionSS.l0, if_neg (by omega), List.drop_eq_nil_of_le (by omega), List.take_of_length_le (by omega)]; simp
  | d + 1, i, k, out, hd, ho, hk => by
    obtain ⟨k, rfl⟩ : ∃ q, k = q + 1 := ⟨k - 1, by omega⟩
    rw [laws_toFractionSS.l0, if_pos (by omega), if_pos (by omega)]
    unfold rd_L7
    rw [getD_of_lt _ _ (show i < l.length by omega), toFractionS_eq _ (hr _ (List.getElem_mem _)) k (by omega)]
    simp only [Option.bind_some]
    rw [if_pos (by omega), w64_succ (by omega), Int.toNat_natCast]
    rw [toFractionSS_loop l hl hr d (i + 1) k _ (by omega) (by rw [List.length_set]; exact ho) (by omega), set_take _ _ (by omega), List.append_assoc]
    congr 2
    rw [List.drop_eq_getElem_cons (show i < l.length by omega), List.map_cons]
    rfl
theorem toFractionSS_eq (l : List (List S40)) (hl : l.length ≤ 1048576) (hr : ∀ r ∈ l, r.length ≤ 1048576) (k : Nat) (hk : 2097154 ≤ k) : laws_toFractionSS.f k l = some (toFss l) := by
  unfold laws_toFractionSS.f
  rw [if_pos (by omega), if_pos (by omega)]
  have := toFractionSS_loop l hl hr l.length 0 k (List.replicate ((l.length : Int) : Int).toNat []) (by omega) (by simp) (by omega)
  rw [show ((0 : Nat) : Int) = 0 from rfl] at this
  rw [this]; simp [toFss]
/-- The size that is left, or -1; and then every length is small. -/
theorem szFractionSS_loop (l : List (List S40)) (hl : l.length ≤ 1048576) : ∀ (d i k : Nat) (left : Int), 0 ≤ left → left ≤ 1048576 → (∀ r ∈ l, r.length < 9223372036854775808) → i + d = l.length → d + 1 ≤ k → ∃ s, laws_szFractionSS.l0 k l left i = some s ∧ s ≤ 1048576 ∧ (¬ s < 0 → ∀ r ∈ l.drop i, r.length ≤ 1048576)
  | 0, i, k, left, h0, h1, hr, hd, hk => by
    obtain ⟨k, rfl⟩ : ∃ q, k = q + 1 := ⟨k - 1, by omega⟩
    rw [laws_szFractionSS.l0, if_neg (by omega)]
    exact ⟨left, rfl, h1, fun _ r hr => by rw [List.drop_eq_nil_of_le (by omega)] at hr; cases hr⟩
  | d + 1, i, k, left, h0, h1, hr, hd, hk => by
    obtain ⟨k, rfl⟩ : ∃ q, k = q + 1 := ⟨k - 1, by omega⟩
    have hi : i < l.length := by omega
    have hri := hr _ (List.getElem_mem hi)
    rw [laws_szFractionSS.l0, if_pos (by omega), if_pos (by omega)]
    unfold rd_L7
    rw [getD_of_lt _ _ hi, laws_szFractionS.f, show wrap64 (left - (l[i].length : Int)) = left - (l[i].length : Int) from by unfold wrap64; omega]
    by_cases h : left - (l[i].length : Int) < 0
    · rw [if_pos h]
      exact ⟨-1, by simp, by omega, fun h => absurd (by omega) h⟩
    · rw [if_neg h]
      simp only [Option.bind_some]
      rw [if_neg h, w64_succ (by omega)]
      obtain ⟨s, e, hs, hx⟩ := szFractionSS_loop l hl d (i + 1) k (left - (l[i].length : Int)) (by omega) (by omega) hr (by omega) (by omega)
      refine ⟨s, e, hs, fun hn r hr => ?_⟩
      rw [List.drop_eq_getElem_cons hi, List.mem_cons] at hr
      rcases hr with rfl | hr
      · omega
      · exact hx hn r hr
theorem szFractionSS_eq (l : List (List S40)) (hl : l.length < 9223372036854775808) (hr : ∀ r ∈ l, r.length < 9223372036854775808) (left : Int) (h0 : 0 ≤ left) (h1 : left ≤ 1048576) (k : Nat) (hk : 1048578 ≤ k) :
    ∃ s, laws_szFractionSS.f k l left = some s ∧ s ≤ 1048576 ∧ (¬ s < 0 → l.length ≤ 1048576 ∧ ∀ r ∈ l, r.length ≤ 1048576) := by
  unfold laws_szFractionSS.f
  rw [show wrap64 (left - (l.length : Int)) = left - (l.length : Int) from by unfold wrap64; omega]
  by_cases h : left - (l.length : Int) < 0
  · rw [if_pos h]; exact ⟨-1, rfl, by omega, fun h => absurd (by omega) h⟩
  · rw [if_neg h]
    obtain ⟨s, e, hs, hx⟩ := szFractionSS_loop l (by omega) l.length 0 k (left - (l.length : Int)) (by omega) (by omega) hr (by omega) (by omega)
    exact ⟨s, e, hs, fun hn => ⟨by omega, hx hn⟩⟩
theorem eqFractionS_loop (l : List S42) (hl : l.length ≤ 1048576) : ∀ (d i k : Nat), i + d = l.length → d + 1 ≤ k → laws_eqFractionS.l0 k l l i = some true
  | 0, i, k, hd, hk => by
    obtain ⟨k, rfl⟩ : ∃ q, k = q + 1 := ⟨k - 1, by omega⟩
    rw [laws_eqFractionS.l0, if_neg (by omega)]
  | d + 1, i, k, hd, hk => by
    obtain ⟨k, rfl⟩ : ∃ q, k = q + 1 := ⟨k - 1, by omega⟩
    rw [laws_eqFractionS.l0, if_pos (by omega), if_pos (by omega), if_pos (by omega), laws_eqFraction.f, if_pos rfl, if_pos rfl]
    simp only [Option.bind_some, if_true]
    rw [w64_succ (by omega)]
    exact eqFractionS_loop l hl d (i + 1) k (by omega) (by omega)
theorem eqFractionS_self (l : List S42) (hl : l.length ≤ 1048576) (k : Nat) (hk : 1048577 ≤ k) : laws_eqFractionS.f k l l = some true := by
  unfold laws_eqFractionS.f
  rw [if_pos rfl]; exact eqFractionS_loop l hl l.length 0 k (by omega) (by omega)
theorem eqFractionSS_loop (l : List (List S42)) (hl : l.length ≤ 1048576) (hr : ∀ r ∈ l, r.length ≤ 1048576) : ∀ (d i k : Nat), i + d = l.length → d + 1048578 ≤ k → laws_eqFractionSS.l0 k l l i = some true
  | 0, i, k, hd, hk => by
    obtain ⟨k, rfl⟩ : ∃ q, k = q + 1 := ⟨k - 1, by omega⟩
    rw [laws_eqFractionSS.l0, if_neg (by omega)]
  | d + 1, i, k, hd, hk => by
    obtain ⟨k, rfl⟩ : ∃ q, k = q + 1 := ⟨k - 1, by omega⟩
    rw [laws_eqFractionSS.l0, if_pos (by omega), if_pos (by omega), if_pos (by omega)]
    unfold rd_L9
    rw [getD_of_lt _ _ (show i < l.length by omega), eqFractionS_self _ (hr _ (List.getElem_mem _)) k (by omega)]
    simp only [Option.bind_some, if_true]
    rw [w64_succ (by omega)]
    exact eqFractionSS_loop l hl hr d (i + 1) k (by omega) (by omega)
theorem eqFractionSS_self (l : List (List S42)) (hl : l.length ≤ 1048576) (hr : ∀ r ∈ l, r.length ≤ 1048576) (k : Nat) (hk : 2097154 ≤ k) : laws_eqFractionSS.f k l l = some true := by
  unfold laws_eqFractionSS.f
  rw [if_pos rfl]; exact eqFractionSS_loop l hl hr l.length 0 k (by omega) (by omega)
theorem toFss_small {l : List (List S40)} (h : l.length ≤ 1048576 ∧ ∀ r ∈ l, r.length ≤ 1048576) : (toFss l).length ≤ 1048576 ∧ ∀ r ∈ toFss l, r.length ≤ 1048576 := by
  refine ⟨by simpa [toFss] using h.1, fun r hr => ?_⟩
  obtain ⟨q, hq, rfl⟩ := List.mem_map.1 hr
  simpa [toFs] using h.2 q hq

end Go.Proofs.Ytijbdgijagmbfaa.Q
end

section
/- A contract of one Go function: what it returns for its arguments; printed by the kit's print program or written by hand. -/
namespace Go.Proofs.Ytijbdgijagmbfaa.Q
open Go.RowKit Go.Proofs.YtijbdgijagmbfaaW.PrintWords Go.Proofs.YtijbdgijagmbfaaW.PrintLast Go.Proofs.YtijbdgijagmbfaaW.PrintMore
attribute [local go_sem] max2_int min2_int max_two min_two max_three min_three max_four min_four   -- for this text's walks alone
set_option linter.unusedVariables false
set_option linter.unusedSimpArgs false

/-! #### pure: Base -/
theorem l00In_eq (a b c : Int) : spec_l00In.f a b c = some (decide (b ≤ a ∧ a ≤ c)) := by
  unfold spec_l00In.f
  by_cases h : a ≥ b
  · rw [if_pos h]; congr 1; rw [decide_eq_decide]; omega
  · rw [if_neg h]; congr 1; symm; rw [decide_eq_false_iff_not]; omega
theorem small5 {n : Int} (h0 : 0 ≤ n) (h5 : n ≤ 5) : n = 0 ∨ n = 1 ∨ n = 2 ∨ n = 3 ∨ n = 4 ∨ n = 5 := by omega

end Go.Proofs.Ytijbdgijagmbfaa.Q
end

section
/- A contract of one Go function: what it returns for its arguments; printed by the kit's print program or written by hand. -/
namespace Go.Proofs.Ytijbdgijagmbfaa.Q
open Go.RowKit Go.Proofs.YtijbdgijagmbfaaW.PrintWords Go.Proofs.YtijbdgijagmbfaaW.PrintLast Go.Proofs.YtijbdgijagmbfaaW.PrintMore
attribute [local go_sem] max2_int min2_int max_two min_two max_three min_three max_four min_four   -- for this text's walks alone
set_option linter.unusedVariables false
set_option linter.unusedSimpArgs false

/-! #### pure: Gcd -/
theorem common_eq : ∀ (k a b : Nat), b < k → spec_l02Common.l0 k (a : Int) (b : Int) = some ((Nat.gcd a b : Nat) : Int) := by
  intro k
  induction k with
  | zero => intro a b h; omega
  | succ k ih =>
    intro a b h
    simp only [spec_l02Common.l0]
    by_cases hb : b = 0
    · subst hb; simp
    · rw [if_neg (by omega), ← Int.ofNat_tmod, ih b (a % b) (by have := Nat.mod_lt a (Nat.pos_of_ne_zero hb); omega)]
      rw [Nat.gcd_comm b, ← Nat.gcd_rec, Nat.gcd_comm]

end Go.Proofs.Ytijbdgijagmbfaa.Q
end

section
/- A contract of one Go function: what it returns for its arguments; printed by the kit's print program or written by hand. -/
namespace Go.Proofs.Ytijbdgijagmbfaa.Q
open Go.RowKit Go.Proofs.YtijbdgijagmbfaaW.PrintWords Go.Proofs.YtijbdgijagmbfaaW.PrintLast Go.Proofs.YtijbdgijagmbfaaW.PrintMore
attribute [local go_sem] max2_int min2_int max_two min_two max_three min_three max_four min_four   -- for this text's walks alone
set_option linter.unusedVariables false
set_option linter.unusedSimpArgs false

/-! #### pure: OkF -/
def okF (p q : Int) : Bool := decide (-1000000000 ≤ p ∧ p ≤ 1000000000 ∧ 1 ≤ q ∧ q ≤ 1000000000 ∧ Nat.gcd p.natAbs q.natAbs = 1)
theorem abs_eq {a : Int} (h0 : -9223372036854775807 ≤ a) (h1 : a ≤ 9223372036854775807) : spec_l02Abs.f a = some ((a.natAbs : Nat) : Int) := by
  have hw : wrap64 (-a) = -a := by unfold wrap64; omega
  unfold spec_l02Abs.f; rw [hw]; split <;> (congr 1; omega)
theorem l02Ok_eq (k : Nat) (hk : 1000000000 < k) (p q : Int) : spec_l02Ok.f k p q = some (okF p q) := by
  unfold spec_l02Ok.f okF
  rw [l00In_eq, l00In_eq]; simp only [Option.bind_some]
  by_cases h : -1000000000 ≤ p ∧ p ≤ 1000000000
  · rw [if_pos (by simpa using h)]
    by_cases h' : 1 ≤ q ∧ q ≤ 1000000000
    · obtain ⟨q', rfl⟩ : ∃ q' : Nat, q = q' := ⟨q.toNat, by omega⟩
      rw [if_pos (by simpa using h'), abs_eq (by omega) (by omega)]; simp only [Option.bind_some]
      unfold spec_l02Common.f
      rw [common_eq k _ _ (by omega)]; simp only [Option.bind_some]
      congr 1
      by_cases g : Nat.gcd p.natAbs q' = 1
      · rw [g, show (((1 : Nat) : Int) == 1) = true from rfl]; symm; rw [decide_eq_true_eq, Int.natAbs_natCast]; exact ⟨h.1, h.2, h'.1, h'.2, g⟩
      · rw [show (((Nat.gcd p.natAbs q' : Nat) : Int) == 1) = false from by rw [beq_eq_false_iff_ne]; omega]; symm; rw [decide_eq_false_iff_not, Int.natAbs_natCast]; exact fun x => g x.2.2.2.2
    · rw [if_neg (by simpa using h')]; congr 1; symm; rw [decide_eq_false_iff_not]; omega
  · rw [if_neg (by simpa using h)]; congr 1; symm; rw [decide_eq_false_iff_not]; omega

end Go.Proofs.Ytijbdgijagmbfaa.Q
end

section
/- A contract of one Go function: what it returns for its arguments; printed by the kit's print program or written by hand. -/
namespace Go.Proofs.Ytijbdgijagmbfaa.Q
open Go.RowKit Go.Proofs.YtijbdgijagmbfaaW.PrintWords Go.Proofs.YtijbdgijagmbfaaW.PrintLast Go.Proofs.YtijbdgijagmbfaaW.PrintMore
attribute [local go_sem] max2_int min2_int max_two min_two max_three min_three max_four min_four   -- for this text's walks alone
set_option linter.unusedVariables false
set_option linter.unusedSimpArgs false

/-! #### pure: GcdI -/
theorem size_eq {a : Int} (h0 : -9223372036854775807 ≤ a) (h1 : a ≤ 9223372036854775807) : impl_size.f a = some ((a.natAbs : Nat) : Int) := by
  have hw : wrap64 (-a) = -a := by unfold wrap64; omega
  unfold impl_size.f mx; rw [hw]; congr 1; split <;> omega
theorem gcd_eq : ∀ (k : Nat) (a b : Int), b.natAbs < k → a.natAbs ≤ 9223372036854775807 → b.natAbs ≤ 9223372036854775807 → impl_gcd.l0 k a b = some ((Nat.gcd a.natAbs b.natAbs : Nat) : Int) := by
  intro k
  induction k with
  | zero => intro a b h; omega
  | succ k ih =>
    intro a b h ha hb
    simp only [impl_gcd.l0]
    by_cases e : b = 0
    · subst e; rw [if_pos rfl, size_eq (by omega) (by omega)]; simp
    · have e' : 0 < b.natAbs := by omega
      have hm : (a.tmod b).natAbs = a.natAbs % b.natAbs := Int.natAbs_tmod a b
      have hl := Nat.mod_lt a.natAbs e'
      rw [if_neg e, ih b (a.tmod b) (by omega) hb (by omega), hm, Nat.gcd_comm b.natAbs, ← Nat.gcd_rec, Nat.gcd_comm]

end Go.Proofs.Ytijbdgijagmbfaa.Q
end

section
/- A contract of one Go function: what it returns for its arguments; printed by the kit's print program or written by hand. -/
namespace Go.Proofs.Ytijbdgijagmbfaa.Q
open Go.RowKit Go.Proofs.YtijbdgijagmbfaaW.PrintWords Go.Proofs.YtijbdgijagmbfaaW.PrintLast Go.Proofs.YtijbdgijagmbfaaW.PrintMore
attribute [local go_sem] max2_int min2_int max_two min_two max_three min_three max_four min_four   -- for this text's walks alone
set_option linter.unusedVariables false
set_option linter.unusedSimpArgs false

/-! #### pure: OkFI -/
theorem ValidFraction_eq (k : Nat) (hk : 1000000000 < k) (p q : Int) : impl_ValidFraction.f k p q = some (okF p q) := by
  unfold impl_ValidFraction.f okF
  by_cases h : q > 0 ∧ p ≥ -1000000000 ∧ p ≤ 1000000000 ∧ q ≤ 1000000000
  · obtain ⟨a, b, c, d⟩ := h
    rw [if_pos a, if_pos b, if_pos c, if_pos d]
    unfold impl_gcd.f
    rw [gcd_eq k p q (by omega) (by omega) (by omega)]; simp only [Option.bind_some]
    congr 1
    by_cases g : Nat.gcd p.natAbs q.natAbs = 1
    · rw [show (((Nat.gcd p.natAbs q.natAbs : Nat) : Int) == 1) = true from by rw [g]; rfl]; symm; rw [decide_eq_true_eq]; exact ⟨b, c, by omega, d, g⟩
    · rw [show (((Nat.gcd p.natAbs q.natAbs : Nat) : Int) == 1) = false from by rw [beq_eq_false_iff_ne]; omega]; symm; rw [decide_eq_false_iff_not]; exact fun x => g x.2.2.2.2
  · rw [show decide (-1000000000 ≤ p ∧ p ≤ 1000000000 ∧ 1 ≤ q ∧ q ≤ 1000000000 ∧ Nat.gcd p.natAbs q.natAbs = 1) = false from by rw [decide_eq_false_iff_not]; omega]
    split
    · split
      · split
        · split
          · omega
          · rfl
        · rfl
      · rfl
    · rfl

end Go.Proofs.Ytijbdgijagmbfaa.Q
end

section
/- A contract of one Go function: what it returns for its arguments; printed by the kit's print program or written by hand. -/
namespace Go.Proofs.Ytijbdgijagmbfaa.Q
open Go.RowKit Go.Proofs.YtijbdgijagmbfaaW.PrintWords Go.Proofs.YtijbdgijagmbfaaW.PrintLast Go.Proofs.YtijbdgijagmbfaaW.PrintMore
attribute [local go_sem] max2_int min2_int max_two min_two max_three min_three max_four min_four   -- for this text's walks alone
set_option linter.unusedVariables false
set_option linter.unusedSimpArgs false

/-! #### pure: ValidMat -/
theorem neF2 (a b : S42) : ((!((a.f0) == (b.f0)) || (!((a.f1) == (b.f1)))) = true) ↔ a ≠ b := by
  obtain ⟨a0, a1⟩ := a
  obtain ⟨b0, b1⟩ := b
  simp only [Bool.or_eq_true, Bool.not_eq_true', beq_eq_false_iff_ne, ne_eq, S42.mk.injEq]
  by_cases h : a0 = b0 <;> simp [h]
def okS (f : S42) : Prop := okF f.f0 f.f1 = true
abbrev rowM (M : List (List S42)) (i : Nat) : List S42 := M.getD i []
abbrev atM (M : List (List S42)) (i j : Nat) : S42 := (rowM M i).getD j z42
theorem rdL_nat (M : List (List S42)) (i : Nat) : rd_L9 M (i : Int) = rowM M i := id rfl
theorem rdT_nat (l : List S42) (i : Nat) : rd_T42 l (i : Int) = l.getD i z42 := id rfl
/-- A square matrix of ordered sizes, all of whose entries are valid fractions, symmetric. -/
def goodM (M : List (List S42)) : Prop := M.length ≤ 8 ∧ (∀ i, i < M.length → (rowM M i).length = M.length) ∧ ∀ i, i < M.length → ∀ j, j < M.length → okS (atM M i j) ∧ atM M i j = atM M j i
theorem specM_l2 (M : List (List S42)) (h8 : M.length ≤ 8) (hrow : ∀ i, i < M.length → (rowM M i).length = M.length) (i : Nat) (hi : i < M.length) :
    ∀ (d j k : Nat), j + d = M.length → d + 1000000002 ≤ k → ((∀ j', j ≤ j' → j' < M.length → okS (atM M i j') ∧ atM M i j' = atM M j' i) → spec_l02Matrix.l2 k M i j = spec_l02Matrix.l1 (k - (d + 1)) M ((i + 1 : Nat) : Int)) ∧ (¬ (∀ j', j ≤ j' → j' < M.length → okS (atM M i j') ∧ atM M i j' = atM M j' i) → spec_l02Matrix.l2 k M i j = some false)
  | 0, j, k, hd, hk => by
    obtain ⟨k, rfl⟩ : ∃ q, k = q + 1 := ⟨k - 1, by omega⟩
    rw [spec_l02Matrix.l2, if_neg (by omega), w64_succ (by omega)]
    exact ⟨fun _ => rfl, fun h => absurd (fun j' a b => by omega) h⟩
  | d + 1, j, k, hd, hk => by
    obtain ⟨k, rfl⟩ : ∃ q, k = q + 1 := ⟨k - 1, by omega⟩
    have hj : j < M.length := by omega
    have ih := specM_l2 M h8 hrow i hi d (j + 1) k (by omega) (by omega)
    have hri := hrow i hi
    have hrj := hrow j hj
    rw [spec_l02Matrix.l2]
    simp only [rdL_nat, rdT_nat]
    rw [if_pos (by omega), if_pos (by omega), if_pos (by omega), if_pos (by omega), if_pos (by omega), l02Ok_eq k (by omega)]
    simp only [Option.bind_some]
    by_cases ho : okF ((rowM M i).getD j z42).f0 ((rowM M i).getD j z42).f1 = true
    · rw [if_pos ho, if_pos (by omega), w64_succ (by omega), show k + 1 - (d + 1 + 1) = k - (d + 1) from by omega]
      by_cases he : atM M i j = atM M j i
      · rw [if_neg (by rw [neF2]; exact fun x => x he)]
        refine ⟨fun h => ih.1 fun j' a b => h j' (by omega) b, fun h => ih.2 fun h' => h fun j' a b => ?_⟩
        rcases Nat.eq_or_lt_of_le a with rfl | a
        · exact ⟨ho, he⟩
        · exact h' j' a b
      · rw [if_pos (by rw [neF2]; exact he)]
        exact ⟨fun h => absurd (h j (Nat.le_refl _) hj).2 he, fun _ => rfl⟩
    · rw [if_neg ho]
      exact ⟨fun h => absurd (h j (Nat.le_refl _) hj).1 ho, fun _ => rfl⟩
theorem specM_l1 (M : List (List S42)) (h8 : M.length ≤ 8) (hrow : ∀ i, i < M.length → (rowM M i).length = M.length) :
    ∀ (d i k : Nat), i + d = M.length → d * 10 + 1000000020 ≤ k → ((∀ i', i ≤ i' → i' < M.length → ∀ j, j < M.length → okS (atM M i' j) ∧ atM M i' j = atM M j i') → spec_l02Matrix.l1 k M i = some true) ∧ (¬ (∀ i', i ≤ i' → i' < M.length → ∀ j, j < M.length → okS (atM M i' j) ∧ atM M i' j = atM M j i') → spec_l02Matrix.l1 k M i = some false)
  | 0, i, k, hd, hk => by
    obtain ⟨k, rfl⟩ : ∃ q, k = q + 1 := ⟨k - 1, by omega⟩
    rw [spec_l02Matrix.l1, if_neg (by omega)]
    exact ⟨fun _ => rfl, fun h => absurd (fun j' a b => by omega) h⟩
  | d + 1, i, k, hd, hk => by
    obtain ⟨k, rfl⟩ : ∃ q, k = q + 1 := ⟨k - 1, by omega⟩
    have hi : i < M.length := by omega
    have row := specM_l2 M h8 hrow i hi M.length 0 k (by omega) (by omega)
    have ih := specM_l1 M h8 hrow d (i + 1) (k - (M.length + 1)) (by omega) (by omega)
    rw [show ((0 : Nat) : Int) = 0 from rfl] at row
    rw [spec_l02Matrix.l1, if_pos (by omega)]
    by_cases hr : ∀ j', 0 ≤ j' → j' < M.length → okS (atM M i j') ∧ atM M i j' = atM M j' i
    · rw [row.1 hr]
      refine ⟨fun h => ih.1 fun i' a b => h i' (by omega) b, fun h => ih.2 fun h' => h fun i' a b => ?_⟩
      rcases Nat.eq_or_lt_of_le a with rfl | a
      · exact fun j hj => hr j (Nat.zero_le _) hj
      · exact h' i' a b
    · rw [row.2 hr]
      exact ⟨fun h => absurd (fun j' _ b => h i (Nat.le_refl _) hi j' b) hr, fun _ => rfl⟩
theorem specM_l0 (M : List (List S42)) (h8 : M.length ≤ 8) :
    ∀ (d i k : Nat), i + d = M.length → d + 1 ≤ k → ((∀ i', i ≤ i' → i' < M.length → (rowM M i').length = M.length) → spec_l02Matrix.l0 k M i = spec_l02Matrix.l1 (k - (d + 1)) M 0) ∧ (¬ (∀ i', i ≤ i' → i' < M.length → (rowM M i').length = M.length) → spec_l02Matrix.l0 k M i = some false)
  | 0, i, k, hd, hk => by
    obtain ⟨k, rfl⟩ : ∃ q, k = q + 1 := ⟨k - 1, by omega⟩
    rw [spec_l02Matrix.l0, if_neg (by omega)]
    exact ⟨fun _ => rfl, fun h => absurd (fun j' a b => by omega) h⟩
  | d + 1, i, k, hd, hk => by
    obtain ⟨k, rfl⟩ : ∃ q, k = q + 1 := ⟨k - 1, by omega⟩
    have hi : i < M.length := by omega
    have ih := specM_l0 M h8 d (i + 1) k (by omega) (by omega)
    rw [spec_l02Matrix.l0]
    simp only [rdL_nat]
    rw [if_pos (by omega), if_pos (by omega), w64_succ (by omega), show k + 1 - (d + 1 + 1) = k - (d + 1) from by omega]
    by_cases hr : (rowM M i).length = M.length
    · rw [if_pos (by omega)]
      refine ⟨fun h => ih.1 fun i' a b => h i' (by omega) b, fun h => ih.2 fun h' => h fun i' a b => ?_⟩
      rcases Nat.eq_or_lt_of_le a with rfl | a
      · exact hr
      · exact h' i' a b
    · rw [if_neg (by omega)]
      exact ⟨fun h => absurd (h i (Nat.le_refl _) hi) hr, fun _ => rfl⟩
theorem specM_eq (M : List (List S42)) (k : Nat) (hk : 1000000200 ≤ k) : (goodM M → spec_ValidMatrix.f k M = some true) ∧ (¬ goodM M → spec_ValidMatrix.f k M = some false) := by
  unfold spec_ValidMatrix.f spec_l02Matrix.f
  by_cases h8 : M.length ≤ 8
  · rw [if_neg (by omega)]
    have a := specM_l0 M h8 M.length 0 k (by omega) (by omega)
    rw [show ((0 : Nat) : Int) = 0 from rfl] at a
    by_cases hr : ∀ i', 0 ≤ i' → i' < M.length → (rowM M i').length = M.length
    · have hr' : ∀ i, i < M.length → (rowM M i).length = M.length := fun i hi => hr i (Nat.zero_le _) hi
      have b := specM_l1 M h8 hr' M.length 0 (k - (M.length + 1)) (by omega) (by omega)
      rw [show ((0 : Nat) : Int) = 0 from rfl] at b
      rw [a.1 hr]
      exact ⟨fun h => by rw [b.1 fun i' _ hi => h.2.2 i' hi]; rfl, fun h => by rw [b.2 fun h' => h ⟨h8, hr', fun i hi => h' i (Nat.zero_le _) hi⟩]; rfl⟩
    · rw [a.2 hr]
      exact ⟨fun h => absurd (fun i' _ hi => h.2.1 i' hi) hr, fun _ => rfl⟩
  · rw [if_pos (by omega)]
    exact ⟨fun h => absurd h.1 h8, fun _ => rfl⟩
theorem badT_eq (p q : Int) : impl_badFractionT.f p q = some (!okF p q) := by
  refine impl_badFractionT.of p q (k := 1000000001) ?_
  unfold impl_badFraction.f
  rw [ValidFraction_eq 1000000001 (by omega)]; rfl
theorem idxF_loop (l : List S42) (hl : l.length ≤ 256) (cb : Int → Int → Option Bool) (hcb : ∀ p q, cb p q = some (!okF p q)) :
    ∀ (d i k : Nat), i + d = l.length → d + 1 ≤ k → ((∀ i', i ≤ i' → i' < l.length → okS (l.getD i' z42)) → impl_Fraction_89.l0 cb k l (l.length : Int) i = some (-1)) ∧ (¬ (∀ i', i ≤ i' → i' < l.length → okS (l.getD i' z42)) → ∃ r : Int, 0 ≤ r ∧ impl_Fraction_89.l0 cb k l (l.length : Int) i = some r)
  | 0, i, k, hd, hk => by
    obtain ⟨k, rfl⟩ : ∃ q, k = q + 1 := ⟨k - 1, by omega⟩
    rw [impl_Fraction_89.l0, if_neg (by omega)]
    exact ⟨fun _ => rfl, fun h => absurd (fun j' a b => by omega) h⟩
  | d + 1, i, k, hd, hk => by
    obtain ⟨k, rfl⟩ : ∃ q, k = q + 1 := ⟨k - 1, by omega⟩
    have hi : i < l.length := by omega
    have ih := idxF_loop l hl cb hcb d (i + 1) k (by omega) (by omega)
    rw [impl_Fraction_89.l0, if_pos (by omega), if_pos (by omega), if_pos (by omega), hcb, w64_succ (by omega)]
    simp only [Option.bind_some, rdT_nat]
    by_cases ho : okF (l.getD i z42).f0 (l.getD i z42).f1 = true
    · rw [if_neg (by rw [ho]; simp)]
      refine ⟨fun h => ih.1 fun i' a b => h i' (by omega) b, fun h => ih.2 fun h' => h fun i' a b => ?_⟩
      rcases Nat.eq_or_lt_of_le a with rfl | a
      · exact ho
      · exact h' i' a b
    · rw [if_pos (by simpa using ho)]
      exact ⟨fun h => absurd (h i (Nat.le_refl _) hi) ho, fun _ => ⟨i, by omega, rfl⟩⟩
def goodL (n : Nat) (l : List S42) : Prop := l.length = n ∧ l.length ≤ 256 ∧ ∀ i, i < l.length → okS (l.getD i z42)
theorem VM1_eq (l : List S42) (M : List (List S42)) : (goodL M.length l → impl_ValidMatrix_1T.f l M = some false) ∧ (¬ goodL M.length l → impl_ValidMatrix_1T.f l M = some true) := by
  have key : ∀ r, impl_ValidMatrix_1.f 1000 l M = some r → impl_ValidMatrix_1T.f l M = some r := fun r h => impl_ValidMatrix_1T.of l M h
  unfold impl_ValidMatrix_1.f impl_validList.f impl_Fraction_86.f impl_Fraction_89.f at key
  by_cases hn : l.length = M.length
  · rw [if_pos (by omega)] at key
    by_cases hl : l.length ≤ 256
    · rw [if_pos (by omega)] at key
      have a := idxF_loop l hl (fun y0_0 y0_1 => impl_badFractionT.f y0_0 y0_1) badT_eq l.length 0 1000 (by omega) (by omega)
      rw [show ((0 : Nat) : Int) = 0 from rfl] at a
      refine ⟨fun h => key _ ?_, fun h => key _ ?_⟩
      · rw [a.1 fun i' _ hi => h.2.2 i' hi]; rfl
      · obtain ⟨r, h0, hr⟩ := a.2 fun h' => h ⟨hn, hl, fun i hi => h' i (Nat.zero_le _) hi⟩
        rw [hr]; simp [h0]
    · rw [if_neg (by omega)] at key
      exact ⟨fun h => absurd h.2.1 hl, fun _ => key _ rfl⟩
  · rw [if_neg (by omega)] at key
    exact ⟨fun h => absurd h.1 hn, fun _ => key _ rfl⟩
theorem idxM_loop (l : List (List S42)) (hl : l.length ≤ 256) (n : Nat) (cb : List S42 → Option Bool) (hcb : ∀ r, (goodL n r → cb r = some false) ∧ (¬ goodL n r → cb r = some true)) :
    ∀ (d i k : Nat), i + d = l.length → d + 1 ≤ k → ((∀ i', i ≤ i' → i' < l.length → goodL n (l.getD i' [])) → impl_Fraction_85.l0 cb k l (l.length : Int) i = some (-1)) ∧ (¬ (∀ i', i ≤ i' → i' < l.length → goodL n (l.getD i' [])) → ∃ r : Int, 0 ≤ r ∧ impl_Fraction_85.l0 cb k l (l.length : Int) i = some r)
  | 0, i, k, hd, hk => by
    obtain ⟨k, rfl⟩ : ∃ q, k = q + 1 := ⟨k - 1, by omega⟩
    rw [impl_Fraction_85.l0, if_neg (by omega)]
    exact ⟨fun _ => rfl, fun h => absurd (fun j' a b => by omega) h⟩
  | d + 1, i, k, hd, hk => by
    obtain ⟨k, rfl⟩ : ∃ q, k = q + 1 := ⟨k - 1, by omega⟩
    have hi : i < l.length := by omega
    have ih := idxM_loop l hl n cb hcb d (i + 1) k (by omega) (by omega)
    rw [impl_Fraction_85.l0, if_pos (by omega), if_pos (by omega), if_pos (by omega), w64_succ (by omega)]
    simp only [rdL_nat]
    by_cases ho : goodL n (rowM l i)
    · rw [(hcb _).1 ho]
      simp only [Option.bind_some, Bool.false_eq_true, if_false]
      refine ⟨fun h => ih.1 fun i' a b => h i' (by omega) b, fun h => ih.2 fun h' => h fun i' a b => ?_⟩
      rcases Nat.eq_or_lt_of_le a with rfl | a
      · exact ho
      · exact h' i' a b
    · rw [(hcb _).2 ho]
      simp only [Option.bind_some, if_true]
      exact ⟨fun h => absurd (h i (Nat.le_refl _) hi) ho, fun _ => ⟨i, by omega, rfl⟩⟩
theorem implM_l1 (M : List (List S42)) (h8 : M.length ≤ 8) (hrow : ∀ i, i < M.length → (rowM M i).length = M.length) (i : Nat) (hi : i < M.length) (x15 : List (List S42)) (x16 : Int) :
    ∀ (d j k : Nat), j + d = M.length → d + 1 ≤ k → ((∀ j', j ≤ j' → j' < M.length → atM M j' i = atM M i j') → impl_ValidMatrix.l1 k i x15 x16 i (rowM M i) (M.length : Int) j M = impl_ValidMatrix.l0 (k - (d + 1)) x15 x16 ((i + 1 : Nat) : Int) M) ∧ (¬ (∀ j', j ≤ j' → j' < M.length → atM M j' i = atM M i j') → impl_ValidMatrix.l1 k i x15 x16 i (rowM M i) (M.length : Int) j M = some false)
  | 0, j, k, hd, hk => by
    obtain ⟨k, rfl⟩ : ∃ q, k = q + 1 := ⟨k - 1, by omega⟩
    rw [impl_ValidMatrix.l1, if_neg (by omega), w64_succ (by omega)]
    exact ⟨fun _ => rfl, fun h => absurd (fun j' a b => by omega) h⟩
  | d + 1, j, k, hd, hk => by
    obtain ⟨k, rfl⟩ : ∃ q, k = q + 1 := ⟨k - 1, by omega⟩
    have hj : j < M.length := by omega
    have ih := implM_l1 M h8 hrow i hi x15 x16 d (j + 1) k (by omega) (by omega)
    have hri := hrow i hi
    have hrj := hrow j hj
    rw [impl_ValidMatrix.l1]
    simp only [rdL_nat, rdT_nat]
    rw [if_pos (by omega), if_pos (by omega), if_pos (by omega), if_pos (by omega), if_pos (by omega), if_pos (by omega), w64_succ (by omega), show k + 1 - (d + 1 + 1) = k - (d + 1) from by omega]
    by_cases he : atM M j i = atM M i j
    · rw [if_neg (by rw [neF2]; exact fun x => x he)]
      refine ⟨fun h => ih.1 fun j' a b => h j' (by omega) b, fun h => ih.2 fun h' => h fun j' a b => ?_⟩
      rcases Nat.eq_or_lt_of_le a with rfl | a
      · exact he
      · exact h' j' a b
    · rw [if_pos (by rw [neF2]; exact he)]
      exact ⟨fun h => absurd (h j (Nat.le_refl _) hj) he, fun _ => rfl⟩
theorem implM_l0 (M : List (List S42)) (h8 : M.length ≤ 8) (hrow : ∀ i, i < M.length → (rowM M i).length = M.length) :
    ∀ (d i k : Nat), i + d = M.length → d * 12 + 20 ≤ k → ((∀ i', i ≤ i' → i' < M.length → ∀ j, j < M.length → atM M j i' = atM M i' j) → impl_ValidMatrix.l0 k M (M.length : Int) i M = some true) ∧ (¬ (∀ i', i ≤ i' → i' < M.length → ∀ j, j < M.length → atM M j i' = atM M i' j) → impl_ValidMatrix.l0 k M (M.length : Int) i M = some false)
  | 0, i, k, hd, hk => by
    obtain ⟨k, rfl⟩ : ∃ q, k = q + 1 := ⟨k - 1, by omega⟩
    rw [impl_ValidMatrix.l0, if_neg (by omega)]
    exact ⟨fun _ => rfl, fun h => absurd (fun j' a b => by omega) h⟩
  | d + 1, i, k, hd, hk => by
    obtain ⟨k, rfl⟩ : ∃ q, k = q + 1 := ⟨k - 1, by omega⟩
    have hi : i < M.length := by omega
    have row := implM_l1 M h8 hrow i hi M (M.length : Int) M.length 0 k (by omega) (by omega)
    have ih := implM_l0 M h8 hrow d (i + 1) (k - (M.length + 1)) (by omega) (by omega)
    rw [show ((0 : Nat) : Int) = 0 from rfl] at row
    rw [impl_ValidMatrix.l0, if_pos (by omega), if_pos (by omega), if_pos (by omega)]
    simp only [rdL_nat]
    rw [show ((rowM M i).length : Int) = (M.length : Int) from by rw [hrow i hi]]
    by_cases hr : ∀ j', 0 ≤ j' → j' < M.length → atM M j' i = atM M i j'
    · rw [row.1 hr]
      refine ⟨fun h => ih.1 fun i' a b => h i' (by omega) b, fun h => ih.2 fun h' => h fun i' a b => ?_⟩
      rcases Nat.eq_or_lt_of_le a with rfl | a
      · exact fun j hj => hr j (Nat.zero_le _) hj
      · exact h' i' a b
    · rw [row.2 hr]
      exact ⟨fun h => absurd (fun j' _ b => h i (Nat.le_refl _) hi j' b) hr, fun _ => rfl⟩
theorem ValidMatrix_eq (M : List (List S42)) (k : Nat) (hk : 1000 ≤ k) : (goodM M → impl_ValidMatrix.f k M = some true) ∧ (¬ goodM M → impl_ValidMatrix.f k M = some false) := by
  obtain ⟨k, rfl⟩ : ∃ q, k = q + 1 := ⟨k - 1, by omega⟩
  unfold impl_ValidMatrix.f
  by_cases h8 : M.length ≤ 8
  · rw [if_neg (by omega)]
    unfold impl_Fraction_73.f impl_Fraction_85.f
    have a := idxM_loop M (by omega) M.length (fun y0 => impl_ValidMatrix_1T.f y0 M) (fun r => VM1_eq r M) M.length 0 (k + 1) (by omega) (by omega)
    rw [show ((0 : Nat) : Int) = 0 from rfl] at a
    by_cases hr : ∀ i', 0 ≤ i' → i' < M.length → goodL M.length (M.getD i' [])
    · rw [a.1 hr]
      simp only [Option.bind_some]
      rw [show decide ((-1 : Int) ≥ 0) = false from rfl, impl_ValidMatrix.j0, if_neg (by simp)]
      have hrow : ∀ i, i < M.length → (rowM M i).length = M.length := fun i hi => (hr i (Nat.zero_le _) hi).1
      have b := implM_l0 M h8 hrow M.length 0 k (by omega) (by omega)
      rw [show ((0 : Nat) : Int) = 0 from rfl] at b
      refine ⟨fun h => b.1 fun i' _ hi j hj => (h.2.2 j hj i' hi).2, fun h => b.2 fun h' => h ⟨h8, hrow, fun i hi j hj => ⟨?_, (h' i (Nat.zero_le _) hi j hj).symm⟩⟩⟩
      exact (hr i (Nat.zero_le _) hi).2.2 j (by rw [(hr i (Nat.zero_le _) hi).1]; exact hj)
    · obtain ⟨r, h0, hr'⟩ := a.2 hr
      rw [hr']
      simp only [Option.bind_some]
      rw [show decide (r ≥ 0) = true from by simpa using h0, impl_ValidMatrix.j0, if_pos rfl]
      refine ⟨fun h => absurd (fun i' _ hi => ⟨h.2.1 i' hi, by have := h.2.1 i' hi; show (rowM M i').length ≤ 256; omega, fun j hj => (h.2.2 i' hi j (by have := h.2.1 i' hi; exact (by rw [← this]; exact hj))).1⟩) hr, fun _ => rfl⟩
  · rw [if_pos (by omega), impl_ValidMatrix.j0, if_pos rfl]
    exact ⟨fun h => absurd h.1 h8, fun _ => rfl⟩

end Go.Proofs.Ytijbdgijagmbfaa.Q
end

section
/- A contract of one Go function: what it returns for its arguments; printed by the kit's print program or written by hand. -/
namespace Go.Proofs.Ytijbdgijagmbfaa.Q
open Go.RowKit Go.Proofs.YtijbdgijagmbfaaW.PrintWords Go.Proofs.YtijbdgijagmbfaaW.PrintLast Go.Proofs.YtijbdgijagmbfaaW.PrintMore
attribute [local go_sem] max2_int min2_int max_two min_two max_three min_three max_four min_four   -- for this text's walks alone
set_option linter.unusedVariables false
set_option linter.unusedSimpArgs false

/-! #### pure: LawValidMatrix -/
theorem valid_valid (M : List (List S42)) (k : Nat) (hk : 1000000200 ≤ k) : ∃ b, spec_ValidMatrix.f k M = some b ∧ impl_ValidMatrix.f k M = some b := by
  have a := specM_eq M k hk
  have b := ValidMatrix_eq M k (by omega)
  by_cases h : goodM M
  · exact ⟨true, a.1 h, b.1 h⟩
  · exact ⟨false, a.2 h, b.2 h⟩
theorem FnExactValidMatrix_pure (m : List (List S40)) (hm : m.length < 9223372036854775808 ∧ ∀ r ∈ m, r.length < 9223372036854775808 ∧ ∀ b ∈ r, (Lit.int .i64 b.f0).wf = true ∧ (Lit.int .i64 b.f1).wf = true) : ∃ k, laws_FnExactValidMatrix.f k m = some true := by
  refine ⟨1000000200, ?_⟩
  unfold laws_FnExactValidMatrix.f
  obtain ⟨s, es, hs, hx⟩ := szFractionSS_eq m hm.1 (fun r hr => (hm.2 r hr).1) 1048576 (by omega) (by omega) 1000000200 (by omega)
  rw [es]; simp only [Option.bind_some]
  by_cases h1 : s < 0
  · rw [if_pos h1]
  rw [if_neg h1]
  have tm := toFss_small (hx h1)
  obtain ⟨b, e1, e2⟩ := valid_valid (toFss m) 1000000200 (Nat.le_refl _)
  simp only [toFractionSS_eq m (hx h1).1 (hx h1).2 1000000200 (by omega), Option.bind_some, e1, e2, bne_self_eq_false, Bool.false_eq_true, if_false, eqFractionSS_self _ tm.1 tm.2 1000000200 (by omega), if_true]

end Go.Proofs.Ytijbdgijagmbfaa.Q
end
