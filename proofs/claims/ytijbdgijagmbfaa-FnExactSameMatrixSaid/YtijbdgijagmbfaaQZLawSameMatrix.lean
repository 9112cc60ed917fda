/- A contract of one Go function: what it returns for its arguments; printed by the kit's print program or written by hand. -/
import Derived.Test.YtijbdgijagmbfaaQ0
import Derived.Test.YtijbdgijagmbfaaQF36
import Derived.Test.YtijbdgijagmbfaaQF63
import Derived.Test.YtijbdgijagmbfaaQF64
import Derived.Test.YtijbdgijagmbfaaQT64
import Derived.Test.YtijbdgijagmbfaaQF38
import Derived.Test.YtijbdgijagmbfaaQF12
import Derived.Test.YtijbdgijagmbfaaQZFracS
namespace Go.Proofs.Ytijbdgijagmbfaa.Q
open Go.RowKit Go.Proofs.YtijbdgijagmbfaaW.PrintWords Go.Proofs.YtijbdgijagmbfaaW.PrintLast Go.Proofs.YtijbdgijagmbfaaW.PrintMore
attribute [local go_sem] max2_int min2_int max_two min_two max_three min_three max_four min_four   -- for this text's walks alone
set_option linter.unusedVariables false
set_option linter.unusedSimpArgs false

/-! #### pure: LawSameMatrix -/
theorem neF (a b : S42) : ((!((a.f0) == (b.f0)) || (!((a.f1) == (b.f1)))) = true) ↔ a ≠ b := by
  obtain ⟨a0, a1⟩ := a
  obtain ⟨b0, b1⟩ := b
  simp only [Bool.or_eq_true, Bool.not_eq_true', beq_eq_false_iff_ne, ne_eq, S42.mk.injEq]
  by_cases h : a0 = b0 <;> simp [h]
theorem drop_cons_eq {α : Type} {l m : List α} {i : Nat} (hl : i < l.length) (hm : i < m.length) : l.drop i = m.drop i ↔ l[i] = m[i] ∧ l.drop (i + 1) = m.drop (i + 1) := by
  rw [List.drop_eq_getElem_cons hl, List.drop_eq_getElem_cons hm, List.cons_eq_cons]
theorem sameS_row (M N : List (List S42)) (i : Nat) (hM : i < M.length) (hN : i < N.length) (hlen : M[i].length = N[i].length) (hr : M[i].length ≤ 1048576) :
    ∀ (d j k : Nat), j + d = M[i].length → d + 1 ≤ k → (M[i].drop j = N[i].drop j → spec_SameMatrix.l1 k M N i j = spec_SameMatrix.l0 (k - (d + 1)) M N (wrap64 ((i : Int) + 1))) ∧ (¬ M[i].drop j = N[i].drop j → spec_SameMatrix.l1 k M N i j = some false)
  | 0, j, k, hd, hk => by
    obtain ⟨k, rfl⟩ : ∃ q, k = q + 1 := ⟨k - 1, by omega⟩
    rw [spec_SameMatrix.l1]
    unfold rd_L9
    simp only [getD_of_lt _ _ hM, getD_of_lt _ _ hN]
    rw [if_pos (by omega), if_pos (by omega), if_neg (by omega)]
    exact ⟨fun _ => rfl, fun h => absurd (by rw [List.drop_eq_nil_of_le (by omega), List.drop_eq_nil_of_le (by omega)]) h⟩
  | d + 1, j, k, hd, hk => by
    obtain ⟨k, rfl⟩ : ∃ q, k = q + 1 := ⟨k - 1, by omega⟩
    have ih := sameS_row M N i hM hN hlen hr d (j + 1) k (by omega) (by omega)
    rw [spec_SameMatrix.l1]
    unfold rd_L9 rd_T42
    simp only [getD_of_lt _ _ hM, getD_of_lt _ _ hN, getD_of_lt _ _ (show j < M[i].length by omega), getD_of_lt _ _ (show j < N[i].length by omega)]
    rw [if_pos (by omega), if_pos (by omega), if_pos (by omega), if_pos (by omega), if_pos (by omega), if_pos (by omega), drop_cons_eq (by omega) (by omega), w64_succ (by omega), show k + 1 - (d + 1 + 1) = k - (d + 1) from by omega]
    by_cases h : M[i][j] = N[i][j]
    · rw [if_neg (by rw [neF]; exact fun x => x h)]
      exact ⟨fun x => ih.1 x.2, fun x => ih.2 (fun y => x ⟨h, y⟩)⟩
    · rw [if_pos (by rw [neF]; exact h)]
      exact ⟨fun x => absurd x.1 h, fun _ => rfl⟩
theorem sameS_loop (B : Nat) (hB : 1048580 ≤ B) (M N : List (List S42)) (hlen : M.length = N.length) (hl : M.length ≤ 1048576) (hr : ∀ r ∈ M, r.length ≤ 1048576) :
    ∀ (d i k : Nat), i + d = M.length → (d + 1) * B ≤ k → (M.drop i = N.drop i → spec_SameMatrix.l0 k M N i = some true) ∧ (¬ M.drop i = N.drop i → spec_SameMatrix.l0 k M N i = some false)
  | 0, i, k, hd, hk => by
    obtain ⟨k, rfl⟩ : ∃ q, k = q + 1 := ⟨k - 1, by have := Nat.one_mul B; omega⟩
    rw [spec_SameMatrix.l0, if_neg (by omega)]
    exact ⟨fun _ => rfl, fun h => absurd (by rw [List.drop_eq_nil_of_le (by omega), List.drop_eq_nil_of_le (by omega)]) h⟩
  | d + 1, i, k, hd, hk => by
    have hs : (d + 1 + 1) * B = (d + 1) * B + B := Nat.succ_mul (d + 1) B
    obtain ⟨k, rfl⟩ : ∃ q, k = q + 1 := ⟨k - 1, by omega⟩
    have hM : i < M.length := by omega
    have hN : i < N.length := by omega
    rw [spec_SameMatrix.l0]
    unfold rd_L9
    simp only [getD_of_lt _ _ hM, getD_of_lt _ _ hN]
    rw [if_pos (by omega), if_pos (by omega), if_pos (by omega), drop_cons_eq hM hN]
    have hri := hr _ (List.getElem_mem hM)
    by_cases h : M[i].length = N[i].length
    · rw [if_pos (by omega)]
      have row := sameS_row M N i hM hN h hri M[i].length 0 k (by omega) (by omega)
      have ih := sameS_loop B hB M N hlen hl hr d (i + 1) (k - (M[i].length + 1)) (by omega) (by omega)
      rw [show ((0 : Nat) : Int) = 0 from rfl, List.drop_zero, List.drop_zero] at row
      rw [w64_succ (by omega)] at row
      refine ⟨fun x => by rw [row.1 x.1]; exact ih.1 x.2, fun x => ?_⟩
      by_cases e : M[i] = N[i]
      · rw [row.1 e]; exact ih.2 (fun y => x ⟨e, y⟩)
      · exact row.2 e
    · rw [if_neg (by omega)]
      exact ⟨fun x => absurd (by rw [x.1]) h, fun _ => rfl⟩
theorem sameS_eq (M N : List (List S42)) (hl : M.length ≤ 1048576) (hr : ∀ r ∈ M, r.length ≤ 1048576) (k : Nat) (hk : 1048577 * 1048580 ≤ k) : (M = N → spec_SameMatrix.f k M N = some true) ∧ (¬ M = N → spec_SameMatrix.f k M N = some false) := by
  unfold spec_SameMatrix.f
  by_cases h : M.length = N.length
  · rw [if_pos (by omega)]
    have := sameS_loop 1048580 (Nat.le_refl _) M N h hl hr M.length 0 k (by omega) (Nat.le_trans (Nat.mul_le_mul_right _ (by omega)) hk)
    rw [show ((0 : Nat) : Int) = 0 from rfl, List.drop_zero, List.drop_zero] at this
    exact this
  · rw [if_neg (by omega)]
    exact ⟨fun x => absurd (by rw [x]) h, fun _ => rfl⟩
theorem equal_loop (a b : List S42) (hlen : a.length = b.length) (hr : a.length ≤ 1048576) :
    ∀ (d j k : Nat), j + d = a.length → d + 1 ≤ k → (a.drop j = b.drop j → impl_Fraction_64.l0 k a b (a.length : Int) j = some true) ∧ (¬ a.drop j = b.drop j → impl_Fraction_64.l0 k a b (a.length : Int) j = some false)
  | 0, j, k, hd, hk => by
    obtain ⟨k, rfl⟩ : ∃ q, k = q + 1 := ⟨k - 1, by omega⟩
    rw [impl_Fraction_64.l0, if_neg (by omega)]
    exact ⟨fun _ => rfl, fun h => absurd (by rw [List.drop_eq_nil_of_le (by omega), List.drop_eq_nil_of_le (by omega)]) h⟩
  | d + 1, j, k, hd, hk => by
    obtain ⟨k, rfl⟩ : ∃ q, k = q + 1 := ⟨k - 1, by omega⟩
    have ih := equal_loop a b hlen hr d (j + 1) k (by omega) (by omega)
    rw [impl_Fraction_64.l0]
    unfold rd_T42
    simp only [getD_of_lt _ _ (show j < a.length by omega), getD_of_lt _ _ (show j < b.length by omega)]
    rw [if_pos (by omega), if_pos (by omega), if_pos (by omega), if_pos (by omega), drop_cons_eq (by omega) (by omega), w64_succ (by omega)]
    by_cases h : a[j] = b[j]
    · rw [if_neg (by rw [neF]; exact fun x => x h)]
      exact ⟨fun x => ih.1 x.2, fun x => ih.2 (fun y => x ⟨h, y⟩)⟩
    · rw [if_pos (by rw [neF]; exact h)]
      exact ⟨fun x => absurd x.1 h, fun _ => rfl⟩
theorem equalT_eq (a b : List S42) (hr : a.length ≤ 1048576) : (a = b → impl_Fraction_64T.f a b = some true) ∧ (¬ a = b → impl_Fraction_64T.f a b = some false) := by
  have key : ∀ r, impl_Fraction_64.f 1048577 a b = some r → impl_Fraction_64T.f a b = some r := fun r h => impl_Fraction_64T.of a b h
  unfold impl_Fraction_64.f at key
  by_cases h : a.length = b.length
  · have := equal_loop a b h hr a.length 0 1048577 (by omega) (by omega)
    rw [show ((0 : Nat) : Int) = 0 from rfl, List.drop_zero, List.drop_zero] at this
    exact ⟨fun x => key _ (by rw [if_pos (by omega)]; exact this.1 x), fun x => key _ (by rw [if_pos (by omega)]; exact this.2 x)⟩
  · exact ⟨fun x => absurd (by rw [x]) h, fun x => key _ (by rw [if_neg (by omega)])⟩
theorem equalFunc_loop (M N : List (List S42)) (hlen : M.length = N.length) (hl : M.length ≤ 1048576) (hr : ∀ r ∈ M, r.length ≤ 1048576) :
    ∀ (d i k : Nat), i + d = M.length → d + 1 ≤ k → (M.drop i = N.drop i → impl_Fraction_63.l0 (fun y0 y1 => impl_Fraction_64T.f y0 y1) k N M (M.length : Int) i = some true) ∧ (¬ M.drop i = N.drop i → impl_Fraction_63.l0 (fun y0 y1 => impl_Fraction_64T.f y0 y1) k N M (M.length : Int) i = some false)
  | 0, i, k, hd, hk => by
    obtain ⟨k, rfl⟩ : ∃ q, k = q + 1 := ⟨k - 1, by omega⟩
    rw [impl_Fraction_63.l0, if_neg (by omega)]
    exact ⟨fun _ => rfl, fun h => absurd (by rw [List.drop_eq_nil_of_le (by omega), List.drop_eq_nil_of_le (by omega)]) h⟩
  | d + 1, i, k, hd, hk => by
    obtain ⟨k, rfl⟩ : ∃ q, k = q + 1 := ⟨k - 1, by omega⟩
    have hM : i < M.length := by omega
    have hN : i < N.length := by omega
    have ih := equalFunc_loop M N hlen hl hr d (i + 1) k (by omega) (by omega)
    have hri := hr _ (List.getElem_mem hM)
    have eq := equalT_eq M[i] N[i] hri
    rw [impl_Fraction_63.l0]
    unfold rd_L9
    simp only [getD_of_lt _ _ hM, getD_of_lt _ _ hN]
    rw [if_pos (by omega), if_pos (by omega), if_pos (by omega), if_pos (by omega), drop_cons_eq hM hN, w64_succ (by omega)]
    by_cases h : M[i] = N[i]
    · rw [eq.1 h]
      simp only [Option.bind_some, if_true]
      exact ⟨fun x => ih.1 x.2, fun x => ih.2 (fun y => x ⟨h, y⟩)⟩
    · rw [eq.2 h]
      exact ⟨fun x => absurd x.1 h, fun _ => rfl⟩
theorem SameMatrix_eq (M N : List (List S42)) (hl : M.length ≤ 1048576) (hr : ∀ r ∈ M, r.length ≤ 1048576) (k : Nat) (hk : 1048577 ≤ k) : (M = N → impl_SameMatrix.f k M N = some true) ∧ (¬ M = N → impl_SameMatrix.f k M N = some false) := by
  unfold impl_SameMatrix.f impl_Fraction_63.f
  by_cases h : M.length = N.length
  · rw [if_pos (by omega)]
    have := equalFunc_loop M N h hl hr M.length 0 k (by omega) (by omega)
    rw [show ((0 : Nat) : Int) = 0 from rfl, List.drop_zero, List.drop_zero] at this
    exact ⟨fun x => by rw [this.1 x]; rfl, fun x => by rw [this.2 x]; rfl⟩
  · rw [if_neg (by omega)]
    exact ⟨fun x => absurd (by rw [x]) h, fun _ => rfl⟩
theorem same_same (M N : List (List S42)) (hl : M.length ≤ 1048576) (hr : ∀ r ∈ M, r.length ≤ 1048576) (k : Nat) (hk : 1048577 * 1048580 ≤ k) : ∃ b, spec_SameMatrix.f k M N = some b ∧ impl_SameMatrix.f k M N = some b := by
  have a := sameS_eq M N hl hr k hk
  have b := SameMatrix_eq M N hl hr k (by omega)
  by_cases h : M = N
  · exact ⟨true, a.1 h, b.1 h⟩
  · exact ⟨false, a.2 h, b.2 h⟩
theorem FnExactSameMatrix_pure (m n : List (List S40)) (hm : m.length < 9223372036854775808 ∧ ∀ r ∈ m, r.length < 9223372036854775808 ∧ ∀ b ∈ r, (Lit.int .i64 b.f0).wf = true ∧ (Lit.int .i64 b.f1).wf = true) (hn : n.length < 9223372036854775808 ∧ ∀ r ∈ n, r.length < 9223372036854775808 ∧ ∀ b ∈ r, (Lit.int .i64 b.f0).wf = true ∧ (Lit.int .i64 b.f1).wf = true) : ∃ k, laws_FnExactSameMatrix.f k m n = some true := by
  refine ⟨1048577 * 1048580, ?_⟩
  unfold laws_FnExactSameMatrix.f
  obtain ⟨s, es, hs, hx⟩ := szFractionSS_eq m hm.1 (fun r hr => (hm.2 r hr).1) 1048576 (by omega) (by omega) (1048577 * 1048580) (by omega)
  rw [es]; simp only [Option.bind_some]
  by_cases h1 : s < 0
  · rw [if_pos h1]
  rw [if_neg h1]
  obtain ⟨s', es', hs', hy⟩ := szFractionSS_eq n hn.1 (fun r hr => (hn.2 r hr).1) s (by omega) hs (1048577 * 1048580) (by omega)
  rw [es']; simp only [Option.bind_some]
  by_cases h2 : s' < 0
  · rw [if_pos h2]
  rw [if_neg h2]
  have tm := toFss_small (hx h1)
  have tn := toFss_small (hy h2)
  obtain ⟨b, e1, e2⟩ := same_same (toFss m) (toFss n) tm.1 tm.2 (1048577 * 1048580) (Nat.le_refl _)
  simp only [toFractionSS_eq m (hx h1).1 (hx h1).2 (1048577 * 1048580) (by omega), toFractionSS_eq n (hy h2).1 (hy h2).2 (1048577 * 1048580) (by omega), Option.bind_some, e1, e2, bne_self_eq_false, Bool.false_eq_true, if_false, eqFractionSS_self _ tm.1 tm.2 (1048577 * 1048580) (by omega), eqFractionSS_self _ tn.1 tn.2 (1048577 * 1048580) (by omega), if_true]

end Go.Proofs.Ytijbdgijagmbfaa.Q
