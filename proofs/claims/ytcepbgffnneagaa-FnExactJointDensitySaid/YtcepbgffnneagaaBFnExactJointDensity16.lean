/- Contracts of Go functions and plain lemmas over what they compute; printed by the kit's print program or written by hand, joined. -/
import Derived.Test.YtcepbgffnneagaaBFnExactJointDensity3
import Derived.Test.YtcepbgffnneagaaBFnExactJointDensity9
import Derived.Test.YtcepbgffnneagaaBFnExactJointDensity11
import Derived.Test.YtcepbgffnneagaaBFnExactJointDensity5
import Derived.Test.YtcepbgffnneagaaBFnExactJointDensity10
import Derived.Test.YtcepbgffnneagaaBFnExactJointDensity4
import Derived.Test.YtcepbgffnneagaaBFnExactJointDensity12
import Derived.Test.YtcepbgffnneagaaBFnExactJointDensity13
import Derived.Test.YtcepbgffnneagaaBFnExactJointDensity6
import Derived.Test.YtcepbgffnneagaaBFnExactJointDensity7
import Derived.Test.YtcepbgffnneagaaBFnExactJointDensity8
import Derived.Test.YtcepbgffnneagaaBFnExactJointDensity14
import Derived.Test.YtcepbgffnneagaaBFnExactJointDensity15
import Derived.Test.YtcepbgffnneagaaBFnExactJointDensity2
import Derived.WalkKit
import Derived.ProofKit
import Derived.OpenShut
import Derived.ChangeOld
import Derived.Deep.Slices
section
namespace Go.Proofs.Ytcepbgffnneagaa.Q
open Go.RowKit Go.Proofs.YtcepbgffnneagaaW.PrintWords Go.Proofs.YtcepbgffnneagaaW.PrintLast Go.Proofs.YtcepbgffnneagaaW.PrintMore
attribute [local go_sem] max2_int min2_int max_two min_two max_three min_three max_four min_four
set_option linter.unusedVariables false
set_option linter.unusedSimpArgs false
section
def idxI {α : Type} (p : α → Bool) : List α → Nat → Int
  | [], _ => -1
  | x :: xs, i => if p x = true then (i : Int) else idxI p xs (i + 1)
theorem idxI_any {α : Type} (p : α → Bool) : ∀ (L : List α) (i : Nat), decide (idxI p L i ≥ 0) = L.any p
  | [], _ => by simp [idxI]
  | x :: xs, i => by
    rw [idxI, List.any_cons]
    by_cases h : p x = true
    · rw [if_pos h, h]; simp
    · rw [if_neg h, idxI_any p xs (i + 1)]; simp [Bool.eq_false_iff.2 h]
end
section
theorem idxFlag_loop (cb : Int → Int → Int → Option Bool) (p : S45 → Bool) (L : List S45) (hL : L.length ≤ 1048576) (hcb : ∀ x ∈ L, cb x.f0 x.f1.f0 x.f1.f1 = some (p x)) : ∀ (d i k : Nat), i + d = L.length → d + 1 ≤ k → impl_Flag_169.l0 cb k L (L.length : Int) i = some (idxI p (L.drop i) i)
  | 0, i, k, hd, hk => by
    obtain ⟨k, rfl⟩ : ∃ q, k = q + 1 := ⟨k - 1, by omega⟩
    rw [impl_Flag_169.l0, if_neg (by omega), List.drop_eq_nil_of_le (by omega)]; rfl
  | d + 1, i, k, hd, hk => by
    obtain ⟨k, rfl⟩ : ∃ q, k = q + 1 := ⟨k - 1, by omega⟩
    have hi : i < L.length := by omega
    have hr : rd_T45 L (i : Int) = L[i] := by unfold rd_T45; exact getD_of_lt L _ hi
    rw [impl_Flag_169.l0]
    simp only [hr]
    rw [if_pos (by omega), if_pos (by omega), if_pos (by omega), hcb _ (List.getElem_mem hi), w64_succ (by omega), List.drop_eq_getElem_cons hi, idxI]
    simp only [Option.bind_some]
    split
    · rfl
    · exact idxFlag_loop cb p L hL hcb d (i + 1) k (by omega) (by omega)
theorem idxFlag_eq (cb : Int → Int → Int → Option Bool) (p : S45 → Bool) (L : List S45) (hL : L.length ≤ 1048576) (hcb : ∀ x ∈ L, cb x.f0 x.f1.f0 x.f1.f1 = some (p x)) (k : Nat) (hk : L.length + 1 ≤ k) : impl_Flag_169.f cb k L = some (idxI p L 0) := by
  unfold impl_Flag_169.f
  have := idxFlag_loop cb p L hL hcb L.length 0 k (Nat.zero_add _) hk
  rw [show ((0 : Nat) : Int) = 0 from rfl, List.drop_zero] at this
  exact this
theorem anyFlag_eq (cb : Int → Int → Int → Option Bool) (p : S45 → Bool) (L : List S45) (hL : L.length ≤ 1048576) (hcb : ∀ x ∈ L, cb x.f0 x.f1.f0 x.f1.f1 = some (p x)) (k : Nat) (hk : L.length + 1 ≤ k) : impl_Flag_133.f cb k L = some (L.any p) := by
  unfold impl_Flag_133.f
  rw [idxFlag_eq cb p L hL hcb k hk]
  simp only [Option.bind_some, idxI_any]
end
section
theorem in_eq (a b c : Int) : impl_in.f a b c = some (decide (b ≤ a ∧ a ≤ c)) := by
  unfold impl_in.f
  by_cases h : a ≥ b
  · rw [if_pos h]; congr 1; rw [decide_eq_decide]; omega
  · rw [if_neg h]; congr 1; symm; rw [decide_eq_false_iff_not]; omega
end
section
def validG (n e : Int) : Bool := decide (0 ≤ n ∧ n ≤ 5 ∧ e < 2 ^ (n.toNat * (n.toNat - 1) / 2))
theorem l01Ok_eq (n e : Int) (h0 : 0 ≤ e) (h1 : e ≤ 4294967295) : spec_l01Ok.f n e = some (validG n e) := by
  have hw : wrap64 e = e := by unfold wrap64; omega
  unfold spec_l01Ok.f validG
  rw [l00In_eq, hw]; simp only [Option.bind_some]
  by_cases h : 0 ≤ n ∧ n ≤ 5
  · rw [if_pos (by simpa using h)]
    obtain ⟨ha, hb⟩ := h
    rcases small5 ha hb with rfl | rfl | rfl | rfl | rfl | rfl
    all_goals
      simp only [spec_l01Bits.f]
      simp [wrap64, IntKind.wrap_u64, shl, IntKind.wrap_i64, IntKind.bits]
  · rw [if_neg (by simpa using h)]; congr 1; symm; rw [decide_eq_false_iff_not]; omega
end
section
theorem ValidGraph_eq (n e : Int) (h0 : 0 ≤ e) (h1 : e ≤ 4294967295) : impl_ValidGraph.f n e = some (validG n e) := by
  unfold impl_ValidGraph.f validG
  rw [in_eq]; simp only [Option.bind_some]
  by_cases h : 0 ≤ n ∧ n ≤ 5
  · rw [if_pos (by simpa using h)]
    obtain ⟨ha, hb⟩ := h
    rcases small5 ha hb with rfl | rfl | rfl | rfl | rfl | rfl
    all_goals
      simp only [impl_pairs.f]
      simp [wrap64, shr, IntKind.bits]
    all_goals (first | done | (rw [Bool.eq_iff_iff]; simp; omega))
  · rw [if_neg (by simpa using h)]; congr 1; symm; rw [decide_eq_false_iff_not]; omega
end
section
def validF (l n e : Int) : Bool := validG n e && decide (0 ≤ l ∧ l ≤ 3 ∧ l ≤ n)
theorem l03Ok_eq (l n e : Int) (h0 : 0 ≤ e) (h1 : e ≤ 4294967295) : spec_l03Ok.f l n e = some (validF l n e) := by
  unfold spec_l03Ok.f validF
  rw [l01Ok_eq n e h0 h1, l00In_eq]; simp only [Option.bind_some]
  cases validG n e
  · rfl
  · by_cases h : 0 ≤ l ∧ l ≤ 3
    · rw [if_pos rfl, if_pos (by simpa using h)]; simp [h]
    · rw [if_pos rfl, if_neg (by simpa using h)]; congr 1; simp; omega
end
section
theorem ValidFlag_eq (l n e : Int) (h0 : 0 ≤ e) (h1 : e ≤ 4294967295) : impl_ValidFlag.f l n e = some (validF l n e) := by
  unfold impl_ValidFlag.f validF
  rw [ValidGraph_eq n e h0 h1, in_eq]; simp only [Option.bind_some]
  cases validG n e
  · rfl
  · by_cases h : 0 ≤ l ∧ l ≤ 3
    · rw [if_pos rfl, if_pos (by simpa using h)]; simp [h]
    · rw [if_pos rfl, if_neg (by simpa using h)]; congr 1; simp; omega
end
section
def allDiff (m : Int) (l : List Int) : Prop := l.Nodup ∧ ∀ x ∈ l, 0 ≤ x ∧ x ≤ m
instance (m : Int) (l : List Int) : Decidable (allDiff m l) := by unfold allDiff; infer_instance
end
section
def leavesIn (g : List Int → List (List Int)) (l : List Int) : Nat → Nat → List (List Int)
  | 0, _ => []
  | d + 1, i => if (i : Int) ∈ l then leavesIn g l d (i + 1) else g (l ++ [(i : Int)]) ++ leavesIn g l d (i + 1)
def leaves (n : Nat) : Nat → List Int → List (List Int)
  | 0, l => [l]
  | r + 1, l => leavesIn (leaves n r) l n 0
def runCb {σ : Type} (cb : List Int → σ → Option (Bool × σ)) : List (List Int) → σ → Option (Bool × σ)
  | [], a => some (false, a)
  | l :: ls, a => (cb l a).bind fun p => if p.1 = true then some (true, p.2) else runCb cb ls p.2
theorem runCb_append {σ : Type} (cb : List Int → σ → Option (Bool × σ)) (y : List (List Int)) : ∀ (x : List (List Int)) (a : σ), runCb cb (x ++ y) a = (runCb cb x a).bind fun p => if p.1 = true then some (true, p.2) else runCb cb y p.2
  | [], a => rfl
  | l :: ls, a => by
    simp only [List.cons_append, runCb]
    cases h : cb l a with
    | none => rfl
    | some p =>
      simp only [Option.bind_some]
      by_cases hp : p.1 = true
      · rw [if_pos hp, if_pos hp]; rfl
      · rw [if_neg hp, if_neg hp]; exact runCb_append cb y ls p.2
theorem lstdIn_eq {σ : Type} (cb : List Int → σ → Option (Bool × σ)) (f : List Int → σ → Option (Bool × σ)) (g : List Int → List (List Int)) (hf : ∀ l a, f l a = runCb cb (g l) a) (l : List Int) : ∀ (d i : Nat) (a : σ), lstdIn f l d i a = runCb cb (leavesIn g l d i) a
  | 0, _, _ => rfl
  | d + 1, i, a => by
    rw [lstdIn, leavesIn]
    by_cases h : (i : Int) ∈ l
    · rw [if_pos h, if_pos h]; exact lstdIn_eq cb f g hf l d (i + 1) a
    · rw [if_neg h, if_neg h, runCb_append, hf]
      congr 1
      funext p
      by_cases hp : p.1 = true
      · rw [if_pos hp, if_pos hp]
      · rw [if_neg hp, if_neg hp]; exact lstdIn_eq cb f g hf l d (i + 1) p.2
theorem lstd_eq {σ : Type} (cb : List Int → σ → Option (Bool × σ)) (n : Nat) : ∀ (r : Nat) (l : List Int) (a : σ), lstd cb n r l a = runCb cb (leaves n r l) a
  | 0, l, a => by
    simp only [lstd, leaves, runCb]
    cases cb l a with
    | none => rfl
    | some p =>
      obtain ⟨b, a'⟩ := p
      cases b <;> rfl
  | r + 1, l, a => by
    rw [lstd, leaves]
    exact lstdIn_eq cb _ _ (fun l a => lstd_eq cb n r l a) l n 0 a
theorem runCb_any (cb : List Int → Option Bool) (p : List Int → Bool) : ∀ (L : List (List Int)), (∀ l ∈ L, cb l = some (p l)) → runCb (fun l (_ : Unit) => (cb l).map fun b => (b, ())) L () = some (L.any p, ())
  | [], _ => rfl
  | l :: ls, h => by
    simp only [runCb, h l (List.mem_cons_self), Option.map_some, Option.bind_some, List.any_cons]
    cases hp : p l
    · simp only [Bool.false_eq_true, if_false, Bool.false_or]
      exact runCb_any cb p ls fun x hx => h x (List.mem_cons_of_mem _ hx)
    · simp
end
section
def shiftL (s : Nat) (own : List Int) : List Int := firstI s ++ own.map fun x => (s : Int) + x
theorem leaves_shift : ∀ n, n < 6 → ∀ s, s < n + 1 → leaves n (n - s) (firstI s) = (leaves (n - s) (n - s) []).map (shiftL s) := by decide +kernel
theorem leaves_ok_s : ∀ n, n < 6 → ∀ s, s < n + 1 → ∀ l ∈ leaves n (n - s) (firstI s), l.length = n ∧ allDiff ((n : Int) - 1) l := by decide +kernel
theorem leaves_small : ∀ n, n < 6 → ∀ l ∈ leaves n n [], l.length = n ∧ ∀ x ∈ l, 0 ≤ x ∧ x ≤ 5 := by decide +kernel
theorem l03Order_loop (s : Nat) (hs : s < 6) (own : List Int) (hl : own.length ≤ 5) (ho : ∀ x ∈ own, 0 ≤ x ∧ x ≤ 5) : ∀ (d i k : Nat) (out : List Int), i + d = own.length → out.length ≤ 5 + i → d + 1 ≤ k → spec_l03Order.l0 k s own out i = some (out ++ (own.drop i).map fun x => (s : Int) + x)
  | 0, i, k, out, hd, hout, hk => by
    obtain ⟨k, rfl⟩ : ∃ q, k = q + 1 := ⟨k - 1, by omega⟩
    rw [spec_l03Order.l0, if_neg (by omega), List.drop_eq_nil_of_le (by omega)]; simp
  | d + 1, i, k, out, hd, hout, hk => by
    obtain ⟨k, rfl⟩ : ∃ q, k = q + 1 := ⟨k - 1, by omega⟩
    have hi : i < own.length := by omega
    have hx := ho _ (List.getElem_mem hi)
    rw [spec_l03Order.l0, if_pos (by omega), if_pos (by omega), if_pos (by omega), w64_succ (by omega), rd_of_lt own hi, show wrap64 ((s : Int) + own[i]) = (s : Int) + own[i] from by unfold wrap64; omega]
    rw [l03Order_loop s hs own hl ho d (i + 1) k _ (by omega) (by rw [List.length_append]; simp only [List.length_cons, List.length_nil]; omega) (by omega), List.append_assoc, List.drop_eq_getElem_cons hi]
    rfl
theorem l03Order_eq (s : Nat) (hs : s < 6) (own : List Int) (hl : own.length ≤ 5) (ho : ∀ x ∈ own, 0 ≤ x ∧ x ≤ 5) (k : Nat) (hk : 100 ≤ k) : spec_l03Order.f k s own = some (shiftL s own) := by
  unfold spec_l03Order.f
  rw [firstS_eq s (by omega) (by omega) k (by omega)]
  simp only [Option.bind_some, Int.toNat_natCast]
  have hfl : ∀ n, n < 6 → (firstI n).length = n := by decide
  have hfs := hfl s hs
  have := l03Order_loop s hs own hl ho own.length 0 k (firstI s) (by omega) (by omega) (by omega)
  rw [show ((0 : Nat) : Int) = 0 from rfl] at this
  rw [this]; rfl
theorem own_ok (n s : Nat) (hn : n < 6) (hs : s < n + 1) : ∀ l ∈ leaves (n - s) (n - s) [], (l.length ≤ 5 ∧ ∀ y ∈ l, 0 ≤ y ∧ y ≤ 5) ∧ (shiftL s l).length = n ∧ allDiff ((n : Int) - 1) (shiftL s l) := by
  intro l hl
  have h1 := leaves_small (n - s) (by omega) l hl
  have h2 := leaves_ok_s n hn s hs (shiftL s l) (by rw [leaves_shift n hn s hs]; exact List.mem_map_of_mem hl)
  exact ⟨⟨by omega, h1.2⟩, h2⟩
end
section
theorem bits_of (f : Nat → Bool) : ∀ m, ∃ b, b < 2 ^ m ∧ ∀ q, q < m → b.testBit q = f q
  | 0 => ⟨0, by simp, fun q hq => absurd hq (Nat.not_lt_zero _)⟩
  | m + 1 => by
    obtain ⟨b, hb, h⟩ := bits_of f m
    cases hf : f m
    · refine ⟨b, by rw [Nat.pow_succ]; omega, fun q hq => ?_⟩
      by_cases hqm : q = m
      · subst hqm
        rw [hf]; exact Nat.testBit_lt_two_pow hb
      · exact h q (by omega)
    · refine ⟨2 ^ m + b, by rw [Nat.pow_succ]; omega, fun q hq => ?_⟩
      by_cases hqm : q = m
      · subst hqm
        rw [hf, Nat.testBit_two_pow_add_eq, Nat.testBit_lt_two_pow hb]; rfl
      · rw [Nat.testBit_two_pow_add_gt (by omega)]; exact h q (by omega)
def pairAt (J : Nat → Nat → Bool) : Nat → Bool
  | 0 => J 0 1 | 1 => J 0 2 | 2 => J 1 2 | 3 => J 0 3 | 4 => J 1 3 | 5 => J 2 3 | 6 => J 0 4 | 7 => J 1 4 | 8 => J 2 4 | 9 => J 3 4 | _ => false
theorem pairAt_bit (J : Nat → Nat → Bool) {i j : Nat} (hij : i < j) (hj : j < 5) : pairAt J (bitIx i j) = J i j := by
  have : (i = 0 ∧ j = 1) ∨ (i = 0 ∧ j = 2) ∨ (i = 1 ∧ j = 2) ∨ (i = 0 ∧ j = 3) ∨ (i = 1 ∧ j = 3) ∨ (i = 2 ∧ j = 3) ∨ (i = 0 ∧ j = 4) ∨ (i = 1 ∧ j = 4) ∨ (i = 2 ∧ j = 4) ∨ (i = 3 ∧ j = 4) := by omega
  rcases this with ⟨rfl, rfl⟩ | ⟨rfl, rfl⟩ | ⟨rfl, rfl⟩ | ⟨rfl, rfl⟩ | ⟨rfl, rfl⟩ | ⟨rfl, rfl⟩ | ⟨rfl, rfl⟩ | ⟨rfl, rfl⟩ | ⟨rfl, rfl⟩ | ⟨rfl, rfl⟩ <;> rfl
theorem hasI_bit : ∀ b : Nat, b < 1024 → ∀ i : Nat, i < 5 → ∀ j : Nat, j < 5 → i ≠ j → hasI (b : Int) (i : Int) (j : Int) = b.testBit (bitIx i j) := by decide +kernel
theorem bitIx_lt : ∀ n, n < 6 → ∀ j, j < n → ∀ i, i < j → bitIx i j < prs n := by decide
theorem prs_le : ∀ n, n < 6 → 2 ^ prs n ≤ 1024 := by decide
theorem made_has : ∀ n, n < 6 → ∀ b, b < 2 ^ prs n → madeI n (fun i j => hasI (b : Nat) i j) = (b : Nat) := by decide +kernel
theorem made_spec (n : Nat) (hn : n < 6) (J : Nat → Nat → Bool) : ∃ b : Nat, b < 2 ^ prs n ∧ madeI n J = b ∧ ∀ i j : Nat, i < j → j < n → hasI b i j = J i j := by
  obtain ⟨b, hb, h⟩ := bits_of (pairAt J) (prs n)
  have hb' : b < 1024 := Nat.lt_of_lt_of_le hb (prs_le n hn)
  have hJ : ∀ i j : Nat, i < j → j < n → hasI b i j = J i j := fun i j hij hj => by
    rw [hasI_bit b hb' i (by omega) j (by omega) (by omega), h _ (bitIx_lt n hn j hj i hij), pairAt_bit J hij (by omega)]
  exact ⟨b, hb, by rw [madeI_congr (J' := fun i j => hasI b i j) fun i j hij hj => (hJ i j hij hj).symm]; exact made_has n hn b hb, hJ⟩
theorem hasI_comm (e : Int) {a b : Nat} (h : a ≠ b) : hasI e a b = hasI e b a := by
  unfold hasI bitI
  rw [show bitIx (a : Int).toNat (b : Int).toNat = bitIx (b : Int).toNat (a : Int).toNat from by
    simp only [Int.toNat_natCast]; unfold bitIx
    by_cases hab : a > b
    · rw [if_pos hab, if_neg (by omega)]
    · rw [if_neg hab, if_pos (by omega)]]
def isOrd (n : Nat) (l : List Int) : Prop := l.length = n ∧ allDiff ((n : Int) - 1) l
theorem isOrd.at {n : Nat} {l : List Int} (h : isOrd n l) (i : Nat) (hi : i < n) : ∃ a : Nat, a < n ∧ rd l i = a := by
  have hl : i < l.length := by rw [h.1]; exact hi
  have := h.2.2 _ (List.getElem_mem hl)
  exact ⟨l[i].toNat, by omega, by rw [rd_of_lt l hl]; omega⟩
theorem isOrd.ne {n : Nat} {l : List Int} (h : isOrd n l) {i j : Nat} (hij : i ≠ j) (hi : i < n) (hj : j < n) : rd l i ≠ rd l j := by
  have hl : i < l.length := by rw [h.1]; exact hi
  have hl2 : j < l.length := by rw [h.1]; exact hj
  rw [rd_of_lt l hl, rd_of_lt l hl2]
  rcases Nat.lt_or_gt_of_ne hij with h1 | h1
  · exact List.pairwise_iff_getElem.1 h.2.1 i j hl hl2 h1
  · exact fun e => List.pairwise_iff_getElem.1 h.2.1 j i hl2 hl h1 e.symm
theorem onI_nat (n : Nat) (hn : n < 6) (e : Int) {l : List Int} (h : isOrd n l) : ∃ b : Nat, b < 2 ^ prs n ∧ onI e l = b ∧ ∀ i j : Nat, i ≠ j → i < n → j < n → hasI b i j = hasI e (rd l i) (rd l j) := by
  obtain ⟨b, hb, h1, h2⟩ := made_spec n hn (fun i j => hasI e (rd l i) (rd l j))
  refine ⟨b, hb, by unfold onI; rw [h.1]; exact h1, fun i j hij hi hj => ?_⟩
  rcases Nat.lt_or_gt_of_ne hij with hlt | hlt
  · exact h2 i j hlt hj
  · rw [hasI_comm b hij, h2 j i hlt hi]
    obtain ⟨x, hx, ex⟩ := h.at i hi
    obtain ⟨y, hy, ey⟩ := h.at j hj
    have := h.ne hij hi hj
    rw [ex, ey] at this ⊢
    exact hasI_comm e (by omega)
def comp (l p : List Int) : List Int := p.map fun x => rd l x
theorem rd_comp {n : Nat} {l p : List Int} (hp : isOrd n p) (i : Nat) (hi : i < n) : rd (comp l p) i = rd l (rd p i) := by
  have h1 : i < p.length := by rw [hp.1]; exact hi
  rw [rd_of_lt p h1, rd_of_lt _ (by unfold comp; rw [List.length_map]; exact h1)]
  simp [comp]
theorem isOrd.comp {n : Nat} {l p : List Int} (hl : isOrd n l) (hp : isOrd n p) : isOrd n (comp l p) := by
  have hlen : (Q.comp l p).length = n := by unfold Q.comp; rw [List.length_map]; exact hp.1
  have hget : ∀ i (h : i < (Q.comp l p).length), ∃ a : Nat, a < n ∧ rd p i = a ∧ (Q.comp l p)[i] = rd l a := fun i h => by
    obtain ⟨a, ha, e⟩ := hp.at i (by omega)
    exact ⟨a, ha, e, by rw [← rd_of_lt (Q.comp l p) h, rd_comp hp i (by omega), e]⟩
  refine ⟨hlen, List.pairwise_iff_getElem.2 fun i j hi hj hij => ?_, fun x hx => ?_⟩
  · obtain ⟨a, ha, ea, e1⟩ := hget i hi
    obtain ⟨b, hb, eb, e2⟩ := hget j hj
    rw [e1, e2]
    refine hl.ne (fun e => ?_) ha hb
    exact hp.ne (show i ≠ j by omega) (by omega) (by omega) (by rw [ea, eb, e])
  · obtain ⟨i, hi, rfl⟩ := List.getElem_of_mem hx
    obtain ⟨a, ha, _, e1⟩ := hget i hi
    obtain ⟨c, hc, ec⟩ := hl.at a ha
    rw [e1, ec]; omega
theorem onI_comp (n : Nat) (hn : n < 6) (e : Int) {l p : List Int} (hl : isOrd n l) (hp : isOrd n p) : onI (onI e l) p = onI e (comp l p) := by
  obtain ⟨b, hb, e1, h1⟩ := onI_nat n hn e hl
  rw [e1]
  unfold onI
  rw [hp.1, (hl.comp hp).1]
  refine madeI_congr fun i j hij hj => ?_
  obtain ⟨x, hx, ex⟩ := hp.at i (by omega)
  obtain ⟨y, hy, ey⟩ := hp.at j hj
  have hne := hp.ne (show i ≠ j by omega) (by omega) hj
  rw [rd_comp hp i (by omega), rd_comp hp j hj, ex, ey]
  rw [ex, ey] at hne
  exact h1 x y (by omega) hx hy
end
section

end
section

end
section

end
section
def isChain (n : Int) : List (List Int) → Bool
  | [] => true
  | x :: ls => match ls with
    | [] => match spec_l01Next.f 100 x n with | some (false, _) => true | _ => false
    | y :: _ => decide (spec_l01Next.f 100 x n = some (true, y)) && isChain n ls
theorem chains : ∀ n, n < 6 → ∀ r, r < n + 1 → (leaves n r []).head? = some (firstI r) ∧ isChain n (leaves n r []) = true := by decide +kernel
theorem leaves_ok : ∀ n, n < 6 → ∀ r, r < n + 1 → ∀ l ∈ leaves n r [], l.length = r ∧ allDiff ((n : Int) - 1) l := by decide +kernel
theorem next_ge {x : List Int} {n : Int} {p : Bool × List Int} (h : spec_l01Next.f 100 x n = some p) (k : Nat) (hk : 100 ≤ k) : spec_l01Next.f k x n = some p :=
  LeO_ge (F := fun k => spec_l01Next.f k x n) (fun k => spec_l01Next.mono x n k) hk _ h
theorem chain_one {n : Int} {x : List Int} (h : isChain n [x] = true) : ∃ y, ∀ k, 100 ≤ k → spec_l01Next.f k x n = some (false, y) := by
  simp only [isChain] at h
  split at h
  · next y e => exact ⟨y, fun k hk => next_ge e k hk⟩
  · cases h
theorem chain_cons {n : Int} {x y : List Int} {ls : List (List Int)} (h : isChain n (x :: y :: ls) = true) : (∀ k, 100 ≤ k → spec_l01Next.f k x n = some (true, y)) ∧ isChain n (y :: ls) = true := by
  rw [isChain] at h
  simp only [Bool.and_eq_true, decide_eq_true_eq] at h
  exact ⟨fun k hk => next_ge h.1 k hk, h.2⟩
theorem leaves_short : ∀ n, n < 6 → ∀ r, r < n + 1 → (leaves n r []).length ≤ 200 := by decide +kernel
end
section
theorem allDiff_len {n : Int} (h0 : 0 ≤ n) (h5 : n ≤ 5) {l : List Int} (h : allDiff (wrap64 (n - 1)) l) : l.length ≤ n.toNat ∧ ∀ x ∈ l, 0 ≤ x ∧ x < n := by
  have hw : wrap64 (n - 1) = n - 1 := by unfold wrap64; omega
  rw [hw] at h
  have h2 : ∀ x ∈ l, 0 ≤ x ∧ x < n := fun x hx => by have := h.2 x hx; omega
  exact ⟨pigeon n.toNat l h.1 fun x hx => by have := h2 x hx; omega, h2⟩
end
section
theorem l01Bit_eq (k : Nat) {i j : Int} (i0 : 0 ≤ i) (i4 : i ≤ 4) (j0 : 0 ≤ j) (j4 : j ≤ 4) : spec_l01Bit.f (k + 2) i j = some (bitI i j) := by
  rcases small4 i0 i4 with rfl | rfl | rfl | rfl | rfl <;> rcases small4 j0 j4 with rfl | rfl | rfl | rfl | rfl <;> kernel_rfl
end
section
theorem joined_eq (k : Nat) (n e : Int) {i j : Int} (i0 : 0 ≤ i) (i4 : i ≤ 4) (j0 : 0 ≤ j) (j4 : j ≤ 4) (hij : i ≠ j) : spec_l01Joined.f (k + 2) n e i j = some (hasI e i j) := by
  unfold spec_l01Joined.f hasI
  rw [if_neg hij, l01Bit_eq k i0 i4 j0 j4]; rfl
theorem l01Bit_ge {k : Nat} (hk : 2 ≤ k) {i j : Int} (i0 : 0 ≤ i) (i4 : i ≤ 4) (j0 : 0 ≤ j) (j4 : j ≤ 4) : spec_l01Bit.f k i j = some (bitI i j) := by
  obtain ⟨q, rfl⟩ : ∃ q, k = q + 2 := ⟨k - 2, by omega⟩
  exact l01Bit_eq q i0 i4 j0 j4
theorem joined_ge {k : Nat} (hk : 2 ≤ k) (n e : Int) {i j : Int} (i0 : 0 ≤ i) (i4 : i ≤ 4) (j0 : 0 ≤ j) (j4 : j ≤ 4) (hij : i ≠ j) : spec_l01Joined.f k n e i j = some (hasI e i j) := by
  obtain ⟨q, rfl⟩ : ∃ q, k = q + 2 := ⟨k - 2, by omega⟩
  exact joined_eq q n e i0 i4 j0 j4 hij
theorem onS_row {l : List Int} {j : Nat} (n e0 : Int) (h5 : l.length ≤ 5) (h : ∀ i : Nat, i < l.length → 0 ≤ rd l i ∧ rd l i ≤ 4) (hne : ∀ i j : Nat, i < j → j < l.length → rd l i ≠ rd l j) (hj : j < l.length) (N : Int) :
    ∀ (d i : Nat) (e : Int) (k : Nat), i + d = j → d + 3 ≤ k → spec_l01On.l1 k l j i n e0 N e = spec_l01On.l0 (k - (d + 1)) l ((j + 1 : Nat) : Int) n e0 N (loopRow (fun i j => hasI e0 (rd l i) (rd l j)) j d i e)
  | 0, i, e, k, hd, hk => by
    have : i = j := by omega
    subst this
    obtain ⟨k, rfl⟩ : ∃ m, k = m + 1 := ⟨k - 1, by omega⟩
    simp only [spec_l01On.l1, loopRow]
    rw [if_neg (by omega), show wrap64 ((i : Int) + 1) = ((i + 1 : Nat) : Int) from by unfold wrap64; omega]; rfl
  | d + 1, i, e, k, hd, hk => by
    have hw : wrap64 ((i : Int) + 1) = ((i + 1 : Nat) : Int) := by unfold wrap64; omega
    have hi := h i (by omega)
    have hj' := h j hj
    obtain ⟨k, rfl⟩ : ∃ m, k = m + 1 := ⟨k - 1, by omega⟩
    simp only [spec_l01On.l1, loopRow]
    rw [if_pos (by omega), if_pos (by omega), if_pos (by omega), if_pos (by omega), if_pos (by omega), joined_ge (by omega) n e0 hi.1 hi.2 hj'.1 hj'.2 (hne i j (by omega) hj), hw, show k + 1 - (d + 1 + 1) = k - (d + 1) from by omega]
    simp only [Option.bind_some]
    by_cases hb : hasI e0 (rd l i) (rd l j) = true
    rotate_left
    · rw [if_neg hb, if_neg hb]
      exact onS_row n e0 h5 h hne hj N d (i + 1) e k (by omega) (by omega)
    · rw [if_pos hb, if_pos hb, l01Bit_ge (by omega) (by omega) (by omega) (by omega) (by omega)]
      simp only [Option.bind_some]
      exact onS_row n e0 h5 h hne hj N d (i + 1) _ k (by omega) (by omega)
theorem onS_all {l : List Int} (n e0 : Int) (h5 : l.length ≤ 5) (h : ∀ i : Nat, i < l.length → 0 ≤ rd l i ∧ rd l i ≤ 4) (hne : ∀ i j : Nat, i < j → j < l.length → rd l i ≠ rd l j) :
    ∀ (d j : Nat) (e : Int) (k : Nat), j + d = l.length → 7 * d + 3 ≤ k → spec_l01On.l0 k l j n e0 (l.length : Int) e = some ((l.length : Int), loopMade (fun i j => hasI e0 (rd l i) (rd l j)) d j e)
  | 0, j, e, k, hd, hk => by
    obtain ⟨k, rfl⟩ : ∃ m, k = m + 1 := ⟨k - 1, by omega⟩
    simp only [spec_l01On.l0, loopMade]
    rw [if_neg (by omega)]
  | d + 1, j, e, k, hd, hk => by
    obtain ⟨k, rfl⟩ : ∃ m, k = m + 1 := ⟨k - 1, by omega⟩
    simp only [spec_l01On.l0, loopMade]
    rw [if_pos (by omega)]
    have := onS_row n e0 h5 h hne (show j < l.length by omega) (l.length : Int) j 0 e k (by omega) (by omega)
    rw [show ((0 : Nat) : Int) = 0 from rfl] at this
    rw [this]
    exact onS_all n e0 h5 h hne d (j + 1) _ (k - (j + 1)) (by omega) (by omega)
theorem onS_eq (n e : Int) {l : List Int} (h5 : l.length ≤ 5) (h : ∀ i : Nat, i < l.length → 0 ≤ rd l i ∧ rd l i ≤ 4) (hne : ∀ i j : Nat, i < j → j < l.length → rd l i ≠ rd l j) (k : Nat) (hk : 40 ≤ k) :
    spec_l01On.f k n e l = some ((l.length : Int), onI e l) := by
  unfold spec_l01On.f onI madeI
  cases hl : l.length with
  | zero =>
    obtain ⟨k, rfl⟩ : ∃ m, k = m + 1 := ⟨k - 1, by omega⟩
    simp [spec_l01On.l0, loopMade]
  | succ m =>
    have := onS_all n e h5 h hne m 1 0 k (by omega) (by omega)
    rw [hl] at this
    rw [show ((1 : Nat) : Int) = 1 from rfl] at this
    rw [this]
    simp [loopMade, loopRow]
end
section
theorem onS_diff (n e : Int) {m : Int} (h0 : 0 ≤ m) (h5 : m ≤ 5) {l : List Int} (h : allDiff (wrap64 (m - 1)) l) (k : Nat) (hk : 40 ≤ k) : spec_l01On.f k n e l = some ((l.length : Int), onI e l) := by
  have hl := allDiff_len h0 h5 h
  have hat : ∀ i : Nat, (hi : i < l.length) → 0 ≤ l[i] ∧ l[i] < m := fun i hi => hl.2 _ (List.getElem_mem hi)
  refine onS_eq n e (by omega) (fun i hi => ?_) (fun i j hij hj => ?_) k hk
  · rw [rd_of_lt l hi]; have := hat i hi; omega
  · rw [rd_of_lt l hj, rd_of_lt l (by omega)]
    exact List.pairwise_iff_getElem.1 h.1 i j (by omega) hj hij
theorem okList_diff {m : Int} (h0 : 0 ≤ m) (h5 : m ≤ 5) {l : List Int} (h : allDiff (wrap64 (m - 1)) l) : okList l := by
  have hl := allDiff_len h0 h5 h
  exact ⟨by omega, fun x hx => by have := hl.2 x hx; omega⟩
end
section
def leastE (e : Int) (L : List (List Int)) (best : Int) : Int := L.foldl (fun b l => if onI e l < b then onI e l else b) best
end
section
theorem mem_leavesIn {g : List Int → List (List Int)} {l x : List Int} : ∀ (d i0 i : Nat), i0 ≤ i → i < i0 + d → (i : Int) ∉ l → x ∈ g (l ++ [(i : Int)]) → x ∈ leavesIn g l d i0
  | 0, i0, i, h1, h2, _, _ => by omega
  | d + 1, i0, i, h1, h2, hn, hx => by
    rw [leavesIn]
    rcases Nat.eq_or_lt_of_le h1 with rfl | h1
    · rw [if_neg hn]; exact List.mem_append_left _ hx
    · have := mem_leavesIn d (i0 + 1) i (by omega) (by omega) hn hx
      by_cases h : (i0 : Int) ∈ l
      · rw [if_pos h]; exact this
      · rw [if_neg h]; exact List.mem_append_right _ this
theorem mem_leaves (n : Nat) : ∀ (r : Nat) (pre t : List Int), t.length = r → (pre ++ t).Nodup → (∀ x ∈ t, 0 ≤ x ∧ x < n) → pre ++ t ∈ leaves n r pre
  | 0, pre, t, hl, _, _ => by
    obtain rfl := List.eq_nil_of_length_eq_zero hl
    rw [leaves, List.append_nil]; exact List.mem_singleton.2 rfl
  | r + 1, pre, t, hl, hd, hr => by
    cases t with
    | nil => simp at hl
    | cons x t =>
      have hx := hr x (List.mem_cons_self)
      have hxp : x ∉ pre := fun h => by
        rw [List.nodup_append] at hd
        exact hd.2.2 x h x (List.mem_cons_self) rfl
      rw [leaves]
      refine mem_leavesIn n 0 x.toNat (Nat.zero_le _) (by omega) (by rw [Int.toNat_of_nonneg hx.1]; exact hxp) ?_
      rw [Int.toNat_of_nonneg hx.1, show pre ++ x :: t = (pre ++ [x]) ++ t from by simp]
      exact mem_leaves n r (pre ++ [x]) t (by simpa using hl) (by simpa using hd) fun y hy => hr y (List.mem_cons_of_mem _ hy)
theorem leaves_take : ∀ n, n < 6 → ∀ s, s < n + 1 → ∀ l ∈ leaves n (n - s) (firstI s), l.take s = firstI s := by decide +kernel
theorem mem_orders (n s : Nat) (hs : s < n + 1) {l : List Int} (h : isOrd n l) (ht : l.take s = firstI s) : l ∈ leaves n (n - s) (firstI s) := by
  have e : firstI s ++ l.drop s = l := by rw [← ht]; exact List.take_append_drop s l
  have := mem_leaves n (n - s) (firstI s) (l.drop s) (by rw [List.length_drop, h.1]) (by rw [e]; exact h.2.1) (fun x hx => by have := h.2.2 x (List.mem_of_mem_drop hx); omega)
  rwa [e] at this
theorem map_firstI (l : List Int) : ∀ s, s ≤ l.length → (firstI s).map (fun x => rd l x) = l.take s
  | 0, _ => rfl
  | s + 1, h => by
    rw [firstI, List.map_append, map_firstI l s (by omega), List.take_succ_eq_append_getElem (by omega)]
    show _ ++ [rd l s] = _
    rw [rd_of_lt l (by omega)]
theorem comp_mem (n s : Nat) (hn : n < 6) (hs : s < n + 1) {l p : List Int} (hl : l ∈ leaves n (n - s) (firstI s)) (hp : p ∈ leaves n (n - s) (firstI s)) : comp l p ∈ leaves n (n - s) (firstI s) := by
  have ol : isOrd n l := leaves_ok_s n hn s hs l hl
  have op : isOrd n p := leaves_ok_s n hn s hs p hp
  refine mem_orders n s hs (ol.comp op) ?_
  unfold comp
  rw [← List.map_take, leaves_take n hn s hs p hp, map_firstI l s (by rw [ol.1]; omega), leaves_take n hn s hs l hl]
theorem orders_inv : ∀ n, n < 6 → ∀ s, s < n + 1 → ∀ l ∈ leaves n (n - s) (firstI s), ∃ p ∈ leaves n (n - s) (firstI s), comp l p = firstI n := by decide +kernel
theorem first_mem : ∀ n, n < 6 → ∀ s, s < n + 1 → firstI n ∈ leaves n (n - s) (firstI s) := by decide +kernel
theorem onI_first : ∀ n, n < 6 → ∀ b : Nat, b < 2 ^ prs n → onI (b : Nat) (firstI n) = (b : Nat) := by decide +kernel
theorem leastE_le (e : Int) : ∀ (L : List (List Int)) (best : Int), leastE e L best ≤ best ∧ ∀ l ∈ L, leastE e L best ≤ onI e l
  | [], best => ⟨Int.le_refl _, fun l hl => by cases hl⟩
  | x :: L, best => by
    have ih := leastE_le e L (if onI e x < best then onI e x else best)
    show leastE e L _ ≤ best ∧ ∀ l ∈ x :: L, leastE e L _ ≤ onI e l
    have h1 : (if onI e x < best then onI e x else best) ≤ best ∧ (if onI e x < best then onI e x else best) ≤ onI e x := by split <;> omega
    refine ⟨Int.le_trans ih.1 h1.1, fun l hl => ?_⟩
    rcases List.mem_cons.1 hl with rfl | hl
    · exact Int.le_trans ih.1 h1.2
    · exact ih.2 l hl
theorem leastE_mem (e : Int) : ∀ (L : List (List Int)) (best : Int), leastE e L best = best ∨ ∃ l ∈ L, leastE e L best = onI e l
  | [], best => Or.inl rfl
  | x :: L, best => by
    have ih := leastE_mem e L (if onI e x < best then onI e x else best)
    show leastE e L _ = best ∨ ∃ l ∈ x :: L, leastE e L _ = onI e l
    rcases ih with ih | ⟨l, hl, ih⟩
    · rw [ih]
      split
      · exact Or.inr ⟨x, List.mem_cons_self, rfl⟩
      · exact Or.inl rfl
    · exact Or.inr ⟨l, List.mem_cons_of_mem _ hl, ih⟩
theorem alike_iff (n s : Nat) (hn : n < 6) (hs : s < n + 1) (e h : Nat) (he : e < 2 ^ prs n) (hh : h < 2 ^ prs n) :
    (∃ l ∈ leaves n (n - s) (firstI s), onI e l = h) ↔ leastE e (leaves n (n - s) (firstI s)) e = leastE h (leaves n (n - s) (firstI s)) h := by
  have ord : ∀ l ∈ leaves n (n - s) (firstI s), isOrd n l := fun l hl => leaves_ok_s n hn s hs l hl
  have inv := orders_inv n hn s hs
  have cm : ∀ {l p : List Int}, l ∈ leaves n (n - s) (firstI s) → p ∈ leaves n (n - s) (firstI s) → comp l p ∈ leaves n (n - s) (firstI s) := fun hl hp => comp_mem n s hn hs hl hp
  have fm := first_mem n hn s hs
  generalize leaves n (n - s) (firstI s) = L at *
  have at_ : ∀ g : Nat, g < 2 ^ prs n → ∃ l ∈ L, leastE g L g = onI g l := fun g hg => by
    rcases leastE_mem g L g with h1 | h1
    · exact ⟨firstI n, fm, by rw [h1, onI_first n hn g hg]⟩
    · exact h1
  have le_ : ∀ (g k : Nat) {l : List Int}, g < 2 ^ prs n → k < 2 ^ prs n → l ∈ L → onI g l = k → leastE g L g ≤ leastE k L k := fun g k l hg hk hl e1 => by
    obtain ⟨p, hp, e2⟩ := at_ k hk
    rw [e2, ← e1, onI_comp n hn g (ord l hl) (ord p hp)]
    exact (leastE_le g L g).2 _ (cm hl hp)
  constructor
  · rintro ⟨l, hl, e1⟩
    obtain ⟨p, hp, e2⟩ := inv l hl
    have back : onI h p = e := by rw [← e1, onI_comp n hn e (ord l hl) (ord p hp), e2, onI_first n hn e he]
    exact Int.le_antisymm (le_ e h he hh hl e1) (le_ h e hh he hp back)
  · intro e0
    obtain ⟨l, hl, e1⟩ := at_ e he
    obtain ⟨q, hq, e2⟩ := at_ h hh
    obtain ⟨p, hp, e3⟩ := inv q hq
    refine ⟨comp l p, cm hl hp, ?_⟩
    rw [← onI_comp n hn e (ord l hl) (ord p hp), ← e1, e0, e2, onI_comp n hn h (ord q hq) (ord p hp), e3, onI_first n hn h hh]
end
section
def cntB (b : Nat) : Int := (((List.range 10).countP fun q => b.testBit q : Nat) : Int)
theorem ones_eq : ∀ b : Nat, b < 1024 → bits_OnesCount32.f (b : Int) = some (cntB b) := by decide +kernel
def pairsL (n : Nat) : List (Nat × Nat) := (List.range n).flatMap fun j => (List.range j).map fun i => (i, j)
theorem pairsL_bits : ∀ n, n < 6 → (pairsL n).map (fun p => bitIx p.1 p.2) = List.range (prs n) := by decide
theorem pairsL_lt : ∀ n, n < 6 → ∀ p ∈ pairsL n, p.1 < p.2 ∧ p.2 < n := by decide
theorem pairsL_perm : ∀ n, n < 6 → ∀ l ∈ leaves n n [], ((pairsL n).map fun p => bitIx (rd l p.1).toNat (rd l p.2).toNat).isPerm (List.range (prs n)) = true := by decide +kernel
theorem cnt_short : ∀ n, n < 6 → ∀ b : Nat, b < 2 ^ prs n → (List.range 10).countP (fun q => b.testBit q) = (List.range (prs n)).countP (fun q => b.testBit q) := by decide +kernel
theorem cnt_on (n : Nat) (hn : n < 6) (e h : Nat) (he : e < 2 ^ prs n) {l : List Int} (hl : l ∈ leaves n n []) (eh : onI e l = h) : cntB h = cntB e := by
  have ol : isOrd n l := leaves_ok n hn n (by omega) l hl
  obtain ⟨b, hb, e1, h1⟩ := onI_nat n hn e ol
  obtain rfl : b = h := by rw [eh] at e1; omega
  unfold cntB
  have he' : e < 1024 := Nat.lt_of_lt_of_le he (prs_le n hn)
  have hb' : b < 1024 := Nat.lt_of_lt_of_le hb (prs_le n hn)
  rw [cnt_short n hn b hb, cnt_short n hn e he]
  have hp := List.isPerm_iff.1 (pairsL_perm n hn l hl)
  rw [← hp.countP_eq (fun q => e.testBit q), ← pairsL_bits n hn, List.countP_map, List.countP_map]
  congr 1
  refine List.countP_congr fun p hp => ?_
  obtain ⟨p1, p2⟩ := pairsL_lt n hn p hp
  obtain ⟨x, hx, ex⟩ := ol.at p.1 (by omega)
  obtain ⟨y, hy, ey⟩ := ol.at p.2 (by omega)
  have hne := ol.ne (show p.1 ≠ p.2 by omega) (by omega) (by omega)
  have := h1 p.1 p.2 (by omega) (by omega) (by omega)
  rw [ex, ey] at hne this
  rw [hasI_bit b hb' _ (by omega) _ (by omega) (by omega), hasI_bit e he' _ (by omega) _ (by omega) (by omega)] at this
  simp only [Function.comp, ex, ey, Int.toNat_natCast, this]
end
section
theorem leaves_sub : ∀ n, n < 6 → ∀ s, s < n + 1 → ∀ l ∈ leaves n (n - s) (firstI s), l ∈ leaves n n [] := by
  intro n hn s hs l hl
  have h := leaves_ok_s n hn s hs l hl
  have := mem_orders n 0 (by omega) (l := l) h (by simp [firstI])
  simpa [firstI] using this
theorem alike_eq (n s : Nat) (hn : n < 6) (hs : s < n + 1) (e h : Nat) (he : e < 2 ^ prs n) (hh : h < 2 ^ prs n) : impl_Graph_alike.f n e n h s = some (leastE e (leaves n (n - s) (firstI s)) e == leastE h (leaves n (n - s) (firstI s)) h) := by
  have he' : e < 1024 := Nat.lt_of_lt_of_le he (prs_le n hn)
  have hh' : h < 1024 := Nat.lt_of_lt_of_le hh (prs_le n hn)
  have iff_ := alike_iff n s hn hs e h he hh
  unfold impl_Graph_alike.f
  rw [if_pos rfl, ones_eq e he', ones_eq h hh']
  simp only [Option.bind_some]
  by_cases hc : cntB e = cntB h
  · rw [if_pos hc]
    unfold impl_Graph_orders.f
    rw [if_pos (by omega), lstd_eq, show ((n : Int) - (s : Int)).toNat = n - s from by omega, Int.toNat_natCast, Int.toNat_natCast]
    rw [runCb_any _ (fun l => decide (onI e l = h))]
    · simp only [Option.map_some, Option.bind_some]
      congr 1
      rw [Bool.eq_iff_iff, List.any_eq_true, beq_iff_eq, ← iff_]
      simp only [decide_eq_true_eq]
    · intro l hl
      have ol := leaves_ok_s n hn s hs l hl
      unfold impl_Graph_alike_1.f
      rw [impl_onT.eq n e (okList_diff (m := n) (by omega) (by omega) (by rw [show wrap64 ((n : Int) - 1) = (n : Int) - 1 from by unfold wrap64; omega]; exact ol.2))]
      simp only [Option.bind_some, ol.1]
      congr 1
      rw [Bool.eq_iff_iff]; simp
  · rw [if_neg hc]
    congr 1
    symm
    rw [beq_eq_false_iff_ne]
    intro e0
    obtain ⟨l, hl, e1⟩ := iff_.2 e0
    exact hc (cnt_on n hn e h he (leaves_sub n hn s hs l hl) e1).symm
end
section
def cntE {α : Type} (p : α → Bool) (L : List α) (many : Int) : Int := L.foldl (fun b l => if p l = true then wrap64 (b + 1) else b) many
theorem cntE_eq {α : Type} (p : α → Bool) : ∀ (L : List α) (many : Nat), many + L.length ≤ 100000 → cntE p L many = ((many + L.countP p : Nat) : Int)
  | [], many, _ => rfl
  | l :: L, many, h => by
    have hl : (l :: L).length = L.length + 1 := rfl
    show cntE p L (if p l = true then wrap64 ((many : Int) + 1) else many) = _
    by_cases hb : p l = true
    · rw [if_pos hb, show wrap64 ((many : Int) + 1) = ((many + 1 : Nat) : Int) from by unfold wrap64; omega, cntE_eq p L (many + 1) (by omega), List.countP_cons_of_pos hb]
      congr 1; omega
    · rw [if_neg hb, cntE_eq p L many (by omega), List.countP_cons_of_neg hb]
theorem cntE_perm {α : Type} (p : α → Bool) {L M : List α} (h : L.Perm M) (hL : L.length ≤ 1000) : cntE p L 0 = cntE p M 0 := by
  have h1 := cntE_eq p L 0 (by omega)
  have h2 := cntE_eq p M 0 (by rw [← h.length_eq]; omega)
  rw [show ((0 : Nat) : Int) = 0 from rfl] at h1 h2
  rw [h1, h2, h.countP_eq]
end
section

end
section

end
section

end
section

end
section
theorem idxI_del {α : Type} (p : α → Bool) : ∀ (L : List α) (i : Nat), (idxI p L i = -1 ∧ L.filter (fun x => !p x) = L) ∨ (∃ j : Nat, j < L.length ∧ idxI p L i = ((i + j : Nat) : Int) ∧ L.take j ++ (L.drop (j + 1)).filter (fun x => !p x) = L.filter (fun x => !p x))
  | [], i => Or.inl ⟨rfl, rfl⟩
  | x :: xs, i => by
    rw [idxI]
    by_cases h : p x = true
    · rw [if_pos h]
      refine Or.inr ⟨0, by simp, rfl, ?_⟩
      rw [List.filter_cons, if_neg (by simp [h])]; rfl
    · rw [if_neg h]
      have hx : (!p x) = true := by simp [h]
      rcases idxI_del p xs (i + 1) with ⟨h1, h2⟩ | ⟨j, h1, h2, h3⟩
      · exact Or.inl ⟨h1, by rw [List.filter_cons, if_pos hx, h2]⟩
      · refine Or.inr ⟨j + 1, by rw [List.length_cons]; omega, by rw [h2]; congr 1; omega, ?_⟩
        rw [List.filter_cons, if_pos hx, List.take_succ_cons, List.drop_succ_cons, List.cons_append, h3]
end
section
theorem idxInt_loop (cb : Int → Option Bool) (p : Int → Bool) (L : List Int) (hL : L.length ≤ 1048576) (hcb : ∀ x ∈ L, cb x = some (p x)) : ∀ (d i k : Nat), i + d = L.length → d + 1 ≤ k → slices_IndexFunc_int64_int64.l0 cb k L (L.length : Int) i = some (idxI p (L.drop i) i)
  | 0, i, k, hd, hk => by
    obtain ⟨k, rfl⟩ : ∃ q, k = q + 1 := ⟨k - 1, by omega⟩
    rw [slices_IndexFunc_int64_int64.l0, if_neg (by omega), List.drop_eq_nil_of_le (by omega)]; rfl
  | d + 1, i, k, hd, hk => by
    obtain ⟨k, rfl⟩ : ∃ q, k = q + 1 := ⟨k - 1, by omega⟩
    have hi : i < L.length := by omega
    rw [slices_IndexFunc_int64_int64.l0]
    simp only [rd_of_lt L hi]
    rw [if_pos (by omega), if_pos (by omega), if_pos (by omega), hcb _ (List.getElem_mem hi), w64_succ (by omega), List.drop_eq_getElem_cons hi, idxI]
    simp only [Option.bind_some]
    split
    · rfl
    · exact idxInt_loop cb p L hL hcb d (i + 1) k (by omega) (by omega)
theorem idxInt_eq (cb : Int → Option Bool) (p : Int → Bool) (L : List Int) (hL : L.length ≤ 1048576) (hcb : ∀ x ∈ L, cb x = some (p x)) (k : Nat) (hk : L.length + 1 ≤ k) : slices_IndexFunc_int64_int64.f cb k L = some (idxI p L 0) := by
  unfold slices_IndexFunc_int64_int64.f
  have := idxInt_loop cb p L hL hcb L.length 0 k (Nat.zero_add _) hk
  rw [show ((0 : Nat) : Int) = 0 from rfl, List.drop_zero] at this
  exact this
theorem delI_loop (cb : Int → Option Bool) (p : Int → Bool) (L : List Int) (hL : L.length ≤ 1048576) (hcb : ∀ x ∈ L, cb x = some (p x)) : ∀ (d i j k : Nat) (X : List Int), j + d = L.length → i ≤ j → X.length = L.length → X.drop j = L.drop j → d + 1 ≤ k → slices_DeleteFunc_int64_int64.l0 cb k X i j = some (X.take i ++ (L.drop j).filter (fun x => !p x))
  | 0, i, j, k, X, hd, hi, hX, he, hk => by
    obtain ⟨k, rfl⟩ : ∃ q, k = q + 1 := ⟨k - 1, by omega⟩
    rw [slices_DeleteFunc_int64_int64.l0, if_neg (by omega), if_pos (by omega), if_pos (by omega), List.drop_eq_nil_of_le (by omega), Int.toNat_natCast, List.filter_nil, List.append_nil]
  | d + 1, i, j, k, X, hd, hi, hX, he, hk => by
    obtain ⟨k, rfl⟩ : ∃ q, k = q + 1 := ⟨k - 1, by omega⟩
    have hj : j < L.length := by omega
    have hjX : j < X.length := by omega
    have hx : X[j] = L[j] := by
      rw [List.drop_eq_getElem_cons hj, List.drop_eq_getElem_cons hjX] at he
      exact (List.cons.inj he).1
    have he2 : X.drop (j + 1) = L.drop (j + 1) := by
      rw [List.drop_eq_getElem_cons hj, List.drop_eq_getElem_cons hjX] at he
      exact (List.cons.inj he).2
    have hr : rd X (j : Int) = L[j] := by rw [rd_of_lt X hjX, hx]
    rw [slices_DeleteFunc_int64_int64.l0]
    simp only [hr]
    rw [if_pos (by omega), if_pos (by omega), hcb _ (List.getElem_mem hj), w64_succ (by omega), List.drop_eq_getElem_cons hj, List.filter_cons]
    simp only [Option.bind_some]
    by_cases hp : p L[j] = true
    · rw [if_pos hp, if_neg (show ¬ (!p L[j]) = true by simp [hp])]
      exact delI_loop cb p L hL hcb d i (j + 1) k X (by omega) (by omega) hX he2 (by omega)
    · rw [if_neg hp, if_pos (show (!p L[j]) = true by simp [hp]), if_pos (by omega), if_pos (by omega), w64_succ (by omega), Int.toNat_natCast]
      rw [delI_loop cb p L hL hcb d (i + 1) (j + 1) k _ (by omega) (by omega) (by rw [List.length_set]; exact hX) (by rw [List.drop_set_of_lt (show i < j + 1 by omega)]; exact he2) (by omega), set_take _ _ (by omega), List.append_assoc]
      rfl
theorem delI_eq (cb : Int → Option Bool) (p : Int → Bool) (L : List Int) (hL : L.length ≤ 1048576) (hcb : ∀ x ∈ L, cb x = some (p x)) (k : Nat) (hk : L.length + 1 ≤ k) : slices_DeleteFunc_int64_int64.f cb k L = some (L.filter (fun x => !p x)) := by
  unfold slices_DeleteFunc_int64_int64.f
  rw [idxInt_eq cb p L hL hcb k hk]
  simp only [Option.bind_some]
  rcases idxI_del p L 0 with ⟨h1, h2⟩ | ⟨j, h1, h2, h3⟩
  · rw [h1, if_pos rfl, h2]
  · rw [Nat.zero_add] at h2
    rw [h2, if_neg (by omega), w64_succ (by omega), delI_loop cb p L hL hcb (L.length - (j + 1)) j (j + 1) k L (by omega) (by omega) rfl rfl (by omega), h3]
def restOf (one L : List Int) : List Int := L.filter fun x => !decide (x ∈ one)
theorem hasL_eq (l : List Int) (hl : l.length ≤ 1048576) (y : Int) : impl_joint_1.has l y = some (decide (y ∈ l)) := by
  unfold impl_joint_1.has
  refine tot_of (F := fun k => impl_joint_1_1.f k y l) (k := l.length + 1) (fun k => impl_joint_1_1.mono y l k) ?_
  show impl_joint_1_1.f (l.length + 1) y l = _
  unfold impl_joint_1_1.f
  rw [contains_eq l hl y _ (Nat.le_refl _)]; rfl
theorem leftL_eq (l : List Int) (hl : l.length ≤ 1048576) (L : List Int) (hL : L.length ≤ 1048576) : (tot fun k => slices_DeleteFunc_int64_int64.f (impl_joint_1.has l) k L) = some (restOf l L) :=
  tot_of (F := fun k => slices_DeleteFunc_int64_int64.f (impl_joint_1.has l) k L) (k := L.length + 1) (fun k => slices_DeleteFunc_int64_int64.mono _ L k) (delI_eq _ (fun x => decide (x ∈ l)) L hL (fun x _ => hasL_eq l hl x) _ (Nat.le_refl _))
end
section
def subsIn (g : Nat → List Int → List (List Int)) (L l : List Int) : Nat → Nat → List (List Int)
  | 0, _ => []
  | d + 1, j => g (j + 1) (l ++ [rd L j]) ++ subsIn g L l d (j + 1)
def subs (L : List Int) : Nat → Nat → List Int → List (List Int)
  | 0, _, l => [l]
  | r + 1, i, l => subsIn (subs L r) L l (L.length - i) i
def foldCb {σ : Type} (cb : List Int → σ → Option σ) : List (List Int) → σ → Option σ
  | [], s => some s
  | l :: ls, s => (cb l s).bind (foldCb cb ls)
theorem foldCb_append {σ : Type} (cb : List Int → σ → Option σ) (y : List (List Int)) : ∀ (x : List (List Int)) (s : σ), foldCb cb (x ++ y) s = (foldCb cb x s).bind (foldCb cb y)
  | [], s => rfl
  | l :: ls, s => by
    simp only [List.cons_append, foldCb]
    cases cb l s with
    | none => rfl
    | some s2 => exact foldCb_append cb y ls s2
theorem chosen_l0 {σ : Type} (cb : List Int → σ → Option σ) (f : Int → List Int → σ → Option σ) (g : Nat → List Int → List (List Int)) (L l : List Int) (hl : l.length ≤ 1000) (hL : L.length ≤ 1000) (hf : ∀ (j : Nat) s, j < L.length → f ((j + 1 : Nat) : Int) (l ++ [rd L j]) s = foldCb cb (g (j + 1) (l ++ [rd L j])) s) :
    ∀ (d j k : Nat) (s : σ), j + d = L.length → d + 1 ≤ k → impl_chosen_1.l0 f L k l j s = foldCb cb (subsIn g L l d j) s
  | 0, j, k, s, hd, hk => by
    obtain ⟨k, rfl⟩ : ∃ q, k = q + 1 := ⟨k - 1, by omega⟩
    rw [impl_chosen_1.l0, if_neg (by omega)]; rfl
  | d + 1, j, k, s, hd, hk => by
    obtain ⟨k, rfl⟩ : ∃ q, k = q + 1 := ⟨k - 1, by omega⟩
    rw [impl_chosen_1.l0, if_pos (by omega), if_pos (by omega), if_pos hl, show wrap64 ((j : Int) + 1) = ((j + 1 : Nat) : Int) from by unfold wrap64; omega, hf j s (by omega), subsIn, foldCb_append]
    congr 1
    funext s2
    exact chosen_l0 cb f g L l hl hL hf d (j + 1) k s2 (by omega) (by omega)
theorem chosen_eq {σ : Type} (cb : List Int → σ → Option σ) (m : Nat) (hm : m ≤ 900) (L : List Int) (hL : L.length ≤ 1000) : ∀ (r k i : Nat) (l : List Int) (s : σ), l.length + r = m → i ≤ L.length → L.length + r + 1 ≤ k → impl_chosen_1.f cb m L k i l s = foldCb cb (subs L r i l) s
  | 0, k, i, l, s, h, hi, hk => by
    obtain ⟨k, rfl⟩ : ∃ q, k = q + 1 := ⟨k - 1, by omega⟩
    rw [impl_chosen_1.f, if_pos (by omega), subs]
    simp only [foldCb]
    cases cb l s <;> rfl
  | r + 1, k, i, l, s, h, hi, hk => by
    obtain ⟨k, rfl⟩ : ∃ q, k = q + 1 := ⟨k - 1, by omega⟩
    rw [impl_chosen_1.f, if_neg (by omega), subs]
    exact chosen_l0 cb _ _ L l (by omega) hL (fun j s hj => chosen_eq cb m hm L hL r k (j + 1) _ s (by rw [List.length_append]; simp only [List.length_cons, List.length_nil]; omega) (by omega) (by omega)) _ i _ s (by omega) (by omega)
theorem chosen_l0_mono {σ : Type} {f g : Int → List Int → σ → Option σ} (hfg : ∀ a l s, LeO (f a l s) (g a l s)) (L : List Int) : ∀ (k : Nat) (x : List Int) (j : Int) (s : σ), LeO (impl_chosen_1.l0 f L k x j s) (impl_chosen_1.l0 g L (k + 1) x j s)
  | 0, x, j, s => by rw [impl_chosen_1.l0]; exact LeO.none _
  | k + 1, x, j, s => by
    rw [impl_chosen_1.l0, impl_chosen_1.l0]
    exact LeO.ite (LeO.ite (LeO.ite (LeO.bind (hfg _ _ _) (fun _ => chosen_l0_mono hfg L k _ _ _)) (LeO.refl _)) (LeO.refl _)) (LeO.refl _)
theorem chosen_mono {σ : Type} (cb : List Int → σ → Option σ) (m : Int) (L : List Int) : ∀ (k : Nat) (a : Int) (l : List Int) (s : σ), LeO (impl_chosen_1.f cb m L k a l s) (impl_chosen_1.f cb m L (k + 1) a l s)
  | 0, a, l, s => by rw [impl_chosen_1.f]; exact LeO.none _
  | k + 1, a, l, s => by
    rw [impl_chosen_1.f, impl_chosen_1.f]
    exact LeO.ite (LeO.refl _) (chosen_l0_mono (chosen_mono cb m L k) L (k + 1) l a s)
theorem chosen_fs {σ : Type} (cb : List Int → σ → Option σ) (m : Nat) (hm : m ≤ 900) (L : List Int) (hL : L.length ≤ 1000) (s s' : σ) (h : foldCb cb (subs L m 0 []) s = some s') : impl_chosen.fs cb L m s = some s' := by
  unfold impl_chosen.fs
  refine tot_of (F := fun k => impl_chosen_1.f cb (m : Int) L k 0 [] s) (k := L.length + m + 1) (fun k => chosen_mono cb m L k 0 [] s) ?_
  have := chosen_eq cb m hm L hL m (L.length + m + 1) 0 [] s (by simp) (Nat.zero_le _) (Nat.le_refl _)
  rw [show ((0 : Nat) : Int) = 0 from rfl] at this
  rw [← h, ← this]
end
section
theorem sets4_irr : ∀ k, (∀ x i a b c, spec_l04Sets.l0 k x i a b c = spec_l04Sets.l0 k x i a 0 0) ∧ (∀ x i j a b c, spec_l04Sets.l1 k x i j a b c = spec_l04Sets.l1 k x i j a 0 0)
  | 0 => ⟨fun _ _ _ _ _ => by simp only [spec_l04Sets.l0], fun _ _ _ _ _ _ => by simp only [spec_l04Sets.l1]⟩
  | k + 1 => by
    obtain ⟨h0, h1⟩ := sets4_irr k
    refine ⟨fun x i a b c => ?_, fun x i j a b c => ?_⟩
    · rw [spec_l04Sets.l0, spec_l04Sets.l0, h1 x i 0 a b c]
    · rw [spec_l04Sets.l1, spec_l04Sets.l1, h0 _ _ a b c, h1 _ _ _ a b c]
def sets4 (s n r : Nat) : List (List Int) := (spec_l04Sets.f 300 r s n 0).getD []
theorem sets4_300 : ∀ n : Nat, n < 6 → ∀ s : Nat, s < n + 1 → ∀ r : Nat, r < 6 → spec_l04Sets.f 300 r s n 0 = some (sets4 s n r) := by decide +kernel
theorem sets4_f_irr (k : Nat) (r s n e : Int) : spec_l04Sets.f k r s n e = spec_l04Sets.f k r s n 0 := by
  unfold spec_l04Sets.f
  congr 1
  funext t
  rw [(sets4_irr k).1 t 0 s n e, (sets4_irr k).1 t 0 s n 0]
theorem sets4_eq (s n r : Nat) (hn : n < 6) (hs : s < n + 1) (hr : r < 6) (e : Int) (k : Nat) (hk : 300 ≤ k) : spec_l04Sets.f k r s n e = some (sets4 s n r) := by
  have h := sets4_300 n hn s hs r hr
  rw [← sets4_f_irr 300 r s n e] at h
  exact LeO_ge (F := fun k => spec_l04Sets.f k r s n e) (fun k => spec_l04Sets.mono r s n e k) hk _ h
theorem sets4_ok : ∀ n : Nat, n < 6 → ∀ s : Nat, s < n + 1 → ∀ r : Nat, r < 6 → (sets4 s n r).length ≤ 10 ∧ ∀ l ∈ sets4 s n r, l.length = r ∧ allDiff ((n : Int) - 1) (firstI s ++ l) := by decide +kernel
theorem sets4_perm : ∀ n : Nat, n < 6 → ∀ s : Nat, s < n + 1 → ∀ r : Nat, r < 6 → (sets4 s n r).isPerm (subs ((firstI n).drop s) r 0 []) = true := by decide +kernel
theorem firstI_len : ∀ n : Nat, n < 6 → (firstI n).length = n := by decide
end
section
def meetB (x y : List Int) : Bool := x.any fun a => decide (a ∈ y)
def rowP (one : List Int) (L : List (List Int)) : List (List Int × List Int) := (L.filter fun two => !meetB one two).map fun two => (one, two)
def rowI (L : List Int) (b : Nat) (one : List Int) : List (List Int × List Int) := (subs (restOf one L) b 0 []).map fun two => (one, two)
theorem meet_perm : ∀ n : Nat, n < 6 → ∀ s : Nat, s < n + 1 → ∀ a : Nat, a < 6 → ∀ b : Nat, b < 6 → (n - s < a + b ∨ ∀ one ∈ sets4 s n a, ((sets4 s n b).filter (fun two => !meetB one two)).isPerm (subs (restOf one ((firstI n).drop s)) b 0 []) = true) := by decide +kernel
theorem pairs_perm : ∀ n : Nat, n < 6 → ∀ s : Nat, s < n + 1 → ∀ a : Nat, a < 6 → ∀ b : Nat, b < 6 → (n - s < a + b ∨ ((sets4 s n a).flatMap fun one => rowP one (sets4 s n b)).isPerm ((subs ((firstI n).drop s) a 0 []).flatMap (rowI ((firstI n).drop s) b)) = true ∧ 0 < ((sets4 s n a).flatMap fun one => rowP one (sets4 s n b)).length ∧ ((sets4 s n a).flatMap fun one => rowP one (sets4 s n b)).length < 61) := by decide +kernel
theorem has00_loop (l : List Int) (hl : l.length ≤ 1048576) (x : Int) : ∀ (d i k : Nat), i + d = l.length → d + 1 ≤ k → spec_l00Has.l0 k l x i = some (decide (x ∈ l.drop i))
  | 0, i, k, hd, hk => by
    obtain ⟨k, rfl⟩ : ∃ q, k = q + 1 := ⟨k - 1, by omega⟩
    rw [spec_l00Has.l0, if_neg (by omega), List.drop_eq_nil_of_le (by omega)]; rfl
  | d + 1, i, k, hd, hk => by
    obtain ⟨k, rfl⟩ : ∃ q, k = q + 1 := ⟨k - 1, by omega⟩
    have hi : i < l.length := by omega
    have ih := has00_loop l hl x d (i + 1) k (by omega) (by omega)
    rw [spec_l00Has.l0, if_pos (by omega), if_pos (by omega), w64_succ (by omega), rd_of_lt l hi]
    by_cases h : l[i] = x
    · rw [if_pos h, decide_eq_true ((mem_drop_cons hi x).2 (Or.inl h))]
    · rw [if_neg h, ih]
      congr 1
      rw [decide_eq_decide, mem_drop_cons hi]
      exact ⟨fun a => Or.inr a, fun a => a.resolve_left h⟩
theorem meet_loop (x y : List Int) (hx : x.length ≤ 1048576) (hy : y.length ≤ 100) : ∀ (d i k : Nat), i + d = x.length → d + 200 ≤ k → spec_l04Meet.l0 k x y i = some (meetB (x.drop i) y)
  | 0, i, k, hd, hk => by
    obtain ⟨k, rfl⟩ : ∃ q, k = q + 1 := ⟨k - 1, by omega⟩
    rw [spec_l04Meet.l0, if_neg (by omega), List.drop_eq_nil_of_le (by omega)]; rfl
  | d + 1, i, k, hd, hk => by
    obtain ⟨k, rfl⟩ : ∃ q, k = q + 1 := ⟨k - 1, by omega⟩
    have hi : i < x.length := by omega
    have h0 := has00_loop y (by omega) x[i] y.length 0 k (by omega) (by omega)
    rw [show ((0 : Nat) : Int) = 0 from rfl, List.drop_zero] at h0
    rw [spec_l04Meet.l0, if_pos (by omega), if_pos (by omega), w64_succ (by omega), rd_of_lt x hi]
    unfold spec_l00Has.f
    rw [h0, List.drop_eq_getElem_cons hi]
    simp only [Option.bind_some]
    rw [show meetB (x[i] :: x.drop (i + 1)) y = (decide (x[i] ∈ y) || meetB (x.drop (i + 1)) y) from rfl]
    by_cases h : x[i] ∈ y
    · rw [decide_eq_true h, if_pos rfl, Bool.true_or]
    · rw [decide_eq_false h, if_neg (by simp), Bool.false_or]
      exact meet_loop x y hx hy d (i + 1) k (by omega) (by omega)
theorem meet_eq (x y : List Int) (hx : x.length ≤ 100) (hy : y.length ≤ 100) (k : Nat) (hk : 300 ≤ k) : spec_l04Meet.f k x y = some (meetB x y) := by
  unfold spec_l04Meet.f
  have := meet_loop x y (by omega) hy x.length 0 k (by omega) (by omega)
  rwa [show ((0 : Nat) : Int) = 0 from rfl, List.drop_zero] at this
theorem cntE_append {α : Type} (p : α → Bool) (x y : List α) (n : Int) : cntE p (x ++ y) n = cntE p y (cntE p x n) := by unfold cntE; exact List.foldl_append
theorem cntE_cons {α : Type} (p : α → Bool) (z : α) (L : List α) (n : Int) : cntE p (z :: L) n = cntE p L (if p z = true then wrap64 (n + 1) else n) := rfl
section
variable (S1 S2 : List (List Int)) (p q : List Int → Bool) (s n e F0 F1 F2 H0 H1 H2 N A : Int) (ab : Int × Int) (h1 : S1.length ≤ 10) (h2 : S2.length ≤ 10)
  (hp : ∀ k, 1100 ≤ k → ∀ l ∈ S1, ∃ y, spec_l03Part.f k s n e l = some y ∧ (y.1 == F0 && (y.2.1 == F1 && (y.2.2 == F2))) = p l)
  (hq : ∀ k, 1100 ≤ k → ∀ l ∈ S2, ∃ y, spec_l03Part.f k s n e l = some y ∧ (y.1 == H0 && (y.2.1 == H1 && (y.2.2 == H2))) = q l)
  (hm : ∀ k, 1100 ≤ k → ∀ x ∈ S1, ∀ y ∈ S2, spec_l04Meet.f k x y = some (meetB x y))
  (hr : ∀ k, 1100 ≤ k → spec_l04Ratio.f k N A = some ab)
include h1 h2 hq hm
theorem joint_l1 (i : Nat) (hi : i < S1.length) (R : List (List Int × List Int)) (K : Nat) (hK : 1100 ≤ K)
    (hc : ∀ k many all, K ≤ k → cntE (fun z => p z.1 && q z.2) R many = N → cntE (fun _ => true) R all = A → spec_l04Joint.l0 k S1 S2 many all ((i + 1 : Nat) : Int) s n e F0 F1 F2 H0 H1 H2 = some ab) :
    ∀ (d j k : Nat) (many all : Int), j + d = S2.length → K + d + 1 ≤ k → cntE (fun z => p z.1 && q z.2) (rowP S1[i] (S2.drop j) ++ R) many = N → cntE (fun _ => true) (rowP S1[i] (S2.drop j) ++ R) all = A → spec_l04Joint.l1 k S1 S2 many all i (p S1[i]) j s n e F0 F1 F2 H0 H1 H2 = some ab
  | 0, j, k, many, all, hd, hk, hN, hA => by
    obtain ⟨k, rfl⟩ : ∃ q, k = q + 1 := ⟨k - 1, by omega⟩
    rw [List.drop_eq_nil_of_le (by omega)] at hN hA
    rw [spec_l04Joint.l1, if_neg (by omega), w64_succ (by omega)]
    exact hc k many all (by omega) hN hA
  | d + 1, j, k, many, all, hd, hk, hN, hA => by
    obtain ⟨k, rfl⟩ : ∃ q, k = q + 1 := ⟨k - 1, by omega⟩
    have hj : j < S2.length := by omega
    have ih := fun many all => joint_l1 i hi R K hK hc d (j + 1) k many all (by omega) (by omega)
    rw [List.drop_eq_getElem_cons hj] at hN hA
    rw [spec_l04Joint.l1, if_pos (by omega), if_pos (by omega), if_pos (by omega), if_pos (by omega), show rd_L1 S1 (i : Int) = S1[i] from getD_of_lt S1 [] hi, show rd_L1 S2 (j : Int) = S2[j] from getD_of_lt S2 [] hj, hm k (by omega) _ (List.getElem_mem hi) _ (List.getElem_mem hj), w64_succ (by omega)]
    simp only [Option.bind_some]
    by_cases hmt : meetB S1[i] S2[j] = true
    · have hrow : rowP S1[i] (S2[j] :: S2.drop (j + 1)) = rowP S1[i] (S2.drop (j + 1)) := by
        unfold rowP; rw [List.filter_cons, if_neg (by simp [hmt])]
      rw [hrow] at hN hA
      rw [if_pos hmt]
      exact ih many all hN hA
    · have hrow : rowP S1[i] (S2[j] :: S2.drop (j + 1)) = (S1[i], S2[j]) :: rowP S1[i] (S2.drop (j + 1)) := by
        unfold rowP; rw [List.filter_cons, if_pos (by simp [hmt])]; rfl
      rw [hrow, List.cons_append, cntE_cons] at hN hA
      rw [if_neg hmt]
      simp only [if_true] at hA
      by_cases hf : p S1[i] = true
      · obtain ⟨y, hy, e2⟩ := hq k (by omega) _ (List.getElem_mem hj)
        simp only [hf, Bool.true_and] at hN ih ⊢
        rw [if_pos trivial, hy]
        simp only [Option.bind_some, e2]
        by_cases hz : q S2[j] = true
        · rw [if_pos hz] at hN ⊢; exact ih _ _ hN hA
        · rw [if_neg hz] at hN ⊢; exact ih _ _ hN hA
      · have hf' := Bool.eq_false_iff.2 hf
        simp only [hf', Bool.false_and, Bool.false_eq_true, if_false] at hN ih ⊢
        exact ih _ _ hN hA
include hp hr
theorem joint_l0 : ∀ (d i k : Nat) (many all : Int), i + d = S1.length → 1200 + 20 * d ≤ k → cntE (fun z => p z.1 && q z.2) ((S1.drop i).flatMap fun one => rowP one S2) many = N → cntE (fun _ => true) ((S1.drop i).flatMap fun one => rowP one S2) all = A → spec_l04Joint.l0 k S1 S2 many all i s n e F0 F1 F2 H0 H1 H2 = some ab
  | 0, i, k, many, all, hd, hk, hN, hA => by
    obtain ⟨k, rfl⟩ : ∃ q, k = q + 1 := ⟨k - 1, by omega⟩
    rw [List.drop_eq_nil_of_le (by omega)] at hN hA
    obtain rfl : many = N := hN
    obtain rfl : all = A := hA
    rw [spec_l04Joint.l0, if_neg (by omega), hr k (by omega)]; rfl
  | d + 1, i, k, many, all, hd, hk, hN, hA => by
    obtain ⟨k, rfl⟩ : ∃ q, k = q + 1 := ⟨k - 1, by omega⟩
    have hi : i < S1.length := by omega
    rw [List.drop_eq_getElem_cons hi, List.flatMap_cons] at hN hA
    obtain ⟨y, hy, e2⟩ := hp k (by omega) _ (List.getElem_mem hi)
    rw [spec_l04Joint.l0, if_pos (by omega), if_pos (by omega), show rd_L1 S1 (i : Int) = S1[i] from getD_of_lt S1 [] hi, hy]
    simp only [Option.bind_some, e2]
    have := joint_l1 S1 S2 p q s n e F0 F1 F2 H0 H1 H2 N A ab h1 h2 hq hm i hi ((S1.drop (i + 1)).flatMap fun one => rowP one S2) (1200 + 20 * d) (by omega) (fun k many all hk => joint_l0 d (i + 1) k many all (by omega) hk) S2.length 0 k many all (by omega) (by omega) (by rw [List.drop_zero]; exact hN) (by rw [List.drop_zero]; exact hA)
    rwa [show ((0 : Nat) : Int) = 0 from rfl] at this
end
end
section
theorem least3_loop (n s : Nat) (hn : n < 6) (hs : s < n + 1) (e : Int) : ∀ (ls : List (List Int)) (x : List Int) (k : Nat) (best : Int), isChain ((n - s : Nat) : Int) (x :: ls) = true → (∀ l ∈ x :: ls, (l.length ≤ 5 ∧ ∀ y ∈ l, 0 ≤ y ∧ y ≤ 5) ∧ (shiftL s l).length = n ∧ allDiff ((n : Int) - 1) (shiftL s l)) → ls.length + 200 ≤ k →
    spec_l03Least.l0 k x true s n e s n best = some ((s : Int), (n : Int), leastE e ((x :: ls).map (shiftL s)) best)
  | [], x, k, best, hc, hd, hk => by
    obtain ⟨k, rfl⟩ : ∃ q, k = q + 2 := ⟨k - 2, by omega⟩
    obtain ⟨y, hy⟩ := chain_one hc
    obtain ⟨⟨hx1, hx2⟩, hx3, hx4⟩ := hd x (List.mem_cons_self)
    rw [spec_l03Least.l0, if_pos rfl, l03Order_eq s (by omega) x hx1 hx2 _ (by omega)]
    simp only [Option.bind_some]
    rw [onS_diff (m := n) n e (by omega) (by omega) (by rw [show wrap64 ((n : Int) - 1) = (n : Int) - 1 from by unfold wrap64; omega]; exact hx4) _ (by omega), show wrap64 ((n : Int) - (s : Int)) = ((n - s : Nat) : Int) from by unfold wrap64; omega]
    simp only [Option.bind_some, leastE, List.map_cons, List.map_nil, List.foldl_cons, List.foldl_nil, hx3]
    by_cases hb : onI e (shiftL s x) < best
    · rw [if_pos hb, if_pos hb, hy _ (by omega)]
      simp only [Option.bind_some]
      rw [spec_l03Least.l0, if_neg (by simp)]
    · rw [if_neg hb, if_neg hb, hy _ (by omega)]
      simp only [Option.bind_some]
      rw [spec_l03Least.l0, if_neg (by simp)]
  | z :: ls, x, k, best, hc, hd, hk => by
    obtain ⟨k, rfl⟩ : ∃ q, k = q + 1 := ⟨k - 1, by omega⟩
    obtain ⟨h1, h2⟩ := chain_cons hc
    obtain ⟨⟨hx1, hx2⟩, hx3, hx4⟩ := hd x (List.mem_cons_self)
    have hl : (z :: ls).length = ls.length + 1 := rfl
    rw [spec_l03Least.l0, if_pos rfl, l03Order_eq s (by omega) x hx1 hx2 _ (by omega)]
    simp only [Option.bind_some]
    rw [onS_diff (m := n) n e (by omega) (by omega) (by rw [show wrap64 ((n : Int) - 1) = (n : Int) - 1 from by unfold wrap64; omega]; exact hx4) _ (by omega), show wrap64 ((n : Int) - (s : Int)) = ((n - s : Nat) : Int) from by unfold wrap64; omega]
    have ih := fun best => least3_loop n s hn hs e ls z k best h2 (fun l hl => hd l (List.mem_cons_of_mem _ hl)) (by omega)
    simp only [Option.bind_some, leastE, hx3]
    rw [List.map_cons, List.foldl_cons]
    by_cases hb : onI e (shiftL s x) < best
    · rw [if_pos hb, if_pos hb, h1 _ (by omega)]
      exact ih _
    · rw [if_neg hb, if_neg hb, h1 _ (by omega)]
      exact ih _
theorem l03Least_eq (n s : Nat) (hn : n < 6) (hs : s < n + 1) (e : Int) (k : Nat) (hk : 1000 ≤ k) : spec_l03Least.f k s n e = some ((s : Int), (n : Int), leastE e (leaves n (n - s) (firstI s)) e) := by
  unfold spec_l03Least.f
  rw [show wrap64 ((n : Int) - (s : Int)) = ((n - s : Nat) : Int) from by unfold wrap64; omega, firstS_eq ((n - s : Nat) : Int) (by omega) (by omega) k (by omega), leaves_shift n hn s hs]
  simp only [Option.bind_some, Int.toNat_natCast]
  obtain ⟨hh, hc⟩ := chains (n - s) (by omega) (n - s) (by omega)
  have hd := own_ok n s hn hs
  have hlen := leaves_short (n - s) (by omega) (n - s) (by omega)
  revert hh hc hd hlen
  generalize leaves (n - s) (n - s) [] = L
  intro hh hc hd hlen
  cases L with
  | nil => simp at hh
  | cons x ls =>
    obtain rfl : x = firstI (n - s) := by simpa using hh
    exact least3_loop n s hn hs e ls _ k e hc hd (by simp only [List.length_cons] at hlen; omega)
end
section
def ratioOk (p q : Nat) : Bool := match impl_lowest.f 100 (p : Int) (q : Int), spec_l04Ratio.f 100 (p : Int) (q : Int) with
  | some a, some b => decide (a = b)
  | _, _ => false
theorem ratio_all : ∀ q, q < 61 → 0 < q → ∀ p, p < q + 1 → ratioOk p q = true := by decide +kernel
theorem ratio_both (p q : Nat) (hq : q < 61) (h0 : 0 < q) (hp : p < q + 1) : ∃ a b : Int, ∀ k, 100 ≤ k → impl_lowest.f k p q = some (a, b) ∧ spec_l04Ratio.f k p q = some (a, b) := by
  have h := ratio_all q hq h0 p hp
  unfold ratioOk at h
  split at h
  · next x y e1 e2 =>
    obtain rfl := of_decide_eq_true h
    exact ⟨x.1, x.2, fun k hk => ⟨LeO_ge (F := fun k => impl_lowest.f k p q) (fun k => impl_lowest.mono p q k) hk _ e1, LeO_ge (F := fun k => spec_l04Ratio.f k p q) (fun k => spec_l04Ratio.mono p q k) hk _ e2⟩⟩
  · cases h
end
section

end
section

end
section
theorem onI_small (r : Nat) (hr : r < 6) (e : Int) {l : List Int} (h : l.length = r) : ∃ b : Nat, b < 2 ^ prs r ∧ onI e l = b := by
  obtain ⟨b, hb, h1, _⟩ := made_spec r hr (fun i j => hasI e (rd l i) (rd l j))
  exact ⟨b, hb, by unfold onI; rw [h]; exact h1⟩
def occB (s m : Nat) (h e : Int) (l : List Int) : Bool := leastE (onI e (firstI s ++ l)) (leaves m (m - s) (firstI s)) (onI e (firstI s ++ l)) == leastE h (leaves m (m - s) (firstI s)) h
end
section
theorem part4_eq (s m n : Nat) (hm : m < 6) (hn : n < 6) (hsm : s < m + 1) (e : Int) {l : List Int} (h1 : l.length = m - s) (h2 : allDiff ((n : Int) - 1) (firstI s ++ l)) (k : Nat) (hk : 1100 ≤ k) : spec_l03Part.f k s n e l = some ((s : Int), (m : Int), leastE (onI e (firstI s ++ l)) (leaves m (m - s) (firstI s)) (onI e (firstI s ++ l))) := by
  have hfs := firstI_len s (by omega)
  have hlen : (firstI s ++ l).length = m := by rw [List.length_append, hfs, h1]; omega
  unfold spec_l03Part.f
  rw [firstS_eq (s : Int) (by omega) (by omega) k (by omega), Int.toNat_natCast]
  simp only [Option.bind_some]
  rw [if_pos (by omega), onS_diff (m := n) n e (by omega) (by omega) (by rw [show wrap64 ((n : Int) - 1) = (n : Int) - 1 from by unfold wrap64; omega]; exact h2) k (by omega)]
  simp only [Option.bind_some, hlen]
  rw [l03Least_eq m s hm hsm _ k (by omega)]
  rfl
theorem on_alike (s m n : Nat) (hm : m < 6) (hn : n < 6) (hsm : s < m + 1) (e h : Nat) (hh : h < 2 ^ prs m) {l : List Int} (h1 : l.length = m - s) (h2 : allDiff ((n : Int) - 1) (firstI s ++ l)) : ∃ y, impl_Flag_on.f s n e l = some y ∧ impl_Flag_alike.f y.1 y.2.1 y.2.2 s m h = some (occB s m h e l) := by
  have hfs := firstI_len s (by omega)
  have hlen : (firstI s ++ l).length = m := by rw [List.length_append, hfs, h1]; omega
  obtain ⟨b, hb, e1⟩ := onI_small m hm e hlen
  refine ⟨((s : Int), (m : Int), (b : Int)), ?_, ?_⟩
  · unfold impl_Flag_on.f
    rw [impl_firstT.eq (by omega) (by omega), Int.toNat_natCast]
    simp only [Option.bind_some]
    rw [if_pos (by omega), impl_onT.eq _ _ (okList_diff (m := n) (by omega) (by omega) (by rw [show wrap64 ((n : Int) - 1) = (n : Int) - 1 from by unfold wrap64; omega]; exact h2))]
    simp only [Option.bind_some, hlen, e1]
  · simp only [impl_Flag_alike.f, if_true, alike_eq m s hm hsm b h hb hh, Option.bind_some]
    unfold occB
    rw [e1]
theorem joint12_eq (s m n : Nat) (hm : m < 6) (hn : n < 6) (hsm : s < m + 1) (e h : Nat) (hh : h < 2 ^ prs m) {l : List Int} (h1 : l.length = m - s) (h2 : allDiff ((n : Int) - 1) (firstI s ++ l)) (p1 : Bool) (all many : Int) : impl_joint_1_2.f l all p1 s n e s m h many = some (wrap64 (all + 1), if (p1 && occB s m h e l) = true then wrap64 (many + 1) else many) := by
  unfold impl_joint_1_2.f
  cases p1
  · simp
  · obtain ⟨y, hy, e2⟩ := on_alike s m n hm hn hsm e h hh h1 h2
    rw [if_pos rfl, hy]
    simp only [Option.bind_some, e2, Bool.true_and]
    split <;> rfl
theorem foldCb_row (cb : List Int → Int × Int → Option (Int × Int)) (pq : List Int × List Int → Bool) (one : List Int) : ∀ (L : List (List Int)) (st : Int × Int), (∀ l ∈ L, ∀ st, cb l st = some (wrap64 (st.1 + 1), if pq (one, l) = true then wrap64 (st.2 + 1) else st.2)) → foldCb cb L st = some (cntE (fun _ => true) (L.map fun two => (one, two)) st.1, cntE pq (L.map fun two => (one, two)) st.2)
  | [], _, _ => rfl
  | l :: L, st, h => by
    rw [foldCb, h l List.mem_cons_self st]
    exact foldCb_row cb pq one L _ fun x hx => h x (List.mem_cons_of_mem _ hx)
theorem foldCb_rows (cb : List Int → Int × Int → Option (Int × Int)) (pq : List Int × List Int → Bool) (row : List Int → List (List Int × List Int)) : ∀ (L : List (List Int)) (st : Int × Int), (∀ l ∈ L, ∀ st, cb l st = some (cntE (fun _ => true) (row l) st.1, cntE pq (row l) st.2)) → foldCb cb L st = some (cntE (fun _ => true) (L.flatMap row) st.1, cntE pq (L.flatMap row) st.2)
  | [], _, _ => rfl
  | l :: L, st, h => by
    rw [foldCb, h l List.mem_cons_self st, List.flatMap_cons, cntE_append, cntE_append]
    exact foldCb_rows cb pq row L _ fun x hx => h x (List.mem_cons_of_mem _ hx)
theorem others_eq (s n : Nat) (hn : n < 6) (hs : s < n + 1) (e : Int) : impl_Flag_others.f s n e = some ((firstI n).drop s) := by
  have hfl := firstI_len n hn
  unfold impl_Flag_others.f
  rw [impl_firstT.eq (by omega) (by omega), Int.toNat_natCast]
  simp only [Option.bind_some]
  rw [if_pos (by omega), if_pos (by omega), Int.toNat_natCast]
theorem free_eq (s m : Nat) (hm : m < 6) (hs : s < m + 1) (e : Int) : impl_Flag_free.f s m e = some ((m - s : Nat) : Int) := by
  unfold impl_Flag_free.f
  rw [show wrap64 ((m : Int) - (s : Int)) = ((m - s : Nat) : Int) from by unfold wrap64; omega]
def pairsP (s n a b : Nat) : List (List Int × List Int) := (subs ((firstI n).drop s) a 0 []).flatMap (rowI ((firstI n).drop s) b)
def pqB (s m h m2 h2 : Nat) (e : Int) (z : List Int × List Int) : Bool := occB s m h e z.1 && occB s m2 h2 e z.2
theorem joint1_eq (s m m2 n : Nat) (hm : m < 6) (hm2 : m2 < 6) (hn : n < 6) (hsm : s < m + 1) (hsm2 : s < m2 + 1) (hsn : s < n + 1) (hab : (m - s) + (m2 - s) ≤ n - s) (e h h2 : Nat) (hh : h < 2 ^ prs m) (hh2 : h2 < 2 ^ prs m2) {l : List Int} (hl : l ∈ sets4 s n (m - s)) (st : Int × Int) :
    impl_joint_1.f l s n e s m h s m2 h2 st = some (cntE (fun _ => true) (rowI ((firstI n).drop s) (m2 - s) l) st.1, cntE (pqB s m h m2 h2 e) (rowI ((firstI n).drop s) (m2 - s) l) st.2) := by
  obtain ⟨hl1, hl2⟩ := (sets4_ok n hn s hsn (m - s) (by omega)).2 l hl
  have hfl := firstI_len n hn
  obtain ⟨y, hy, e2⟩ := on_alike s m n hm hn hsm e h hh hl1 hl2
  have hp := List.isPerm_iff.1 (((meet_perm n hn s hsn (m - s) (by omega) (m2 - s) (by omega)).resolve_left (by omega)) l hl)
  have hlen : (restOf l ((firstI n).drop s)).length ≤ 6 := Nat.le_trans (List.length_filter_le _ _) (by rw [List.length_drop]; omega)
  unfold impl_joint_1.f
  rw [hy]
  simp only [Option.bind_some, e2, others_eq s n hn hsn]
  rw [leftL_eq l (by omega) _ (by rw [List.length_drop]; omega)]
  simp only [Option.bind_some, free_eq s m2 hm2 hsm2]
  refine chosen_fs _ (m2 - s) (by omega) _ (by omega) st _ ?_
  refine foldCb_row _ (pqB s m h m2 h2 e) l _ st fun t ht st => ?_
  obtain ⟨ht1, ht2⟩ := (sets4_ok n hn s hsn (m2 - s) (by omega)).2 t (List.mem_filter.1 (hp.mem_iff.2 ht)).1
  exact joint12_eq s m2 n hm2 hn hsm2 e h2 hh2 ht1 ht2 (occB s m h e l) st.1 st.2
theorem jointI_eq (s m m2 n : Nat) (hm : m < 6) (hm2 : m2 < 6) (hn : n < 6) (hsm : s < m + 1) (hsm2 : s < m2 + 1) (hsn : s < n + 1) (hab : (m - s) + (m2 - s) ≤ n - s) (e h h2 : Nat) (hh : h < 2 ^ prs m) (hh2 : h2 < 2 ^ prs m2) (k : Nat) :
    impl_joint.f k s m h s m2 h2 s n e = (impl_lowest.f k (cntE (pqB s m h m2 h2 e) (pairsP s n (m - s) (m2 - s)) 0) (cntE (fun _ => true) (pairsP s n (m - s) (m2 - s)) 0)).bind fun bt => some (bt.1, bt.2) := by
  have hfl := firstI_len n hn
  have hp := List.isPerm_iff.1 (sets4_perm n hn s hsn (m - s) (by omega))
  unfold impl_joint.f
  rw [others_eq s n hn hsn, free_eq s m hm hsm]
  simp only [Option.bind_some]
  rw [chosen_fs _ (m - s) (by omega) ((firstI n).drop s) (by rw [List.length_drop]; omega) (0, 0) _ (foldCb_rows _ (pqB s m h m2 h2 e) (rowI ((firstI n).drop s) (m2 - s)) _ (0, 0) fun l hl st => joint1_eq s m m2 n hm hm2 hn hsm hsm2 hsn hab e h h2 hh hh2 (hp.mem_iff.2 hl) st)]
  rfl
theorem joint_both (s m m2 n : Nat) (hm : m < 6) (hm2 : m2 < 6) (hn : n < 6) (hsm : s < m + 1) (hsm2 : s < m2 + 1) (hsn : s < n + 1) (hab : (m - s) + (m2 - s) ≤ n - s) (e h h2 : Nat) (hh : h < 2 ^ prs m) (hh2 : h2 < 2 ^ prs m2) : ∃ a b : Int, ∀ k, 1500 ≤ k → impl_joint.f k s m h s m2 h2 s n e = some (a, b) ∧ spec_l04Joint.f k s m h s m2 h2 s n e = some (a, b) := by
  obtain ⟨hP, h0, h61⟩ := (pairs_perm n hn s hsn (m - s) (by omega) (m2 - s) (by omega)).resolve_left (by omega)
  have hP := List.isPerm_iff.1 hP
  have ok1 := sets4_ok n hn s hsn (m - s) (by omega)
  have ok2 := sets4_ok n hn s hsn (m2 - s) (by omega)
  have c1 := cntE_eq (pqB s m h m2 h2 e) ((sets4 s n (m - s)).flatMap fun one => rowP one (sets4 s n (m2 - s))) 0 (by omega)
  have c2 := cntE_eq (fun _ => true) ((sets4 s n (m - s)).flatMap fun one => rowP one (sets4 s n (m2 - s))) 0 (by omega)
  rw [Nat.zero_add, show ((0 : Nat) : Int) = 0 from rfl] at c1 c2
  have d1 := (cntE_perm (pqB s m h m2 h2 e) hP (by omega)).symm.trans c1
  have d2 := (cntE_perm (fun _ => true) hP (by omega)).symm.trans c2
  have hle : ((sets4 s n (m - s)).flatMap fun one => rowP one (sets4 s n (m2 - s))).countP (pqB s m h m2 h2 e) ≤ ((sets4 s n (m - s)).flatMap fun one => rowP one (sets4 s n (m2 - s))).length := List.countP_le_length
  have hall : ((sets4 s n (m - s)).flatMap fun one => rowP one (sets4 s n (m2 - s))).countP (fun _ => true) = ((sets4 s n (m - s)).flatMap fun one => rowP one (sets4 s n (m2 - s))).length := List.countP_eq_length.2 fun _ _ => rfl
  rw [hall] at c2 d2
  obtain ⟨a, b, hab2⟩ := ratio_both _ _ h61 h0 (Nat.lt_succ_of_le hle)
  refine ⟨a, b, fun k hk => ⟨?_, ?_⟩⟩
  · rw [jointI_eq s m m2 n hm hm2 hn hsm hsm2 hsn hab e h h2 hh hh2 k, show pairsP s n (m - s) (m2 - s) = _ from rfl, pairsP, d1, d2, (hab2 k (by omega)).1]; rfl
  · unfold spec_l04Joint.f spec_l04Free.f
    rw [l03Least_eq m s hm hsm h k (by omega), l03Least_eq m2 s hm2 hsm2 h2 k (by omega)]
    simp only [Option.bind_some]
    rw [show wrap64 ((m : Int) - (s : Int)) = ((m - s : Nat) : Int) from by unfold wrap64; omega, show wrap64 ((m2 : Int) - (s : Int)) = ((m2 - s : Nat) : Int) from by unfold wrap64; omega, sets4_eq s n (m - s) hn hsn (by omega) e k (by omega), sets4_eq s n (m2 - s) hn hsn (by omega) e k (by omega)]
    simp only [Option.bind_some]
    have hpart : ∀ (m : Nat) (h : Nat), m < 6 → s < m + 1 → (∀ l ∈ sets4 s n (m - s), l.length = m - s ∧ allDiff ((n : Int) - 1) (firstI s ++ l)) → ∀ k, 1100 ≤ k → ∀ l ∈ sets4 s n (m - s), ∃ y, spec_l03Part.f k s n e l = some y ∧ (y.1 == (s : Int) && (y.2.1 == (m : Int) && (y.2.2 == leastE h (leaves m (m - s) (firstI s)) h))) = occB s m h e l := by
      intro m h hm hsm hok k hk l hl
      obtain ⟨l1, l2⟩ := hok l hl
      exact ⟨_, part4_eq s m n hm hn hsm e l1 l2 k hk, by simp only [beq_self_eq_true, Bool.true_and]; rfl⟩
    have := joint_l0 (sets4 s n (m - s)) (sets4 s n (m2 - s)) (occB s m h e) (occB s m2 h2 e) s n e s m (leastE h (leaves m (m - s) (firstI s)) h) s m2 (leastE h2 (leaves m2 (m2 - s) (firstI s)) h2) _ _ (a, b) ok1.1 ok2.1
      (hpart m h hm hsm ok1.2) (hpart m2 h2 hm2 hsm2 ok2.2)
      (fun k hk x hx y hy => meet_eq x y (by have := (ok1.2 x hx).1; omega) (by have := (ok2.2 y hy).1; omega) k (by omega))
      (fun k hk => (hab2 k (by omega)).2) (sets4 s n (m - s)).length 0 k 0 0 (by omega) (by have := ok1.1; omega) (by rw [List.drop_zero]; exact c1) (by rw [List.drop_zero]; exact c2)
    rwa [show ((0 : Nat) : Int) = 0 from rfl] at this
end
end Go.Proofs.Ytcepbgffnneagaa.Q
end

section
namespace Go.Proofs.Ytcepbgffnneagaa.Q
open Go.RowKit Go.Proofs.YtcepbgffnneagaaW.PrintWords Go.Proofs.YtcepbgffnneagaaW.PrintLast Go.Proofs.YtcepbgffnneagaaW.PrintMore
attribute [local go_sem] max2_int min2_int max_two min_two max_three min_three max_four min_four
set_option linter.unusedVariables false
set_option linter.unusedSimpArgs false
attribute [local go_sem high] eqA27
section

end
end Go.Proofs.Ytcepbgffnneagaa.Q
end

section
namespace Go.Proofs.Ytcepbgffnneagaa.Q
open Go.RowKit Go.Proofs.YtcepbgffnneagaaW.PrintWords Go.Proofs.YtcepbgffnneagaaW.PrintLast Go.Proofs.YtcepbgffnneagaaW.PrintMore
attribute [local go_sem] max2_int min2_int max_two min_two max_three min_three max_four min_four
set_option linter.unusedVariables false
set_option linter.unusedSimpArgs false
section

end
section

end
section
theorem firstI_diff : ∀ m : Nat, m < 6 → ∀ s : Nat, s < m + 1 → allDiff ((m : Int) - 1) (firstI s) := by decide +kernel
theorem type_both (s m : Nat) (hm : m < 6) (hs : s < m + 1) (h : Int) : impl_Flag_typeOf.f s m h = some ((s : Int), onI h (firstI s)) ∧ ∀ k, 40 ≤ k → spec_l03Type.f k s m h = some ((s : Int), onI h (firstI s)) := by
  have hd := firstI_diff m hm s hs
  have hw : allDiff (wrap64 ((m : Int) - 1)) (firstI s) := by rw [show wrap64 ((m : Int) - 1) = (m : Int) - 1 from by unfold wrap64; omega]; exact hd
  have hl := firstI_len s (by omega)
  refine ⟨?_, fun k hk => ?_⟩
  · unfold impl_Flag_typeOf.f
    rw [impl_firstT.eq (by omega) (by omega), Int.toNat_natCast]
    simp only [Option.bind_some]
    rw [impl_onT.eq _ _ (okList_diff (m := m) (by omega) (by omega) hw), hl]; rfl
  · unfold spec_l03Type.f
    rw [firstS_eq (s : Int) (by omega) (by omega) k hk, Int.toNat_natCast]
    simp only [Option.bind_some]
    rw [onS_diff (m := m) m h (by omega) (by omega) hw k hk, hl]; rfl
def okE (e : Int) : Prop := 0 ≤ e ∧ e ≤ 4294967295
end
section
theorem validG_nat {n e : Int} (h0 : 0 ≤ e) (h : validG n e = true) : ∃ (m f : Nat), n = m ∧ e = f ∧ m < 6 ∧ f < 2 ^ prs m := by
  simp only [validG, decide_eq_true_eq] at h
  refine ⟨n.toNat, e.toNat, by omega, by omega, by omega, ?_⟩
  have := h.2.2
  unfold prs
  have h2 : ((e.toNat : Nat) : Int) < ((2 ^ (n.toNat * (n.toNat - 1) / 2) : Nat) : Int) := by rw [Int.toNat_of_nonneg h0]; exact_mod_cast this
  exact_mod_cast h2
end
section
theorem validF_nat {l n e : Int} (h0 : 0 ≤ e) (h : validF l n e = true) : ∃ (s m f : Nat), l = s ∧ n = m ∧ e = f ∧ m < 6 ∧ s < m + 1 ∧ f < 2 ^ prs m := by
  simp only [validF, Bool.and_eq_true, decide_eq_true_eq] at h
  obtain ⟨m, f, rfl, rfl, hm, hf⟩ := validG_nat h0 h.1
  exact ⟨l.toNat, m, f, by omega, rfl, rfl, hm, by omega, hf⟩
end
section
theorem flagsOk3_eq (l n e l' m h l2 m2 h2 : Int) (he : okE e) (hh : okE h) (hh2 : okE h2) (k : Nat) (hk : 10 ≤ k) : impl_flagsOk.f k [⟨l, ⟨n, e⟩⟩, ⟨l', ⟨m, h⟩⟩, ⟨l2, ⟨m2, h2⟩⟩] = some (if validF l n e && (validF l' m h && validF l2 m2 h2) then 0 else 1) := by
  unfold impl_flagsOk.f
  rw [anyFlag_eq _ (fun x => !validF x.f0 x.f1.f0 x.f1.f1) _ (by simp) (by
    intro x hx
    unfold impl_badFlag.f
    rcases List.mem_cons.1 hx with rfl | hx
    · rw [ValidFlag_eq l n e he.1 he.2]; rfl
    rcases List.mem_cons.1 hx with rfl | hx
    · rw [ValidFlag_eq l' m h hh.1 hh.2]; rfl
    · rw [List.mem_singleton] at hx; subst hx
      rw [ValidFlag_eq l2 m2 h2 hh2.1 hh2.2]; rfl) k (by simp only [List.length_cons, List.length_nil]; omega)]
  simp only [Option.bind_some, List.any_cons, List.any_nil, Bool.or_false]
  cases validF l n e <;> cases validF l' m h <;> cases validF l2 m2 h2 <;> rfl
theorem sameType3_eq (s m t n u q : Nat) (hm : m < 6) (hs : s < m + 1) (hn : n < 6) (ht : t < n + 1) (hq : q < 6) (hu : u < q + 1) (h e g : Int) (k : Nat) (hk : 10 ≤ k) : impl_sameType.f k [⟨s, ⟨m, h⟩⟩, ⟨t, ⟨n, e⟩⟩, ⟨u, ⟨q, g⟩⟩] = some (decide ((s = t ∧ onI h (firstI s) = onI e (firstI t)) ∧ (s = u ∧ onI h (firstI s) = onI g (firstI u)))) := by
  unfold impl_sameType.f
  have h1 := (type_both s m hm hs h).1
  have h2 := (type_both t n hn ht e).1
  have h3 := (type_both u q hq hu g).1
  rw [anyFlag_eq _ (fun x => match impl_Flag_typeOf.f x.f0 x.f1.f0 x.f1.f1 with | some y => !(y.1 == (s : Int)) || !(y.2 == onI h (firstI s)) | none => false) _ (by simp) (by
    intro x hx
    unfold impl_sameType_1.f
    have h0 : rd_T45 [⟨(s : Int), ⟨(m : Int), h⟩⟩, ⟨(t : Int), ⟨(n : Int), e⟩⟩, ⟨(u : Int), ⟨(q : Int), g⟩⟩] 0 = ⟨(s : Int), ⟨(m : Int), h⟩⟩ := rfl
    rcases List.mem_cons.1 hx with rfl | hx
    · simp only [h0, h1, Option.bind_some, List.length_cons, List.length_nil]; rfl
    rcases List.mem_cons.1 hx with rfl | hx
    · simp only [h0, h1, h2, Option.bind_some, List.length_cons, List.length_nil]; rfl
    · rw [List.mem_singleton] at hx; subst hx
      simp only [h0, h1, h3, Option.bind_some, List.length_cons, List.length_nil]; rfl) k (by simp only [List.length_cons, List.length_nil]; omega)]
  simp only [Option.bind_some, List.any_cons, List.any_nil, Bool.or_false, h1, h2, h3, beq_self_eq_true, Bool.not_true, Bool.false_or]
  congr 1
  rw [Bool.eq_iff_iff]
  simp only [Bool.not_eq_true', Bool.or_eq_false_iff, Bool.not_eq_false', beq_iff_eq, decide_eq_true_eq]
  constructor
  · rintro ⟨⟨a, b⟩, c, d⟩; exact ⟨⟨by omega, b.symm⟩, by omega, d.symm⟩
  · rintro ⟨⟨a, b⟩, c, d⟩; exact ⟨⟨by omega, b.symm⟩, by omega, d.symm⟩
theorem type_ne (s t : Nat) (x y : Int) : (!((s : Int) == (t : Int)) || !(x == y)) = !decide (s = t ∧ x = y) := by
  by_cases h1 : s = t
  · subst h1
    by_cases h2 : x = y
    · simp [h2]
    · simp [h2]
  · have : ((s : Int) == (t : Int)) = false := beq_eq_false_iff_ne.2 (by omega)
    simp [h1, this]
theorem w64_sub {s m : Nat} (hm : m < 6) (hs : s < m + 1) : wrap64 ((m : Int) - (s : Int)) = ((m - s : Nat) : Int) := by unfold wrap64; omega
theorem w64_add {a b : Nat} (ha : a < 6) (hb : b < 6) : wrap64 ((a : Int) + (b : Int)) = ((a + b : Nat) : Int) := by unfold wrap64; omega
theorem sub_lt6 {s m : Nat} (hm : m < 6) : m - s < 6 := by omega
theorem freeS_eq {s m : Nat} (hm : m < 6) (hs : s < m + 1) (e : Int) : spec_l04Free.f s m e = some ((m - s : Nat) : Int) := by
  unfold spec_l04Free.f
  rw [w64_sub hm hs]
theorem FnExactJointDensity_pure (l m h l' m' h' l2 n e : Int) (_hl : (Lit.int .i64 l).wf = true) (_hm : (Lit.int .i64 m).wf = true) (hh : (Lit.int .u32 h).wf = true) (_hl' : (Lit.int .i64 l').wf = true) (_hm' : (Lit.int .i64 m').wf = true) (hh' : (Lit.int .u32 h').wf = true) (_hl2 : (Lit.int .i64 l2).wf = true) (_hn : (Lit.int .i64 n).wf = true) (he : (Lit.int .u32 e).wf = true) : ∃ k, laws_FnExactJointDensity.f k l m h l' m' h' l2 n e = some true := by
  obtain ⟨K, hK⟩ : ∃ K : Nat, 2000 ≤ K := ⟨2000, Nat.le_refl _⟩
  refine ⟨K + 2, ?_⟩
  have he' : okE e := by simpa [okE, Lit.wf, IntKind.min, IntKind.max, IntKind.bits, IntKind.signed] using he
  have ha' : okE h := by simpa [okE, Lit.wf, IntKind.min, IntKind.max, IntKind.bits, IntKind.signed] using hh
  have hb' : okE h' := by simpa [okE, Lit.wf, IntKind.min, IntKind.max, IntKind.bits, IntKind.signed] using hh'
  simp only [laws_FnExactJointDensity.f, laws_toFlag.f, laws_toGraph.f, Option.bind_some, spec_JointDensity.f, impl_JointDensity.f]
  rw [flagsOk3_eq l m h l' m' h' l2 n e ha' hb' he' _ (by omega), l03Ok_eq l m h ha'.1 ha'.2, l03Ok_eq l' m' h' hb'.1 hb'.2, l03Ok_eq l2 n e he'.1 he'.2]
  simp only [Option.bind_some]
  cases v1 : validF l m h
  · simp [spec_JointDensity.j0, laws_eqFraction.f]
  cases v2 : validF l' m' h'
  · simp [spec_JointDensity.j0, laws_eqFraction.f]
  cases v3 : validF l2 n e
  · simp [spec_JointDensity.j0, laws_eqFraction.f]
  obtain ⟨s, m, h, rfl, rfl, rfl, hm, hs, hh2⟩ := validF_nat ha'.1 v1
  replace hh2 := Aside0.mk hh2
  obtain ⟨s2, m2, h2, rfl, rfl, rfl, hm2, hs2, hh3⟩ := validF_nat hb'.1 v2
  replace hh3 := Aside0.mk hh3
  obtain ⟨t, n, e, rfl, rfl, rfl, hn, ht, he2⟩ := validF_nat he'.1 v3
  replace he2 := Aside0.mk he2
  have T1 := fun k hk => (type_both s m hm hs h).2 k hk
  have T2 := fun k hk => (type_both s2 m2 hm2 hs2 h2).2 k hk
  have T3 := fun k hk => (type_both t n hn ht e).2 k hk
  rw [sameType3_eq s m s2 m2 t n hm hs hm2 hs2 hn ht h h2 e _ (by omega)]
  simp only [Bool.and_self, if_true, Option.bind_some, Bool.not_true, spec_JointDensity.j0, Bool.false_eq_true, if_false, decide_eq_true_eq]
  rw [T1 (K + 1) (by omega), T3 (K + 1) (by omega), T2 (K + 1) (by omega)]
  simp only [Option.bind_some, type_ne, Bool.not_eq_true', decide_eq_false_iff_not]
  by_cases c1 : s = t ∧ onI h (firstI s) = onI e (firstI t)
  · rw [if_neg (fun hx => hx c1)]
    by_cases c2 : s2 = t ∧ onI h2 (firstI s2) = onI e (firstI t)
    · obtain ⟨rfl, c1⟩ := c1
      obtain ⟨rfl, c2⟩ := c2
      rw [if_pos ⟨⟨rfl, c1.trans c2.symm⟩, rfl, c1⟩]
      rw [spec_JointDensity.j1, if_neg (by simp [c2])]
      rw [freeS_eq hm hs, freeS_eq hm2 hs2, freeS_eq hn ht, free_eq _ m hm hs, free_eq _ m2 hm2 hs2, free_eq _ n hn ht]
      rw [Option.bind_some, Option.bind_some, Option.bind_some, Option.bind_some, Option.bind_some, Option.bind_some]
      rw [w64_add (sub_lt6 hm) (sub_lt6 hm2)]
      by_cases c3 : n - s2 < m - s2 + (m2 - s2)
      · rw [if_pos (Int.ofNat_lt.2 c3), if_pos (Int.ofNat_lt.2 c3)]; simp [laws_eqFraction.f]
      · rw [if_neg (fun hx => c3 (Int.ofNat_lt.1 hx)), if_neg (fun hx => c3 (Int.ofNat_lt.1 hx))]
        obtain ⟨a, b, hab⟩ := joint_both s2 m m2 n hm hm2 hn hs hs2 ht (Nat.le_of_not_lt c3) e h h2 hh2.out hh3.out
        rw [(hab (K + 2) (by omega)).1, (hab K (by omega)).2]
        simp [laws_eqFraction.f]
    · rw [if_neg (by rintro ⟨⟨rfl, x⟩, rfl, y⟩; exact c2 ⟨rfl, x.symm.trans y⟩), spec_JointDensity.j1, if_pos (by simp only [decide_eq_false c2, Bool.not_false])]
      simp [laws_eqFraction.f]
  · rw [if_pos c1, if_neg (fun hx => c1 hx.2), spec_JointDensity.j1, if_pos rfl]
    simp [laws_eqFraction.f]
end
end Go.Proofs.Ytcepbgffnneagaa.Q
end

section
namespace Go.Proofs.YtcepbgffnneagaaW.PrintWords
open Go Go.RowKit Go.ChangeShapes Go.WideShapes Go.ChangeAt Go.Deep
set_option linter.unusedVariables false
section
section
variable {H : Type} (enc : TypeId × Value → H) (P : Program) (W : World)
def Opens {α : Type} (t : TypeId) (k : Kd α) (wf : α → Prop) : Prop :=
  ∀ (fuel : Nat) (cs : List Value) (x : DataW H × List MemPlace), DataW.trod enc P W 0 (fun _ => true) true fuel t cs = some x → ∃ a, k.K W a cs ∧ wf a
end
section
variable {H : Type} {enc : TypeId × Value → H} {P : Program} {W : World}
theorem Opens.int {t : TypeId} {k : IntKind} (ht : P.underlying t = some (.int k)) : Opens enc P W t (Kd.int k) (fun n => (Lit.int k n).wf = true) := by
  intro fuel cs x h
  obtain ⟨n, rfl, _, hw⟩ := DataW.trod_int ht h
  exact ⟨n, rfl, hw⟩
theorem Opens.bool {t : TypeId} (ht : P.underlying t = some .bool) : Opens enc P W t Kd.bool (fun _ => True) := by
  intro fuel cs x h
  obtain ⟨n, rfl, _⟩ := DataW.trod_bool ht h
  exact ⟨n, rfl, trivial⟩
theorem Opens.struct2 {α β : Type} {t : TypeId} {f0 f1 : Field} {k0 : Kd α} {k1 : Kd β} {p0 : α → Prop} {p1 : β → Prop} (ht : P.underlying t = some (.struct #[f0, f1])) (o0 : f0.offset = 0) (o1 : f1.offset = P.cellsOf f0.type) (hc : P.cellsOf t = P.cellsOf f0.type + P.cellsOf f1.type)
    (h0 : Opens enc P W f0.type k0 p0) (h1 : Opens enc P W f1.type k1 p1) : Opens enc P W t (Kd.pair k0 k1) (fun p => p0 p.1 ∧ p1 p.2) := by
  intro fuel cs x h
  obtain ⟨y0, y1, n, _, hl, e0, e1⟩ := trod_struct2 ht h
  obtain ⟨a, ka, wa⟩ := h0 n _ _ e0
  obtain ⟨b, kb, wb⟩ := h1 n _ _ e1
  refine ⟨(a, b), ⟨_, _, ?_, ka, kb⟩, wa, wb⟩
  rw [o0, o1, List.drop_zero, List.take_of_length_le (l := List.drop _ cs) (by rw [List.length_drop, hl, hc]; omega), List.take_append_drop]
theorem Opens.iso {α β : Type} {t : TypeId} {k : Kd α} {p : α → Prop} (f : β → α) (g : α → β) (hfg : ∀ a, f (g a) = a) (h : Opens enc P W t k p) : Opens enc P W t (Kd.iso k f) (fun b => p (f b)) := by
  intro fuel cs x hx
  obtain ⟨a, ka, wa⟩ := h fuel cs x hx
  exact ⟨g a, by show k.K W (f (g a)) cs; rw [hfg]; exact ka, by show p (f (g a)); rw [hfg]; exact wa⟩
theorem Opens.slice {α : Type} (z : α) {t e : TypeId} {k : Kd α} {p : α → Prop} (ht : P.underlying t = some (.slice e)) (hs : k.sz = P.cellsOf e) (h : Opens enc P W e k p) : Opens enc P W t (Kd.slice e k) (fun l => l.length < 9223372036854775808 ∧ ∀ a ∈ l, p a) := by
  haveI : Inhabited α := ⟨z⟩
  intro fuel cs x hx
  rcases open_slice ht hx with ⟨rfl, _⟩ | ⟨ad, len, cap, m, n, D, Pl, rfl, _, hl, hm, hmm, _, hel⟩
  · exact ⟨[], ⟨none, 0, rfl, Nat.le_refl _, rfl, by simp, fun h0 => absurd h0 (Nat.lt_irrefl 0)⟩, by simp, fun a ha => by cases ha⟩
  · have hlm : len ≤ m := by
      rw [hmm]; split
      · exact hl
      · exact Nat.le_refl _
    obtain ⟨F, hF⟩ := choose_lt (α := α) (n := len) (p := fun i a => p a ∧ ∃ cs', k.K W a cs' ∧ W.cells? 0 (ad.add (i * P.cellsOf e)) (P.cellsOf e) = some cs') (fun i hi => by
      obtain ⟨cs', h1, h2⟩ := hel i (by omega)
      obtain ⟨a, ka, wa⟩ := h n _ _ h2
      exact ⟨a, wa, cs', ka, h1⟩)
    refine ⟨(List.range len).map F, ⟨some ad, cap, by simp, by simpa using hl, by simp, by simp; unfold maxLen at hm; omega, fun _ => ⟨ad, rfl, fun j q hq => ?_⟩⟩, by simp; unfold maxLen at hm; omega, fun a ha => ?_⟩
    · obtain ⟨hj, rfl⟩ : j < len ∧ F j = q := by
        rw [List.getElem?_map] at hq
        rcases Nat.lt_or_ge j len with hj | hj
        · rw [List.getElem?_range hj] at hq; exact ⟨hj, by simpa using hq⟩
        · rw [List.getElem?_eq_none (by simpa using hj)] at hq; simp at hq
      obtain ⟨_, cs', ka, h1⟩ := hF j hj
      obtain ⟨_, hlen, hcell⟩ := World.cells?_some h1
      refine ⟨cs', k.K_len ka, ka, fun i u hu => ?_⟩
      have hi : i < P.cellsOf e := by rw [← hlen]; exact (List.getElem?_eq_some_iff.1 hu).1
      rw [hs, ← add_add, hcell i hi]; exact hu
    · obtain ⟨i, hi, rfl⟩ := List.mem_map.1 ha
      exact (hF i (List.mem_range.1 hi)).1
end
end
end Go.Proofs.YtcepbgffnneagaaW.PrintWords
end
