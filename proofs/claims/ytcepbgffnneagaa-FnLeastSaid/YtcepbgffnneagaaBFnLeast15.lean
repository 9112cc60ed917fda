/- Contracts of Go functions and plain lemmas over what they compute; printed by the kit's print program or written by hand, joined. -/
import Derived.Test.YtcepbgffnneagaaBFnLeast3
import Derived.Test.YtcepbgffnneagaaBFnLeast5
import Derived.Test.YtcepbgffnneagaaBFnLeast7
import Derived.Test.YtcepbgffnneagaaBFnLeast4
import Derived.Test.YtcepbgffnneagaaBFnLeast6
import Derived.Test.YtcepbgffnneagaaBFnLeast10
import Derived.Test.YtcepbgffnneagaaBFnLeast11
import Derived.Test.YtcepbgffnneagaaBFnLeast12
import Derived.Test.YtcepbgffnneagaaBFnLeast8
import Derived.Test.YtcepbgffnneagaaBFnLeast9
import Derived.Test.YtcepbgffnneagaaBFnLeast13
import Derived.Test.YtcepbgffnneagaaBFnLeast14
import Derived.Test.YtcepbgffnneagaaBFnLeast2
import Derived.WalkKit
import Derived.ProofKit
import Derived.OpenShut
import Derived.ChangeOld
import Derived.Deep.Slices
section
namespace Go.Proofs.Ytcepbgffnneagaa.Q
open Go.RowKit Go.Proofs.YtcepbgffnneagaaW.PrintWords Go.Proofs.YtcepbgffnneagaaW.PrintLast Go.Proofs.YtcepbgffnneagaaW.PrintMore
attribute [local go_sem] max2_int min2_int max_two min_two max_three min_three max_four min_four   -- for this text's walks alone
set_option linter.unusedVariables false
set_option linter.unusedSimpArgs false

theorem wrap_u32_nat (v : BitVec 32) : IntKind.u32.wrap ((v.toNat : Nat) : Int) = ((v.toNat : Nat) : Int) := by
  rw [IntKind.wrap_u32]; have := v.isLt; omega
theorem bits_and32 (x y : Int) : Go.bits .and .u32 x y = (((BitVec.ofInt 32 x &&& BitVec.ofInt 32 y).toNat : Nat) : Int) := wrap_u32_nat _
end Go.Proofs.Ytcepbgffnneagaa.Q
end

section
namespace Go.Proofs.Ytcepbgffnneagaa.Q
open Go.RowKit Go.Proofs.YtcepbgffnneagaaW.PrintWords Go.Proofs.YtcepbgffnneagaaW.PrintLast Go.Proofs.YtcepbgffnneagaaW.PrintMore
attribute [local go_sem] max2_int min2_int max_two min_two max_three min_three max_four min_four   -- for this text's walks alone
set_option linter.unusedVariables false
set_option linter.unusedSimpArgs false

def leavesIn (g : List Int → List (List Int)) (l : List Int) : Nat → Nat → List (List Int)
  | 0, _ => []
  | d + 1, i => if (i : Int) ∈ l then leavesIn g l d (i + 1) else g (l ++ [(i : Int)]) ++ leavesIn g l d (i + 1)
/-- All lists of different numbers below n that go on from l by r places, in order. -/
def leaves (n : Nat) : Nat → List Int → List (List Int)
  | 0, l => [l]
  | r + 1, l => leavesIn (leaves n r) l n 0
def runCb {σ : Type} (cb : List Int → σ → Option (Bool × σ)) : List (List Int) → σ → Option (Bool × σ)
  | [], a => some (false, a)
  | l :: ls, a => (cb l a).bind fun p => if p.1 = true then some (true, p.2) else runCb cb ls p.2
theorem runCb_append {σ : Type} (cb : List Int → σ → Option (Bool × σ)) (y : List (List Int)) : ∀ (x : List (List Int)) (a : σ), runCb cb (x ++ y) a = (runCb cb x a).bind fun p => if p.1 = true then some (true, p.2) else runCb cb y p.2
  | [], a => rfl
  | l :: ls, a => by
    simp only [List.cons_append, runCb]
    cases h : cb l a with
    | none => rfl
    | some p =>
      simp only [Option.bind_some]
      by_cases hp : p.1 = true
      · rw [if_pos hp, if_pos hp]; rfl
      · rw [if_neg hp, if_neg hp]; exact runCb_append cb y ls p.2
theorem lstdIn_eq {σ : Type} (cb : List Int → σ → Option (Bool × σ)) (f : List Int → σ → Option (Bool × σ)) (g : List Int → List (List Int)) (hf : ∀ l a, f l a = runCb cb (g l) a) (l : List Int) : ∀ (d i : Nat) (a : σ), lstdIn f l d i a = runCb cb (leavesIn g l d i) a
  | 0, _, _ => rfl
  | d + 1, i, a => by
    rw [lstdIn, leavesIn]
    by_cases h : (i : Int) ∈ l
    · rw [if_pos h, if_pos h]; exact lstdIn_eq cb f g hf l d (i + 1) a
    · rw [if_neg h, if_neg h, runCb_append, hf]
      congr 1
      funext p
      by_cases hp : p.1 = true
      · rw [if_pos hp, if_pos hp]
      · rw [if_neg hp, if_neg hp]; exact lstdIn_eq cb f g hf l d (i + 1) p.2
theorem lstd_eq {σ : Type} (cb : List Int → σ → Option (Bool × σ)) (n : Nat) : ∀ (r : Nat) (l : List Int) (a : σ), lstd cb n r l a = runCb cb (leaves n r l) a
  | 0, l, a => by
    simp only [lstd, leaves, runCb]
    cases cb l a with
    | none => rfl
    | some p =>
      obtain ⟨b, a'⟩ := p
      cases b <;> rfl
  | r + 1, l, a => by
    rw [lstd, leaves]
    exact lstdIn_eq cb _ _ (fun l a => lstd_eq cb n r l a) l n 0 a
/-- A callback that only looks. -/
theorem runCb_any (cb : List Int → Option Bool) (p : List Int → Bool) : ∀ (L : List (List Int)), (∀ l ∈ L, cb l = some (p l)) → runCb (fun l (_ : Unit) => (cb l).map fun b => (b, ())) L () = some (L.any p, ())
  | [], _ => rfl
  | l :: ls, h => by
    simp only [runCb, h l (List.mem_cons_self), Option.map_some, Option.bind_some, List.any_cons]
    cases hp : p l
    · simp only [Bool.false_eq_true, if_false, Bool.false_or]
      exact runCb_any cb p ls fun x hx => h x (List.mem_cons_of_mem _ hx)
    · simp
/-- A callback that never says enough, and reckons on. -/
theorem runCb_fold {σ : Type} (cb : List Int → σ → Option (Bool × σ)) (g : σ → List Int → σ) : ∀ (L : List (List Int)) (a : σ), (∀ l ∈ L, ∀ a, cb l a = some (false, g a l)) → runCb cb L a = some (false, L.foldl g a)
  | [], _, _ => rfl
  | l :: ls, a, h => by
    simp only [runCb, h l (List.mem_cons_self) a, Option.bind_some, Bool.false_eq_true, if_false, List.foldl_cons]
    exact runCb_fold cb g ls _ fun x hx => h x (List.mem_cons_of_mem _ hx)

end Go.Proofs.Ytcepbgffnneagaa.Q
end

section
namespace Go.Proofs.Ytcepbgffnneagaa.Q
open Go.RowKit Go.Proofs.YtcepbgffnneagaaW.PrintWords Go.Proofs.YtcepbgffnneagaaW.PrintLast Go.Proofs.YtcepbgffnneagaaW.PrintMore
attribute [local go_sem] max2_int min2_int max_two min_two max_three min_three max_four min_four   -- for this text's walks alone
set_option linter.unusedVariables false
set_option linter.unusedSimpArgs false

def isChain (n : Int) : List (List Int) → Bool
  | [] => true
  | x :: ls => match ls with
    | [] => match spec_l01Next.f 100 x n with | some (false, _) => true | _ => false
    | y :: _ => decide (spec_l01Next.f 100 x n = some (true, y)) && isChain n ls
theorem chains : ∀ n, n < 6 → ∀ r, r < n + 1 → (leaves n r []).head? = some (firstI r) ∧ isChain n (leaves n r []) = true := by decide +kernel
theorem leaves_ok : ∀ n, n < 6 → ∀ r, r < n + 1 → ∀ l ∈ leaves n r [], l.length = r ∧ allDiff ((n : Int) - 1) l := by decide +kernel
theorem next_ge {x : List Int} {n : Int} {p : Bool × List Int} (h : spec_l01Next.f 100 x n = some p) (k : Nat) (hk : 100 ≤ k) : spec_l01Next.f k x n = some p :=
  LeO_ge (F := fun k => spec_l01Next.f k x n) (fun k => spec_l01Next.mono x n k) hk _ h
theorem chain_one {n : Int} {x : List Int} (h : isChain n [x] = true) : ∃ y, ∀ k, 100 ≤ k → spec_l01Next.f k x n = some (false, y) := by
  simp only [isChain] at h
  split at h
  · next y e => exact ⟨y, fun k hk => next_ge e k hk⟩
  · cases h
theorem chain_cons {n : Int} {x y : List Int} {ls : List (List Int)} (h : isChain n (x :: y :: ls) = true) : (∀ k, 100 ≤ k → spec_l01Next.f k x n = some (true, y)) ∧ isChain n (y :: ls) = true := by
  rw [isChain] at h
  simp only [Bool.and_eq_true, decide_eq_true_eq] at h
  exact ⟨fun k hk => next_ge h.1 k hk, h.2⟩
theorem leaves_short : ∀ n, n < 6 → ∀ r, r < n + 1 → (leaves n r []).length ≤ 200 := by decide +kernel

end Go.Proofs.Ytcepbgffnneagaa.Q
end

section
namespace Go.Proofs.Ytcepbgffnneagaa.Q
open Go.RowKit Go.Proofs.YtcepbgffnneagaaW.PrintWords Go.Proofs.YtcepbgffnneagaaW.PrintLast Go.Proofs.YtcepbgffnneagaaW.PrintMore
attribute [local go_sem] max2_int min2_int max_two min_two max_three min_three max_four min_four   -- for this text's walks alone
set_option linter.unusedVariables false
set_option linter.unusedSimpArgs false

end Go.Proofs.Ytcepbgffnneagaa.Q
end

section
namespace Go.Proofs.Ytcepbgffnneagaa.Q
open Go.RowKit Go.Proofs.YtcepbgffnneagaaW.PrintWords Go.Proofs.YtcepbgffnneagaaW.PrintLast Go.Proofs.YtcepbgffnneagaaW.PrintMore
attribute [local go_sem] max2_int min2_int max_two min_two max_three min_three max_four min_four   -- for this text's walks alone
set_option linter.unusedVariables false
set_option linter.unusedSimpArgs false

theorem leaves_ok_s : ∀ n, n < 6 → ∀ s, s < n + 1 → ∀ l ∈ leaves n (n - s) (firstI s), l.length = n ∧ allDiff ((n : Int) - 1) l := by decide +kernel
end Go.Proofs.Ytcepbgffnneagaa.Q
end

section
namespace Go.Proofs.Ytcepbgffnneagaa.Q
open Go.RowKit Go.Proofs.YtcepbgffnneagaaW.PrintWords Go.Proofs.YtcepbgffnneagaaW.PrintLast Go.Proofs.YtcepbgffnneagaaW.PrintMore
attribute [local go_sem] max2_int min2_int max_two min_two max_three min_three max_four min_four   -- for this text's walks alone
set_option linter.unusedVariables false
set_option linter.unusedSimpArgs false

theorem bits_of (f : Nat → Bool) : ∀ m, ∃ b, b < 2 ^ m ∧ ∀ q, q < m → b.testBit q = f q
  | 0 => ⟨0, by simp, fun q hq => absurd hq (Nat.not_lt_zero _)⟩
  | m + 1 => by
    obtain ⟨b, hb, h⟩ := bits_of f m
    cases hf : f m
    · refine ⟨b, by rw [Nat.pow_succ]; omega, fun q hq => ?_⟩
      by_cases hqm : q = m
      · subst hqm
        rw [hf]; exact Nat.testBit_lt_two_pow hb
      · exact h q (by omega)
    · refine ⟨2 ^ m + b, by rw [Nat.pow_succ]; omega, fun q hq => ?_⟩
      by_cases hqm : q = m
      · subst hqm
        rw [hf, Nat.testBit_two_pow_add_eq, Nat.testBit_lt_two_pow hb]; rfl
      · rw [Nat.testBit_two_pow_add_gt (by omega)]; exact h q (by omega)
def pairAt (J : Nat → Nat → Bool) : Nat → Bool
  | 0 => J 0 1 | 1 => J 0 2 | 2 => J 1 2 | 3 => J 0 3 | 4 => J 1 3 | 5 => J 2 3 | 6 => J 0 4 | 7 => J 1 4 | 8 => J 2 4 | 9 => J 3 4 | _ => false
theorem pairAt_bit (J : Nat → Nat → Bool) {i j : Nat} (hij : i < j) (hj : j < 5) : pairAt J (bitIx i j) = J i j := by
  have : (i = 0 ∧ j = 1) ∨ (i = 0 ∧ j = 2) ∨ (i = 1 ∧ j = 2) ∨ (i = 0 ∧ j = 3) ∨ (i = 1 ∧ j = 3) ∨ (i = 2 ∧ j = 3) ∨ (i = 0 ∧ j = 4) ∨ (i = 1 ∧ j = 4) ∨ (i = 2 ∧ j = 4) ∨ (i = 3 ∧ j = 4) := by omega
  rcases this with ⟨rfl, rfl⟩ | ⟨rfl, rfl⟩ | ⟨rfl, rfl⟩ | ⟨rfl, rfl⟩ | ⟨rfl, rfl⟩ | ⟨rfl, rfl⟩ | ⟨rfl, rfl⟩ | ⟨rfl, rfl⟩ | ⟨rfl, rfl⟩ | ⟨rfl, rfl⟩ <;> rfl
theorem hasI_bit : ∀ b : Nat, b < 1024 → ∀ i : Nat, i < 5 → ∀ j : Nat, j < 5 → i ≠ j → hasI (b : Int) (i : Int) (j : Int) = b.testBit (bitIx i j) := by decide +kernel
theorem bitIx_lt : ∀ n, n < 6 → ∀ j, j < n → ∀ i, i < j → bitIx i j < prs n := by decide
theorem prs_le : ∀ n, n < 6 → 2 ^ prs n ≤ 1024 := by decide
theorem made_has : ∀ n, n < 6 → ∀ b, b < 2 ^ prs n → madeI n (fun i j => hasI (b : Nat) i j) = (b : Nat) := by decide +kernel
theorem made_spec (n : Nat) (hn : n < 6) (J : Nat → Nat → Bool) : ∃ b : Nat, b < 2 ^ prs n ∧ madeI n J = b ∧ ∀ i j : Nat, i < j → j < n → hasI b i j = J i j := by
  obtain ⟨b, hb, h⟩ := bits_of (pairAt J) (prs n)
  have hb' : b < 1024 := Nat.lt_of_lt_of_le hb (prs_le n hn)
  have hJ : ∀ i j : Nat, i < j → j < n → hasI b i j = J i j := fun i j hij hj => by
    rw [hasI_bit b hb' i (by omega) j (by omega) (by omega), h _ (bitIx_lt n hn j hj i hij), pairAt_bit J hij (by omega)]
  exact ⟨b, hb, by rw [madeI_congr (J' := fun i j => hasI b i j) fun i j hij hj => (hJ i j hij hj).symm]; exact made_has n hn b hb, hJ⟩
theorem hasI_comm (e : Int) {a b : Nat} (h : a ≠ b) : hasI e a b = hasI e b a := by
  unfold hasI bitI
  rw [show bitIx (a : Int).toNat (b : Int).toNat = bitIx (b : Int).toNat (a : Int).toNat from by
    simp only [Int.toNat_natCast]; unfold bitIx
    by_cases hab : a > b
    · rw [if_pos hab, if_neg (by omega)]
    · rw [if_neg hab, if_pos (by omega)]]
/-- An order of the n vertices: at each place a vertex, no vertex twice. -/
def isOrd (n : Nat) (l : List Int) : Prop := l.length = n ∧ allDiff ((n : Int) - 1) l
theorem isOrd.at {n : Nat} {l : List Int} (h : isOrd n l) (i : Nat) (hi : i < n) : ∃ a : Nat, a < n ∧ rd l i = a := by
  have hl : i < l.length := by rw [h.1]; exact hi
  have := h.2.2 _ (List.getElem_mem hl)
  exact ⟨l[i].toNat, by omega, by rw [rd_of_lt l hl]; omega⟩
theorem isOrd.ne {n : Nat} {l : List Int} (h : isOrd n l) {i j : Nat} (hij : i ≠ j) (hi : i < n) (hj : j < n) : rd l i ≠ rd l j := by
  have hl : i < l.length := by rw [h.1]; exact hi
  have hl2 : j < l.length := by rw [h.1]; exact hj
  rw [rd_of_lt l hl, rd_of_lt l hl2]
  rcases Nat.lt_or_gt_of_ne hij with h1 | h1
  · exact List.pairwise_iff_getElem.1 h.2.1 i j hl hl2 h1
  · exact fun e => List.pairwise_iff_getElem.1 h.2.1 j i hl2 hl h1 e.symm
theorem onI_nat (n : Nat) (hn : n < 6) (e : Int) {l : List Int} (h : isOrd n l) : ∃ b : Nat, b < 2 ^ prs n ∧ onI e l = b ∧ ∀ i j : Nat, i ≠ j → i < n → j < n → hasI b i j = hasI e (rd l i) (rd l j) := by
  obtain ⟨b, hb, h1, h2⟩ := made_spec n hn (fun i j => hasI e (rd l i) (rd l j))
  refine ⟨b, hb, by unfold onI; rw [h.1]; exact h1, fun i j hij hi hj => ?_⟩
  rcases Nat.lt_or_gt_of_ne hij with hlt | hlt
  · exact h2 i j hlt hj
  · rw [hasI_comm b hij, h2 j i hlt hi]
    obtain ⟨x, hx, ex⟩ := h.at i hi
    obtain ⟨y, hy, ey⟩ := h.at j hj
    have := h.ne hij hi hj
    rw [ex, ey] at this ⊢
    exact hasI_comm e (by omega)
/-- First the order l, then p. -/
def comp (l p : List Int) : List Int := p.map fun x => rd l x
theorem rd_comp {n : Nat} {l p : List Int} (hp : isOrd n p) (i : Nat) (hi : i < n) : rd (comp l p) i = rd l (rd p i) := by
  have h1 : i < p.length := by rw [hp.1]; exact hi
  rw [rd_of_lt p h1, rd_of_lt _ (by unfold comp; rw [List.length_map]; exact h1)]
  simp [comp]
theorem isOrd.comp {n : Nat} {l p : List Int} (hl : isOrd n l) (hp : isOrd n p) : isOrd n (comp l p) := by
  have hlen : (Q.comp l p).length = n := by unfold Q.comp; rw [List.length_map]; exact hp.1
  have hget : ∀ i (h : i < (Q.comp l p).length), ∃ a : Nat, a < n ∧ rd p i = a ∧ (Q.comp l p)[i] = rd l a := fun i h => by
    obtain ⟨a, ha, e⟩ := hp.at i (by omega)
    exact ⟨a, ha, e, by rw [← rd_of_lt (Q.comp l p) h, rd_comp hp i (by omega), e]⟩
  refine ⟨hlen, List.pairwise_iff_getElem.2 fun i j hi hj hij => ?_, fun x hx => ?_⟩
  · obtain ⟨a, ha, ea, e1⟩ := hget i hi
    obtain ⟨b, hb, eb, e2⟩ := hget j hj
    rw [e1, e2]
    refine hl.ne (fun e => ?_) ha hb
    exact hp.ne (show i ≠ j by omega) (by omega) (by omega) (by rw [ea, eb, e])
  · obtain ⟨i, hi, rfl⟩ := List.getElem_of_mem hx
    obtain ⟨a, ha, _, e1⟩ := hget i hi
    obtain ⟨c, hc, ec⟩ := hl.at a ha
    rw [e1, ec]; omega
theorem onI_comp (n : Nat) (hn : n < 6) (e : Int) {l p : List Int} (hl : isOrd n l) (hp : isOrd n p) : onI (onI e l) p = onI e (comp l p) := by
  obtain ⟨b, hb, e1, h1⟩ := onI_nat n hn e hl
  rw [e1]
  unfold onI
  rw [hp.1, (hl.comp hp).1]
  refine madeI_congr fun i j hij hj => ?_
  obtain ⟨x, hx, ex⟩ := hp.at i (by omega)
  obtain ⟨y, hy, ey⟩ := hp.at j hj
  have hne := hp.ne (show i ≠ j by omega) (by omega) hj
  rw [rd_comp hp i (by omega), rd_comp hp j hj, ex, ey]
  rw [ex, ey] at hne
  exact h1 x y (by omega) hx hy

end Go.Proofs.Ytcepbgffnneagaa.Q
end

section
namespace Go.Proofs.Ytcepbgffnneagaa.Q
open Go.RowKit Go.Proofs.YtcepbgffnneagaaW.PrintWords Go.Proofs.YtcepbgffnneagaaW.PrintLast Go.Proofs.YtcepbgffnneagaaW.PrintMore
attribute [local go_sem] max2_int min2_int max_two min_two max_three min_three max_four min_four   -- for this text's walks alone
set_option linter.unusedVariables false
set_option linter.unusedSimpArgs false

theorem allDiff_len {n : Int} (h0 : 0 ≤ n) (h5 : n ≤ 5) {l : List Int} (h : allDiff (wrap64 (n - 1)) l) : l.length ≤ n.toNat ∧ ∀ x ∈ l, 0 ≤ x ∧ x < n := by
  have hw : wrap64 (n - 1) = n - 1 := by unfold wrap64; omega
  rw [hw] at h
  have h2 : ∀ x ∈ l, 0 ≤ x ∧ x < n := fun x hx => by have := h.2 x hx; omega
  exact ⟨pigeon n.toNat l h.1 fun x hx => by have := h2 x hx; omega, h2⟩

end Go.Proofs.Ytcepbgffnneagaa.Q
end

section
namespace Go.Proofs.Ytcepbgffnneagaa.Q
open Go.RowKit Go.Proofs.YtcepbgffnneagaaW.PrintWords Go.Proofs.YtcepbgffnneagaaW.PrintLast Go.Proofs.YtcepbgffnneagaaW.PrintMore
attribute [local go_sem] max2_int min2_int max_two min_two max_three min_three max_four min_four   -- for this text's walks alone
set_option linter.unusedVariables false
set_option linter.unusedSimpArgs false

theorem l01Bit_eq (k : Nat) {i j : Int} (i0 : 0 ≤ i) (i4 : i ≤ 4) (j0 : 0 ≤ j) (j4 : j ≤ 4) : spec_l01Bit.f (k + 2) i j = some (bitI i j) := by
  rcases small4 i0 i4 with rfl | rfl | rfl | rfl | rfl <;> rcases small4 j0 j4 with rfl | rfl | rfl | rfl | rfl <;> kernel_rfl

end Go.Proofs.Ytcepbgffnneagaa.Q
end

section
namespace Go.Proofs.Ytcepbgffnneagaa.Q
open Go.RowKit Go.Proofs.YtcepbgffnneagaaW.PrintWords Go.Proofs.YtcepbgffnneagaaW.PrintLast Go.Proofs.YtcepbgffnneagaaW.PrintMore
attribute [local go_sem] max2_int min2_int max_two min_two max_three min_three max_four min_four   -- for this text's walks alone
set_option linter.unusedVariables false
set_option linter.unusedSimpArgs false

theorem joined_eq (k : Nat) (n e : Int) {i j : Int} (i0 : 0 ≤ i) (i4 : i ≤ 4) (j0 : 0 ≤ j) (j4 : j ≤ 4) (hij : i ≠ j) : spec_l01Joined.f (k + 2) n e i j = some (hasI e i j) := by
  unfold spec_l01Joined.f hasI
  rw [if_neg hij, l01Bit_eq k i0 i4 j0 j4]; rfl
theorem l01Bit_ge {k : Nat} (hk : 2 ≤ k) {i j : Int} (i0 : 0 ≤ i) (i4 : i ≤ 4) (j0 : 0 ≤ j) (j4 : j ≤ 4) : spec_l01Bit.f k i j = some (bitI i j) := by
  obtain ⟨q, rfl⟩ : ∃ q, k = q + 2 := ⟨k - 2, by omega⟩
  exact l01Bit_eq q i0 i4 j0 j4
theorem joined_ge {k : Nat} (hk : 2 ≤ k) (n e : Int) {i j : Int} (i0 : 0 ≤ i) (i4 : i ≤ 4) (j0 : 0 ≤ j) (j4 : j ≤ 4) (hij : i ≠ j) : spec_l01Joined.f k n e i j = some (hasI e i j) := by
  obtain ⟨q, rfl⟩ : ∃ q, k = q + 2 := ⟨k - 2, by omega⟩
  exact joined_eq q n e i0 i4 j0 j4 hij
theorem onS_row {l : List Int} {j : Nat} (n e0 : Int) (h5 : l.length ≤ 5) (h : ∀ i : Nat, i < l.length → 0 ≤ rd l i ∧ rd l i ≤ 4) (hne : ∀ i j : Nat, i < j → j < l.length → rd l i ≠ rd l j) (hj : j < l.length) (N : Int) :
    ∀ (d i : Nat) (e : Int) (k : Nat), i + d = j → d + 3 ≤ k → spec_l01On.l1 k l j i n e0 N e = spec_l01On.l0 (k - (d + 1)) l ((j + 1 : Nat) : Int) n e0 N (loopRow (fun i j => hasI e0 (rd l i) (rd l j)) j d i e)
  | 0, i, e, k, hd, hk => by
    have : i = j := by omega
    subst this
    obtain ⟨k, rfl⟩ : ∃ m, k = m + 1 := ⟨k - 1, by omega⟩
    simp only [spec_l01On.l1, loopRow]
    rw [if_neg (by omega), show wrap64 ((i : Int) + 1) = ((i + 1 : Nat) : Int) from by unfold wrap64; omega]; rfl
  | d + 1, i, e, k, hd, hk => by
    have hw : wrap64 ((i : Int) + 1) = ((i + 1 : Nat) : Int) := by unfold wrap64; omega
    have hi := h i (by omega)
    have hj' := h j hj
    obtain ⟨k, rfl⟩ : ∃ m, k = m + 1 := ⟨k - 1, by omega⟩
    simp only [spec_l01On.l1, loopRow]
    rw [if_pos (by omega), if_pos (by omega), if_pos (by omega), if_pos (by omega), if_pos (by omega), joined_ge (by omega) n e0 hi.1 hi.2 hj'.1 hj'.2 (hne i j (by omega) hj), hw, show k + 1 - (d + 1 + 1) = k - (d + 1) from by omega]
    simp only [Option.bind_some]
    by_cases hb : hasI e0 (rd l i) (rd l j) = true
    rotate_left
    · rw [if_neg hb, if_neg hb]
      exact onS_row n e0 h5 h hne hj N d (i + 1) e k (by omega) (by omega)
    · rw [if_pos hb, if_pos hb, l01Bit_ge (by omega) (by omega) (by omega) (by omega) (by omega)]
      simp only [Option.bind_some]
      exact onS_row n e0 h5 h hne hj N d (i + 1) _ k (by omega) (by omega)
theorem onS_all {l : List Int} (n e0 : Int) (h5 : l.length ≤ 5) (h : ∀ i : Nat, i < l.length → 0 ≤ rd l i ∧ rd l i ≤ 4) (hne : ∀ i j : Nat, i < j → j < l.length → rd l i ≠ rd l j) :
    ∀ (d j : Nat) (e : Int) (k : Nat), j + d = l.length → 7 * d + 3 ≤ k → spec_l01On.l0 k l j n e0 (l.length : Int) e = some ((l.length : Int), loopMade (fun i j => hasI e0 (rd l i) (rd l j)) d j e)
  | 0, j, e, k, hd, hk => by
    obtain ⟨k, rfl⟩ : ∃ m, k = m + 1 := ⟨k - 1, by omega⟩
    simp only [spec_l01On.l0, loopMade]
    rw [if_neg (by omega)]
  | d + 1, j, e, k, hd, hk => by
    obtain ⟨k, rfl⟩ : ∃ m, k = m + 1 := ⟨k - 1, by omega⟩
    simp only [spec_l01On.l0, loopMade]
    rw [if_pos (by omega)]
    have := onS_row n e0 h5 h hne (show j < l.length by omega) (l.length : Int) j 0 e k (by omega) (by omega)
    rw [show ((0 : Nat) : Int) = 0 from rfl] at this
    rw [this]
    exact onS_all n e0 h5 h hne d (j + 1) _ (k - (j + 1)) (by omega) (by omega)
theorem onS_eq (n e : Int) {l : List Int} (h5 : l.length ≤ 5) (h : ∀ i : Nat, i < l.length → 0 ≤ rd l i ∧ rd l i ≤ 4) (hne : ∀ i j : Nat, i < j → j < l.length → rd l i ≠ rd l j) (k : Nat) (hk : 40 ≤ k) :
    spec_l01On.f k n e l = some ((l.length : Int), onI e l) := by
  unfold spec_l01On.f onI madeI
  cases hl : l.length with
  | zero =>
    obtain ⟨k, rfl⟩ : ∃ m, k = m + 1 := ⟨k - 1, by omega⟩
    simp [spec_l01On.l0, loopMade]
  | succ m =>
    have := onS_all n e h5 h hne m 1 0 k (by omega) (by omega)
    rw [hl] at this
    rw [show ((1 : Nat) : Int) = 1 from rfl] at this
    rw [this]
    simp [loopMade, loopRow]

end Go.Proofs.Ytcepbgffnneagaa.Q
end

section
namespace Go.Proofs.Ytcepbgffnneagaa.Q
open Go.RowKit Go.Proofs.YtcepbgffnneagaaW.PrintWords Go.Proofs.YtcepbgffnneagaaW.PrintLast Go.Proofs.YtcepbgffnneagaaW.PrintMore
attribute [local go_sem] max2_int min2_int max_two min_two max_three min_three max_four min_four   -- for this text's walks alone
set_option linter.unusedVariables false
set_option linter.unusedSimpArgs false

theorem onS_diff (n e : Int) {m : Int} (h0 : 0 ≤ m) (h5 : m ≤ 5) {l : List Int} (h : allDiff (wrap64 (m - 1)) l) (k : Nat) (hk : 40 ≤ k) : spec_l01On.f k n e l = some ((l.length : Int), onI e l) := by
  have hl := allDiff_len h0 h5 h
  have hat : ∀ i : Nat, (hi : i < l.length) → 0 ≤ l[i] ∧ l[i] < m := fun i hi => hl.2 _ (List.getElem_mem hi)
  refine onS_eq n e (by omega) (fun i hi => ?_) (fun i j hij hj => ?_) k hk
  · rw [rd_of_lt l hi]; have := hat i hi; omega
  · rw [rd_of_lt l hj, rd_of_lt l (by omega)]
    exact List.pairwise_iff_getElem.1 h.1 i j (by omega) hj hij
theorem okList_diff {m : Int} (h0 : 0 ≤ m) (h5 : m ≤ 5) {l : List Int} (h : allDiff (wrap64 (m - 1)) l) : okList l := by
  have hl := allDiff_len h0 h5 h
  exact ⟨by omega, fun x hx => by have := hl.2 x hx; omega⟩

end Go.Proofs.Ytcepbgffnneagaa.Q
end

section
namespace Go.Proofs.Ytcepbgffnneagaa.Q
open Go.RowKit Go.Proofs.YtcepbgffnneagaaW.PrintWords Go.Proofs.YtcepbgffnneagaaW.PrintLast Go.Proofs.YtcepbgffnneagaaW.PrintMore
attribute [local go_sem] max2_int min2_int max_two min_two max_three min_three max_four min_four   -- for this text's walks alone
set_option linter.unusedVariables false
set_option linter.unusedSimpArgs false

def leastE (e : Int) (L : List (List Int)) (best : Int) : Int := L.foldl (fun b l => if onI e l < b then onI e l else b) best
theorem least_eq (n s : Nat) (hn : n < 6) (hs : s < n + 1) (e : Int) (hL : ∀ l ∈ leaves n (n - s) (firstI s), allDiff ((n : Int) - 1) l) : impl_Graph_least.f n e s = some ((n : Int), leastE e (leaves n (n - s) (firstI s)) e) := by
  unfold impl_Graph_least.f
  rw [if_pos (by omega), lstd_eq, show ((n : Int) - (s : Int)).toNat = n - s from by omega, Int.toNat_natCast, Int.toNat_natCast]
  rw [runCb_fold (leastCb e) (fun b l => if onI e l < b then onI e l else b)]
  · rfl
  · intro l hl a
    unfold leastCb
    rw [if_pos (okList_diff (m := n) (by omega) (by omega) (by rw [show wrap64 ((n : Int) - 1) = (n : Int) - 1 from by unfold wrap64; omega]; exact hL l hl))]
theorem least_loop (n : Nat) (hn : n < 6) (e : Int) : ∀ (ls : List (List Int)) (x : List Int) (k : Nat) (best : Int), isChain n (x :: ls) = true → (∀ l ∈ x :: ls, l.length = n ∧ allDiff ((n : Int) - 1) l) → ls.length + 200 ≤ k →
    spec_l01Least.l0 k x true n e n best = some ((n : Int), leastE e (x :: ls) best)
  | [], x, k, best, hc, hd, hk => by
    obtain ⟨k, rfl⟩ : ∃ q, k = q + 2 := ⟨k - 2, by omega⟩
    obtain ⟨y, hy⟩ := chain_one hc
    have hx := hd x (List.mem_cons_self)
    rw [spec_l01Least.l0, if_pos rfl, onS_diff (m := n) n e (by omega) (by omega) (by rw [show wrap64 ((n : Int) - 1) = (n : Int) - 1 from by unfold wrap64; omega]; exact hx.2) _ (by omega)]
    simp only [Option.bind_some, leastE, List.foldl_cons, List.foldl_nil, hx.1]
    by_cases hb : onI e x < best
    · rw [if_pos hb, if_pos hb, hy _ (by omega)]
      simp only [Option.bind_some]
      rw [spec_l01Least.l0, if_neg (by simp)]
    · rw [if_neg hb, if_neg hb, hy _ (by omega)]
      simp only [Option.bind_some]
      rw [spec_l01Least.l0, if_neg (by simp)]
  | z :: ls, x, k, best, hc, hd, hk => by
    obtain ⟨k, rfl⟩ : ∃ q, k = q + 1 := ⟨k - 1, by omega⟩
    obtain ⟨h1, h2⟩ := chain_cons hc
    have hx := hd x (List.mem_cons_self)
    have hl : (z :: ls).length = ls.length + 1 := rfl
    rw [spec_l01Least.l0, if_pos rfl, onS_diff (m := n) n e (by omega) (by omega) (by rw [show wrap64 ((n : Int) - 1) = (n : Int) - 1 from by unfold wrap64; omega]; exact hx.2) _ (by omega)]
    have ih := fun best => least_loop n hn e ls z k best h2 (fun l hl => hd l (List.mem_cons_of_mem _ hl)) (by omega)
    simp only [Option.bind_some, leastE, hx.1]
    rw [List.foldl_cons]
    by_cases hb : onI e x < best
    · rw [if_pos hb, if_pos hb, h1 _ (by omega)]
      exact ih _
    · rw [if_neg hb, if_neg hb, h1 _ (by omega)]
      exact ih _
theorem l01Least_eq (n : Nat) (hn : n < 6) (e : Int) (k : Nat) (hk : 1000 ≤ k) : spec_l01Least.f k n e = some ((n : Int), leastE e (leaves n n []) e) := by
  unfold spec_l01Least.f
  rw [firstS_eq n (by omega) (by omega) k (by omega)]
  simp only [Option.bind_some, Int.toNat_natCast]
  obtain ⟨hh, hc⟩ := chains n hn n (by omega)
  have hd := leaves_ok n hn n (by omega)
  have hlen := leaves_short n hn n (by omega)
  revert hh hc hd hlen
  generalize leaves n n [] = L
  intro hh hc hd hlen
  cases L with
  | nil => simp at hh
  | cons x ls =>
    obtain rfl : x = firstI n := by simpa using hh
    exact least_loop n hn e ls _ k e hc hd (by simp only [List.length_cons] at hlen; omega)

end Go.Proofs.Ytcepbgffnneagaa.Q
end

section
namespace Go.Proofs.Ytcepbgffnneagaa.Q
open Go.RowKit Go.Proofs.YtcepbgffnneagaaW.PrintWords Go.Proofs.YtcepbgffnneagaaW.PrintLast Go.Proofs.YtcepbgffnneagaaW.PrintMore
attribute [local go_sem] max2_int min2_int max_two min_two max_three min_three max_four min_four   -- for this text's walks alone
set_option linter.unusedVariables false
set_option linter.unusedSimpArgs false

theorem mem_leavesIn {g : List Int → List (List Int)} {l x : List Int} : ∀ (d i0 i : Nat), i0 ≤ i → i < i0 + d → (i : Int) ∉ l → x ∈ g (l ++ [(i : Int)]) → x ∈ leavesIn g l d i0
  | 0, i0, i, h1, h2, _, _ => by omega
  | d + 1, i0, i, h1, h2, hn, hx => by
    rw [leavesIn]
    rcases Nat.eq_or_lt_of_le h1 with rfl | h1
    · rw [if_neg hn]; exact List.mem_append_left _ hx
    · have := mem_leavesIn d (i0 + 1) i (by omega) (by omega) hn hx
      by_cases h : (i0 : Int) ∈ l
      · rw [if_pos h]; exact this
      · rw [if_neg h]; exact List.mem_append_right _ this
theorem mem_leaves (n : Nat) : ∀ (r : Nat) (pre t : List Int), t.length = r → (pre ++ t).Nodup → (∀ x ∈ t, 0 ≤ x ∧ x < n) → pre ++ t ∈ leaves n r pre
  | 0, pre, t, hl, _, _ => by
    obtain rfl := List.eq_nil_of_length_eq_zero hl
    rw [leaves, List.append_nil]; exact List.mem_singleton.2 rfl
  | r + 1, pre, t, hl, hd, hr => by
    cases t with
    | nil => simp at hl
    | cons x t =>
      have hx := hr x (List.mem_cons_self)
      have hxp : x ∉ pre := fun h => by
        rw [List.nodup_append] at hd
        exact hd.2.2 x h x (List.mem_cons_self) rfl
      rw [leaves]
      refine mem_leavesIn n 0 x.toNat (Nat.zero_le _) (by omega) (by rw [Int.toNat_of_nonneg hx.1]; exact hxp) ?_
      rw [Int.toNat_of_nonneg hx.1, show pre ++ x :: t = (pre ++ [x]) ++ t from by simp]
      exact mem_leaves n r (pre ++ [x]) t (by simpa using hl) (by simpa using hd) fun y hy => hr y (List.mem_cons_of_mem _ hy)
theorem leaves_take : ∀ n, n < 6 → ∀ s, s < n + 1 → ∀ l ∈ leaves n (n - s) (firstI s), l.take s = firstI s := by decide +kernel
theorem mem_orders (n s : Nat) (hs : s < n + 1) {l : List Int} (h : isOrd n l) (ht : l.take s = firstI s) : l ∈ leaves n (n - s) (firstI s) := by
  have e : firstI s ++ l.drop s = l := by rw [← ht]; exact List.take_append_drop s l
  have := mem_leaves n (n - s) (firstI s) (l.drop s) (by rw [List.length_drop, h.1]) (by rw [e]; exact h.2.1) (fun x hx => by have := h.2.2 x (List.mem_of_mem_drop hx); omega)
  rwa [e] at this
theorem map_firstI (l : List Int) : ∀ s, s ≤ l.length → (firstI s).map (fun x => rd l x) = l.take s
  | 0, _ => rfl
  | s + 1, h => by
    rw [firstI, List.map_append, map_firstI l s (by omega), List.take_succ_eq_append_getElem (by omega)]
    show _ ++ [rd l s] = _
    rw [rd_of_lt l (by omega)]
theorem comp_mem (n s : Nat) (hn : n < 6) (hs : s < n + 1) {l p : List Int} (hl : l ∈ leaves n (n - s) (firstI s)) (hp : p ∈ leaves n (n - s) (firstI s)) : comp l p ∈ leaves n (n - s) (firstI s) := by
  have ol : isOrd n l := leaves_ok_s n hn s hs l hl
  have op : isOrd n p := leaves_ok_s n hn s hs p hp
  refine mem_orders n s hs (ol.comp op) ?_
  unfold comp
  rw [← List.map_take, leaves_take n hn s hs p hp, map_firstI l s (by rw [ol.1]; omega), leaves_take n hn s hs l hl]
theorem orders_inv : ∀ n, n < 6 → ∀ s, s < n + 1 → ∀ l ∈ leaves n (n - s) (firstI s), ∃ p ∈ leaves n (n - s) (firstI s), comp l p = firstI n := by decide +kernel
theorem first_mem : ∀ n, n < 6 → ∀ s, s < n + 1 → firstI n ∈ leaves n (n - s) (firstI s) := by decide +kernel
theorem onI_first : ∀ n, n < 6 → ∀ b : Nat, b < 2 ^ prs n → onI (b : Nat) (firstI n) = (b : Nat) := by decide +kernel
theorem leastE_le (e : Int) : ∀ (L : List (List Int)) (best : Int), leastE e L best ≤ best ∧ ∀ l ∈ L, leastE e L best ≤ onI e l
  | [], best => ⟨Int.le_refl _, fun l hl => by cases hl⟩
  | x :: L, best => by
    have ih := leastE_le e L (if onI e x < best then onI e x else best)
    show leastE e L _ ≤ best ∧ ∀ l ∈ x :: L, leastE e L _ ≤ onI e l
    have h1 : (if onI e x < best then onI e x else best) ≤ best ∧ (if onI e x < best then onI e x else best) ≤ onI e x := by split <;> omega
    refine ⟨Int.le_trans ih.1 h1.1, fun l hl => ?_⟩
    rcases List.mem_cons.1 hl with rfl | hl
    · exact Int.le_trans ih.1 h1.2
    · exact ih.2 l hl
theorem leastE_mem (e : Int) : ∀ (L : List (List Int)) (best : Int), leastE e L best = best ∨ ∃ l ∈ L, leastE e L best = onI e l
  | [], best => Or.inl rfl
  | x :: L, best => by
    have ih := leastE_mem e L (if onI e x < best then onI e x else best)
    show leastE e L _ = best ∨ ∃ l ∈ x :: L, leastE e L _ = onI e l
    rcases ih with ih | ⟨l, hl, ih⟩
    · rw [ih]
      split
      · exact Or.inr ⟨x, List.mem_cons_self, rfl⟩
      · exact Or.inl rfl
    · exact Or.inr ⟨l, List.mem_cons_of_mem _ hl, ih⟩
/-- Two graphs have one least graph just if an order turns the one into the other. -/
theorem alike_iff (n s : Nat) (hn : n < 6) (hs : s < n + 1) (e h : Nat) (he : e < 2 ^ prs n) (hh : h < 2 ^ prs n) :
    (∃ l ∈ leaves n (n - s) (firstI s), onI e l = h) ↔ leastE e (leaves n (n - s) (firstI s)) e = leastE h (leaves n (n - s) (firstI s)) h := by
  have ord : ∀ l ∈ leaves n (n - s) (firstI s), isOrd n l := fun l hl => leaves_ok_s n hn s hs l hl
  have inv := orders_inv n hn s hs
  have cm : ∀ {l p : List Int}, l ∈ leaves n (n - s) (firstI s) → p ∈ leaves n (n - s) (firstI s) → comp l p ∈ leaves n (n - s) (firstI s) := fun hl hp => comp_mem n s hn hs hl hp
  have fm := first_mem n hn s hs
  generalize leaves n (n - s) (firstI s) = L at *
  have at_ : ∀ g : Nat, g < 2 ^ prs n → ∃ l ∈ L, leastE g L g = onI g l := fun g hg => by
    rcases leastE_mem g L g with h1 | h1
    · exact ⟨firstI n, fm, by rw [h1, onI_first n hn g hg]⟩
    · exact h1
  have le_ : ∀ (g k : Nat) {l : List Int}, g < 2 ^ prs n → k < 2 ^ prs n → l ∈ L → onI g l = k → leastE g L g ≤ leastE k L k := fun g k l hg hk hl e1 => by
    obtain ⟨p, hp, e2⟩ := at_ k hk
    rw [e2, ← e1, onI_comp n hn g (ord l hl) (ord p hp)]
    exact (leastE_le g L g).2 _ (cm hl hp)
  constructor
  · rintro ⟨l, hl, e1⟩
    obtain ⟨p, hp, e2⟩ := inv l hl
    have back : onI h p = e := by rw [← e1, onI_comp n hn e (ord l hl) (ord p hp), e2, onI_first n hn e he]
    exact Int.le_antisymm (le_ e h he hh hl e1) (le_ h e hh he hp back)
  · intro e0
    obtain ⟨l, hl, e1⟩ := at_ e he
    obtain ⟨q, hq, e2⟩ := at_ h hh
    obtain ⟨p, hp, e3⟩ := inv q hq
    refine ⟨comp l p, cm hl hp, ?_⟩
    rw [← onI_comp n hn e (ord l hl) (ord p hp), ← e1, e0, e2, onI_comp n hn h (ord q hq) (ord p hp), e3, onI_first n hn h hh]

end Go.Proofs.Ytcepbgffnneagaa.Q
end

section
namespace Go.Proofs.Ytcepbgffnneagaa.Q
open Go.RowKit Go.Proofs.YtcepbgffnneagaaW.PrintWords Go.Proofs.YtcepbgffnneagaaW.PrintLast Go.Proofs.YtcepbgffnneagaaW.PrintMore
attribute [local go_sem] max2_int min2_int max_two min_two max_three min_three max_four min_four   -- for this text's walks alone
set_option linter.unusedVariables false
set_option linter.unusedSimpArgs false

def srcOk (l : List Int) : Prop := l.length ≤ 3000 ∧ ∀ x ∈ l, 0 ≤ x ∧ x ≤ 255
theorem wrap_u64_nat (m : Nat) (h : m < 18446744073709551616) : IntKind.u64.wrap (m : Int) = m := by
  simp only [IntKind.wrap, IntKind.bits, IntKind.signed, Bool.false_and, Bool.false_eq_true, if_false]
  omega
theorem bits_and64 (x y : Int) : Go.bits .and .u64 x y = (((BitVec.ofInt 64 x &&& BitVec.ofInt 64 y).toNat : Nat) : Int) := wrap_u64_nat _ (BitVec.isLt _)
theorem and255 (x : Int) : 0 ≤ Go.bits .and .u64 x 255 ∧ Go.bits .and .u64 x 255 ≤ 255 := by
  rw [bits_and64]
  have h : (BitVec.ofInt 64 x &&& BitVec.ofInt 64 255).toNat ≤ 255 := by
    rw [BitVec.toNat_and]
    exact Nat.le_trans Nat.and_le_right (by decide)
  omega
theorem src_next (l : List Int) (hl : srcOk l) (at_ seed : Int) (h0 : 0 ≤ at_) (h1 : at_ ≤ 100000) : ∃ v s, spec_l00Src_next.f l at_ seed = some (v, at_ + 1, s) ∧ 0 ≤ v ∧ v ≤ 255 := by
  have hw : wrap64 (at_ + 1) = at_ + 1 := by unfold wrap64; omega
  unfold spec_l00Src_next.f
  rw [hw]
  by_cases h : at_ < (l.length : Int)
  · rw [if_pos h, if_pos h0, if_pos (by omega)]
    obtain ⟨i, rfl⟩ : ∃ i : Nat, at_ = i := ⟨at_.toNat, by omega⟩
    have hi : i < l.length := by omega
    have hx := hl.2 _ (List.getElem_mem hi)
    refine ⟨_, _, rfl, ?_⟩
    rw [rd_of_lt l hi]
    unfold wrap64; omega
  · rw [if_neg h, if_neg (by omega)]
    refine ⟨_, _, rfl, ?_⟩
    generalize IntKind.u64.wrap _ / 1099511627776 = q
    have := and255 q
    unfold wrap64; omega
theorem src_pick (l : List Int) (hl : srcOk l) (at_ seed n : Int) (h0 : 0 ≤ at_) (h1 : at_ ≤ 50000) (hn : 1 ≤ n) (hn2 : n ≤ 10000) : ∃ v a s, spec_l00Src_pick.f l at_ seed n = some (v, a, s) ∧ 0 ≤ v ∧ v < n ∧ at_ ≤ a ∧ a ≤ at_ + 2 := by
  unfold spec_l00Src_pick.f
  by_cases h : n ≤ 1
  · rw [if_pos h]; exact ⟨0, at_, seed, rfl, by omega, by omega, by omega, by omega⟩
  rw [if_neg h]
  obtain ⟨v, s, e1, hv0, hv1⟩ := src_next l hl at_ seed h0 (by omega)
  rw [e1]
  simp only [Option.bind_some]
  by_cases h2 : n > 200
  · rw [if_pos h2]
    obtain ⟨v2, s2, e2, hw0, hw1⟩ := src_next l hl (at_ + 1) s (by omega) (by omega)
    rw [e2]
    simp only [Option.bind_some]
    rw [if_neg (by omega)]
    have hx : wrap64 (wrap64 (v * 256) + v2) = v * 256 + v2 := by unfold wrap64; omega
    rw [hx]
    refine ⟨_, _, _, rfl, ?_, ?_, by omega, by omega⟩
    · rw [Int.tmod_eq_emod_of_nonneg (by omega)]; exact Int.emod_nonneg _ (by omega)
    · rw [Int.tmod_eq_emod_of_nonneg (by omega)]; exact Int.emod_lt_of_pos _ (by omega)
  · rw [if_neg h2, if_neg (by omega)]
    refine ⟨_, _, _, rfl, ?_, ?_, by omega, by omega⟩
    · rw [Int.tmod_eq_emod_of_nonneg hv0]; exact Int.emod_nonneg _ (by omega)
    · rw [Int.tmod_eq_emod_of_nonneg hv0]; exact Int.emod_lt_of_pos _ (by omega)
theorem and_le (p q : Nat) (hp : p < 4294967296) : ∃ r : Nat, r ≤ p ∧ Go.bits .and .u32 (p : Int) (q : Int) = r := by
  refine ⟨(BitVec.ofInt 32 p &&& BitVec.ofInt 32 q).toNat, ?_, bits_and32 _ _⟩
  rw [BitVec.toNat_and]
  refine Nat.le_trans Nat.and_le_left ?_
  rw [BitVec.ofInt_natCast, BitVec.toNat_ofNat]
  omega
theorem a2graph_consts : ∀ n : Nat, n < 6 → spec_l01Bits.f (n : Int) = some ((prs n : Nat) : Int) ∧ IntKind.u64.wrap ((prs n : Nat) : Int) = ((prs n : Nat) : Int) ∧ shl .i64 1 ((prs n : Nat) : Int) = ((2 ^ prs n : Nat) : Int) := by decide +kernel
theorem pow_prs : ∀ n : Nat, n < 6 → 1 ≤ 2 ^ prs n ∧ 2 ^ prs n ≤ 1024 := by decide
theorem A2Graph_ok (l : List Int) (hl : srcOk l) (n : Nat) (hn : n < 6) : ∃ e : Nat, e < 2 ^ prs n ∧ spec_A2Graph.f l n = some ((n : Int), (e : Int)) := by
  obtain ⟨c1, c2, c3⟩ := a2graph_consts n hn
  obtain ⟨p1, p2⟩ := pow_prs n hn
  unfold spec_A2Graph.f spec_l00From.f spec_l01Drawn.f
  simp only [Option.bind_some]
  rw [c1]
  simp only [Option.bind_some, c2, c3]
  rw [if_pos (by omega)]
  obtain ⟨v, a, s, e1, hv0, hv1, ha0, ha1⟩ := src_pick l hl 0 0 ((2 ^ prs n : Nat) : Int) (by omega) (by omega) (by omega) (by omega)
  rw [e1]
  simp only [Option.bind_some, spec_l00Src_one.f]
  obtain ⟨v2, a2, s2, e2, _, _, hb0, hb1⟩ := src_pick l hl a s 4 (by omega) (by omega) (by omega) (by omega)
  rw [e2]
  simp only [Option.bind_some]
  obtain ⟨w, rfl⟩ : ∃ w : Nat, v = w := ⟨v.toNat, by omega⟩
  have hw : ((w : Int)) % 4294967296 = w := by omega
  by_cases h4 : (v2 == 0) = true
  · rw [if_pos h4]
    obtain ⟨v3, a3, s3, e3, hx0, hx1, _, _⟩ := src_pick l hl a2 s2 ((2 ^ prs n : Nat) : Int) (by omega) (by omega) (by omega) (by omega)
    rw [e3]
    obtain ⟨u, rfl⟩ : ∃ u : Nat, v3 = u := ⟨v3.toNat, by omega⟩
    have hu : ((u : Int)) % 4294967296 = u := by omega
    obtain ⟨r, hr, er⟩ := and_le w u (by omega)
    simp only [Option.bind_some, hw, hu, er]
    exact ⟨r, by omega, rfl⟩
  · rw [if_neg h4]
    simp only [Option.bind_some, hw]
    exact ⟨w, by omega, rfl⟩
theorem next_in : ∀ n : Nat, n < 6 → ∀ p ∈ leaves n n [], (match spec_l01Next.f 100 p n with | some (true, q) => decide (q ∈ leaves n n []) | some (false, _) => true | none => false) = true := by decide +kernel
theorem A2Order_loop (n : Nat) (hn : n < 6) : ∀ (d k : Nat) (p : List Int), p ∈ leaves n n [] → d ≤ 200 → d + 200 ≤ k → ∃ q, spec_A2Order.l0 k n p d = some q ∧ q ∈ leaves n n []
  | 0, k, p, hp, _, hk => by
    obtain ⟨k, rfl⟩ : ∃ q, k = q + 1 := ⟨k - 1, by omega⟩
    exact ⟨p, by rw [spec_A2Order.l0, if_neg (by omega)], hp⟩
  | d + 1, k, p, hp, hd, hk => by
    obtain ⟨k, rfl⟩ : ∃ q, k = q + 1 := ⟨k - 1, by omega⟩
    have h := next_in n hn p hp
    have fm := first_mem n hn 0 (by omega)
    rw [show firstI 0 = [] from rfl, Nat.sub_zero] at fm
    have hw : wrap64 (((d + 1 : Nat) : Int) - 1) = (d : Int) := by
      unfold wrap64; omega
    rw [spec_A2Order.l0, if_pos (by omega)]
    simp only [hw]
    split at h
    · next q e =>
      rw [next_ge e k (by omega)]
      simp only [Option.bind_some, if_true]
      exact A2Order_loop n hn d k q (of_decide_eq_true h) (by omega) (by omega)
    · next q e =>
      rw [next_ge e k (by omega)]
      simp only [Option.bind_some, Bool.false_eq_true, if_false]
      rw [firstS_eq n (by omega) (by omega) k (by omega), Int.toNat_natCast]
      simp only [Option.bind_some]
      exact A2Order_loop n hn d k _ fm (by omega) (by omega)
    · cases h
theorem A2Order_ok (l : List Int) (hl : srcOk l) (n : Nat) (hn : n < 6) (k : Nat) (hk : 400 ≤ k) : ∃ p, p ∈ leaves n n [] ∧ spec_A2Order.f k l n = some p := by
  have fm := first_mem n hn 0 (by omega)
  rw [show firstI 0 = [] from rfl, Nat.sub_zero] at fm
  unfold spec_A2Order.f spec_l00From.f
  simp only [Option.bind_some]
  rw [firstS_eq n (by omega) (by omega) k (by omega), Int.toNat_natCast]
  simp only [Option.bind_some]
  obtain ⟨v, a, s, e1, hv0, hv1, _, _⟩ := src_pick l hl 0 0 121 (by omega) (by omega) (by omega) (by omega)
  rw [e1]
  obtain ⟨d, rfl⟩ : ∃ d : Nat, v = d := ⟨v.toNat, by omega⟩
  simp only [Option.bind_some]
  obtain ⟨q, e2, hq⟩ := A2Order_loop n hn d k (firstI n) fm (by omega) (by omega)
  exact ⟨q, hq, e2⟩

end Go.Proofs.Ytcepbgffnneagaa.Q
end

section
namespace Go.Proofs.Ytcepbgffnneagaa.Q
open Go.RowKit Go.Proofs.YtcepbgffnneagaaW.PrintWords Go.Proofs.YtcepbgffnneagaaW.PrintLast Go.Proofs.YtcepbgffnneagaaW.PrintMore
attribute [local go_sem] max2_int min2_int max_two min_two max_three min_three max_four min_four   -- for this text's walks alone
set_option linter.unusedVariables false
set_option linter.unusedSimpArgs false

def byteOk (l : List Int) : Prop := l.length < 9223372036854775808 ∧ ∀ x ∈ l, (Lit.int .u8 x).wf = true
theorem a2Long_cases {l m : List Int} (hl : byteOk l) (hm : byteOk m) : laws_a2Long.f l m = some true ∨ laws_a2Long.f l m = some false ∧ srcOk l ∧ srcOk m := by
  unfold laws_a2Long.f
  by_cases h : (l.length : Int) > 3000
  · rw [if_pos h]; exact Or.inl rfl
  rw [if_neg h]
  by_cases h2 : (m.length : Int) > 3000
  · rw [decide_eq_true h2]; exact Or.inl rfl
  rw [decide_eq_false h2]
  have ok : ∀ {l : List Int}, byteOk l → ¬ (l.length : Int) > 3000 → srcOk l := fun hl h =>
    ⟨by omega, fun x hx => by simpa [Lit.wf, IntKind.min, IntKind.max, IntKind.bits, IntKind.signed] using hl.2 x hx⟩
  exact Or.inr ⟨rfl, ok hl h, ok hm h2⟩
theorem a2At_ok {l : List Int} (hl : srcOk l) (a n : Nat) (hn : 1 ≤ n) : ∃ t : Nat, t < n ∧ laws_a2At.f l a n = some (t : Int) := by
  unfold laws_a2At.f
  by_cases h : (a : Int) ≥ (l.length : Int)
  · rw [if_pos h]; exact ⟨0, by omega, rfl⟩
  have ha : a < l.length := by omega
  have hx := hl.2 _ (List.getElem_mem ha)
  rw [if_neg h, if_neg (by omega), if_pos (by omega), if_pos (by omega), if_neg (by omega), rd_of_lt l ha, show wrap64 l[a] = l[a] from by unfold wrap64; omega, Int.tmod_eq_emod_of_nonneg hx.1]
  have h1 := Int.emod_nonneg l[a] (show (n : Int) ≠ 0 by omega)
  have h2 := Int.emod_lt_of_pos l[a] (show (0 : Int) < n by omega)
  exact ⟨(l[a] % n).toNat, by omega, by congr 1; omega⟩

end Go.Proofs.Ytcepbgffnneagaa.Q
end

section
namespace Go.Proofs.Ytcepbgffnneagaa.Q
open Go.RowKit Go.Proofs.YtcepbgffnneagaaW.PrintWords Go.Proofs.YtcepbgffnneagaaW.PrintLast Go.Proofs.YtcepbgffnneagaaW.PrintMore
attribute [local go_sem] max2_int min2_int max_two min_two max_three min_three max_four min_four   -- for this text's walks alone
set_option linter.unusedVariables false
set_option linter.unusedSimpArgs false

def cntB (b : Nat) : Int := (((List.range 10).countP fun q => b.testBit q : Nat) : Int)
theorem ones_eq : ∀ b : Nat, b < 1024 → bits_OnesCount32.f (b : Int) = some (cntB b) := by decide +kernel
def pairsL (n : Nat) : List (Nat × Nat) := (List.range n).flatMap fun j => (List.range j).map fun i => (i, j)
theorem pairsL_bits : ∀ n, n < 6 → (pairsL n).map (fun p => bitIx p.1 p.2) = List.range (prs n) := by decide
theorem pairsL_lt : ∀ n, n < 6 → ∀ p ∈ pairsL n, p.1 < p.2 ∧ p.2 < n := by decide
theorem pairsL_perm : ∀ n, n < 6 → ∀ l ∈ leaves n n [], ((pairsL n).map fun p => bitIx (rd l p.1).toNat (rd l p.2).toNat).isPerm (List.range (prs n)) = true := by decide +kernel
theorem cnt_short : ∀ n, n < 6 → ∀ b : Nat, b < 2 ^ prs n → (List.range 10).countP (fun q => b.testBit q) = (List.range (prs n)).countP (fun q => b.testBit q) := by decide +kernel
theorem cnt_on (n : Nat) (hn : n < 6) (e h : Nat) (he : e < 2 ^ prs n) {l : List Int} (hl : l ∈ leaves n n []) (eh : onI e l = h) : cntB h = cntB e := by
  have ol : isOrd n l := leaves_ok n hn n (by omega) l hl
  obtain ⟨b, hb, e1, h1⟩ := onI_nat n hn e ol
  obtain rfl : b = h := by rw [eh] at e1; omega
  unfold cntB
  have he' : e < 1024 := Nat.lt_of_lt_of_le he (prs_le n hn)
  have hb' : b < 1024 := Nat.lt_of_lt_of_le hb (prs_le n hn)
  rw [cnt_short n hn b hb, cnt_short n hn e he]
  have hp := List.isPerm_iff.1 (pairsL_perm n hn l hl)
  rw [← hp.countP_eq (fun q => e.testBit q), ← pairsL_bits n hn, List.countP_map, List.countP_map]
  congr 1
  refine List.countP_congr fun p hp => ?_
  obtain ⟨p1, p2⟩ := pairsL_lt n hn p hp
  obtain ⟨x, hx, ex⟩ := ol.at p.1 (by omega)
  obtain ⟨y, hy, ey⟩ := ol.at p.2 (by omega)
  have hne := ol.ne (show p.1 ≠ p.2 by omega) (by omega) (by omega)
  have := h1 p.1 p.2 (by omega) (by omega) (by omega)
  rw [ex, ey] at hne this
  rw [hasI_bit b hb' _ (by omega) _ (by omega) (by omega), hasI_bit e he' _ (by omega) _ (by omega) (by omega)] at this
  simp only [Function.comp, ex, ey, Int.toNat_natCast, this]

end Go.Proofs.Ytcepbgffnneagaa.Q
end

section
namespace Go.Proofs.Ytcepbgffnneagaa.Q
open Go.RowKit Go.Proofs.YtcepbgffnneagaaW.PrintWords Go.Proofs.YtcepbgffnneagaaW.PrintLast Go.Proofs.YtcepbgffnneagaaW.PrintMore
attribute [local go_sem] max2_int min2_int max_two min_two max_three min_three max_four min_four   -- for this text's walks alone
set_option linter.unusedVariables false
set_option linter.unusedSimpArgs false

theorem leaves_sub : ∀ n, n < 6 → ∀ s, s < n + 1 → ∀ l ∈ leaves n (n - s) (firstI s), l ∈ leaves n n [] := by
  intro n hn s hs l hl
  have h := leaves_ok_s n hn s hs l hl
  have := mem_orders n 0 (by omega) (l := l) h (by simp [firstI])
  simpa [firstI] using this
/-- Whether the program finds two graphs alike, the first s vertices fixed. -/
theorem alike_eq (n s : Nat) (hn : n < 6) (hs : s < n + 1) (e h : Nat) (he : e < 2 ^ prs n) (hh : h < 2 ^ prs n) : impl_Graph_alike.f n e n h s = some (leastE e (leaves n (n - s) (firstI s)) e == leastE h (leaves n (n - s) (firstI s)) h) := by
  have he' : e < 1024 := Nat.lt_of_lt_of_le he (prs_le n hn)
  have hh' : h < 1024 := Nat.lt_of_lt_of_le hh (prs_le n hn)
  have iff_ := alike_iff n s hn hs e h he hh
  unfold impl_Graph_alike.f
  rw [if_pos rfl, ones_eq e he', ones_eq h hh']
  simp only [Option.bind_some]
  by_cases hc : cntB e = cntB h
  · rw [if_pos hc]
    unfold impl_Graph_orders.f
    rw [if_pos (by omega), lstd_eq, show ((n : Int) - (s : Int)).toNat = n - s from by omega, Int.toNat_natCast, Int.toNat_natCast]
    rw [runCb_any _ (fun l => decide (onI e l = h))]
    · simp only [Option.map_some, Option.bind_some]
      congr 1
      rw [Bool.eq_iff_iff, List.any_eq_true, beq_iff_eq, ← iff_]
      simp only [decide_eq_true_eq]
    · intro l hl
      have ol := leaves_ok_s n hn s hs l hl
      unfold impl_Graph_alike_1.f
      rw [impl_onT.eq n e (okList_diff (m := n) (by omega) (by omega) (by rw [show wrap64 ((n : Int) - 1) = (n : Int) - 1 from by unfold wrap64; omega]; exact ol.2))]
      simp only [Option.bind_some, ol.1]
      congr 1
      rw [Bool.eq_iff_iff]; simp
  · rw [if_neg hc]
    congr 1
    symm
    rw [beq_eq_false_iff_ne]
    intro e0
    obtain ⟨l, hl, e1⟩ := iff_.2 e0
    exact hc (cnt_on n hn e h he (leaves_sub n hn s hs l hl) e1).symm

end Go.Proofs.Ytcepbgffnneagaa.Q
end

section
namespace Go.Proofs.Ytcepbgffnneagaa.Q
open Go.RowKit Go.Proofs.YtcepbgffnneagaaW.PrintWords Go.Proofs.YtcepbgffnneagaaW.PrintLast Go.Proofs.YtcepbgffnneagaaW.PrintMore
attribute [local go_sem] max2_int min2_int max_two min_two max_three min_three max_four min_four   -- for this text's walks alone
set_option linter.unusedVariables false
set_option linter.unusedSimpArgs false

end Go.Proofs.Ytcepbgffnneagaa.Q
end

section
namespace Go.Proofs.Ytcepbgffnneagaa.Q
open Go.RowKit Go.Proofs.YtcepbgffnneagaaW.PrintWords Go.Proofs.YtcepbgffnneagaaW.PrintLast Go.Proofs.YtcepbgffnneagaaW.PrintMore
attribute [local go_sem] max2_int min2_int max_two min_two max_three min_three max_four min_four   -- for this text's walks alone
set_option linter.unusedVariables false
set_option linter.unusedSimpArgs false

end Go.Proofs.Ytcepbgffnneagaa.Q
end

section
namespace Go.Proofs.Ytcepbgffnneagaa.Q
open Go.RowKit Go.Proofs.YtcepbgffnneagaaW.PrintWords Go.Proofs.YtcepbgffnneagaaW.PrintLast Go.Proofs.YtcepbgffnneagaaW.PrintMore
attribute [local go_sem] max2_int min2_int max_two min_two max_three min_three max_four min_four   -- for this text's walks alone
set_option linter.unusedVariables false
set_option linter.unusedSimpArgs false

def isLeastB (n s : Nat) (e : Int) : Bool := !(leaves n (n - s) (firstI s)).any fun l => decide (onI e l < e)
theorem isLeast_eq (n s : Nat) (hn : n < 6) (hs : s < n + 1) (e : Int) (hL : ∀ l ∈ leaves n (n - s) (firstI s), allDiff ((n : Int) - 1) l) : impl_Graph_isLeast.f n e s = some (isLeastB n s e) := by
  unfold impl_Graph_isLeast.f impl_Graph_orders.f
  rw [if_pos (by omega), lstd_eq, show ((n : Int) - (s : Int)).toNat = n - s from by omega, Int.toNat_natCast, Int.toNat_natCast]
  rw [runCb_any _ (fun l => decide (onI e l < e))]
  · rfl
  · intro l hl
    unfold impl_Graph_isLeast_1.f
    rw [impl_onT.eq n e (okList_diff (m := n) (by omega) (by omega) (by rw [show wrap64 ((n : Int) - 1) = (n : Int) - 1 from by unfold wrap64; omega]; exact hL l hl))]
    rfl
theorem prs_le' : ∀ n, n < 6 → 2 ^ prs n ≤ 1024 := by decide
/-- The graphs of size n with numbers of edges from e on, d of them, that ok tells. -/
def gList (n : Nat) (ok : Nat → Bool) : Nat → Nat → List S27
  | 0, _ => []
  | d + 1, e => if ok e = true then ⟨n, e⟩ :: gList n ok d (e + 1) else gList n ok d (e + 1)
theorem gList_length (n : Nat) (ok : Nat → Bool) : ∀ d e, (gList n ok d e).length ≤ d
  | 0, _ => Nat.le_refl _
  | d + 1, e => by
    have := gList_length n ok d (e + 1)
    rw [gList]; split
    · rw [List.length_cons]; omega
    · omega
end Go.Proofs.Ytcepbgffnneagaa.Q
end

section
namespace Go.Proofs.Ytcepbgffnneagaa.Q
open Go.RowKit Go.Proofs.YtcepbgffnneagaaW.PrintWords Go.Proofs.YtcepbgffnneagaaW.PrintLast Go.Proofs.YtcepbgffnneagaaW.PrintMore
attribute [local go_sem] max2_int min2_int max_two min_two max_three min_three max_four min_four   -- for this text's walks alone
set_option linter.unusedVariables false
set_option linter.unusedSimpArgs false

theorem in_eq (a b c : Int) : impl_in.f a b c = some (decide (b ≤ a ∧ a ≤ c)) := by
  unfold impl_in.f
  by_cases h : a ≥ b
  · rw [if_pos h]; congr 1; rw [decide_eq_decide]; omega
  · rw [if_neg h]; congr 1; symm; rw [decide_eq_false_iff_not]; omega

end Go.Proofs.Ytcepbgffnneagaa.Q
end

section
namespace Go.Proofs.Ytcepbgffnneagaa.Q
open Go.RowKit Go.Proofs.YtcepbgffnneagaaW.PrintWords Go.Proofs.YtcepbgffnneagaaW.PrintLast Go.Proofs.YtcepbgffnneagaaW.PrintMore
attribute [local go_sem] max2_int min2_int max_two min_two max_three min_three max_four min_four   -- for this text's walks alone
set_option linter.unusedVariables false
set_option linter.unusedSimpArgs false

def validG (n e : Int) : Bool := decide (0 ≤ n ∧ n ≤ 5 ∧ e < 2 ^ (n.toNat * (n.toNat - 1) / 2))
theorem l01Ok_eq (n e : Int) (h0 : 0 ≤ e) (h1 : e ≤ 4294967295) : spec_l01Ok.f n e = some (validG n e) := by
  have hw : wrap64 e = e := by unfold wrap64; omega
  unfold spec_l01Ok.f validG
  rw [l00In_eq, hw]; simp only [Option.bind_some]
  by_cases h : 0 ≤ n ∧ n ≤ 5
  · rw [if_pos (by simpa using h)]
    obtain ⟨ha, hb⟩ := h
    rcases small5 ha hb with rfl | rfl | rfl | rfl | rfl | rfl
    all_goals
      simp only [spec_l01Bits.f]
      simp [wrap64, IntKind.wrap_u64, shl, IntKind.wrap_i64, IntKind.bits]
  · rw [if_neg (by simpa using h)]; congr 1; symm; rw [decide_eq_false_iff_not]; omega

end Go.Proofs.Ytcepbgffnneagaa.Q
end

section
namespace Go.Proofs.Ytcepbgffnneagaa.Q
open Go.RowKit Go.Proofs.YtcepbgffnneagaaW.PrintWords Go.Proofs.YtcepbgffnneagaaW.PrintLast Go.Proofs.YtcepbgffnneagaaW.PrintMore
attribute [local go_sem] max2_int min2_int max_two min_two max_three min_three max_four min_four   -- for this text's walks alone
set_option linter.unusedVariables false
set_option linter.unusedSimpArgs false

theorem ValidGraph_eq (n e : Int) (h0 : 0 ≤ e) (h1 : e ≤ 4294967295) : impl_ValidGraph.f n e = some (validG n e) := by
  unfold impl_ValidGraph.f validG
  rw [in_eq]; simp only [Option.bind_some]
  by_cases h : 0 ≤ n ∧ n ≤ 5
  · rw [if_pos (by simpa using h)]
    obtain ⟨ha, hb⟩ := h
    rcases small5 ha hb with rfl | rfl | rfl | rfl | rfl | rfl
    all_goals
      simp only [impl_pairs.f]
      simp [wrap64, shr, IntKind.bits]
    all_goals (first | done | (rw [Bool.eq_iff_iff]; simp; omega))
  · rw [if_neg (by simpa using h)]; congr 1; symm; rw [decide_eq_false_iff_not]; omega

end Go.Proofs.Ytcepbgffnneagaa.Q
end

section
namespace Go.Proofs.Ytcepbgffnneagaa.Q
open Go.RowKit Go.Proofs.YtcepbgffnneagaaW.PrintWords Go.Proofs.YtcepbgffnneagaaW.PrintLast Go.Proofs.YtcepbgffnneagaaW.PrintMore
attribute [local go_sem] max2_int min2_int max_two min_two max_three min_three max_four min_four   -- for this text's walks alone
set_option linter.unusedVariables false
set_option linter.unusedSimpArgs false

theorem in_eq4 (a b c : Int) : impl_in.f a b c = some (decide (b ≤ a ∧ a ≤ c)) := by
  unfold impl_in.f
  by_cases h : a ≥ b
  · rw [if_pos h]; congr 1; rw [decide_eq_decide]; omega
  · rw [if_neg h]; congr 1; symm; rw [decide_eq_false_iff_not]; omega

end Go.Proofs.Ytcepbgffnneagaa.Q
end

section
namespace Go.Proofs.Ytcepbgffnneagaa.Q
open Go.RowKit Go.Proofs.YtcepbgffnneagaaW.PrintWords Go.Proofs.YtcepbgffnneagaaW.PrintLast Go.Proofs.YtcepbgffnneagaaW.PrintMore
attribute [local go_sem] max2_int min2_int max_two min_two max_three min_three max_four min_four   -- for this text's walks alone
set_option linter.unusedVariables false
set_option linter.unusedSimpArgs false

theorem gList_mem (n : Nat) (ok : Nat → Bool) : ∀ (d e m : Nat), e ≤ m → m < e + d → ok m = true → (⟨n, m⟩ : S27) ∈ gList n ok d e
  | 0, e, m, h1, h2, _ => by omega
  | d + 1, e, m, h1, h2, hm => by
    rw [gList]
    rcases Nat.eq_or_lt_of_le h1 with rfl | h1
    · rw [if_pos hm]; exact List.mem_cons_self
    · have := gList_mem n ok d (e + 1) m (by omega) (by omega) hm
      split
      · exact List.mem_cons_of_mem _ this
      · exact this
theorem least_at (n : Nat) (hn : n < 6) (e : Nat) (he : e < 2 ^ prs n) : ∃ l ∈ leaves n n [], leastE e (leaves n n []) e = onI e l := by
  have fm := first_mem n hn 0 (by omega)
  rw [show firstI 0 = [] from rfl, Nat.sub_zero] at fm
  rcases leastE_mem e (leaves n n []) e with h1 | h1
  · exact ⟨firstI n, fm, by rw [h1, onI_first n hn e he]⟩
  · exact h1
theorem least_least (n : Nat) (hn : n < 6) (e : Nat) (he : e < 2 ^ prs n) : ∃ m : Nat, m < 2 ^ prs n ∧ leastE e (leaves n n []) e = m ∧ isLeastB n 0 m = true := by
  have h0 := leaves_ok_s n hn 0 (by omega)
  have cm : ∀ {l p : List Int}, l ∈ leaves n (n - 0) (firstI 0) → p ∈ leaves n (n - 0) (firstI 0) → comp l p ∈ leaves n (n - 0) (firstI 0) := fun hl hp => comp_mem n 0 hn (by omega) hl hp
  obtain ⟨l, hl, e1⟩ := least_at n hn e he
  unfold isLeastB
  rw [show firstI 0 = [] from rfl, Nat.sub_zero] at *
  obtain ⟨m, hm, e2, _⟩ := onI_nat n hn e (h0 l hl)
  refine ⟨m, hm, by rw [e1, e2], ?_⟩
  rw [Bool.not_eq_true', List.any_eq_false]
  intro p hp
  rw [decide_eq_true_eq, ← e2, onI_comp n hn e (h0 l hl) (h0 p hp)]
  have := (leastE_le e (leaves n n []) e).2 _ (cm hl hp)
  omega
/-- What the least graph of a graph that is alike is. -/
theorem least_of_on (n : Nat) (hn : n < 6) (e h : Nat) (he : e < 2 ^ prs n) (hh : h < 2 ^ prs n) {p : List Int} (hp : p ∈ leaves n n []) (e1 : onI e p = h) : leastE h (leaves n n []) h = leastE e (leaves n n []) e := by
  have := (alike_iff n 0 hn (by omega) e h he hh).1
  rw [show firstI 0 = [] from rfl, Nat.sub_zero] at this
  exact (this ⟨p, hp, e1⟩).symm
end Go.Proofs.Ytcepbgffnneagaa.Q
end

section
namespace Go.Proofs.Ytcepbgffnneagaa.Q
open Go.RowKit Go.Proofs.YtcepbgffnneagaaW.PrintWords Go.Proofs.YtcepbgffnneagaaW.PrintLast Go.Proofs.YtcepbgffnneagaaW.PrintMore
attribute [local go_sem] max2_int min2_int max_two min_two max_three min_three max_four min_four   -- for this text's walks alone
set_option linter.unusedVariables false
set_option linter.unusedSimpArgs false

theorem leasts_loop (cb : Int → Int → Option Bool) (p : Nat → Bool) (n s : Nat) (hn : n < 6) (hs : s < n + 1) (hcb : ∀ e : Nat, e < 2 ^ prs n → cb n e = some (p e)) : ∀ (d e k : Nat) (out : List S27), e + d = 2 ^ prs n → out.length ≤ e → d + 1 ≤ k →
    impl_leasts.l0 cb k n s out ((2 ^ prs n : Nat) : Int) e = some (out ++ gList n (fun e => p e && isLeastB n s e) d e)
  | 0, e, k, out, hd, ho, hk => by
    obtain ⟨k, rfl⟩ : ∃ q, k = q + 1 := ⟨k - 1, by omega⟩
    rw [impl_leasts.l0, if_neg (by omega), gList, List.append_nil]
  | d + 1, e, k, out, hd, ho, hk => by
    obtain ⟨k, rfl⟩ : ∃ q, k = q + 1 := ⟨k - 1, by omega⟩
    have hp := prs_le' n hn
    have he : ((e : Int) + 1) % 4294967296 = ((e + 1 : Nat) : Int) := by omega
    rw [impl_leasts.l0, if_pos (by omega), hcb e (by omega), he, gList]
    simp only [Option.bind_some]
    cases hpe : p e
    · simp only [Bool.false_eq_true, if_false, Bool.false_and]
      exact leasts_loop cb p n s hn hs hcb d (e + 1) k _ (by omega) (by omega) (by omega)
    · simp only [if_true, Bool.true_and, isLeast_eq n s hn hs e (fun l hl => (leaves_ok_s n hn s hs l hl).2), Option.bind_some]
      by_cases hl : isLeastB n s (e : Int) = true
      · rw [if_pos hl, if_pos hl, if_pos (by omega), leasts_loop cb p n s hn hs hcb d (e + 1) k _ (by omega) (by rw [List.length_append]; simp only [List.length_cons, List.length_nil]; omega) (by omega), List.append_assoc]; rfl
      · rw [if_neg hl, if_neg hl, leasts_loop cb p n s hn hs hcb d (e + 1) k _ (by omega) (by omega) (by omega)]
theorem leasts_eq (cb : Int → Int → Option Bool) (p : Nat → Bool) (n s : Nat) (hn : n < 6) (hs : s < n + 1) (hcb : ∀ e : Nat, e < 2 ^ prs n → cb n e = some (p e)) (k : Nat) (hk : 1100 ≤ k) : impl_leasts.f cb k n s = some (gList n (fun e => p e && isLeastB n s e) (2 ^ prs n) 0) := by
  have hb : impl_pairs.f (n : Int) = some ((prs n : Nat) : Int) := (show ∀ n : Nat, n < 6 → impl_pairs.f (n : Int) = some ((prs n : Nat) : Int) from by decide +kernel) n hn
  have hsh : shl .u32 1 ((prs n : Nat) : Int) = ((2 ^ prs n : Nat) : Int) := (show ∀ n : Nat, n < 6 → shl .u32 1 ((prs n : Nat) : Int) = ((2 ^ prs n : Nat) : Int) from by decide +kernel) n hn
  have hp := prs_le' n hn
  unfold impl_leasts.f
  rw [hb]
  simp only [Option.bind_some]
  rw [if_pos (by omega), hsh]
  have := leasts_loop cb p n s hn hs hcb (2 ^ prs n) 0 k [] (by omega) (by simp) (by omega)
  rw [show ((0 : Nat) : Int) = 0 from rfl] at this
  rw [this]; rfl
end Go.Proofs.Ytcepbgffnneagaa.Q
end

section
namespace Go.Proofs.Ytcepbgffnneagaa.Q
open Go.RowKit Go.Proofs.YtcepbgffnneagaaW.PrintWords Go.Proofs.YtcepbgffnneagaaW.PrintLast Go.Proofs.YtcepbgffnneagaaW.PrintMore
attribute [local go_sem] max2_int min2_int max_two min_two max_three min_three max_four min_four   -- for this text's walks alone
set_option linter.unusedVariables false
set_option linter.unusedSimpArgs false

theorem rdG_nat (l : List S27) {i : Nat} (hi : i < l.length) : rd_T27 l (i : Int) = l[i] := by unfold rd_T27; exact getD_of_lt l _ hi

end Go.Proofs.Ytcepbgffnneagaa.Q
end

section
namespace Go.Proofs.Ytcepbgffnneagaa.Q
open Go.RowKit Go.Proofs.YtcepbgffnneagaaW.PrintWords Go.Proofs.YtcepbgffnneagaaW.PrintLast Go.Proofs.YtcepbgffnneagaaW.PrintMore
attribute [local go_sem] max2_int min2_int max_two min_two max_three min_three max_four min_four   -- for this text's walks alone
set_option linter.unusedVariables false
set_option linter.unusedSimpArgs false

def selfE (n e : Int) (L : List (List Int)) (many : Int) : Int := L.foldl (fun b l => if ((l.length : Int) == n && (onI e l == e)) = true then wrap64 (b + 1) else b) many
theorem selves_eq (n s : Nat) (hn : n < 6) (hs : s < n + 1) (e : Int) (hL : ∀ l ∈ leaves n (n - s) (firstI s), allDiff ((n : Int) - 1) l) : impl_Graph_selves.f n e s = some (selfE n e (leaves n (n - s) (firstI s)) 0) := by
  unfold impl_Graph_selves.f
  rw [if_pos (by omega), lstd_eq, show ((n : Int) - (s : Int)).toNat = n - s from by omega, Int.toNat_natCast, Int.toNat_natCast]
  rw [runCb_fold (selfCb n e) (fun b l => if ((l.length : Int) == n && (onI e l == e)) = true then wrap64 (b + 1) else b)]
  · rfl
  · intro l hl a
    unfold selfCb
    rw [if_pos (okList_diff (m := n) (by omega) (by omega) (by rw [show wrap64 ((n : Int) - 1) = (n : Int) - 1 from by unfold wrap64; omega]; exact hL l hl))]

end Go.Proofs.Ytcepbgffnneagaa.Q
end

section
namespace Go.Proofs.Ytcepbgffnneagaa.Q
open Go.RowKit Go.Proofs.YtcepbgffnneagaaW.PrintWords Go.Proofs.YtcepbgffnneagaaW.PrintLast Go.Proofs.YtcepbgffnneagaaW.PrintMore
attribute [local go_sem] max2_int min2_int max_two min_two max_three min_three max_four min_four   -- for this text's walks alone
set_option linter.unusedVariables false
set_option linter.unusedSimpArgs false

theorem len_le_of_sub : ∀ (A B : List (List Int)), A.Nodup → (∀ x ∈ A, x ∈ B) → A.length ≤ B.length
  | [], B, _, _ => Nat.zero_le _
  | x :: A, B, hd, hs => by
    rw [List.nodup_cons] at hd
    have hx := hs x List.mem_cons_self
    have := len_le_of_sub A (B.erase x) hd.2 fun y hy => (List.mem_erase_of_ne (fun (e : y = x) => hd.1 (e ▸ hy))).2 (hs y (List.mem_cons_of_mem _ hy))
    rw [List.length_erase_of_mem hx] at this
    have hp := List.length_pos_of_mem hx
    rw [List.length_cons]; omega
theorem nodup_map_on {f : List Int → List Int} : ∀ (A : List (List Int)), A.Nodup → (∀ x ∈ A, ∀ y ∈ A, f x = f y → x = y) → (A.map f).Nodup
  | [], _, _ => List.nodup_nil
  | x :: A, hd, h => by
    rw [List.nodup_cons] at hd
    rw [List.map_cons, List.nodup_cons]
    refine ⟨fun hm => ?_, nodup_map_on A hd.2 fun a ha b hb => h a (List.mem_cons_of_mem _ ha) b (List.mem_cons_of_mem _ hb)⟩
    obtain ⟨y, hy, e⟩ := List.mem_map.1 hm
    have := h y (List.mem_cons_of_mem _ hy) x List.mem_cons_self e
    exact hd.1 (this ▸ hy)
theorem countP_le_inj (A : List (List Int)) (p q : List Int → Bool) (f : List Int → List Int) (hd : A.Nodup) (hf : ∀ x ∈ A, p x = true → f x ∈ A ∧ q (f x) = true) (hi : ∀ x ∈ A, ∀ y ∈ A, f x = f y → x = y) : A.countP p ≤ A.countP q := by
  rw [List.countP_eq_length_filter, List.countP_eq_length_filter]
  have h1 : ((A.filter p).map f).Nodup := nodup_map_on _ (hd.filter p) fun x hx y hy => hi x (List.mem_filter.1 hx).1 y (List.mem_filter.1 hy).1
  have := len_le_of_sub _ (A.filter q) h1 fun y hy => by
    obtain ⟨x, hx, rfl⟩ := List.mem_map.1 hy
    obtain ⟨h2, h3⟩ := List.mem_filter.1 hx
    exact List.mem_filter.2 (hf x h2 h3)
  rwa [List.length_map] at this
theorem leaves_distinct : ∀ n, n < 6 → (leaves n n []).Nodup := by decide +kernel
theorem comp_assoc {n : Nat} {a b c : List Int} (_ha : isOrd n a) (hb : isOrd n b) (hc : isOrd n c) : comp (comp a b) c = comp a (comp b c) := by
  unfold comp
  rw [List.map_map]
  refine List.map_congr_left fun x hx => ?_
  obtain ⟨i, hi, rfl⟩ := List.getElem_of_mem hx
  obtain ⟨y, hy, e⟩ := hc.at i (by have := hc.1; omega)
  rw [rd_of_lt c hi] at e
  rw [e]
  exact rd_comp hb y hy
theorem comp_first {n : Nat} {l : List Int} (hl : isOrd n l) : comp l (firstI n) = l := by
  unfold comp
  rw [map_firstI l n (by rw [hl.1]; omega), List.take_of_length_le (by rw [hl.1]; omega)]
theorem rd_firstI : ∀ n, n < 6 → ∀ i, i < n → rd (firstI n) i = i := by decide +kernel
theorem first_comp {n : Nat} (hn : n < 6) {l : List Int} (hl : isOrd n l) : comp (firstI n) l = l := by
  unfold comp
  refine Eq.trans (List.map_congr_left fun x hx => ?_) (List.map_id l)
  obtain ⟨i, hi, rfl⟩ := List.getElem_of_mem hx
  obtain ⟨y, hy, e⟩ := hl.at i (by have := hl.1; omega)
  rw [rd_of_lt l hi] at e
  rw [e, rd_firstI n hn y hy]; rfl
/-- As many orders make e of itself as make h of itself, if some order makes h of e: one way. -/
theorem selves_le (n : Nat) (hn : n < 6) (e h : Nat) {p r : List Int} (hp : p ∈ leaves n n []) (hr : r ∈ leaves n n []) (hpr : comp p r = firstI n) (e1 : onI e p = h) (e2 : onI h r = e) :
    (leaves n n []).countP (fun l => onI e l == e) ≤ (leaves n n []).countP (fun l => onI h l == h) := by
  have h0 := leaves_ok_s n hn 0 (by omega)
  have cm : ∀ {l p : List Int}, l ∈ leaves n (n - 0) (firstI 0) → p ∈ leaves n (n - 0) (firstI 0) → comp l p ∈ leaves n (n - 0) (firstI 0) := fun hl hp => comp_mem n 0 hn (by omega) hl hp
  rw [show firstI 0 = [] from rfl, Nat.sub_zero] at *
  have op : isOrd n p := h0 p hp
  have or : isOrd n r := h0 r hr
  refine countP_le_inj _ _ _ (fun l => comp (comp r l) p) (leaves_distinct n hn) (fun l hl hq => ⟨cm (cm hr hl) hp, ?_⟩) (fun x hx y hy e3 => ?_)
  · have ol : isOrd n l := h0 l hl
    rw [beq_iff_eq] at hq ⊢
    rw [← onI_comp n hn h (or.comp ol) op, ← onI_comp n hn h or ol, e2, hq, e1]
  · have key : ∀ l ∈ leaves n n [], comp (comp p (comp (comp r l) p)) r = l := fun l hl => by
      have ol : isOrd n l := h0 l hl
      have orl := or.comp ol
      rw [comp_assoc op (orl.comp op) or, comp_assoc orl op or, hpr, comp_first orl, ← comp_assoc op or ol, hpr, first_comp hn ol]
    rw [← key x hx, ← key y hy, e3]
theorem selfE_count (n : Nat) (e : Int) : ∀ (L : List (List Int)) (many : Nat), (∀ l ∈ L, l.length = n) → many + L.length ≤ 1000 → selfE n e L many = ((many + L.countP (fun l => onI e l == e) : Nat) : Int)
  | [], many, _, _ => by simp [selfE]
  | x :: L, many, h, hm => by
    have hx := h x List.mem_cons_self
    have hL : ∀ l ∈ L, l.length = n := fun l hl => h l (List.mem_cons_of_mem _ hl)
    rw [List.length_cons] at hm
    have ih := fun m hm => selfE_count n e L m hL hm
    unfold selfE at ih ⊢
    rw [List.foldl_cons, List.countP_cons, hx, beq_self_eq_true, Bool.true_and]
    by_cases hb : (onI e x == e) = true
    · rw [if_pos hb, if_pos hb, show wrap64 ((many : Int) + 1) = ((many + 1 : Nat) : Int) from by unfold wrap64; omega, ih (many + 1) (by omega)]
      congr 1; omega
    · rw [if_neg hb, if_neg hb, ih many (by omega)]
      rfl
theorem selves_same (n : Nat) (hn : n < 6) (e h : Nat) (he : e < 2 ^ prs n) (_hh : h < 2 ^ prs n) {p : List Int} (hp : p ∈ leaves n n []) (e1 : onI e p = h) :
    selfE n e (leaves n n []) 0 = selfE n h (leaves n n []) 0 ∧ 1 ≤ selfE n e (leaves n n []) 0 := by
  have h0 := leaves_ok_s n hn 0 (by omega)
  have inv := orders_inv n hn 0 (by omega)
  have fm := first_mem n hn 0 (by omega)
  rw [show firstI 0 = [] from rfl, Nat.sub_zero] at *
  have hlen := leaves_short n hn n (by omega)
  obtain ⟨r, hr, e3⟩ := inv p hp
  obtain ⟨s, hs, e4⟩ := inv r hr
  have op : isOrd n p := h0 p hp
  have or : isOrd n r := h0 r hr
  have os : isOrd n s := h0 s hs
  -- s = p: (p r) s = s, p (r s) = p
  have hsp : s = p := by
    have := comp_assoc op or os
    rwa [e3, e4, first_comp hn os, comp_first op] at this
  subst hsp
  have e2 : onI h r = e := by rw [← e1, onI_comp n hn e op or, e3, onI_first n hn e he]
  have c1 := selfE_count n e (leaves n n []) 0 (fun l hl => (h0 l hl).1) (by omega)
  have c2 := selfE_count n h (leaves n n []) 0 (fun l hl => (h0 l hl).1) (by omega)
  rw [show ((0 : Nat) : Int) = 0 from rfl] at c1 c2
  have l1 := selves_le n hn e h hp hr e3 e1 e2
  have l2 := selves_le n hn h e hr hp e4 e2 e1
  have l3 : 0 < (leaves n n []).countP (fun l => onI e l == e) := by
    rw [List.countP_pos_iff]
    exact ⟨firstI n, fm, by rw [beq_iff_eq]; exact onI_first n hn e he⟩
  rw [c1, c2]
  omega

end Go.Proofs.Ytcepbgffnneagaa.Q
end

section
namespace Go.Proofs.Ytcepbgffnneagaa.Q
open Go.RowKit Go.Proofs.YtcepbgffnneagaaW.PrintWords Go.Proofs.YtcepbgffnneagaaW.PrintLast Go.Proofs.YtcepbgffnneagaaW.PrintMore
attribute [local go_sem] max2_int min2_int max_two min_two max_three min_three max_four min_four   -- for this text's walks alone
set_option linter.unusedVariables false
set_option linter.unusedSimpArgs false

theorem idx_in (L : List S27) (hL : L.length ≤ 1048576) (g : S27) : ∀ (d i k' : Nat), i + d = L.length → d + 1 ≤ k' → g ∈ L.drop i → ∃ r : Int, impl_Graph_99.l0 k' L (L.length : Int) i g.f0 g.f1 = some r
  | 0, i, k', hd, hk', hg => by rw [List.drop_eq_nil_of_le (by omega)] at hg; cases hg
  | d + 1, i, k', hd, hk', hg => by
    obtain ⟨k', rfl⟩ : ∃ q, k' = q + 1 := ⟨k' - 1, by omega⟩
    have hi : i < L.length := by omega
    have e2 : impl_Graph_99.l0 (k' + 1) L (L.length : Int) i g.f0 g.f1 = if (g.f0 == L[i].f0 && (g.f1 == L[i].f1)) = true then some (i : Int) else impl_Graph_99.l0 k' L (L.length : Int) ((i + 1 : Nat) : Int) g.f0 g.f1 := by
      rw [impl_Graph_99.l0]
      simp only [rdG_nat L hi]
      rw [if_pos (by omega), if_pos (by omega), if_pos (by omega), w64_succ (by omega)]
    rw [e2]
    rw [List.drop_eq_getElem_cons hi, List.mem_cons] at hg
    clear e2
    by_cases h : g = L[i]
    · subst h
      rw [if_pos (by simp)]
      exact ⟨i, rfl⟩
    · have h3 : ¬ ((g.f0 == L[i].f0 && (g.f1 == L[i].f1)) = true) := fun x => h (by
        simp only [Bool.and_eq_true, beq_iff_eq] at x
        obtain ⟨a, b⟩ := g
        cases hx : L[i] with
        | mk c d => rw [hx] at x; simp only at x; rw [x.1, x.2])
      rw [if_neg h3]
      exact idx_in L hL g d (i + 1) k' (by omega) (by omega) (hg.resolve_left h)
theorem least_last : ∀ n : Nat, n < 5 → ∀ m : Nat, m < 2 ^ prs n → isLeastB n 0 m = true → (match impl_Graph_99.f 100 (gList n (fun e => isLeastB n 0 e) (2 ^ prs n) 0) n m with | some r => laws_FnLeast.l0 200 r (gList n (fun e => isLeastB n 0 e) (2 ^ prs n) 0) 0 0 0 n m == some true | none => false) = true := by decide +kernel
theorem FnLeast_pure (l0 l1 : List Int) (h0 : l0.length < 9223372036854775808 ∧ ∀ x ∈ l0, (Lit.int .u8 x).wf = true) (h1 : l1.length < 9223372036854775808 ∧ ∀ x ∈ l1, (Lit.int .u8 x).wf = true) : ∃ k, laws_FnLeast.f k l0 l1 = some true := by
  obtain ⟨K, hK⟩ : ∃ K : Nat, 1048580 ≤ K := ⟨1048580, Nat.le_refl _⟩
  refine ⟨K + 2, ?_⟩
  unfold laws_FnLeast.f
  rcases a2Long_cases h0 h1 with h | ⟨h, s0, s1⟩
  · rw [h]; rfl
  rw [h]
  obtain ⟨n, hn, en⟩ := a2At_ok s1 0 6 (by omega)
  obtain ⟨e, he, eg⟩ := A2Graph_ok l0 s0 n hn
  obtain ⟨p, hp, eo⟩ := A2Order_ok l1 s1 n hn (K + 2) (by omega)
  obtain ⟨o, ho, eh⟩ := A2Graph_ok l1 s1 n hn
  have fm := first_mem n hn 0 (by omega)
  have lo := leaves_ok_s n hn 0 (by omega)
  have ai := fun a b ha hb => alike_iff n 0 hn (by omega) a b ha hb
  have ae := fun a b ha hb => alike_eq n 0 hn (by omega) a b ha hb
  have hle := fun e : Nat => least_eq n 0 hn (by omega) e (fun l hl => (leaves_ok n hn n (by omega) l hl).2)
  have hse := fun e : Nat => selves_eq n 0 hn (by omega) e (fun l hl => (leaves_ok n hn n (by omega) l hl).2)
  rw [show firstI 0 = [] from rfl, Nat.sub_zero] at fm lo ai ae
  simp only [show ((0 : Nat) : Int) = 0 from rfl, show ((6 : Nat) : Int) = 6 from rfl] at en
  simp only [show ((0 : Nat) : Int) = 0 from rfl, show firstI 0 = [] from rfl, Nat.sub_zero] at ae hle hse
  have op : isOrd n p := lo p hp
  obtain ⟨g, hg, e1, _⟩ := onI_nat n hn e op
  obtain ⟨m, hm, e2, hl⟩ := least_least n hn e he
  obtain ⟨c, hc, e3, _⟩ := least_least n hn o ho
  have e4 := least_of_on n hn e g he hg hp e1
  obtain ⟨q, hq, e5⟩ := least_at n hn e he
  have e6 := least_of_on n hn e m he hm hq (by rw [← e5, e2])
  have e7 := (leastE_le (e : Int) (leaves n n []) e).1
  obtain ⟨e8, e9⟩ := selves_same n hn e g he hg hp e1
  have val : ∀ a : Nat, a < 2 ^ prs n → impl_ValidGraph.f (n : Int) (a : Int) = some true := fun a ha => by
    have hp2 := pow_prs n hn
    rw [ValidGraph_eq n a (by omega) (by omega)]
    exact congrArg some ((show ∀ n : Nat, n < 6 → ∀ a : Nat, a < 2 ^ prs n → validG (n : Int) (a : Int) = true from by decide +kernel) n hn a ha)
  have vals : spec_l01Ok.f (n : Int) (e : Int) = some true := by
    have hp2 := pow_prs n hn
    rw [l01Ok_eq n e (by omega) (by omega)]
    exact congrArg some ((show ∀ n : Nat, n < 6 → ∀ a : Nat, a < 2 ^ prs n → validG (n : Int) (a : Int) = true from by decide +kernel) n hn e he)
  have hd : allDiff (wrap64 ((n : Int) - 1)) p := by rw [show wrap64 ((n : Int) - 1) = (n : Int) - 1 from by unfold wrap64; omega]; exact op.2
  have hren : impl_RenameGraph.f n e p = some ((n : Int), (g : Int), 0) := by
    unfold impl_RenameGraph.f
    rw [val e he]
    simp only [Option.bind_some, if_true, op.1, impl_different.f, decide_eq_true hd, impl_onT.eq n e (okList_diff (m := n) (by omega) (by omega) hd), e1]
  have lg : ∀ a : Nat, a < 2 ^ prs n → impl_LeastGraph.f (n : Int) (a : Int) = some ((n : Int), leastE a (leaves n n []) a, 0) := fun a ha => by
    unfold impl_LeastGraph.f
    rw [val a ha]
    simp only [Option.bind_some, if_true, hle a]
  have al : ∀ a b : Nat, a < 2 ^ prs n → b < 2 ^ prs n → impl_AreAlike.f (n : Int) (a : Int) (n : Int) (b : Int) = some (leastE a (leaves n n []) a == leastE b (leaves n n []) b, 0) := fun a b ha hb => by
    unfold impl_AreAlike.f
    rw [val a ha, val b hb]
    simp only [Option.bind_some, if_true, ae a b ha hb]
  have cs : ∀ a : Nat, a < 2 ^ prs n → impl_CountSelf.f (n : Int) (a : Int) = some (selfE n a (leaves n n []) 0, 0) := fun a ha => by
    unfold impl_CountSelf.f
    rw [val a ha]
    simp only [Option.bind_some, if_true, hse a]
  have sl : spec_LeastGraph.f (K + 2) (n : Int) (e : Int) = some ((n : Int), leastE e (leaves n n []) e, 0) := by
    unfold spec_LeastGraph.f
    rw [vals]
    simp only [Option.bind_some, if_true, l01Least_eq n hn e (K + 2) (by omega)]
  have ag : ∀ k, 1100 ≤ k → impl_AllGraphs.f k n = some (gList n (fun e => isLeastB n 0 e) (2 ^ prs n) 0, 0) := fun k hk => by
    unfold impl_AllGraphs.f impl_sizeOk.f
    rw [in_eq4]
    have hl := leasts_eq (fun y0_0 y0_1 => impl_AllGraphs_1.f y0_0 y0_1) (fun _ => true) n 0 hn (by omega) (fun _ _ => rfl) k (by omega)
    rw [show ((0 : Nat) : Int) = 0 from rfl] at hl
    simp only [Option.bind_some, decide_eq_true (show (0 : Int) ≤ n ∧ (n : Int) ≤ 5 by omega), if_true, hl, Bool.true_and]
  have hlen := gList_length n (fun e => isLeastB n 0 e) (2 ^ prs n) 0
  have hpr := prs_le' n hn
  have hmem := gList_mem n (fun e => isLeastB n 0 e) (2 ^ prs n) 0 m (by omega) (by omega) hl
  obtain ⟨r, er⟩ := idx_in (gList n (fun e => isLeastB n 0 e) (2 ^ prs n) 0) (by omega) ⟨n, m⟩ _ 0 (K + 1) (Nat.zero_add _) (by omega) (by simpa using hmem)
  rw [show ((0 : Nat) : Int) = 0 from rfl] at er
  have ix : impl_IndexOfGraph.f (K + 1) n g = some (r, 0) := by
    unfold impl_IndexOfGraph.f
    rw [val g hg]
    simp only [Option.bind_some, if_true, ag (K + 1) (by omega), hle g, e4, e2]
    unfold impl_Graph_99.f
    rw [er]; rfl
  simp only [Option.bind_some, Bool.false_eq_true, if_false, en, eg, eo, eh, hren, lg e he, lg g hg, lg o ho, sl, al e g he hg, al e o he ho, e4, e2, e3, lg m hm, e6]
  try simp only [if_true, beq_self_eq_true, Bool.not_true, Bool.or_self, Bool.false_eq_true, if_false, Bool.true_and, bne_self_eq_false]
  rw [decide_eq_false (by omega)]
  rw [laws_FnLeast.j0, if_neg (by simp), ix]
  simp only [Option.bind_some, cs e he, cs g hg, if_true, e8]
  rw [decide_eq_false (by omega), laws_FnLeast.j1, if_neg (by simp)]
  by_cases h5 : (n : Int) = 5
  · rw [if_pos h5]
  rw [if_neg h5, ag K (by omega)]
  simp only [Option.bind_some]
  have last := least_last n (by omega) m hm hl
  unfold impl_Graph_99.f at last
  split at last
  · next r' er' =>
    rw [beq_iff_eq] at last
    have : r' = r := by
      have := LeO_ge (F := fun k => impl_Graph_99.f k (gList n (fun e => isLeastB n 0 e) (2 ^ prs n) 0) n m) (fun k => impl_Graph_99.mono _ _ _ k) (show 100 ≤ K + 1 by omega) _ er'
      unfold impl_Graph_99.f at this
      rw [er] at this
      exact (Option.some.inj this).symm
    subst this
    exact LeO_ge (F := fun k => laws_FnLeast.l0 k r' (gList n (fun e => isLeastB n 0 e) (2 ^ prs n) 0) 0 0 0 n m) (fun k => (laws_FnLeast.mono_l k).2.2 _ _ _ _ _ _ _) (show 200 ≤ K by omega) _ last
  · cases last

end Go.Proofs.Ytcepbgffnneagaa.Q
end

section
namespace Go.Proofs.YtcepbgffnneagaaW.PrintWords
open Go Go.RowKit Go.ChangeShapes Go.WideShapes Go.ChangeAt Go.Deep
set_option linter.unusedVariables false
section
variable {H : Type} (enc : TypeId × Value → H) (P : Program) (W : World)
/-- Whatever reads as data of type t stands for a plain value. -/
def Opens {α : Type} (t : TypeId) (k : Kd α) (wf : α → Prop) : Prop :=
  ∀ (fuel : Nat) (cs : List Value) (x : DataW H × List MemPlace), DataW.trod enc P W 0 (fun _ => true) true fuel t cs = some x → ∃ a, k.K W a cs ∧ wf a
end
section
variable {H : Type} {enc : TypeId × Value → H} {P : Program} {W : World}
theorem Opens.int {t : TypeId} {k : IntKind} (ht : P.underlying t = some (.int k)) : Opens enc P W t (Kd.int k) (fun n => (Lit.int k n).wf = true) := by
  intro fuel cs x h
  obtain ⟨n, rfl, _, hw⟩ := DataW.trod_int ht h
  exact ⟨n, rfl, hw⟩
theorem Opens.bool {t : TypeId} (ht : P.underlying t = some .bool) : Opens enc P W t Kd.bool (fun _ => True) := by
  intro fuel cs x h
  obtain ⟨n, rfl, _⟩ := DataW.trod_bool ht h
  exact ⟨n, rfl, trivial⟩
theorem Opens.iso {α β : Type} {t : TypeId} {k : Kd α} {p : α → Prop} (f : β → α) (g : α → β) (hfg : ∀ a, f (g a) = a) (h : Opens enc P W t k p) : Opens enc P W t (Kd.iso k f) (fun b => p (f b)) := by
  intro fuel cs x hx
  obtain ⟨a, ka, wa⟩ := h fuel cs x hx
  exact ⟨g a, by show k.K W (f (g a)) cs; rw [hfg]; exact ka, by show p (f (g a)); rw [hfg]; exact wa⟩
theorem Opens.slice {α : Type} (z : α) {t e : TypeId} {k : Kd α} {p : α → Prop} (ht : P.underlying t = some (.slice e)) (hs : k.sz = P.cellsOf e) (h : Opens enc P W e k p) : Opens enc P W t (Kd.slice e k) (fun l => l.length < 9223372036854775808 ∧ ∀ a ∈ l, p a) := by
  haveI : Inhabited α := ⟨z⟩
  intro fuel cs x hx
  rcases open_slice ht hx with ⟨rfl, _⟩ | ⟨ad, len, cap, m, n, D, Pl, rfl, _, hl, hm, hmm, _, hel⟩
  · exact ⟨[], ⟨none, 0, rfl, Nat.le_refl _, rfl, by simp, fun h0 => absurd h0 (Nat.lt_irrefl 0)⟩, by simp, fun a ha => by cases ha⟩
  · have hlm : len ≤ m := by
      rw [hmm]; split
      · exact hl
      · exact Nat.le_refl _
    obtain ⟨F, hF⟩ := choose_lt (α := α) (n := len) (p := fun i a => p a ∧ ∃ cs', k.K W a cs' ∧ W.cells? 0 (ad.add (i * P.cellsOf e)) (P.cellsOf e) = some cs') (fun i hi => by
      obtain ⟨cs', h1, h2⟩ := hel i (by omega)
      obtain ⟨a, ka, wa⟩ := h n _ _ h2
      exact ⟨a, wa, cs', ka, h1⟩)
    refine ⟨(List.range len).map F, ⟨some ad, cap, by simp, by simpa using hl, by simp, by simp; unfold maxLen at hm; omega, fun _ => ⟨ad, rfl, fun j q hq => ?_⟩⟩, by simp; unfold maxLen at hm; omega, fun a ha => ?_⟩
    · obtain ⟨hj, rfl⟩ : j < len ∧ F j = q := by
        rw [List.getElem?_map] at hq
        rcases Nat.lt_or_ge j len with hj | hj
        · rw [List.getElem?_range hj] at hq; exact ⟨hj, by simpa using hq⟩
        · rw [List.getElem?_eq_none (by simpa using hj)] at hq; simp at hq
      obtain ⟨_, cs', ka, h1⟩ := hF j hj
      obtain ⟨_, hlen, hcell⟩ := World.cells?_some h1
      refine ⟨cs', k.K_len ka, ka, fun i u hu => ?_⟩
      have hi : i < P.cellsOf e := by rw [← hlen]; exact (List.getElem?_eq_some_iff.1 hu).1
      rw [hs, ← add_add, hcell i hi]; exact hu
    · obtain ⟨i, hi, rfl⟩ := List.mem_map.1 ha
      exact (hF i (List.mem_range.1 hi)).1
end
end Go.Proofs.YtcepbgffnneagaaW.PrintWords
end
