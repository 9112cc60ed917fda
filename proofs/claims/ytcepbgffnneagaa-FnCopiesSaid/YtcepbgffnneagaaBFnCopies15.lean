/- Contracts of Go functions and plain lemmas over what they compute; printed by the kit's print program or written by hand, joined. -/
import Derived.Test.YtcepbgffnneagaaBFnCopies3
import Derived.Test.YtcepbgffnneagaaBFnCopies5
import Derived.Test.YtcepbgffnneagaaBFnCopies12
import Derived.Test.YtcepbgffnneagaaBFnCopies4
import Derived.Test.YtcepbgffnneagaaBFnCopies8
import Derived.Test.YtcepbgffnneagaaBFnCopies6
import Derived.Test.YtcepbgffnneagaaBFnCopies9
import Derived.Test.YtcepbgffnneagaaBFnCopies10
import Derived.Test.YtcepbgffnneagaaBFnCopies7
import Derived.Test.YtcepbgffnneagaaBFnCopies11
section
namespace Go.Proofs.Ytcepbgffnneagaa.Q
open Go.RowKit Go.Proofs.YtcepbgffnneagaaW.PrintWords Go.Proofs.YtcepbgffnneagaaW.PrintLast Go.Proofs.YtcepbgffnneagaaW.PrintMore
attribute [local go_sem] max2_int min2_int max_two min_two max_three min_three max_four min_four   -- for this text's walks alone
set_option linter.unusedVariables false
set_option linter.unusedSimpArgs false

theorem wrap_u32_nat (v : BitVec 32) : IntKind.u32.wrap ((v.toNat : Nat) : Int) = ((v.toNat : Nat) : Int) := by
  rw [IntKind.wrap_u32]; have := v.isLt; omega
theorem bits_and32 (x y : Int) : Go.bits .and .u32 x y = (((BitVec.ofInt 32 x &&& BitVec.ofInt 32 y).toNat : Nat) : Int) := wrap_u32_nat _
theorem bits_andNot32 (x y : Int) : Go.bits .andNot .u32 x y = (((BitVec.ofInt 32 x &&& ~~~ BitVec.ofInt 32 y).toNat : Nat) : Int) := wrap_u32_nat _

end Go.Proofs.Ytcepbgffnneagaa.Q
end

section
namespace Go.Proofs.Ytcepbgffnneagaa.Q
open Go.RowKit Go.Proofs.YtcepbgffnneagaaW.PrintWords Go.Proofs.YtcepbgffnneagaaW.PrintLast Go.Proofs.YtcepbgffnneagaaW.PrintMore
attribute [local go_sem] max2_int min2_int max_two min_two max_three min_three max_four min_four   -- for this text's walks alone
set_option linter.unusedVariables false
set_option linter.unusedSimpArgs false

def leavesIn (g : List Int → List (List Int)) (l : List Int) : Nat → Nat → List (List Int)
  | 0, _ => []
  | d + 1, i => if (i : Int) ∈ l then leavesIn g l d (i + 1) else g (l ++ [(i : Int)]) ++ leavesIn g l d (i + 1)
/-- All lists of different numbers below n that go on from l by r places, in order. -/
def leaves (n : Nat) : Nat → List Int → List (List Int)
  | 0, l => [l]
  | r + 1, l => leavesIn (leaves n r) l n 0
def runCb {σ : Type} (cb : List Int → σ → Option (Bool × σ)) : List (List Int) → σ → Option (Bool × σ)
  | [], a => some (false, a)
  | l :: ls, a => (cb l a).bind fun p => if p.1 = true then some (true, p.2) else runCb cb ls p.2
theorem runCb_append {σ : Type} (cb : List Int → σ → Option (Bool × σ)) (y : List (List Int)) : ∀ (x : List (List Int)) (a : σ), runCb cb (x ++ y) a = (runCb cb x a).bind fun p => if p.1 = true then some (true, p.2) else runCb cb y p.2
  | [], a => rfl
  | l :: ls, a => by
    simp only [List.cons_append, runCb]
    cases h : cb l a with
    | none => rfl
    | some p =>
      simp only [Option.bind_some]
      by_cases hp : p.1 = true
      · rw [if_pos hp, if_pos hp]; rfl
      · rw [if_neg hp, if_neg hp]; exact runCb_append cb y ls p.2
theorem lstdIn_eq {σ : Type} (cb : List Int → σ → Option (Bool × σ)) (f : List Int → σ → Option (Bool × σ)) (g : List Int → List (List Int)) (hf : ∀ l a, f l a = runCb cb (g l) a) (l : List Int) : ∀ (d i : Nat) (a : σ), lstdIn f l d i a = runCb cb (leavesIn g l d i) a
  | 0, _, _ => rfl
  | d + 1, i, a => by
    rw [lstdIn, leavesIn]
    by_cases h : (i : Int) ∈ l
    · rw [if_pos h, if_pos h]; exact lstdIn_eq cb f g hf l d (i + 1) a
    · rw [if_neg h, if_neg h, runCb_append, hf]
      congr 1
      funext p
      by_cases hp : p.1 = true
      · rw [if_pos hp, if_pos hp]
      · rw [if_neg hp, if_neg hp]; exact lstdIn_eq cb f g hf l d (i + 1) p.2
theorem lstd_eq {σ : Type} (cb : List Int → σ → Option (Bool × σ)) (n : Nat) : ∀ (r : Nat) (l : List Int) (a : σ), lstd cb n r l a = runCb cb (leaves n r l) a
  | 0, l, a => by
    simp only [lstd, leaves, runCb]
    cases cb l a with
    | none => rfl
    | some p =>
      obtain ⟨b, a'⟩ := p
      cases b <;> rfl
  | r + 1, l, a => by
    rw [lstd, leaves]
    exact lstdIn_eq cb _ _ (fun l a => lstd_eq cb n r l a) l n 0 a
/-- A callback that only looks. -/
theorem runCb_any (cb : List Int → Option Bool) (p : List Int → Bool) : ∀ (L : List (List Int)), (∀ l ∈ L, cb l = some (p l)) → runCb (fun l (_ : Unit) => (cb l).map fun b => (b, ())) L () = some (L.any p, ())
  | [], _ => rfl
  | l :: ls, h => by
    simp only [runCb, h l (List.mem_cons_self), Option.map_some, Option.bind_some, List.any_cons]
    cases hp : p l
    · simp only [Bool.false_eq_true, if_false, Bool.false_or]
      exact runCb_any cb p ls fun x hx => h x (List.mem_cons_of_mem _ hx)
    · simp
end Go.Proofs.Ytcepbgffnneagaa.Q
end

section
namespace Go.Proofs.Ytcepbgffnneagaa.Q
open Go.RowKit Go.Proofs.YtcepbgffnneagaaW.PrintWords Go.Proofs.YtcepbgffnneagaaW.PrintLast Go.Proofs.YtcepbgffnneagaaW.PrintMore
attribute [local go_sem] max2_int min2_int max_two min_two max_three min_three max_four min_four   -- for this text's walks alone
set_option linter.unusedVariables false
set_option linter.unusedSimpArgs false

theorem leaves_ok : ∀ n, n < 6 → ∀ r, r < n + 1 → ∀ l ∈ leaves n r [], l.length = r ∧ allDiff ((n : Int) - 1) l := by decide +kernel
theorem next_ge {x : List Int} {n : Int} {p : Bool × List Int} (h : spec_l01Next.f 100 x n = some p) (k : Nat) (hk : 100 ≤ k) : spec_l01Next.f k x n = some p :=
  LeO_ge (F := fun k => spec_l01Next.f k x n) (fun k => spec_l01Next.mono x n k) hk _ h
end Go.Proofs.Ytcepbgffnneagaa.Q
end

section
namespace Go.Proofs.Ytcepbgffnneagaa.Q
open Go.RowKit Go.Proofs.YtcepbgffnneagaaW.PrintWords Go.Proofs.YtcepbgffnneagaaW.PrintLast Go.Proofs.YtcepbgffnneagaaW.PrintMore
attribute [local go_sem] max2_int min2_int max_two min_two max_three min_three max_four min_four   -- for this text's walks alone
set_option linter.unusedVariables false
set_option linter.unusedSimpArgs false

end Go.Proofs.Ytcepbgffnneagaa.Q
end

section
namespace Go.Proofs.Ytcepbgffnneagaa.Q
open Go.RowKit Go.Proofs.YtcepbgffnneagaaW.PrintWords Go.Proofs.YtcepbgffnneagaaW.PrintLast Go.Proofs.YtcepbgffnneagaaW.PrintMore
attribute [local go_sem] max2_int min2_int max_two min_two max_three min_three max_four min_four   -- for this text's walks alone
set_option linter.unusedVariables false
set_option linter.unusedSimpArgs false

theorem leaves_ok_s : ∀ n, n < 6 → ∀ s, s < n + 1 → ∀ l ∈ leaves n (n - s) (firstI s), l.length = n ∧ allDiff ((n : Int) - 1) l := by decide +kernel
end Go.Proofs.Ytcepbgffnneagaa.Q
end

section
namespace Go.Proofs.Ytcepbgffnneagaa.Q
open Go.RowKit Go.Proofs.YtcepbgffnneagaaW.PrintWords Go.Proofs.YtcepbgffnneagaaW.PrintLast Go.Proofs.YtcepbgffnneagaaW.PrintMore
attribute [local go_sem] max2_int min2_int max_two min_two max_three min_three max_four min_four   -- for this text's walks alone
set_option linter.unusedVariables false
set_option linter.unusedSimpArgs false

theorem bits_of (f : Nat → Bool) : ∀ m, ∃ b, b < 2 ^ m ∧ ∀ q, q < m → b.testBit q = f q
  | 0 => ⟨0, by simp, fun q hq => absurd hq (Nat.not_lt_zero _)⟩
  | m + 1 => by
    obtain ⟨b, hb, h⟩ := bits_of f m
    cases hf : f m
    · refine ⟨b, by rw [Nat.pow_succ]; omega, fun q hq => ?_⟩
      by_cases hqm : q = m
      · subst hqm
        rw [hf]; exact Nat.testBit_lt_two_pow hb
      · exact h q (by omega)
    · refine ⟨2 ^ m + b, by rw [Nat.pow_succ]; omega, fun q hq => ?_⟩
      by_cases hqm : q = m
      · subst hqm
        rw [hf, Nat.testBit_two_pow_add_eq, Nat.testBit_lt_two_pow hb]; rfl
      · rw [Nat.testBit_two_pow_add_gt (by omega)]; exact h q (by omega)
def pairAt (J : Nat → Nat → Bool) : Nat → Bool
  | 0 => J 0 1 | 1 => J 0 2 | 2 => J 1 2 | 3 => J 0 3 | 4 => J 1 3 | 5 => J 2 3 | 6 => J 0 4 | 7 => J 1 4 | 8 => J 2 4 | 9 => J 3 4 | _ => false
theorem pairAt_bit (J : Nat → Nat → Bool) {i j : Nat} (hij : i < j) (hj : j < 5) : pairAt J (bitIx i j) = J i j := by
  have : (i = 0 ∧ j = 1) ∨ (i = 0 ∧ j = 2) ∨ (i = 1 ∧ j = 2) ∨ (i = 0 ∧ j = 3) ∨ (i = 1 ∧ j = 3) ∨ (i = 2 ∧ j = 3) ∨ (i = 0 ∧ j = 4) ∨ (i = 1 ∧ j = 4) ∨ (i = 2 ∧ j = 4) ∨ (i = 3 ∧ j = 4) := by omega
  rcases this with ⟨rfl, rfl⟩ | ⟨rfl, rfl⟩ | ⟨rfl, rfl⟩ | ⟨rfl, rfl⟩ | ⟨rfl, rfl⟩ | ⟨rfl, rfl⟩ | ⟨rfl, rfl⟩ | ⟨rfl, rfl⟩ | ⟨rfl, rfl⟩ | ⟨rfl, rfl⟩ <;> rfl
theorem hasI_bit : ∀ b : Nat, b < 1024 → ∀ i : Nat, i < 5 → ∀ j : Nat, j < 5 → i ≠ j → hasI (b : Int) (i : Int) (j : Int) = b.testBit (bitIx i j) := by decide +kernel
theorem bitIx_lt : ∀ n, n < 6 → ∀ j, j < n → ∀ i, i < j → bitIx i j < prs n := by decide
theorem prs_le : ∀ n, n < 6 → 2 ^ prs n ≤ 1024 := by decide
theorem made_has : ∀ n, n < 6 → ∀ b, b < 2 ^ prs n → madeI n (fun i j => hasI (b : Nat) i j) = (b : Nat) := by decide +kernel
theorem made_spec (n : Nat) (hn : n < 6) (J : Nat → Nat → Bool) : ∃ b : Nat, b < 2 ^ prs n ∧ madeI n J = b ∧ ∀ i j : Nat, i < j → j < n → hasI b i j = J i j := by
  obtain ⟨b, hb, h⟩ := bits_of (pairAt J) (prs n)
  have hb' : b < 1024 := Nat.lt_of_lt_of_le hb (prs_le n hn)
  have hJ : ∀ i j : Nat, i < j → j < n → hasI b i j = J i j := fun i j hij hj => by
    rw [hasI_bit b hb' i (by omega) j (by omega) (by omega), h _ (bitIx_lt n hn j hj i hij), pairAt_bit J hij (by omega)]
  exact ⟨b, hb, by rw [madeI_congr (J' := fun i j => hasI b i j) fun i j hij hj => (hJ i j hij hj).symm]; exact made_has n hn b hb, hJ⟩
theorem hasI_comm (e : Int) {a b : Nat} (h : a ≠ b) : hasI e a b = hasI e b a := by
  unfold hasI bitI
  rw [show bitIx (a : Int).toNat (b : Int).toNat = bitIx (b : Int).toNat (a : Int).toNat from by
    simp only [Int.toNat_natCast]; unfold bitIx
    by_cases hab : a > b
    · rw [if_pos hab, if_neg (by omega)]
    · rw [if_neg hab, if_pos (by omega)]]
/-- An order of the n vertices: at each place a vertex, no vertex twice. -/
def isOrd (n : Nat) (l : List Int) : Prop := l.length = n ∧ allDiff ((n : Int) - 1) l
theorem isOrd.at {n : Nat} {l : List Int} (h : isOrd n l) (i : Nat) (hi : i < n) : ∃ a : Nat, a < n ∧ rd l i = a := by
  have hl : i < l.length := by rw [h.1]; exact hi
  have := h.2.2 _ (List.getElem_mem hl)
  exact ⟨l[i].toNat, by omega, by rw [rd_of_lt l hl]; omega⟩
theorem isOrd.ne {n : Nat} {l : List Int} (h : isOrd n l) {i j : Nat} (hij : i ≠ j) (hi : i < n) (hj : j < n) : rd l i ≠ rd l j := by
  have hl : i < l.length := by rw [h.1]; exact hi
  have hl2 : j < l.length := by rw [h.1]; exact hj
  rw [rd_of_lt l hl, rd_of_lt l hl2]
  rcases Nat.lt_or_gt_of_ne hij with h1 | h1
  · exact List.pairwise_iff_getElem.1 h.2.1 i j hl hl2 h1
  · exact fun e => List.pairwise_iff_getElem.1 h.2.1 j i hl2 hl h1 e.symm
theorem onI_nat (n : Nat) (hn : n < 6) (e : Int) {l : List Int} (h : isOrd n l) : ∃ b : Nat, b < 2 ^ prs n ∧ onI e l = b ∧ ∀ i j : Nat, i ≠ j → i < n → j < n → hasI b i j = hasI e (rd l i) (rd l j) := by
  obtain ⟨b, hb, h1, h2⟩ := made_spec n hn (fun i j => hasI e (rd l i) (rd l j))
  refine ⟨b, hb, by unfold onI; rw [h.1]; exact h1, fun i j hij hi hj => ?_⟩
  rcases Nat.lt_or_gt_of_ne hij with hlt | hlt
  · exact h2 i j hlt hj
  · rw [hasI_comm b hij, h2 j i hlt hi]
    obtain ⟨x, hx, ex⟩ := h.at i hi
    obtain ⟨y, hy, ey⟩ := h.at j hj
    have := h.ne hij hi hj
    rw [ex, ey] at this ⊢
    exact hasI_comm e (by omega)
/-- First the order l, then p. -/
def comp (l p : List Int) : List Int := p.map fun x => rd l x
theorem rd_comp {n : Nat} {l p : List Int} (hp : isOrd n p) (i : Nat) (hi : i < n) : rd (comp l p) i = rd l (rd p i) := by
  have h1 : i < p.length := by rw [hp.1]; exact hi
  rw [rd_of_lt p h1, rd_of_lt _ (by unfold comp; rw [List.length_map]; exact h1)]
  simp [comp]
theorem isOrd.comp {n : Nat} {l p : List Int} (hl : isOrd n l) (hp : isOrd n p) : isOrd n (comp l p) := by
  have hlen : (Q.comp l p).length = n := by unfold Q.comp; rw [List.length_map]; exact hp.1
  have hget : ∀ i (h : i < (Q.comp l p).length), ∃ a : Nat, a < n ∧ rd p i = a ∧ (Q.comp l p)[i] = rd l a := fun i h => by
    obtain ⟨a, ha, e⟩ := hp.at i (by omega)
    exact ⟨a, ha, e, by rw [← rd_of_lt (Q.comp l p) h, rd_comp hp i (by omega), e]⟩
  refine ⟨hlen, List.pairwise_iff_getElem.2 fun i j hi hj hij => ?_, fun x hx => ?_⟩
  · obtain ⟨a, ha, ea, e1⟩ := hget i hi
    obtain ⟨b, hb, eb, e2⟩ := hget j hj
    rw [e1, e2]
    refine hl.ne (fun e => ?_) ha hb
    exact hp.ne (show i ≠ j by omega) (by omega) (by omega) (by rw [ea, eb, e])
  · obtain ⟨i, hi, rfl⟩ := List.getElem_of_mem hx
    obtain ⟨a, ha, _, e1⟩ := hget i hi
    obtain ⟨c, hc, ec⟩ := hl.at a ha
    rw [e1, ec]; omega
theorem onI_comp (n : Nat) (hn : n < 6) (e : Int) {l p : List Int} (hl : isOrd n l) (hp : isOrd n p) : onI (onI e l) p = onI e (comp l p) := by
  obtain ⟨b, hb, e1, h1⟩ := onI_nat n hn e hl
  rw [e1]
  unfold onI
  rw [hp.1, (hl.comp hp).1]
  refine madeI_congr fun i j hij hj => ?_
  obtain ⟨x, hx, ex⟩ := hp.at i (by omega)
  obtain ⟨y, hy, ey⟩ := hp.at j hj
  have hne := hp.ne (show i ≠ j by omega) (by omega) hj
  rw [rd_comp hp i (by omega), rd_comp hp j hj, ex, ey]
  rw [ex, ey] at hne
  exact h1 x y (by omega) hx hy

end Go.Proofs.Ytcepbgffnneagaa.Q
end

section
namespace Go.Proofs.Ytcepbgffnneagaa.Q
open Go.RowKit Go.Proofs.YtcepbgffnneagaaW.PrintWords Go.Proofs.YtcepbgffnneagaaW.PrintLast Go.Proofs.YtcepbgffnneagaaW.PrintMore
attribute [local go_sem] max2_int min2_int max_two min_two max_three min_three max_four min_four   -- for this text's walks alone
set_option linter.unusedVariables false
set_option linter.unusedSimpArgs false

end Go.Proofs.Ytcepbgffnneagaa.Q
end

section
namespace Go.Proofs.Ytcepbgffnneagaa.Q
open Go.RowKit Go.Proofs.YtcepbgffnneagaaW.PrintWords Go.Proofs.YtcepbgffnneagaaW.PrintLast Go.Proofs.YtcepbgffnneagaaW.PrintMore
attribute [local go_sem] max2_int min2_int max_two min_two max_three min_three max_four min_four   -- for this text's walks alone
set_option linter.unusedVariables false
set_option linter.unusedSimpArgs false

end Go.Proofs.Ytcepbgffnneagaa.Q
end

section
namespace Go.Proofs.Ytcepbgffnneagaa.Q
open Go.RowKit Go.Proofs.YtcepbgffnneagaaW.PrintWords Go.Proofs.YtcepbgffnneagaaW.PrintLast Go.Proofs.YtcepbgffnneagaaW.PrintMore
attribute [local go_sem] max2_int min2_int max_two min_two max_three min_three max_four min_four   -- for this text's walks alone
set_option linter.unusedVariables false
set_option linter.unusedSimpArgs false

end Go.Proofs.Ytcepbgffnneagaa.Q
end

section
namespace Go.Proofs.Ytcepbgffnneagaa.Q
open Go.RowKit Go.Proofs.YtcepbgffnneagaaW.PrintWords Go.Proofs.YtcepbgffnneagaaW.PrintLast Go.Proofs.YtcepbgffnneagaaW.PrintMore
attribute [local go_sem] max2_int min2_int max_two min_two max_three min_three max_four min_four   -- for this text's walks alone
set_option linter.unusedVariables false
set_option linter.unusedSimpArgs false

end Go.Proofs.Ytcepbgffnneagaa.Q
end

section
namespace Go.Proofs.Ytcepbgffnneagaa.Q
open Go.RowKit Go.Proofs.YtcepbgffnneagaaW.PrintWords Go.Proofs.YtcepbgffnneagaaW.PrintLast Go.Proofs.YtcepbgffnneagaaW.PrintMore
attribute [local go_sem] max2_int min2_int max_two min_two max_three min_three max_four min_four   -- for this text's walks alone
set_option linter.unusedVariables false
set_option linter.unusedSimpArgs false

end Go.Proofs.Ytcepbgffnneagaa.Q
end

section
namespace Go.Proofs.Ytcepbgffnneagaa.Q
open Go.RowKit Go.Proofs.YtcepbgffnneagaaW.PrintWords Go.Proofs.YtcepbgffnneagaaW.PrintLast Go.Proofs.YtcepbgffnneagaaW.PrintMore
attribute [local go_sem] max2_int min2_int max_two min_two max_three min_three max_four min_four   -- for this text's walks alone
set_option linter.unusedVariables false
set_option linter.unusedSimpArgs false

end Go.Proofs.Ytcepbgffnneagaa.Q
end

section
namespace Go.Proofs.Ytcepbgffnneagaa.Q
open Go.RowKit Go.Proofs.YtcepbgffnneagaaW.PrintWords Go.Proofs.YtcepbgffnneagaaW.PrintLast Go.Proofs.YtcepbgffnneagaaW.PrintMore
attribute [local go_sem] max2_int min2_int max_two min_two max_three min_three max_four min_four   -- for this text's walks alone
set_option linter.unusedVariables false
set_option linter.unusedSimpArgs false

theorem allDiff_len {n : Int} (h0 : 0 ≤ n) (h5 : n ≤ 5) {l : List Int} (h : allDiff (wrap64 (n - 1)) l) : l.length ≤ n.toNat ∧ ∀ x ∈ l, 0 ≤ x ∧ x < n := by
  have hw : wrap64 (n - 1) = n - 1 := by unfold wrap64; omega
  rw [hw] at h
  have h2 : ∀ x ∈ l, 0 ≤ x ∧ x < n := fun x hx => by have := h.2 x hx; omega
  exact ⟨pigeon n.toNat l h.1 fun x hx => by have := h2 x hx; omega, h2⟩

end Go.Proofs.Ytcepbgffnneagaa.Q
end

section
namespace Go.Proofs.Ytcepbgffnneagaa.Q
open Go.RowKit Go.Proofs.YtcepbgffnneagaaW.PrintWords Go.Proofs.YtcepbgffnneagaaW.PrintLast Go.Proofs.YtcepbgffnneagaaW.PrintMore
attribute [local go_sem] max2_int min2_int max_two min_two max_three min_three max_four min_four   -- for this text's walks alone
set_option linter.unusedVariables false
set_option linter.unusedSimpArgs false

end Go.Proofs.Ytcepbgffnneagaa.Q
end

section
namespace Go.Proofs.Ytcepbgffnneagaa.Q
open Go.RowKit Go.Proofs.YtcepbgffnneagaaW.PrintWords Go.Proofs.YtcepbgffnneagaaW.PrintLast Go.Proofs.YtcepbgffnneagaaW.PrintMore
attribute [local go_sem] max2_int min2_int max_two min_two max_three min_three max_four min_four   -- for this text's walks alone
set_option linter.unusedVariables false
set_option linter.unusedSimpArgs false

end Go.Proofs.Ytcepbgffnneagaa.Q
end

section
namespace Go.Proofs.Ytcepbgffnneagaa.Q
open Go.RowKit Go.Proofs.YtcepbgffnneagaaW.PrintWords Go.Proofs.YtcepbgffnneagaaW.PrintLast Go.Proofs.YtcepbgffnneagaaW.PrintMore
attribute [local go_sem] max2_int min2_int max_two min_two max_three min_three max_four min_four   -- for this text's walks alone
set_option linter.unusedVariables false
set_option linter.unusedSimpArgs false

theorem okList_diff {m : Int} (h0 : 0 ≤ m) (h5 : m ≤ 5) {l : List Int} (h : allDiff (wrap64 (m - 1)) l) : okList l := by
  have hl := allDiff_len h0 h5 h
  exact ⟨by omega, fun x hx => by have := hl.2 x hx; omega⟩

end Go.Proofs.Ytcepbgffnneagaa.Q
end

section
namespace Go.Proofs.Ytcepbgffnneagaa.Q
open Go.RowKit Go.Proofs.YtcepbgffnneagaaW.PrintWords Go.Proofs.YtcepbgffnneagaaW.PrintLast Go.Proofs.YtcepbgffnneagaaW.PrintMore
attribute [local go_sem] max2_int min2_int max_two min_two max_three min_three max_four min_four   -- for this text's walks alone
set_option linter.unusedVariables false
set_option linter.unusedSimpArgs false

def leastE (e : Int) (L : List (List Int)) (best : Int) : Int := L.foldl (fun b l => if onI e l < b then onI e l else b) best
end Go.Proofs.Ytcepbgffnneagaa.Q
end

section
namespace Go.Proofs.Ytcepbgffnneagaa.Q
open Go.RowKit Go.Proofs.YtcepbgffnneagaaW.PrintWords Go.Proofs.YtcepbgffnneagaaW.PrintLast Go.Proofs.YtcepbgffnneagaaW.PrintMore
attribute [local go_sem] max2_int min2_int max_two min_two max_three min_three max_four min_four   -- for this text's walks alone
set_option linter.unusedVariables false
set_option linter.unusedSimpArgs false

theorem mem_leavesIn {g : List Int → List (List Int)} {l x : List Int} : ∀ (d i0 i : Nat), i0 ≤ i → i < i0 + d → (i : Int) ∉ l → x ∈ g (l ++ [(i : Int)]) → x ∈ leavesIn g l d i0
  | 0, i0, i, h1, h2, _, _ => by omega
  | d + 1, i0, i, h1, h2, hn, hx => by
    rw [leavesIn]
    rcases Nat.eq_or_lt_of_le h1 with rfl | h1
    · rw [if_neg hn]; exact List.mem_append_left _ hx
    · have := mem_leavesIn d (i0 + 1) i (by omega) (by omega) hn hx
      by_cases h : (i0 : Int) ∈ l
      · rw [if_pos h]; exact this
      · rw [if_neg h]; exact List.mem_append_right _ this
theorem mem_leaves (n : Nat) : ∀ (r : Nat) (pre t : List Int), t.length = r → (pre ++ t).Nodup → (∀ x ∈ t, 0 ≤ x ∧ x < n) → pre ++ t ∈ leaves n r pre
  | 0, pre, t, hl, _, _ => by
    obtain rfl := List.eq_nil_of_length_eq_zero hl
    rw [leaves, List.append_nil]; exact List.mem_singleton.2 rfl
  | r + 1, pre, t, hl, hd, hr => by
    cases t with
    | nil => simp at hl
    | cons x t =>
      have hx := hr x (List.mem_cons_self)
      have hxp : x ∉ pre := fun h => by
        rw [List.nodup_append] at hd
        exact hd.2.2 x h x (List.mem_cons_self) rfl
      rw [leaves]
      refine mem_leavesIn n 0 x.toNat (Nat.zero_le _) (by omega) (by rw [Int.toNat_of_nonneg hx.1]; exact hxp) ?_
      rw [Int.toNat_of_nonneg hx.1, show pre ++ x :: t = (pre ++ [x]) ++ t from by simp]
      exact mem_leaves n r (pre ++ [x]) t (by simpa using hl) (by simpa using hd) fun y hy => hr y (List.mem_cons_of_mem _ hy)
theorem leaves_take : ∀ n, n < 6 → ∀ s, s < n + 1 → ∀ l ∈ leaves n (n - s) (firstI s), l.take s = firstI s := by decide +kernel
theorem mem_orders (n s : Nat) (hs : s < n + 1) {l : List Int} (h : isOrd n l) (ht : l.take s = firstI s) : l ∈ leaves n (n - s) (firstI s) := by
  have e : firstI s ++ l.drop s = l := by rw [← ht]; exact List.take_append_drop s l
  have := mem_leaves n (n - s) (firstI s) (l.drop s) (by rw [List.length_drop, h.1]) (by rw [e]; exact h.2.1) (fun x hx => by have := h.2.2 x (List.mem_of_mem_drop hx); omega)
  rwa [e] at this
theorem map_firstI (l : List Int) : ∀ s, s ≤ l.length → (firstI s).map (fun x => rd l x) = l.take s
  | 0, _ => rfl
  | s + 1, h => by
    rw [firstI, List.map_append, map_firstI l s (by omega), List.take_succ_eq_append_getElem (by omega)]
    show _ ++ [rd l s] = _
    rw [rd_of_lt l (by omega)]
theorem comp_mem (n s : Nat) (hn : n < 6) (hs : s < n + 1) {l p : List Int} (hl : l ∈ leaves n (n - s) (firstI s)) (hp : p ∈ leaves n (n - s) (firstI s)) : comp l p ∈ leaves n (n - s) (firstI s) := by
  have ol : isOrd n l := leaves_ok_s n hn s hs l hl
  have op : isOrd n p := leaves_ok_s n hn s hs p hp
  refine mem_orders n s hs (ol.comp op) ?_
  unfold comp
  rw [← List.map_take, leaves_take n hn s hs p hp, map_firstI l s (by rw [ol.1]; omega), leaves_take n hn s hs l hl]
theorem orders_inv : ∀ n, n < 6 → ∀ s, s < n + 1 → ∀ l ∈ leaves n (n - s) (firstI s), ∃ p ∈ leaves n (n - s) (firstI s), comp l p = firstI n := by decide +kernel
theorem first_mem : ∀ n, n < 6 → ∀ s, s < n + 1 → firstI n ∈ leaves n (n - s) (firstI s) := by decide +kernel
theorem onI_first : ∀ n, n < 6 → ∀ b : Nat, b < 2 ^ prs n → onI (b : Nat) (firstI n) = (b : Nat) := by decide +kernel
theorem leastE_le (e : Int) : ∀ (L : List (List Int)) (best : Int), leastE e L best ≤ best ∧ ∀ l ∈ L, leastE e L best ≤ onI e l
  | [], best => ⟨Int.le_refl _, fun l hl => by cases hl⟩
  | x :: L, best => by
    have ih := leastE_le e L (if onI e x < best then onI e x else best)
    show leastE e L _ ≤ best ∧ ∀ l ∈ x :: L, leastE e L _ ≤ onI e l
    have h1 : (if onI e x < best then onI e x else best) ≤ best ∧ (if onI e x < best then onI e x else best) ≤ onI e x := by split <;> omega
    refine ⟨Int.le_trans ih.1 h1.1, fun l hl => ?_⟩
    rcases List.mem_cons.1 hl with rfl | hl
    · exact Int.le_trans ih.1 h1.2
    · exact ih.2 l hl
theorem leastE_mem (e : Int) : ∀ (L : List (List Int)) (best : Int), leastE e L best = best ∨ ∃ l ∈ L, leastE e L best = onI e l
  | [], best => Or.inl rfl
  | x :: L, best => by
    have ih := leastE_mem e L (if onI e x < best then onI e x else best)
    show leastE e L _ = best ∨ ∃ l ∈ x :: L, leastE e L _ = onI e l
    rcases ih with ih | ⟨l, hl, ih⟩
    · rw [ih]
      split
      · exact Or.inr ⟨x, List.mem_cons_self, rfl⟩
      · exact Or.inl rfl
    · exact Or.inr ⟨l, List.mem_cons_of_mem _ hl, ih⟩
/-- Two graphs have one least graph just if an order turns the one into the other. -/
theorem alike_iff (n s : Nat) (hn : n < 6) (hs : s < n + 1) (e h : Nat) (he : e < 2 ^ prs n) (hh : h < 2 ^ prs n) :
    (∃ l ∈ leaves n (n - s) (firstI s), onI e l = h) ↔ leastE e (leaves n (n - s) (firstI s)) e = leastE h (leaves n (n - s) (firstI s)) h := by
  have ord : ∀ l ∈ leaves n (n - s) (firstI s), isOrd n l := fun l hl => leaves_ok_s n hn s hs l hl
  have inv := orders_inv n hn s hs
  have cm : ∀ {l p : List Int}, l ∈ leaves n (n - s) (firstI s) → p ∈ leaves n (n - s) (firstI s) → comp l p ∈ leaves n (n - s) (firstI s) := fun hl hp => comp_mem n s hn hs hl hp
  have fm := first_mem n hn s hs
  generalize leaves n (n - s) (firstI s) = L at *
  have at_ : ∀ g : Nat, g < 2 ^ prs n → ∃ l ∈ L, leastE g L g = onI g l := fun g hg => by
    rcases leastE_mem g L g with h1 | h1
    · exact ⟨firstI n, fm, by rw [h1, onI_first n hn g hg]⟩
    · exact h1
  have le_ : ∀ (g k : Nat) {l : List Int}, g < 2 ^ prs n → k < 2 ^ prs n → l ∈ L → onI g l = k → leastE g L g ≤ leastE k L k := fun g k l hg hk hl e1 => by
    obtain ⟨p, hp, e2⟩ := at_ k hk
    rw [e2, ← e1, onI_comp n hn g (ord l hl) (ord p hp)]
    exact (leastE_le g L g).2 _ (cm hl hp)
  constructor
  · rintro ⟨l, hl, e1⟩
    obtain ⟨p, hp, e2⟩ := inv l hl
    have back : onI h p = e := by rw [← e1, onI_comp n hn e (ord l hl) (ord p hp), e2, onI_first n hn e he]
    exact Int.le_antisymm (le_ e h he hh hl e1) (le_ h e hh he hp back)
  · intro e0
    obtain ⟨l, hl, e1⟩ := at_ e he
    obtain ⟨q, hq, e2⟩ := at_ h hh
    obtain ⟨p, hp, e3⟩ := inv q hq
    refine ⟨comp l p, cm hl hp, ?_⟩
    rw [← onI_comp n hn e (ord l hl) (ord p hp), ← e1, e0, e2, onI_comp n hn h (ord q hq) (ord p hp), e3, onI_first n hn h hh]

end Go.Proofs.Ytcepbgffnneagaa.Q
end

section
namespace Go.Proofs.Ytcepbgffnneagaa.Q
open Go.RowKit Go.Proofs.YtcepbgffnneagaaW.PrintWords Go.Proofs.YtcepbgffnneagaaW.PrintLast Go.Proofs.YtcepbgffnneagaaW.PrintMore
attribute [local go_sem] max2_int min2_int max_two min_two max_three min_three max_four min_four   -- for this text's walks alone
set_option linter.unusedVariables false
set_option linter.unusedSimpArgs false

def srcOk (l : List Int) : Prop := l.length ≤ 3000 ∧ ∀ x ∈ l, 0 ≤ x ∧ x ≤ 255
theorem wrap_u64_nat (m : Nat) (h : m < 18446744073709551616) : IntKind.u64.wrap (m : Int) = m := by
  simp only [IntKind.wrap, IntKind.bits, IntKind.signed, Bool.false_and, Bool.false_eq_true, if_false]
  omega
theorem bits_and64 (x y : Int) : Go.bits .and .u64 x y = (((BitVec.ofInt 64 x &&& BitVec.ofInt 64 y).toNat : Nat) : Int) := wrap_u64_nat _ (BitVec.isLt _)
theorem and255 (x : Int) : 0 ≤ Go.bits .and .u64 x 255 ∧ Go.bits .and .u64 x 255 ≤ 255 := by
  rw [bits_and64]
  have h : (BitVec.ofInt 64 x &&& BitVec.ofInt 64 255).toNat ≤ 255 := by
    rw [BitVec.toNat_and]
    exact Nat.le_trans Nat.and_le_right (by decide)
  omega
theorem src_next (l : List Int) (hl : srcOk l) (at_ seed : Int) (h0 : 0 ≤ at_) (h1 : at_ ≤ 100000) : ∃ v s, spec_l00Src_next.f l at_ seed = some (v, at_ + 1, s) ∧ 0 ≤ v ∧ v ≤ 255 := by
  have hw : wrap64 (at_ + 1) = at_ + 1 := by unfold wrap64; omega
  unfold spec_l00Src_next.f
  rw [hw]
  by_cases h : at_ < (l.length : Int)
  · rw [if_pos h, if_pos h0, if_pos (by omega)]
    obtain ⟨i, rfl⟩ : ∃ i : Nat, at_ = i := ⟨at_.toNat, by omega⟩
    have hi : i < l.length := by omega
    have hx := hl.2 _ (List.getElem_mem hi)
    refine ⟨_, _, rfl, ?_⟩
    rw [rd_of_lt l hi]
    unfold wrap64; omega
  · rw [if_neg h, if_neg (by omega)]
    refine ⟨_, _, rfl, ?_⟩
    generalize IntKind.u64.wrap _ / 1099511627776 = q
    have := and255 q
    unfold wrap64; omega
theorem src_pick (l : List Int) (hl : srcOk l) (at_ seed n : Int) (h0 : 0 ≤ at_) (h1 : at_ ≤ 50000) (hn : 1 ≤ n) (hn2 : n ≤ 10000) : ∃ v a s, spec_l00Src_pick.f l at_ seed n = some (v, a, s) ∧ 0 ≤ v ∧ v < n ∧ at_ ≤ a ∧ a ≤ at_ + 2 := by
  unfold spec_l00Src_pick.f
  by_cases h : n ≤ 1
  · rw [if_pos h]; exact ⟨0, at_, seed, rfl, by omega, by omega, by omega, by omega⟩
  rw [if_neg h]
  obtain ⟨v, s, e1, hv0, hv1⟩ := src_next l hl at_ seed h0 (by omega)
  rw [e1]
  simp only [Option.bind_some]
  by_cases h2 : n > 200
  · rw [if_pos h2]
    obtain ⟨v2, s2, e2, hw0, hw1⟩ := src_next l hl (at_ + 1) s (by omega) (by omega)
    rw [e2]
    simp only [Option.bind_some]
    rw [if_neg (by omega)]
    have hx : wrap64 (wrap64 (v * 256) + v2) = v * 256 + v2 := by unfold wrap64; omega
    rw [hx]
    refine ⟨_, _, _, rfl, ?_, ?_, by omega, by omega⟩
    · rw [Int.tmod_eq_emod_of_nonneg (by omega)]; exact Int.emod_nonneg _ (by omega)
    · rw [Int.tmod_eq_emod_of_nonneg (by omega)]; exact Int.emod_lt_of_pos _ (by omega)
  · rw [if_neg h2, if_neg (by omega)]
    refine ⟨_, _, _, rfl, ?_, ?_, by omega, by omega⟩
    · rw [Int.tmod_eq_emod_of_nonneg hv0]; exact Int.emod_nonneg _ (by omega)
    · rw [Int.tmod_eq_emod_of_nonneg hv0]; exact Int.emod_lt_of_pos _ (by omega)
theorem and_le (p q : Nat) (hp : p < 4294967296) : ∃ r : Nat, r ≤ p ∧ Go.bits .and .u32 (p : Int) (q : Int) = r := by
  refine ⟨(BitVec.ofInt 32 p &&& BitVec.ofInt 32 q).toNat, ?_, bits_and32 _ _⟩
  rw [BitVec.toNat_and]
  refine Nat.le_trans Nat.and_le_left ?_
  rw [BitVec.ofInt_natCast, BitVec.toNat_ofNat]
  omega
theorem a2graph_consts : ∀ n : Nat, n < 6 → spec_l01Bits.f (n : Int) = some ((prs n : Nat) : Int) ∧ IntKind.u64.wrap ((prs n : Nat) : Int) = ((prs n : Nat) : Int) ∧ shl .i64 1 ((prs n : Nat) : Int) = ((2 ^ prs n : Nat) : Int) := by decide +kernel
theorem pow_prs : ∀ n : Nat, n < 6 → 1 ≤ 2 ^ prs n ∧ 2 ^ prs n ≤ 1024 := by decide
theorem A2Graph_ok (l : List Int) (hl : srcOk l) (n : Nat) (hn : n < 6) : ∃ e : Nat, e < 2 ^ prs n ∧ spec_A2Graph.f l n = some ((n : Int), (e : Int)) := by
  obtain ⟨c1, c2, c3⟩ := a2graph_consts n hn
  obtain ⟨p1, p2⟩ := pow_prs n hn
  unfold spec_A2Graph.f spec_l00From.f spec_l01Drawn.f
  simp only [Option.bind_some]
  rw [c1]
  simp only [Option.bind_some, c2, c3]
  rw [if_pos (by omega)]
  obtain ⟨v, a, s, e1, hv0, hv1, ha0, ha1⟩ := src_pick l hl 0 0 ((2 ^ prs n : Nat) : Int) (by omega) (by omega) (by omega) (by omega)
  rw [e1]
  simp only [Option.bind_some, spec_l00Src_one.f]
  obtain ⟨v2, a2, s2, e2, _, _, hb0, hb1⟩ := src_pick l hl a s 4 (by omega) (by omega) (by omega) (by omega)
  rw [e2]
  simp only [Option.bind_some]
  obtain ⟨w, rfl⟩ : ∃ w : Nat, v = w := ⟨v.toNat, by omega⟩
  have hw : ((w : Int)) % 4294967296 = w := by omega
  by_cases h4 : (v2 == 0) = true
  · rw [if_pos h4]
    obtain ⟨v3, a3, s3, e3, hx0, hx1, _, _⟩ := src_pick l hl a2 s2 ((2 ^ prs n : Nat) : Int) (by omega) (by omega) (by omega) (by omega)
    rw [e3]
    obtain ⟨u, rfl⟩ : ∃ u : Nat, v3 = u := ⟨v3.toNat, by omega⟩
    have hu : ((u : Int)) % 4294967296 = u := by omega
    obtain ⟨r, hr, er⟩ := and_le w u (by omega)
    simp only [Option.bind_some, hw, hu, er]
    exact ⟨r, by omega, rfl⟩
  · rw [if_neg h4]
    simp only [Option.bind_some, hw]
    exact ⟨w, by omega, rfl⟩
theorem next_in : ∀ n : Nat, n < 6 → ∀ p ∈ leaves n n [], (match spec_l01Next.f 100 p n with | some (true, q) => decide (q ∈ leaves n n []) | some (false, _) => true | none => false) = true := by decide +kernel
theorem A2Order_loop (n : Nat) (hn : n < 6) : ∀ (d k : Nat) (p : List Int), p ∈ leaves n n [] → d ≤ 200 → d + 200 ≤ k → ∃ q, spec_A2Order.l0 k n p d = some q ∧ q ∈ leaves n n []
  | 0, k, p, hp, _, hk => by
    obtain ⟨k, rfl⟩ : ∃ q, k = q + 1 := ⟨k - 1, by omega⟩
    exact ⟨p, by rw [spec_A2Order.l0, if_neg (by omega)], hp⟩
  | d + 1, k, p, hp, hd, hk => by
    obtain ⟨k, rfl⟩ : ∃ q, k = q + 1 := ⟨k - 1, by omega⟩
    have h := next_in n hn p hp
    have fm := first_mem n hn 0 (by omega)
    rw [show firstI 0 = [] from rfl, Nat.sub_zero] at fm
    have hw : wrap64 (((d + 1 : Nat) : Int) - 1) = (d : Int) := by
      unfold wrap64; omega
    rw [spec_A2Order.l0, if_pos (by omega)]
    simp only [hw]
    split at h
    · next q e =>
      rw [next_ge e k (by omega)]
      simp only [Option.bind_some, if_true]
      exact A2Order_loop n hn d k q (of_decide_eq_true h) (by omega) (by omega)
    · next q e =>
      rw [next_ge e k (by omega)]
      simp only [Option.bind_some, Bool.false_eq_true, if_false]
      rw [firstS_eq n (by omega) (by omega) k (by omega), Int.toNat_natCast]
      simp only [Option.bind_some]
      exact A2Order_loop n hn d k _ fm (by omega) (by omega)
    · cases h
theorem A2Order_ok (l : List Int) (hl : srcOk l) (n : Nat) (hn : n < 6) (k : Nat) (hk : 400 ≤ k) : ∃ p, p ∈ leaves n n [] ∧ spec_A2Order.f k l n = some p := by
  have fm := first_mem n hn 0 (by omega)
  rw [show firstI 0 = [] from rfl, Nat.sub_zero] at fm
  unfold spec_A2Order.f spec_l00From.f
  simp only [Option.bind_some]
  rw [firstS_eq n (by omega) (by omega) k (by omega), Int.toNat_natCast]
  simp only [Option.bind_some]
  obtain ⟨v, a, s, e1, hv0, hv1, _, _⟩ := src_pick l hl 0 0 121 (by omega) (by omega) (by omega) (by omega)
  rw [e1]
  obtain ⟨d, rfl⟩ : ∃ d : Nat, v = d := ⟨v.toNat, by omega⟩
  simp only [Option.bind_some]
  obtain ⟨q, e2, hq⟩ := A2Order_loop n hn d k (firstI n) fm (by omega) (by omega)
  exact ⟨q, hq, e2⟩

end Go.Proofs.Ytcepbgffnneagaa.Q
end

section
namespace Go.Proofs.Ytcepbgffnneagaa.Q
open Go.RowKit Go.Proofs.YtcepbgffnneagaaW.PrintWords Go.Proofs.YtcepbgffnneagaaW.PrintLast Go.Proofs.YtcepbgffnneagaaW.PrintMore
attribute [local go_sem] max2_int min2_int max_two min_two max_three min_three max_four min_four   -- for this text's walks alone
set_option linter.unusedVariables false
set_option linter.unusedSimpArgs false

def byteOk (l : List Int) : Prop := l.length < 9223372036854775808 ∧ ∀ x ∈ l, (Lit.int .u8 x).wf = true
theorem a2Long_cases {l m : List Int} (hl : byteOk l) (hm : byteOk m) : laws_a2Long.f l m = some true ∨ laws_a2Long.f l m = some false ∧ srcOk l ∧ srcOk m := by
  unfold laws_a2Long.f
  by_cases h : (l.length : Int) > 3000
  · rw [if_pos h]; exact Or.inl rfl
  rw [if_neg h]
  by_cases h2 : (m.length : Int) > 3000
  · rw [decide_eq_true h2]; exact Or.inl rfl
  rw [decide_eq_false h2]
  have ok : ∀ {l : List Int}, byteOk l → ¬ (l.length : Int) > 3000 → srcOk l := fun hl h =>
    ⟨by omega, fun x hx => by simpa [Lit.wf, IntKind.min, IntKind.max, IntKind.bits, IntKind.signed] using hl.2 x hx⟩
  exact Or.inr ⟨rfl, ok hl h, ok hm h2⟩
theorem a2At_ok {l : List Int} (hl : srcOk l) (a n : Nat) (hn : 1 ≤ n) : ∃ t : Nat, t < n ∧ laws_a2At.f l a n = some (t : Int) := by
  unfold laws_a2At.f
  by_cases h : (a : Int) ≥ (l.length : Int)
  · rw [if_pos h]; exact ⟨0, by omega, rfl⟩
  have ha : a < l.length := by omega
  have hx := hl.2 _ (List.getElem_mem ha)
  rw [if_neg h, if_neg (by omega), if_pos (by omega), if_pos (by omega), if_neg (by omega), rd_of_lt l ha, show wrap64 l[a] = l[a] from by unfold wrap64; omega, Int.tmod_eq_emod_of_nonneg hx.1]
  have h1 := Int.emod_nonneg l[a] (show (n : Int) ≠ 0 by omega)
  have h2 := Int.emod_lt_of_pos l[a] (show (0 : Int) < n by omega)
  exact ⟨(l[a] % n).toNat, by omega, by congr 1; omega⟩

end Go.Proofs.Ytcepbgffnneagaa.Q
end

section
namespace Go.Proofs.Ytcepbgffnneagaa.Q
open Go.RowKit Go.Proofs.YtcepbgffnneagaaW.PrintWords Go.Proofs.YtcepbgffnneagaaW.PrintLast Go.Proofs.YtcepbgffnneagaaW.PrintMore
attribute [local go_sem] max2_int min2_int max_two min_two max_three min_three max_four min_four   -- for this text's walks alone
set_option linter.unusedVariables false
set_option linter.unusedSimpArgs false

end Go.Proofs.Ytcepbgffnneagaa.Q
end

section
namespace Go.Proofs.Ytcepbgffnneagaa.Q
open Go.RowKit Go.Proofs.YtcepbgffnneagaaW.PrintWords Go.Proofs.YtcepbgffnneagaaW.PrintLast Go.Proofs.YtcepbgffnneagaaW.PrintMore
attribute [local go_sem] max2_int min2_int max_two min_two max_three min_three max_four min_four   -- for this text's walks alone
set_option linter.unusedVariables false
set_option linter.unusedSimpArgs false

end Go.Proofs.Ytcepbgffnneagaa.Q
end

section
namespace Go.Proofs.Ytcepbgffnneagaa.Q
open Go.RowKit Go.Proofs.YtcepbgffnneagaaW.PrintWords Go.Proofs.YtcepbgffnneagaaW.PrintLast Go.Proofs.YtcepbgffnneagaaW.PrintMore
attribute [local go_sem] max2_int min2_int max_two min_two max_three min_three max_four min_four   -- for this text's walks alone
set_option linter.unusedVariables false
set_option linter.unusedSimpArgs false

def isLeastB (n s : Nat) (e : Int) : Bool := !(leaves n (n - s) (firstI s)).any fun l => decide (onI e l < e)
theorem isLeast_eq (n s : Nat) (hn : n < 6) (hs : s < n + 1) (e : Int) (hL : ∀ l ∈ leaves n (n - s) (firstI s), allDiff ((n : Int) - 1) l) : impl_Graph_isLeast.f n e s = some (isLeastB n s e) := by
  unfold impl_Graph_isLeast.f impl_Graph_orders.f
  rw [if_pos (by omega), lstd_eq, show ((n : Int) - (s : Int)).toNat = n - s from by omega, Int.toNat_natCast, Int.toNat_natCast]
  rw [runCb_any _ (fun l => decide (onI e l < e))]
  · rfl
  · intro l hl
    unfold impl_Graph_isLeast_1.f
    rw [impl_onT.eq n e (okList_diff (m := n) (by omega) (by omega) (by rw [show wrap64 ((n : Int) - 1) = (n : Int) - 1 from by unfold wrap64; omega]; exact hL l hl))]
    rfl
theorem prs_le' : ∀ n, n < 6 → 2 ^ prs n ≤ 1024 := by decide
/-- The graphs of size n with numbers of edges from e on, d of them, that ok tells. -/
def gList (n : Nat) (ok : Nat → Bool) : Nat → Nat → List S27
  | 0, _ => []
  | d + 1, e => if ok e = true then ⟨n, e⟩ :: gList n ok d (e + 1) else gList n ok d (e + 1)
theorem gList_length (n : Nat) (ok : Nat → Bool) : ∀ d e, (gList n ok d e).length ≤ d
  | 0, _ => Nat.le_refl _
  | d + 1, e => by
    have := gList_length n ok d (e + 1)
    rw [gList]; split
    · rw [List.length_cons]; omega
    · omega
end Go.Proofs.Ytcepbgffnneagaa.Q
end

section
namespace Go.Proofs.Ytcepbgffnneagaa.Q
open Go.RowKit Go.Proofs.YtcepbgffnneagaaW.PrintWords Go.Proofs.YtcepbgffnneagaaW.PrintLast Go.Proofs.YtcepbgffnneagaaW.PrintMore
attribute [local go_sem] max2_int min2_int max_two min_two max_three min_three max_four min_four   -- for this text's walks alone
set_option linter.unusedVariables false
set_option linter.unusedSimpArgs false

theorem opp_all : ∀ n, n < 6 → ∀ e, e < 2 ^ prs n → madeI n (fun i j => !hasI (e : Nat) i j) = Go.bits .xor .u32 (2 ^ prs n - 1 : Int) (e : Nat) := by decide +kernel
theorem opposite_eq (n : Nat) (e : Nat) (hn : n < 6) (he : e < 2 ^ prs n) (k : Nat) (hk : 40 ≤ k) : impl_Graph_opposite.f k (n : Int) (e : Int) = some ((n : Int), Go.bits .xor .u32 (2 ^ prs n - 1 : Int) (e : Int)) := by
  unfold impl_Graph_opposite.f
  rw [made_eq (J := fun i j => !hasI (e : Int) i j) (by omega) (fun i j h1 h2 => ?_) k hk, opp_all n hn e he]
  · rfl
  · unfold impl_Graph_opposite_1.f
    rw [has_eq n e (by omega) (by omega) (by omega) (by omega)]; rfl

end Go.Proofs.Ytcepbgffnneagaa.Q
end

section
namespace Go.Proofs.Ytcepbgffnneagaa.Q
open Go.RowKit Go.Proofs.YtcepbgffnneagaaW.PrintWords Go.Proofs.YtcepbgffnneagaaW.PrintLast Go.Proofs.YtcepbgffnneagaaW.PrintMore
attribute [local go_sem] max2_int min2_int max_two min_two max_three min_three max_four min_four   -- for this text's walks alone
set_option linter.unusedVariables false
set_option linter.unusedSimpArgs false

mutual
def spec_l01Sets.l0 : Nat → Int → Int → List (List Int) → Int → Option ((List (List Int)))
  | 0, _, _, _, _ => none
  | k + 1, x0, x1, x5, x6 => if 0 ≤ (IntKind.u64.wrap (x1)) then (if x6 < (shl .i64 1 (IntKind.u64.wrap (x1))) then (spec_l01Sets.l1 k x0 x1 x5 x6 (([] : List Int)) 0) else (some x5)) else (none)
def spec_l01Sets.l1 : Nat → Int → Int → List (List Int) → Int → List Int → Int → Option ((List (List Int)))
  | 0, _, _, _, _, _, _ => none
  | k + 1, x0, x1, x5, x6, x7, x8 => if x8 < x1 then (if 0 ≤ (IntKind.u64.wrap (x8)) then (if (Go.bits .and .i64 (shr .i64 x6 (IntKind.u64.wrap (x8))) 1) = 1 then (if x7.length < 17592186044416 then (spec_l01Sets.l1 k x0 x1 x5 x6 (x7 ++ [x8]) (wrap64 (x8 + 1))) else (none)) else (spec_l01Sets.l1 k x0 x1 x5 x6 x7 (wrap64 (x8 + 1)))) else (none)) else (if (x7.length : Int) = x0 then (if x5.length < 5864062014805 then (spec_l01Sets.l0 k x0 x1 (x5 ++ [x7]) (wrap64 (x6 + 1))) else (none)) else (spec_l01Sets.l0 k x0 x1 x5 (wrap64 (x6 + 1))))
end
def spec_l01Sets.f (k : Nat) (a0 : Int) (a1 : Int) : Option ((List (List Int))) := spec_l01Sets.l0 k a0 a1 (([] : List (List Int))) 0
end Go.Proofs.Ytcepbgffnneagaa.Q
end

section
namespace Go.Proofs.Ytcepbgffnneagaa.Q
open Go.RowKit Go.Proofs.YtcepbgffnneagaaW.PrintWords Go.Proofs.YtcepbgffnneagaaW.PrintLast Go.Proofs.YtcepbgffnneagaaW.PrintMore
attribute [local go_sem] max2_int min2_int max_two min_two max_three min_three max_four min_four   -- for this text's walks alone
set_option linter.unusedVariables false
set_option linter.unusedSimpArgs false

def cntB (b : Nat) : Int := (((List.range 10).countP fun q => b.testBit q : Nat) : Int)
theorem ones_eq : ∀ b : Nat, b < 1024 → bits_OnesCount32.f (b : Int) = some (cntB b) := by decide +kernel
def pairsL (n : Nat) : List (Nat × Nat) := (List.range n).flatMap fun j => (List.range j).map fun i => (i, j)
theorem pairsL_bits : ∀ n, n < 6 → (pairsL n).map (fun p => bitIx p.1 p.2) = List.range (prs n) := by decide
theorem pairsL_lt : ∀ n, n < 6 → ∀ p ∈ pairsL n, p.1 < p.2 ∧ p.2 < n := by decide
theorem pairsL_perm : ∀ n, n < 6 → ∀ l ∈ leaves n n [], ((pairsL n).map fun p => bitIx (rd l p.1).toNat (rd l p.2).toNat).isPerm (List.range (prs n)) = true := by decide +kernel
theorem cnt_short : ∀ n, n < 6 → ∀ b : Nat, b < 2 ^ prs n → (List.range 10).countP (fun q => b.testBit q) = (List.range (prs n)).countP (fun q => b.testBit q) := by decide +kernel
theorem cnt_on (n : Nat) (hn : n < 6) (e h : Nat) (he : e < 2 ^ prs n) {l : List Int} (hl : l ∈ leaves n n []) (eh : onI e l = h) : cntB h = cntB e := by
  have ol : isOrd n l := leaves_ok n hn n (by omega) l hl
  obtain ⟨b, hb, e1, h1⟩ := onI_nat n hn e ol
  obtain rfl : b = h := by rw [eh] at e1; omega
  unfold cntB
  have he' : e < 1024 := Nat.lt_of_lt_of_le he (prs_le n hn)
  have hb' : b < 1024 := Nat.lt_of_lt_of_le hb (prs_le n hn)
  rw [cnt_short n hn b hb, cnt_short n hn e he]
  have hp := List.isPerm_iff.1 (pairsL_perm n hn l hl)
  rw [← hp.countP_eq (fun q => e.testBit q), ← pairsL_bits n hn, List.countP_map, List.countP_map]
  congr 1
  refine List.countP_congr fun p hp => ?_
  obtain ⟨p1, p2⟩ := pairsL_lt n hn p hp
  obtain ⟨x, hx, ex⟩ := ol.at p.1 (by omega)
  obtain ⟨y, hy, ey⟩ := ol.at p.2 (by omega)
  have hne := ol.ne (show p.1 ≠ p.2 by omega) (by omega) (by omega)
  have := h1 p.1 p.2 (by omega) (by omega) (by omega)
  rw [ex, ey] at hne this
  rw [hasI_bit b hb' _ (by omega) _ (by omega) (by omega), hasI_bit e he' _ (by omega) _ (by omega) (by omega)] at this
  simp only [Function.comp, ex, ey, Int.toNat_natCast, this]

end Go.Proofs.Ytcepbgffnneagaa.Q
end

section
namespace Go.Proofs.Ytcepbgffnneagaa.Q
open Go.RowKit Go.Proofs.YtcepbgffnneagaaW.PrintWords Go.Proofs.YtcepbgffnneagaaW.PrintLast Go.Proofs.YtcepbgffnneagaaW.PrintMore
attribute [local go_sem] max2_int min2_int max_two min_two max_three min_three max_four min_four   -- for this text's walks alone
set_option linter.unusedVariables false
set_option linter.unusedSimpArgs false

theorem leaves_sub : ∀ n, n < 6 → ∀ s, s < n + 1 → ∀ l ∈ leaves n (n - s) (firstI s), l ∈ leaves n n [] := by
  intro n hn s hs l hl
  have h := leaves_ok_s n hn s hs l hl
  have := mem_orders n 0 (by omega) (l := l) h (by simp [firstI])
  simpa [firstI] using this
/-- Whether the program finds two graphs alike, the first s vertices fixed. -/
theorem alike_eq (n s : Nat) (hn : n < 6) (hs : s < n + 1) (e h : Nat) (he : e < 2 ^ prs n) (hh : h < 2 ^ prs n) : impl_Graph_alike.f n e n h s = some (leastE e (leaves n (n - s) (firstI s)) e == leastE h (leaves n (n - s) (firstI s)) h) := by
  have he' : e < 1024 := Nat.lt_of_lt_of_le he (prs_le n hn)
  have hh' : h < 1024 := Nat.lt_of_lt_of_le hh (prs_le n hn)
  have iff_ := alike_iff n s hn hs e h he hh
  unfold impl_Graph_alike.f
  rw [if_pos rfl, ones_eq e he', ones_eq h hh']
  simp only [Option.bind_some]
  by_cases hc : cntB e = cntB h
  · rw [if_pos hc]
    unfold impl_Graph_orders.f
    rw [if_pos (by omega), lstd_eq, show ((n : Int) - (s : Int)).toNat = n - s from by omega, Int.toNat_natCast, Int.toNat_natCast]
    rw [runCb_any _ (fun l => decide (onI e l = h))]
    · simp only [Option.map_some, Option.bind_some]
      congr 1
      rw [Bool.eq_iff_iff, List.any_eq_true, beq_iff_eq, ← iff_]
      simp only [decide_eq_true_eq]
    · intro l hl
      have ol := leaves_ok_s n hn s hs l hl
      unfold impl_Graph_alike_1.f
      rw [impl_onT.eq n e (okList_diff (m := n) (by omega) (by omega) (by rw [show wrap64 ((n : Int) - 1) = (n : Int) - 1 from by unfold wrap64; omega]; exact ol.2))]
      simp only [Option.bind_some, ol.1]
      congr 1
      rw [Bool.eq_iff_iff]; simp
  · rw [if_neg hc]
    congr 1
    symm
    rw [beq_eq_false_iff_ne]
    intro e0
    obtain ⟨l, hl, e1⟩ := iff_.2 e0
    exact hc (cnt_on n hn e h he (leaves_sub n hn s hs l hl) e1).symm

end Go.Proofs.Ytcepbgffnneagaa.Q
end

section
namespace Go.Proofs.Ytcepbgffnneagaa.Q
open Go.RowKit Go.Proofs.YtcepbgffnneagaaW.PrintWords Go.Proofs.YtcepbgffnneagaaW.PrintLast Go.Proofs.YtcepbgffnneagaaW.PrintMore
attribute [local go_sem] max2_int min2_int max_two min_two max_three min_three max_four min_four   -- for this text's walks alone
set_option linter.unusedVariables false
set_option linter.unusedSimpArgs false

def cntE {α : Type} (p : α → Bool) (L : List α) (many : Int) : Int := L.foldl (fun b l => if p l = true then wrap64 (b + 1) else b) many
theorem cntE_eq {α : Type} (p : α → Bool) : ∀ (L : List α) (many : Nat), many + L.length ≤ 100000 → cntE p L many = ((many + L.countP p : Nat) : Int)
  | [], many, _ => rfl
  | l :: L, many, h => by
    have hl : (l :: L).length = L.length + 1 := rfl
    show cntE p L (if p l = true then wrap64 ((many : Int) + 1) else many) = _
    by_cases hb : p l = true
    · rw [if_pos hb, show wrap64 ((many : Int) + 1) = ((many + 1 : Nat) : Int) from by unfold wrap64; omega, cntE_eq p L (many + 1) (by omega), List.countP_cons_of_pos hb]
      congr 1; omega
    · rw [if_neg hb, cntE_eq p L many (by omega), List.countP_cons_of_neg hb]
theorem cntE_perm {α : Type} (p : α → Bool) {L M : List α} (h : L.Perm M) (hL : L.length ≤ 1000) : cntE p L 0 = cntE p M 0 := by
  have h1 := cntE_eq p L 0 (by omega)
  have h2 := cntE_eq p M 0 (by rw [← h.length_eq]; omega)
  rw [show ((0 : Nat) : Int) = 0 from rfl] at h1 h2
  rw [h1, h2, h.countP_eq]
end Go.Proofs.Ytcepbgffnneagaa.Q
end

section
namespace Go.Proofs.Ytcepbgffnneagaa.Q
open Go.RowKit Go.Proofs.YtcepbgffnneagaaW.PrintWords Go.Proofs.YtcepbgffnneagaaW.PrintLast Go.Proofs.YtcepbgffnneagaaW.PrintMore
attribute [local go_sem] max2_int min2_int max_two min_two max_three min_three max_four min_four   -- for this text's walks alone
set_option linter.unusedVariables false
set_option linter.unusedSimpArgs false

def subsIn (g : Nat → List Int → List (List Int)) (L l : List Int) : Nat → Nat → List (List Int)
  | 0, _ => []
  | d + 1, j => g (j + 1) (l ++ [rd L j]) ++ subsIn g L l d (j + 1)
/-- All ascending lists of r numbers of L, from place i on, behind l. -/
def subs (L : List Int) : Nat → Nat → List Int → List (List Int)
  | 0, _, l => [l]
  | r + 1, i, l => subsIn (subs L r) L l (L.length - i) i
def foldCb {σ : Type} (cb : List Int → σ → Option σ) : List (List Int) → σ → Option σ
  | [], s => some s
  | l :: ls, s => (cb l s).bind (foldCb cb ls)
theorem foldCb_append {σ : Type} (cb : List Int → σ → Option σ) (y : List (List Int)) : ∀ (x : List (List Int)) (s : σ), foldCb cb (x ++ y) s = (foldCb cb x s).bind (foldCb cb y)
  | [], s => rfl
  | l :: ls, s => by
    simp only [List.cons_append, foldCb]
    cases cb l s with
    | none => rfl
    | some s2 => exact foldCb_append cb y ls s2
theorem chosen_l0 {σ : Type} (cb : List Int → σ → Option σ) (f : Int → List Int → σ → Option σ) (g : Nat → List Int → List (List Int)) (L l : List Int) (hl : l.length ≤ 1000) (hL : L.length ≤ 1000) (hf : ∀ (j : Nat) s, j < L.length → f ((j + 1 : Nat) : Int) (l ++ [rd L j]) s = foldCb cb (g (j + 1) (l ++ [rd L j])) s) :
    ∀ (d j k : Nat) (s : σ), j + d = L.length → d + 1 ≤ k → impl_chosen_1.l0 f L k l j s = foldCb cb (subsIn g L l d j) s
  | 0, j, k, s, hd, hk => by
    obtain ⟨k, rfl⟩ : ∃ q, k = q + 1 := ⟨k - 1, by omega⟩
    rw [impl_chosen_1.l0, if_neg (by omega)]; rfl
  | d + 1, j, k, s, hd, hk => by
    obtain ⟨k, rfl⟩ : ∃ q, k = q + 1 := ⟨k - 1, by omega⟩
    rw [impl_chosen_1.l0, if_pos (by omega), if_pos (by omega), if_pos hl, show wrap64 ((j : Int) + 1) = ((j + 1 : Nat) : Int) from by unfold wrap64; omega, hf j s (by omega), subsIn, foldCb_append]
    congr 1
    funext s2
    exact chosen_l0 cb f g L l hl hL hf d (j + 1) k s2 (by omega) (by omega)
theorem chosen_eq {σ : Type} (cb : List Int → σ → Option σ) (m : Nat) (hm : m ≤ 900) (L : List Int) (hL : L.length ≤ 1000) : ∀ (r k i : Nat) (l : List Int) (s : σ), l.length + r = m → i ≤ L.length → L.length + r + 1 ≤ k → impl_chosen_1.f cb m L k i l s = foldCb cb (subs L r i l) s
  | 0, k, i, l, s, h, hi, hk => by
    obtain ⟨k, rfl⟩ : ∃ q, k = q + 1 := ⟨k - 1, by omega⟩
    rw [impl_chosen_1.f, if_pos (by omega), subs]
    simp only [foldCb]
    cases cb l s <;> rfl
  | r + 1, k, i, l, s, h, hi, hk => by
    obtain ⟨k, rfl⟩ : ∃ q, k = q + 1 := ⟨k - 1, by omega⟩
    rw [impl_chosen_1.f, if_neg (by omega), subs]
    exact chosen_l0 cb _ _ L l (by omega) hL (fun j s hj => chosen_eq cb m hm L hL r k (j + 1) _ s (by rw [List.length_append]; simp only [List.length_cons, List.length_nil]; omega) (by omega) (by omega)) _ i _ s (by omega) (by omega)
theorem chosen_l0_mono {σ : Type} {f g : Int → List Int → σ → Option σ} (hfg : ∀ a l s, LeO (f a l s) (g a l s)) (L : List Int) : ∀ (k : Nat) (x : List Int) (j : Int) (s : σ), LeO (impl_chosen_1.l0 f L k x j s) (impl_chosen_1.l0 g L (k + 1) x j s)
  | 0, x, j, s => by rw [impl_chosen_1.l0]; exact LeO.none _
  | k + 1, x, j, s => by
    rw [impl_chosen_1.l0, impl_chosen_1.l0]
    exact LeO.ite (LeO.ite (LeO.ite (LeO.bind (hfg _ _ _) (fun _ => chosen_l0_mono hfg L k _ _ _)) (LeO.refl _)) (LeO.refl _)) (LeO.refl _)
theorem chosen_mono {σ : Type} (cb : List Int → σ → Option σ) (m : Int) (L : List Int) : ∀ (k : Nat) (a : Int) (l : List Int) (s : σ), LeO (impl_chosen_1.f cb m L k a l s) (impl_chosen_1.f cb m L (k + 1) a l s)
  | 0, a, l, s => by rw [impl_chosen_1.f]; exact LeO.none _
  | k + 1, a, l, s => by
    rw [impl_chosen_1.f, impl_chosen_1.f]
    exact LeO.ite (LeO.refl _) (chosen_l0_mono (chosen_mono cb m L k) L (k + 1) l a s)
theorem chosen_fs {σ : Type} (cb : List Int → σ → Option σ) (m : Nat) (hm : m ≤ 900) (L : List Int) (hL : L.length ≤ 1000) (s s' : σ) (h : foldCb cb (subs L m 0 []) s = some s') : impl_chosen.fs cb L m s = some s' := by
  unfold impl_chosen.fs
  refine tot_of (F := fun k => impl_chosen_1.f cb (m : Int) L k 0 [] s) (k := L.length + m + 1) (fun k => chosen_mono cb m L k 0 [] s) ?_
  have := chosen_eq cb m hm L hL m (L.length + m + 1) 0 [] s (by simp) (Nat.zero_le _) (Nat.le_refl _)
  rw [show ((0 : Nat) : Int) = 0 from rfl] at this
  rw [← h, ← this]
theorem foldCb_cnt (cb : List Int → Int → Option Int) (p : List Int → Bool) : ∀ (L : List (List Int)) (s : Int), (∀ l ∈ L, ∀ s, cb l s = some (if p l = true then wrap64 (s + 1) else s)) → foldCb cb L s = some (cntE p L s)
  | [], _, _ => rfl
  | l :: L, s, h => by
    rw [foldCb, h l List.mem_cons_self s]
    exact foldCb_cnt cb p L _ fun x hx => h x (List.mem_cons_of_mem _ hx)

end Go.Proofs.Ytcepbgffnneagaa.Q
end

section
namespace Go.Proofs.Ytcepbgffnneagaa.Q
open Go.RowKit Go.Proofs.YtcepbgffnneagaaW.PrintWords Go.Proofs.YtcepbgffnneagaaW.PrintLast Go.Proofs.YtcepbgffnneagaaW.PrintMore
attribute [local go_sem] max2_int min2_int max_two min_two max_three min_three max_four min_four   -- for this text's walks alone
set_option linter.unusedVariables false
set_option linter.unusedSimpArgs false

def setsL (n r : Nat) : List (List Int) := (spec_l01Sets.f 300 r n).getD []
theorem sets_ok : ∀ n, n < 6 → ∀ r, r < 6 → (setsL n r).length ≤ 10 ∧ ∀ l ∈ setsL n r, l.length = r ∧ allDiff ((n : Int) - 1) l := by decide +kernel
theorem sets_perm : ∀ n, n < 6 → ∀ r, r < 6 → (setsL n r).isPerm (subs (firstI n) r 0 []) = true := by decide +kernel
theorem onI_small (r : Nat) (hr : r < 6) (e : Int) {l : List Int} (h : l.length = r) : ∃ b : Nat, b < 2 ^ prs r ∧ onI e l = b := by
  obtain ⟨b, hb, h1, _⟩ := made_spec r hr (fun i j => hasI e (rd l i) (rd l j))
  exact ⟨b, hb, by unfold onI; rw [h]; exact h1⟩
/-- Whether some vertices, behind the first s ones, make a graph alike h, the first s vertices fixed. -/
def occB (s m : Nat) (h e : Int) (l : List Int) : Bool := leastE (onI e (firstI s ++ l)) (leaves m (m - s) (firstI s)) (onI e (firstI s ++ l)) == leastE h (leaves m (m - s) (firstI s)) h
theorem copies_eq (n m : Nat) (hn : n < 6) (hm : m < 6) (e h : Nat) (hh : h < 2 ^ prs m) : impl_Graph_copies.f n e m h = some (cntE (occB 0 m h e) (setsL n m) 0) := by
  have hp := List.isPerm_iff.1 (sets_perm n hn m hm)
  have hok := sets_ok n hn m hm
  have hfl : ∀ n, n < 6 → (firstI n).length = n := by decide
  unfold impl_Graph_copies.f
  rw [impl_firstT.eq (by omega) (by omega), Int.toNat_natCast]
  simp only [Option.bind_some]
  rw [chosen_fs _ m (by omega) (firstI n) (by rw [hfl n hn]; omega) 0 (cntE (occB 0 m h e) (setsL n m) 0)]
  · rfl
  rw [cntE_perm _ hp (by omega)]
  refine foldCb_cnt _ _ _ _ fun l hl s => ?_
  have hl2 := hok.2 l (hp.mem_iff.2 hl)
  obtain ⟨b, hb, e1⟩ := onI_small m hm e hl2.1
  unfold impl_Graph_copies_1.f
  rw [impl_onT.eq _ _ (okList_diff (m := n) (by omega) (by omega) (by rw [show wrap64 ((n : Int) - 1) = (n : Int) - 1 from by unfold wrap64; omega]; exact hl2.2))]
  have ha := alike_eq m 0 hm (by omega) b h hb hh
  rw [show ((0 : Nat) : Int) = 0 from rfl] at ha
  simp only [Option.bind_some, hl2.1, e1, ha]
  unfold occB
  rw [show firstI 0 ++ l = l from rfl, e1]
  split <;> rfl

end Go.Proofs.Ytcepbgffnneagaa.Q
end

section
namespace Go.Proofs.Ytcepbgffnneagaa.Q
open Go.RowKit Go.Proofs.YtcepbgffnneagaaW.PrintWords Go.Proofs.YtcepbgffnneagaaW.PrintLast Go.Proofs.YtcepbgffnneagaaW.PrintMore
attribute [local go_sem] max2_int min2_int max_two min_two max_three min_three max_four min_four   -- for this text's walks alone
set_option linter.unusedVariables false
set_option linter.unusedSimpArgs false

theorem set_at {n k : Nat} {l : List Int} (hl : l.length = k) (hd : allDiff ((n : Int) - 1) l) (i : Nat) (hi : i < k) : ∃ a : Nat, a < n ∧ rd l i = a := by
  have h : i < l.length := by omega
  have := hd.2 _ (List.getElem_mem h)
  exact ⟨l[i].toNat, by omega, by rw [rd_of_lt l h]; omega⟩
theorem set_ne {n k : Nat} {l : List Int} (hl : l.length = k) (hd : allDiff ((n : Int) - 1) l) {i j : Nat} (hij : i ≠ j) (hi : i < k) (hj : j < k) : rd l i ≠ rd l j := by
  have hl1 : i < l.length := by omega
  have hl2 : j < l.length := by omega
  rw [rd_of_lt l hl1, rd_of_lt l hl2]
  rcases Nat.lt_or_gt_of_ne hij with h1 | h1
  · exact List.pairwise_iff_getElem.1 hd.1 i j hl1 hl2 h1
  · exact fun e => List.pairwise_iff_getElem.1 hd.1 j i hl2 hl1 h1 e.symm
theorem onI_nat2 (n k : Nat) (hk : k < 6) (e : Int) {l : List Int} (hl : l.length = k) (hd : allDiff ((n : Int) - 1) l) : ∃ b : Nat, b < 2 ^ prs k ∧ onI e l = b ∧ ∀ i j : Nat, i ≠ j → i < k → j < k → hasI b i j = hasI e (rd l i) (rd l j) := by
  obtain ⟨b, hb, h1, h2⟩ := made_spec k hk (fun i j => hasI e (rd l i) (rd l j))
  refine ⟨b, hb, by unfold onI; rw [hl]; exact h1, fun i j hij hi hj => ?_⟩
  rcases Nat.lt_or_gt_of_ne hij with hlt | hlt
  · exact h2 i j hlt hj
  · rw [hasI_comm b hij, h2 j i hlt hi]
    obtain ⟨x, hx, ex⟩ := set_at hl hd i hi
    obtain ⟨y, hy, ey⟩ := set_at hl hd j hj
    have := set_ne hl hd hij hi hj
    rw [ex, ey] at this ⊢
    exact hasI_comm e (by omega)
theorem comp_len {l p : List Int} : (comp l p).length = p.length := by unfold comp; rw [List.length_map]
theorem rd_comp2 {l p : List Int} (i : Nat) (hi : i < p.length) : rd (comp l p) i = rd l (rd p i) := by
  rw [rd_of_lt p hi, rd_of_lt _ (by rw [comp_len]; exact hi)]
  simp [comp]
theorem comp_set {n k r : Nat} {l p : List Int} (hl : l.length = k) (hd : allDiff ((n : Int) - 1) l) (hp : p.length = r) (hq : allDiff ((k : Int) - 1) p) : allDiff ((n : Int) - 1) (comp l p) := by
  have hlen : (Q.comp l p).length = r := by rw [comp_len]; exact hp
  have hget : ∀ i (h : i < (Q.comp l p).length), ∃ a : Nat, a < k ∧ rd p i = a ∧ (Q.comp l p)[i] = rd l a := fun i h => by
    obtain ⟨a, ha, e⟩ := set_at hp hq i (by omega)
    exact ⟨a, ha, e, by rw [← rd_of_lt (Q.comp l p) h, rd_comp2 i (by omega), e]⟩
  refine ⟨List.pairwise_iff_getElem.2 fun i j hi hj hij => ?_, fun x hx => ?_⟩
  · obtain ⟨a, ha, ea, e1⟩ := hget i hi
    obtain ⟨b, hb, eb, e2⟩ := hget j hj
    rw [e1, e2]
    refine set_ne hl hd (fun e => ?_) ha hb
    exact set_ne hp hq (show i ≠ j by omega) (by omega) (by omega) (by rw [ea, eb, e])
  · obtain ⟨i, hi, rfl⟩ := List.getElem_of_mem hx
    obtain ⟨a, ha, _, e1⟩ := hget i hi
    obtain ⟨c, hc, ec⟩ := set_at hl hd a ha
    rw [e1, ec]; omega
theorem set_mem {n k : Nat} {l : List Int} (hl : l.length = k) (hd : allDiff ((n : Int) - 1) l) : l ∈ leaves n k [] := by
  have := mem_leaves n k [] l hl (by rw [List.nil_append]; exact hd.1) (fun x hx => by have := hd.2 x hx; omega)
  rwa [List.nil_append] at this
/-- First the vertices l of n, then p of these. -/
theorem onI_comp2 (n k r : Nat) (hk : k < 6) (e : Int) {l p : List Int} (hl : l.length = k) (hd : allDiff ((n : Int) - 1) l) (hp : p.length = r) (hq : allDiff ((k : Int) - 1) p) : onI (onI e l) p = onI e (comp l p) := by
  obtain ⟨b, hb, e1, h1⟩ := onI_nat2 n k hk e hl hd
  rw [e1]
  unfold onI
  rw [hp, comp_len, hp]
  refine madeI_congr fun i j hij hj => ?_
  obtain ⟨x, hx, ex⟩ := set_at hp hq i (by omega)
  obtain ⟨y, hy, ey⟩ := set_at hp hq j hj
  have hne := set_ne hp hq (show i ≠ j by omega) (by omega) hj
  rw [rd_comp2 i (by omega), rd_comp2 j (by omega), ex, ey]
  rw [ex, ey] at hne
  exact h1 x y (by omega) hx hy

end Go.Proofs.Ytcepbgffnneagaa.Q
end

section
namespace Go.Proofs.Ytcepbgffnneagaa.Q
open Go.RowKit Go.Proofs.YtcepbgffnneagaaW.PrintWords Go.Proofs.YtcepbgffnneagaaW.PrintLast Go.Proofs.YtcepbgffnneagaaW.PrintMore
attribute [local go_sem] max2_int min2_int max_two min_two max_three min_three max_four min_four   -- for this text's walks alone
set_option linter.unusedVariables false
set_option linter.unusedSimpArgs false

theorem occ_iff (k : Nat) (hk : k < 6) (e : Int) (h b : Nat) (hh : h < 2 ^ prs k) (hb : b < 2 ^ prs k) {l : List Int} (e1 : onI e l = b) : occB 0 k h e l = true ↔ ∃ p ∈ leaves k k [], onI b p = h := by
  have := alike_iff k 0 hk (by omega) b h hb hh
  unfold occB
  rw [show firstI 0 ++ l = l from rfl, e1, beq_iff_eq]
  exact this.symm
def oppI (n : Nat) (e : Int) : Int := Go.bits .xor .u32 (2 ^ prs n - 1 : Int) e
theorem opp_spec (n : Nat) (hn : n < 6) (e : Nat) (he : e < 2 ^ prs n) : ∃ f : Nat, f < 2 ^ prs n ∧ oppI n e = f ∧ ∀ i j : Nat, i ≠ j → i < n → j < n → hasI f i j = !hasI e i j := by
  obtain ⟨f, hf, h1, h2⟩ := made_spec n hn (fun i j => !hasI e i j)
  refine ⟨f, hf, by unfold oppI; rw [← opp_all n hn e he]; exact h1, fun i j hij hi hj => ?_⟩
  rcases Nat.lt_or_gt_of_ne hij with hlt | hlt
  · exact h2 i j hlt hj
  · rw [hasI_comm f hij, h2 j i hlt hi, hasI_comm e (fun h => hij h.symm)]
theorem opp_opp : ∀ n, n < 6 → ∀ e, e < 2 ^ prs n → oppI n (oppI n (e : Nat)) = (e : Nat) := by decide +kernel
theorem opp_on (n k : Nat) (hk : k < 6) (e f b : Nat) (hf : ∀ i j : Nat, i ≠ j → i < n → j < n → hasI f i j = !hasI e i j) {l : List Int} (hl : l.length = k) (hd : allDiff ((n : Int) - 1) l) (hb : b < 2 ^ prs k) (h1 : ∀ i j : Nat, i ≠ j → i < k → j < k → hasI b i j = hasI e (rd l i) (rd l j)) : onI f l = oppI k b := by
  unfold oppI
  rw [← opp_all k hk b hb]
  unfold onI
  rw [hl]
  refine madeI_congr fun i j hij hj => ?_
  obtain ⟨x, hx, ex⟩ := set_at hl hd i (by omega)
  obtain ⟨y, hy, ey⟩ := set_at hl hd j hj
  have hne := set_ne hl hd (show i ≠ j by omega) (by omega) hj
  rw [h1 i j (by omega) (by omega) hj]
  rw [ex, ey] at hne ⊢
  rw [hf x y (by omega) hx hy]
/-- Opposite graphs occur where the others do. -/
theorem occ_opp (n k : Nat) (hn : n < 6) (hk : k < 6) (e h : Nat) (he : e < 2 ^ prs n) (hh : h < 2 ^ prs k) {l : List Int} (hl : l.length = k) (hd : allDiff ((n : Int) - 1) l) : occB 0 k (oppI k h) (oppI n e) l = occB 0 k h e l := by
  obtain ⟨f, hf, ef, hf2⟩ := opp_spec n hn e he
  obtain ⟨b, hb, eb, hb2⟩ := onI_nat2 n k hk e hl hd
  obtain ⟨g, hg, eg, hg2⟩ := opp_spec k hk h hh
  obtain ⟨c, hc, ec, hc2⟩ := opp_spec k hk b hb
  have e1 : onI f l = c := by rw [opp_on n k hk e f b hf2 hl hd hb hb2, ec]
  rw [ef, eg, Bool.eq_iff_iff, occ_iff k hk e h b hh hb eb, occ_iff k hk f g c hg hc e1]
  refine ⟨fun ⟨p, hp, h1⟩ => ⟨p, hp, ?_⟩, fun ⟨p, hp, h1⟩ => ⟨p, hp, ?_⟩⟩
  · have op : isOrd k p := by
      have := leaves_ok_s k hk 0 (by omega)
      rw [show firstI 0 = [] from rfl, Nat.sub_zero] at this
      exact this p hp
    obtain ⟨q, hq, eq, hq2⟩ := onI_nat k hk b op
    have := opp_on k k hk b c q hc2 op.1 op.2 hq hq2
    rw [h1, ← eg] at this
    have h3 := opp_opp k hk h hh
    rw [this, opp_opp k hk q hq] at h3
    rw [eq, h3]
  · have op : isOrd k p := by
      have := leaves_ok_s k hk 0 (by omega)
      rw [show firstI 0 = [] from rfl, Nat.sub_zero] at this
      exact this p hp
    obtain ⟨q, hq, eq, hq2⟩ := onI_nat k hk b op
    have := opp_on k k hk b c q hc2 op.1 op.2 hq hq2
    rw [eq] at h1
    have : (q : Int) = h := h1
    rw [‹onI (c : Int) p = oppI k q›, this, eg]
theorem sum_swap {α β : Type} (p : α → β → Bool) (A : List α) : ∀ B : List β, (A.map fun a => B.countP (p a)).sum = (B.map fun b => A.countP (fun a => p a b)).sum
  | [] => by
    simp only [List.countP_nil, List.map_nil, List.sum_nil]
    induction A with
    | nil => rfl
    | cons a A ih => simp only [List.map_cons, List.sum_cons, ih, Nat.add_zero]
  | b :: B => by
    rw [List.map_cons, List.sum_cons, ← sum_swap p A B]
    induction A with
    | nil => rfl
    | cons a A ih =>
      rw [List.map_cons, List.sum_cons, ih, List.map_cons, List.sum_cons, List.countP_cons, List.countP_cons]
      omega
theorem sum_one {α : Type} (f : α → Nat) : ∀ B : List α, (∀ b ∈ B, f b = 1) → (B.map f).sum = B.length
  | [], _ => rfl
  | b :: B, h => by
    rw [List.map_cons, List.sum_cons, h b List.mem_cons_self, sum_one f B (fun x hx => h x (List.mem_cons_of_mem _ hx)), List.length_cons]; omega
theorem count_one (n : Nat) (ok : Nat → Bool) (c : Nat) : ∀ d e, (gList n ok d e).countP (fun x => x.f1 == (c : Int)) = if e ≤ c ∧ c < e + d ∧ ok c = true then 1 else 0
  | 0, e => by rw [gList, if_neg (by omega)]; rfl
  | d + 1, e => by
    have ih := count_one n ok c d (e + 1)
    rw [gList]
    by_cases hk : ok e = true
    · rw [if_pos hk, List.countP_cons, ih]
      by_cases hc : e = c
      · subst hc
        rw [if_neg (by omega), if_pos (by simp), if_pos ⟨by omega, by omega, hk⟩]
      · rw [if_neg (show ¬ ((({ f0 := (n : Int), f1 := (e : Int) } : S27).f1 == (c : Int)) = true) from fun h => hc (Int.ofNat.inj (by simpa using h)))]
        by_cases h2 : e + 1 ≤ c ∧ c < e + 1 + d ∧ ok c = true
        · rw [if_pos h2, if_pos ⟨by omega, by omega, h2.2.2⟩]
        · rw [if_neg h2, if_neg (fun h3 => h2 ⟨by omega, by omega, h3.2.2⟩)]
    · rw [if_neg hk, ih]
      by_cases h2 : e + 1 ≤ c ∧ c < e + 1 + d ∧ ok c = true
      · rw [if_pos h2, if_pos ⟨by omega, by omega, h2.2.2⟩]
      · rw [if_neg h2, if_neg (fun h3 => h2 ⟨by
          rcases Nat.eq_or_lt_of_le h3.1 with rfl | h4
          · exact absurd h3.2.2 hk
          · omega, by omega, h3.2.2⟩)]
theorem take_set : ∀ n, n < 6 → ∀ k, k < 5 → (n < k ∨ ∀ p ∈ leaves n n [], ∃ l ∈ setsL n k, ∃ q ∈ leaves k k [], comp l q = p.take k) := by decide +kernel

end Go.Proofs.Ytcepbgffnneagaa.Q
end

section
namespace Go.Proofs.Ytcepbgffnneagaa.Q
open Go.RowKit Go.Proofs.YtcepbgffnneagaaW.PrintWords Go.Proofs.YtcepbgffnneagaaW.PrintLast Go.Proofs.YtcepbgffnneagaaW.PrintMore
attribute [local go_sem] max2_int min2_int max_two min_two max_three min_three max_four min_four   -- for this text's walks alone
set_option linter.unusedVariables false
set_option linter.unusedSimpArgs false

theorem gList_ok (n : Nat) (ok : Nat → Bool) : ∀ (d e : Nat) (x : S27), x ∈ gList n ok d e → ∃ m : Nat, x = ⟨n, m⟩ ∧ e ≤ m ∧ m < e + d ∧ ok m = true
  | 0, e, x, h => by rw [gList] at h; cases h
  | d + 1, e, x, h => by
    rw [gList] at h
    by_cases hk : ok e = true
    · rw [if_pos hk] at h
      rcases List.mem_cons.1 h with rfl | h
      · exact ⟨e, rfl, by omega, by omega, hk⟩
      · obtain ⟨m, h1, h2, h3, h4⟩ := gList_ok n ok d (e + 1) x h
        exact ⟨m, h1, by omega, by omega, h4⟩
    · rw [if_neg hk] at h
      obtain ⟨m, h1, h2, h3, h4⟩ := gList_ok n ok d (e + 1) x h
      exact ⟨m, h1, by omega, by omega, h4⟩
end Go.Proofs.Ytcepbgffnneagaa.Q
end

section
namespace Go.Proofs.Ytcepbgffnneagaa.Q
open Go.RowKit Go.Proofs.YtcepbgffnneagaaW.PrintWords Go.Proofs.YtcepbgffnneagaaW.PrintLast Go.Proofs.YtcepbgffnneagaaW.PrintMore
attribute [local go_sem] max2_int min2_int max_two min_two max_three min_three max_four min_four   -- for this text's walks alone
set_option linter.unusedVariables false
set_option linter.unusedSimpArgs false

theorem in_eq (a b c : Int) : impl_in.f a b c = some (decide (b ≤ a ∧ a ≤ c)) := by
  unfold impl_in.f
  by_cases h : a ≥ b
  · rw [if_pos h]; congr 1; rw [decide_eq_decide]; omega
  · rw [if_neg h]; congr 1; symm; rw [decide_eq_false_iff_not]; omega

end Go.Proofs.Ytcepbgffnneagaa.Q
end

section
namespace Go.Proofs.Ytcepbgffnneagaa.Q
open Go.RowKit Go.Proofs.YtcepbgffnneagaaW.PrintWords Go.Proofs.YtcepbgffnneagaaW.PrintLast Go.Proofs.YtcepbgffnneagaaW.PrintMore
attribute [local go_sem] max2_int min2_int max_two min_two max_three min_three max_four min_four   -- for this text's walks alone
set_option linter.unusedVariables false
set_option linter.unusedSimpArgs false

end Go.Proofs.Ytcepbgffnneagaa.Q
end

section
namespace Go.Proofs.Ytcepbgffnneagaa.Q
open Go.RowKit Go.Proofs.YtcepbgffnneagaaW.PrintWords Go.Proofs.YtcepbgffnneagaaW.PrintLast Go.Proofs.YtcepbgffnneagaaW.PrintMore
attribute [local go_sem] max2_int min2_int max_two min_two max_three min_three max_four min_four   -- for this text's walks alone
set_option linter.unusedVariables false
set_option linter.unusedSimpArgs false

def validG (n e : Int) : Bool := decide (0 ≤ n ∧ n ≤ 5 ∧ e < 2 ^ (n.toNat * (n.toNat - 1) / 2))
end Go.Proofs.Ytcepbgffnneagaa.Q
end

section
namespace Go.Proofs.Ytcepbgffnneagaa.Q
open Go.RowKit Go.Proofs.YtcepbgffnneagaaW.PrintWords Go.Proofs.YtcepbgffnneagaaW.PrintLast Go.Proofs.YtcepbgffnneagaaW.PrintMore
attribute [local go_sem] max2_int min2_int max_two min_two max_three min_three max_four min_four   -- for this text's walks alone
set_option linter.unusedVariables false
set_option linter.unusedSimpArgs false

theorem ValidGraph_eq (n e : Int) (h0 : 0 ≤ e) (h1 : e ≤ 4294967295) : impl_ValidGraph.f n e = some (validG n e) := by
  unfold impl_ValidGraph.f validG
  rw [in_eq]; simp only [Option.bind_some]
  by_cases h : 0 ≤ n ∧ n ≤ 5
  · rw [if_pos (by simpa using h)]
    obtain ⟨ha, hb⟩ := h
    rcases small5 ha hb with rfl | rfl | rfl | rfl | rfl | rfl
    all_goals
      simp only [impl_pairs.f]
      simp [wrap64, shr, IntKind.bits]
    all_goals (first | done | (rw [Bool.eq_iff_iff]; simp; omega))
  · rw [if_neg (by simpa using h)]; congr 1; symm; rw [decide_eq_false_iff_not]; omega

end Go.Proofs.Ytcepbgffnneagaa.Q
end

section
namespace Go.Proofs.Ytcepbgffnneagaa.Q
open Go.RowKit Go.Proofs.YtcepbgffnneagaaW.PrintWords Go.Proofs.YtcepbgffnneagaaW.PrintLast Go.Proofs.YtcepbgffnneagaaW.PrintMore
attribute [local go_sem] max2_int min2_int max_two min_two max_three min_three max_four min_four   -- for this text's walks alone
set_option linter.unusedVariables false
set_option linter.unusedSimpArgs false

theorem in_eq4 (a b c : Int) : impl_in.f a b c = some (decide (b ≤ a ∧ a ≤ c)) := by
  unfold impl_in.f
  by_cases h : a ≥ b
  · rw [if_pos h]; congr 1; rw [decide_eq_decide]; omega
  · rw [if_neg h]; congr 1; symm; rw [decide_eq_false_iff_not]; omega

end Go.Proofs.Ytcepbgffnneagaa.Q
end

section
namespace Go.Proofs.Ytcepbgffnneagaa.Q
open Go.RowKit Go.Proofs.YtcepbgffnneagaaW.PrintWords Go.Proofs.YtcepbgffnneagaaW.PrintLast Go.Proofs.YtcepbgffnneagaaW.PrintMore
attribute [local go_sem] max2_int min2_int max_two min_two max_three min_three max_four min_four   -- for this text's walks alone
set_option linter.unusedVariables false
set_option linter.unusedSimpArgs false

theorem least_at (n : Nat) (hn : n < 6) (e : Nat) (he : e < 2 ^ prs n) : ∃ l ∈ leaves n n [], leastE e (leaves n n []) e = onI e l := by
  have fm := first_mem n hn 0 (by omega)
  rw [show firstI 0 = [] from rfl, Nat.sub_zero] at fm
  rcases leastE_mem e (leaves n n []) e with h1 | h1
  · exact ⟨firstI n, fm, by rw [h1, onI_first n hn e he]⟩
  · exact h1
theorem least_least (n : Nat) (hn : n < 6) (e : Nat) (he : e < 2 ^ prs n) : ∃ m : Nat, m < 2 ^ prs n ∧ leastE e (leaves n n []) e = m ∧ isLeastB n 0 m = true := by
  have h0 := leaves_ok_s n hn 0 (by omega)
  have cm : ∀ {l p : List Int}, l ∈ leaves n (n - 0) (firstI 0) → p ∈ leaves n (n - 0) (firstI 0) → comp l p ∈ leaves n (n - 0) (firstI 0) := fun hl hp => comp_mem n 0 hn (by omega) hl hp
  obtain ⟨l, hl, e1⟩ := least_at n hn e he
  unfold isLeastB
  rw [show firstI 0 = [] from rfl, Nat.sub_zero] at *
  obtain ⟨m, hm, e2, _⟩ := onI_nat n hn e (h0 l hl)
  refine ⟨m, hm, by rw [e1, e2], ?_⟩
  rw [Bool.not_eq_true', List.any_eq_false]
  intro p hp
  rw [decide_eq_true_eq, ← e2, onI_comp n hn e (h0 l hl) (h0 p hp)]
  have := (leastE_le e (leaves n n []) e).2 _ (cm hl hp)
  omega
theorem least_is (n s : Nat) (e : Int) : (leastE e (leaves n (n - s) (firstI s)) e == e) = isLeastB n s e := by
  unfold isLeastB
  generalize leaves n (n - s) (firstI s) = L
  have h1 := leastE_le e L e
  rw [Bool.eq_iff_iff, beq_iff_eq, Bool.not_eq_true', List.any_eq_false]
  constructor
  · intro h l hl
    rw [decide_eq_true_eq]
    have := h1.2 l hl
    omega
  · intro h
    rcases leastE_mem e L e with h2 | ⟨l, hl, h2⟩
    · exact h2
    · have := h l hl
      rw [decide_eq_true_eq] at this
      omega

end Go.Proofs.Ytcepbgffnneagaa.Q
end

section
namespace Go.Proofs.Ytcepbgffnneagaa.Q
open Go.RowKit Go.Proofs.YtcepbgffnneagaaW.PrintWords Go.Proofs.YtcepbgffnneagaaW.PrintLast Go.Proofs.YtcepbgffnneagaaW.PrintMore
attribute [local go_sem] max2_int min2_int max_two min_two max_three min_three max_four min_four   -- for this text's walks alone
set_option linter.unusedVariables false
set_option linter.unusedSimpArgs false

theorem leasts_loop (cb : Int → Int → Option Bool) (p : Nat → Bool) (n s : Nat) (hn : n < 6) (hs : s < n + 1) (hcb : ∀ e : Nat, e < 2 ^ prs n → cb n e = some (p e)) : ∀ (d e k : Nat) (out : List S27), e + d = 2 ^ prs n → out.length ≤ e → d + 1 ≤ k →
    impl_leasts.l0 cb k n s out ((2 ^ prs n : Nat) : Int) e = some (out ++ gList n (fun e => p e && isLeastB n s e) d e)
  | 0, e, k, out, hd, ho, hk => by
    obtain ⟨k, rfl⟩ : ∃ q, k = q + 1 := ⟨k - 1, by omega⟩
    rw [impl_leasts.l0, if_neg (by omega), gList, List.append_nil]
  | d + 1, e, k, out, hd, ho, hk => by
    obtain ⟨k, rfl⟩ : ∃ q, k = q + 1 := ⟨k - 1, by omega⟩
    have hp := prs_le' n hn
    have he : ((e : Int) + 1) % 4294967296 = ((e + 1 : Nat) : Int) := by omega
    rw [impl_leasts.l0, if_pos (by omega), hcb e (by omega), he, gList]
    simp only [Option.bind_some]
    cases hpe : p e
    · simp only [Bool.false_eq_true, if_false, Bool.false_and]
      exact leasts_loop cb p n s hn hs hcb d (e + 1) k _ (by omega) (by omega) (by omega)
    · simp only [if_true, Bool.true_and, isLeast_eq n s hn hs e (fun l hl => (leaves_ok_s n hn s hs l hl).2), Option.bind_some]
      by_cases hl : isLeastB n s (e : Int) = true
      · rw [if_pos hl, if_pos hl, if_pos (by omega), leasts_loop cb p n s hn hs hcb d (e + 1) k _ (by omega) (by rw [List.length_append]; simp only [List.length_cons, List.length_nil]; omega) (by omega), List.append_assoc]; rfl
      · rw [if_neg hl, if_neg hl, leasts_loop cb p n s hn hs hcb d (e + 1) k _ (by omega) (by omega) (by omega)]
theorem leasts_eq (cb : Int → Int → Option Bool) (p : Nat → Bool) (n s : Nat) (hn : n < 6) (hs : s < n + 1) (hcb : ∀ e : Nat, e < 2 ^ prs n → cb n e = some (p e)) (k : Nat) (hk : 1100 ≤ k) : impl_leasts.f cb k n s = some (gList n (fun e => p e && isLeastB n s e) (2 ^ prs n) 0) := by
  have hb : impl_pairs.f (n : Int) = some ((prs n : Nat) : Int) := (show ∀ n : Nat, n < 6 → impl_pairs.f (n : Int) = some ((prs n : Nat) : Int) from by decide +kernel) n hn
  have hsh : shl .u32 1 ((prs n : Nat) : Int) = ((2 ^ prs n : Nat) : Int) := (show ∀ n : Nat, n < 6 → shl .u32 1 ((prs n : Nat) : Int) = ((2 ^ prs n : Nat) : Int) from by decide +kernel) n hn
  have hp := prs_le' n hn
  unfold impl_leasts.f
  rw [hb]
  simp only [Option.bind_some]
  rw [if_pos (by omega), hsh]
  have := leasts_loop cb p n s hn hs hcb (2 ^ prs n) 0 k [] (by omega) (by simp) (by omega)
  rw [show ((0 : Nat) : Int) = 0 from rfl] at this
  rw [this]; rfl
end Go.Proofs.Ytcepbgffnneagaa.Q
end

section
namespace Go.Proofs.Ytcepbgffnneagaa.Q
open Go.RowKit Go.Proofs.YtcepbgffnneagaaW.PrintWords Go.Proofs.YtcepbgffnneagaaW.PrintLast Go.Proofs.YtcepbgffnneagaaW.PrintMore
attribute [local go_sem] max2_int min2_int max_two min_two max_three min_three max_four min_four   -- for this text's walks alone
set_option linter.unusedVariables false
set_option linter.unusedSimpArgs false

end Go.Proofs.Ytcepbgffnneagaa.Q
end

section
namespace Go.Proofs.Ytcepbgffnneagaa.Q
open Go.RowKit Go.Proofs.YtcepbgffnneagaaW.PrintWords Go.Proofs.YtcepbgffnneagaaW.PrintLast Go.Proofs.YtcepbgffnneagaaW.PrintMore
attribute [local go_sem] max2_int min2_int max_two min_two max_three min_three max_four min_four   -- for this text's walks alone
set_option linter.unusedVariables false
set_option linter.unusedSimpArgs false

theorem andNot_iff (x y : BitVec 32) : x &&& ~~~ y = 0#32 ↔ x &&& y = x := by
  constructor
  · intro h
    ext i hi
    have := congrArg (fun z : BitVec 32 => z[i]) h
    simp only [BitVec.getElem_and, BitVec.getElem_not, BitVec.getElem_zero] at this ⊢
    revert this
    cases x[i] <;> cases y[i] <;> simp
  · intro h
    ext i hi
    have := congrArg (fun z : BitVec 32 => z[i]) h
    simp only [BitVec.getElem_and, BitVec.getElem_not, BitVec.getElem_zero] at this ⊢
    revert this
    cases x[i] <;> cases y[i] <;> simp
theorem part_bits {h : Int} (h0 : 0 ≤ h) (h1 : h ≤ 4294967295) (b : Int) : (Go.bits .andNot .u32 h b == 0) = decide (Go.bits .and .u32 h b = h) := by
  rw [bits_andNot32, bits_and32, Bool.eq_iff_iff, beq_iff_eq, decide_eq_true_eq]
  have hx : ((BitVec.ofInt 32 h).toNat : Int) = h := by rw [BitVec.toNat_ofInt]; omega
  generalize BitVec.ofInt 32 h = x at *
  generalize BitVec.ofInt 32 b = y
  rw [← hx]
  constructor
  · intro e
    have : x &&& ~~~ y = 0#32 := by apply BitVec.eq_of_toNat_eq; simpa using e
    rw [(andNot_iff x y).1 this]
  · intro e
    have : x &&& y = x := by apply BitVec.eq_of_toNat_eq; exact_mod_cast e
    rw [(andNot_iff x y).2 this]; rfl
theorem allDiff_wrap {n : Nat} (hn : n < 6) {l : List Int} (h : allDiff ((n : Int) - 1) l) : allDiff (wrap64 ((n : Int) - 1)) l := by
  rw [show wrap64 ((n : Int) - 1) = (n : Int) - 1 from by unfold wrap64; omega]; exact h
theorem leaves_nodup : ∀ n, n < 6 → ∀ r, r < 6 → ∀ l ∈ leaves n r [], allDiff ((n : Int) - 1) l := by decide +kernel
theorem hasPart_eq (n m : Nat) (hn : n < 6) (hm : m < 6) (e h : Int) (h0 : 0 ≤ h) (h1 : h ≤ 4294967295) : impl_Graph_hasPart.f n e m h = some ((leaves n m []).any fun l => decide (Go.bits .and .u32 h (onI e l) = h)) := by
  unfold impl_Graph_hasPart.f impl_listed.f
  rw [if_pos (by simp; omega), lstd_eq]
  rw [runCb_any _ (fun l => decide (Go.bits .and .u32 h (onI e l) = h))]
  · simp
  · intro l hl
    simp only [Int.toNat_natCast, List.length_nil, Nat.sub_zero] at hl
    have hd := leaves_nodup n hn m hm l hl
    unfold impl_Graph_hasPart_1.f
    rw [impl_onT.eq n e (okList_diff (by omega) (by omega) (allDiff_wrap hn hd))]
    simp only [Option.bind_some]
    rw [part_bits h0 h1]
end Go.Proofs.Ytcepbgffnneagaa.Q
end
