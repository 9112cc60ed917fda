/- Contracts of Go functions and plain lemmas over what they compute; printed by the kit's print program or written by hand, joined. -/
import Derived.Test.YtcepbgffnneagaaBFnLabelings3
import Derived.Test.YtcepbgffnneagaaBFnLabelings6
import Derived.Test.YtcepbgffnneagaaBFnLabelings5
import Derived.Test.YtcepbgffnneagaaBFnLabelings11
import Derived.Test.YtcepbgffnneagaaBFnLabelings4
import Derived.Test.YtcepbgffnneagaaBFnLabelings7
import Derived.Test.YtcepbgffnneagaaBFnLabelings8
import Derived.Test.YtcepbgffnneagaaBFnLabelings9
import Derived.Test.YtcepbgffnneagaaBFnLabelings10
section
namespace Go.Proofs.Ytcepbgffnneagaa.Q
open Go.RowKit Go.Proofs.YtcepbgffnneagaaW.PrintWords Go.Proofs.YtcepbgffnneagaaW.PrintLast Go.Proofs.YtcepbgffnneagaaW.PrintMore
attribute [local go_sem] max2_int min2_int max_two min_two max_three min_three max_four min_four   -- for this text's walks alone
set_option linter.unusedVariables false
set_option linter.unusedSimpArgs false

theorem wrap_u32_nat (v : BitVec 32) : IntKind.u32.wrap ((v.toNat : Nat) : Int) = ((v.toNat : Nat) : Int) := by
  rw [IntKind.wrap_u32]; have := v.isLt; omega
theorem bits_and32 (x y : Int) : Go.bits .and .u32 x y = (((BitVec.ofInt 32 x &&& BitVec.ofInt 32 y).toNat : Nat) : Int) := wrap_u32_nat _
theorem bits_andNot32 (x y : Int) : Go.bits .andNot .u32 x y = (((BitVec.ofInt 32 x &&& ~~~ BitVec.ofInt 32 y).toNat : Nat) : Int) := wrap_u32_nat _

end Go.Proofs.Ytcepbgffnneagaa.Q
end

section
namespace Go.Proofs.Ytcepbgffnneagaa.Q
open Go.RowKit Go.Proofs.YtcepbgffnneagaaW.PrintWords Go.Proofs.YtcepbgffnneagaaW.PrintLast Go.Proofs.YtcepbgffnneagaaW.PrintMore
attribute [local go_sem] max2_int min2_int max_two min_two max_three min_three max_four min_four   -- for this text's walks alone
set_option linter.unusedVariables false
set_option linter.unusedSimpArgs false

def leavesIn (g : List Int → List (List Int)) (l : List Int) : Nat → Nat → List (List Int)
  | 0, _ => []
  | d + 1, i => if (i : Int) ∈ l then leavesIn g l d (i + 1) else g (l ++ [(i : Int)]) ++ leavesIn g l d (i + 1)
/-- All lists of different numbers below n that go on from l by r places, in order. -/
def leaves (n : Nat) : Nat → List Int → List (List Int)
  | 0, l => [l]
  | r + 1, l => leavesIn (leaves n r) l n 0
def runCb {σ : Type} (cb : List Int → σ → Option (Bool × σ)) : List (List Int) → σ → Option (Bool × σ)
  | [], a => some (false, a)
  | l :: ls, a => (cb l a).bind fun p => if p.1 = true then some (true, p.2) else runCb cb ls p.2
theorem runCb_append {σ : Type} (cb : List Int → σ → Option (Bool × σ)) (y : List (List Int)) : ∀ (x : List (List Int)) (a : σ), runCb cb (x ++ y) a = (runCb cb x a).bind fun p => if p.1 = true then some (true, p.2) else runCb cb y p.2
  | [], a => rfl
  | l :: ls, a => by
    simp only [List.cons_append, runCb]
    cases h : cb l a with
    | none => rfl
    | some p =>
      simp only [Option.bind_some]
      by_cases hp : p.1 = true
      · rw [if_pos hp, if_pos hp]; rfl
      · rw [if_neg hp, if_neg hp]; exact runCb_append cb y ls p.2
theorem lstdIn_eq {σ : Type} (cb : List Int → σ → Option (Bool × σ)) (f : List Int → σ → Option (Bool × σ)) (g : List Int → List (List Int)) (hf : ∀ l a, f l a = runCb cb (g l) a) (l : List Int) : ∀ (d i : Nat) (a : σ), lstdIn f l d i a = runCb cb (leavesIn g l d i) a
  | 0, _, _ => rfl
  | d + 1, i, a => by
    rw [lstdIn, leavesIn]
    by_cases h : (i : Int) ∈ l
    · rw [if_pos h, if_pos h]; exact lstdIn_eq cb f g hf l d (i + 1) a
    · rw [if_neg h, if_neg h, runCb_append, hf]
      congr 1
      funext p
      by_cases hp : p.1 = true
      · rw [if_pos hp, if_pos hp]
      · rw [if_neg hp, if_neg hp]; exact lstdIn_eq cb f g hf l d (i + 1) p.2
theorem lstd_eq {σ : Type} (cb : List Int → σ → Option (Bool × σ)) (n : Nat) : ∀ (r : Nat) (l : List Int) (a : σ), lstd cb n r l a = runCb cb (leaves n r l) a
  | 0, l, a => by
    simp only [lstd, leaves, runCb]
    cases cb l a with
    | none => rfl
    | some p =>
      obtain ⟨b, a'⟩ := p
      cases b <;> rfl
  | r + 1, l, a => by
    rw [lstd, leaves]
    exact lstdIn_eq cb _ _ (fun l a => lstd_eq cb n r l a) l n 0 a
/-- A callback that only looks. -/
theorem runCb_any (cb : List Int → Option Bool) (p : List Int → Bool) : ∀ (L : List (List Int)), (∀ l ∈ L, cb l = some (p l)) → runCb (fun l (_ : Unit) => (cb l).map fun b => (b, ())) L () = some (L.any p, ())
  | [], _ => rfl
  | l :: ls, h => by
    simp only [runCb, h l (List.mem_cons_self), Option.map_some, Option.bind_some, List.any_cons]
    cases hp : p l
    · simp only [Bool.false_eq_true, if_false, Bool.false_or]
      exact runCb_any cb p ls fun x hx => h x (List.mem_cons_of_mem _ hx)
    · simp
/-- A callback that never says enough, and reckons on. -/
theorem runCb_fold {σ : Type} (cb : List Int → σ → Option (Bool × σ)) (g : σ → List Int → σ) : ∀ (L : List (List Int)) (a : σ), (∀ l ∈ L, ∀ a, cb l a = some (false, g a l)) → runCb cb L a = some (false, L.foldl g a)
  | [], _, _ => rfl
  | l :: ls, a, h => by
    simp only [runCb, h l (List.mem_cons_self) a, Option.bind_some, Bool.false_eq_true, if_false, List.foldl_cons]
    exact runCb_fold cb g ls _ fun x hx => h x (List.mem_cons_of_mem _ hx)

end Go.Proofs.Ytcepbgffnneagaa.Q
end

section
namespace Go.Proofs.Ytcepbgffnneagaa.Q
open Go.RowKit Go.Proofs.YtcepbgffnneagaaW.PrintWords Go.Proofs.YtcepbgffnneagaaW.PrintLast Go.Proofs.YtcepbgffnneagaaW.PrintMore
attribute [local go_sem] max2_int min2_int max_two min_two max_three min_three max_four min_four   -- for this text's walks alone
set_option linter.unusedVariables false
set_option linter.unusedSimpArgs false

def isChain (n : Int) : List (List Int) → Bool
  | [] => true
  | x :: ls => match ls with
    | [] => match spec_l01Next.f 100 x n with | some (false, _) => true | _ => false
    | y :: _ => decide (spec_l01Next.f 100 x n = some (true, y)) && isChain n ls
theorem chains : ∀ n, n < 6 → ∀ r, r < n + 1 → (leaves n r []).head? = some (firstI r) ∧ isChain n (leaves n r []) = true := by decide +kernel
theorem leaves_ok : ∀ n, n < 6 → ∀ r, r < n + 1 → ∀ l ∈ leaves n r [], l.length = r ∧ allDiff ((n : Int) - 1) l := by decide +kernel
theorem next_ge {x : List Int} {n : Int} {p : Bool × List Int} (h : spec_l01Next.f 100 x n = some p) (k : Nat) (hk : 100 ≤ k) : spec_l01Next.f k x n = some p :=
  LeO_ge (F := fun k => spec_l01Next.f k x n) (fun k => spec_l01Next.mono x n k) hk _ h
theorem chain_one {n : Int} {x : List Int} (h : isChain n [x] = true) : ∃ y, ∀ k, 100 ≤ k → spec_l01Next.f k x n = some (false, y) := by
  simp only [isChain] at h
  split at h
  · next y e => exact ⟨y, fun k hk => next_ge e k hk⟩
  · cases h
theorem chain_cons {n : Int} {x y : List Int} {ls : List (List Int)} (h : isChain n (x :: y :: ls) = true) : (∀ k, 100 ≤ k → spec_l01Next.f k x n = some (true, y)) ∧ isChain n (y :: ls) = true := by
  rw [isChain] at h
  simp only [Bool.and_eq_true, decide_eq_true_eq] at h
  exact ⟨fun k hk => next_ge h.1 k hk, h.2⟩
end Go.Proofs.Ytcepbgffnneagaa.Q
end

section
namespace Go.Proofs.Ytcepbgffnneagaa.Q
open Go.RowKit Go.Proofs.YtcepbgffnneagaaW.PrintWords Go.Proofs.YtcepbgffnneagaaW.PrintLast Go.Proofs.YtcepbgffnneagaaW.PrintMore
attribute [local go_sem] max2_int min2_int max_two min_two max_three min_three max_four min_four   -- for this text's walks alone
set_option linter.unusedVariables false
set_option linter.unusedSimpArgs false

end Go.Proofs.Ytcepbgffnneagaa.Q
end

section
namespace Go.Proofs.Ytcepbgffnneagaa.Q
open Go.RowKit Go.Proofs.YtcepbgffnneagaaW.PrintWords Go.Proofs.YtcepbgffnneagaaW.PrintLast Go.Proofs.YtcepbgffnneagaaW.PrintMore
attribute [local go_sem] max2_int min2_int max_two min_two max_three min_three max_four min_four   -- for this text's walks alone
set_option linter.unusedVariables false
set_option linter.unusedSimpArgs false

theorem leaves_ok_s : ∀ n, n < 6 → ∀ s, s < n + 1 → ∀ l ∈ leaves n (n - s) (firstI s), l.length = n ∧ allDiff ((n : Int) - 1) l := by decide +kernel
end Go.Proofs.Ytcepbgffnneagaa.Q
end

section
namespace Go.Proofs.Ytcepbgffnneagaa.Q
open Go.RowKit Go.Proofs.YtcepbgffnneagaaW.PrintWords Go.Proofs.YtcepbgffnneagaaW.PrintLast Go.Proofs.YtcepbgffnneagaaW.PrintMore
attribute [local go_sem] max2_int min2_int max_two min_two max_three min_three max_four min_four   -- for this text's walks alone
set_option linter.unusedVariables false
set_option linter.unusedSimpArgs false

theorem bits_of (f : Nat → Bool) : ∀ m, ∃ b, b < 2 ^ m ∧ ∀ q, q < m → b.testBit q = f q
  | 0 => ⟨0, by simp, fun q hq => absurd hq (Nat.not_lt_zero _)⟩
  | m + 1 => by
    obtain ⟨b, hb, h⟩ := bits_of f m
    cases hf : f m
    · refine ⟨b, by rw [Nat.pow_succ]; omega, fun q hq => ?_⟩
      by_cases hqm : q = m
      · subst hqm
        rw [hf]; exact Nat.testBit_lt_two_pow hb
      · exact h q (by omega)
    · refine ⟨2 ^ m + b, by rw [Nat.pow_succ]; omega, fun q hq => ?_⟩
      by_cases hqm : q = m
      · subst hqm
        rw [hf, Nat.testBit_two_pow_add_eq, Nat.testBit_lt_two_pow hb]; rfl
      · rw [Nat.testBit_two_pow_add_gt (by omega)]; exact h q (by omega)
def pairAt (J : Nat → Nat → Bool) : Nat → Bool
  | 0 => J 0 1 | 1 => J 0 2 | 2 => J 1 2 | 3 => J 0 3 | 4 => J 1 3 | 5 => J 2 3 | 6 => J 0 4 | 7 => J 1 4 | 8 => J 2 4 | 9 => J 3 4 | _ => false
theorem pairAt_bit (J : Nat → Nat → Bool) {i j : Nat} (hij : i < j) (hj : j < 5) : pairAt J (bitIx i j) = J i j := by
  have : (i = 0 ∧ j = 1) ∨ (i = 0 ∧ j = 2) ∨ (i = 1 ∧ j = 2) ∨ (i = 0 ∧ j = 3) ∨ (i = 1 ∧ j = 3) ∨ (i = 2 ∧ j = 3) ∨ (i = 0 ∧ j = 4) ∨ (i = 1 ∧ j = 4) ∨ (i = 2 ∧ j = 4) ∨ (i = 3 ∧ j = 4) := by omega
  rcases this with ⟨rfl, rfl⟩ | ⟨rfl, rfl⟩ | ⟨rfl, rfl⟩ | ⟨rfl, rfl⟩ | ⟨rfl, rfl⟩ | ⟨rfl, rfl⟩ | ⟨rfl, rfl⟩ | ⟨rfl, rfl⟩ | ⟨rfl, rfl⟩ | ⟨rfl, rfl⟩ <;> rfl
theorem hasI_bit : ∀ b : Nat, b < 1024 → ∀ i : Nat, i < 5 → ∀ j : Nat, j < 5 → i ≠ j → hasI (b : Int) (i : Int) (j : Int) = b.testBit (bitIx i j) := by decide +kernel
theorem bitIx_lt : ∀ n, n < 6 → ∀ j, j < n → ∀ i, i < j → bitIx i j < prs n := by decide
theorem prs_le : ∀ n, n < 6 → 2 ^ prs n ≤ 1024 := by decide
theorem made_has : ∀ n, n < 6 → ∀ b, b < 2 ^ prs n → madeI n (fun i j => hasI (b : Nat) i j) = (b : Nat) := by decide +kernel
theorem made_spec (n : Nat) (hn : n < 6) (J : Nat → Nat → Bool) : ∃ b : Nat, b < 2 ^ prs n ∧ madeI n J = b ∧ ∀ i j : Nat, i < j → j < n → hasI b i j = J i j := by
  obtain ⟨b, hb, h⟩ := bits_of (pairAt J) (prs n)
  have hb' : b < 1024 := Nat.lt_of_lt_of_le hb (prs_le n hn)
  have hJ : ∀ i j : Nat, i < j → j < n → hasI b i j = J i j := fun i j hij hj => by
    rw [hasI_bit b hb' i (by omega) j (by omega) (by omega), h _ (bitIx_lt n hn j hj i hij), pairAt_bit J hij (by omega)]
  exact ⟨b, hb, by rw [madeI_congr (J' := fun i j => hasI b i j) fun i j hij hj => (hJ i j hij hj).symm]; exact made_has n hn b hb, hJ⟩
theorem hasI_comm (e : Int) {a b : Nat} (h : a ≠ b) : hasI e a b = hasI e b a := by
  unfold hasI bitI
  rw [show bitIx (a : Int).toNat (b : Int).toNat = bitIx (b : Int).toNat (a : Int).toNat from by
    simp only [Int.toNat_natCast]; unfold bitIx
    by_cases hab : a > b
    · rw [if_pos hab, if_neg (by omega)]
    · rw [if_neg hab, if_pos (by omega)]]
/-- An order of the n vertices: at each place a vertex, no vertex twice. -/
def isOrd (n : Nat) (l : List Int) : Prop := l.length = n ∧ allDiff ((n : Int) - 1) l
theorem isOrd.at {n : Nat} {l : List Int} (h : isOrd n l) (i : Nat) (hi : i < n) : ∃ a : Nat, a < n ∧ rd l i = a := by
  have hl : i < l.length := by rw [h.1]; exact hi
  have := h.2.2 _ (List.getElem_mem hl)
  exact ⟨l[i].toNat, by omega, by rw [rd_of_lt l hl]; omega⟩
theorem isOrd.ne {n : Nat} {l : List Int} (h : isOrd n l) {i j : Nat} (hij : i ≠ j) (hi : i < n) (hj : j < n) : rd l i ≠ rd l j := by
  have hl : i < l.length := by rw [h.1]; exact hi
  have hl2 : j < l.length := by rw [h.1]; exact hj
  rw [rd_of_lt l hl, rd_of_lt l hl2]
  rcases Nat.lt_or_gt_of_ne hij with h1 | h1
  · exact List.pairwise_iff_getElem.1 h.2.1 i j hl hl2 h1
  · exact fun e => List.pairwise_iff_getElem.1 h.2.1 j i hl2 hl h1 e.symm
theorem onI_nat (n : Nat) (hn : n < 6) (e : Int) {l : List Int} (h : isOrd n l) : ∃ b : Nat, b < 2 ^ prs n ∧ onI e l = b ∧ ∀ i j : Nat, i ≠ j → i < n → j < n → hasI b i j = hasI e (rd l i) (rd l j) := by
  obtain ⟨b, hb, h1, h2⟩ := made_spec n hn (fun i j => hasI e (rd l i) (rd l j))
  refine ⟨b, hb, by unfold onI; rw [h.1]; exact h1, fun i j hij hi hj => ?_⟩
  rcases Nat.lt_or_gt_of_ne hij with hlt | hlt
  · exact h2 i j hlt hj
  · rw [hasI_comm b hij, h2 j i hlt hi]
    obtain ⟨x, hx, ex⟩ := h.at i hi
    obtain ⟨y, hy, ey⟩ := h.at j hj
    have := h.ne hij hi hj
    rw [ex, ey] at this ⊢
    exact hasI_comm e (by omega)
/-- First the order l, then p. -/
def comp (l p : List Int) : List Int := p.map fun x => rd l x
theorem rd_comp {n : Nat} {l p : List Int} (hp : isOrd n p) (i : Nat) (hi : i < n) : rd (comp l p) i = rd l (rd p i) := by
  have h1 : i < p.length := by rw [hp.1]; exact hi
  rw [rd_of_lt p h1, rd_of_lt _ (by unfold comp; rw [List.length_map]; exact h1)]
  simp [comp]
theorem isOrd.comp {n : Nat} {l p : List Int} (hl : isOrd n l) (hp : isOrd n p) : isOrd n (comp l p) := by
  have hlen : (Q.comp l p).length = n := by unfold Q.comp; rw [List.length_map]; exact hp.1
  have hget : ∀ i (h : i < (Q.comp l p).length), ∃ a : Nat, a < n ∧ rd p i = a ∧ (Q.comp l p)[i] = rd l a := fun i h => by
    obtain ⟨a, ha, e⟩ := hp.at i (by omega)
    exact ⟨a, ha, e, by rw [← rd_of_lt (Q.comp l p) h, rd_comp hp i (by omega), e]⟩
  refine ⟨hlen, List.pairwise_iff_getElem.2 fun i j hi hj hij => ?_, fun x hx => ?_⟩
  · obtain ⟨a, ha, ea, e1⟩ := hget i hi
    obtain ⟨b, hb, eb, e2⟩ := hget j hj
    rw [e1, e2]
    refine hl.ne (fun e => ?_) ha hb
    exact hp.ne (show i ≠ j by omega) (by omega) (by omega) (by rw [ea, eb, e])
  · obtain ⟨i, hi, rfl⟩ := List.getElem_of_mem hx
    obtain ⟨a, ha, _, e1⟩ := hget i hi
    obtain ⟨c, hc, ec⟩ := hl.at a ha
    rw [e1, ec]; omega
theorem onI_comp (n : Nat) (hn : n < 6) (e : Int) {l p : List Int} (hl : isOrd n l) (hp : isOrd n p) : onI (onI e l) p = onI e (comp l p) := by
  obtain ⟨b, hb, e1, h1⟩ := onI_nat n hn e hl
  rw [e1]
  unfold onI
  rw [hp.1, (hl.comp hp).1]
  refine madeI_congr fun i j hij hj => ?_
  obtain ⟨x, hx, ex⟩ := hp.at i (by omega)
  obtain ⟨y, hy, ey⟩ := hp.at j hj
  have hne := hp.ne (show i ≠ j by omega) (by omega) hj
  rw [rd_comp hp i (by omega), rd_comp hp j hj, ex, ey]
  rw [ex, ey] at hne
  exact h1 x y (by omega) hx hy

end Go.Proofs.Ytcepbgffnneagaa.Q
end

section
namespace Go.Proofs.Ytcepbgffnneagaa.Q
open Go.RowKit Go.Proofs.YtcepbgffnneagaaW.PrintWords Go.Proofs.YtcepbgffnneagaaW.PrintLast Go.Proofs.YtcepbgffnneagaaW.PrintMore
attribute [local go_sem] max2_int min2_int max_two min_two max_three min_three max_four min_four   -- for this text's walks alone
set_option linter.unusedVariables false
set_option linter.unusedSimpArgs false

def spec_l01Bit.f : Nat → Int → Int → Option (Int)
  | 0, _, _ => none
  | k + 1, a0, a1 => if a0 > a1 then ((spec_l01Bit.f k a1 a0).bind fun t104 => (some t104)) else ((spec_l01Bits.f a1).bind fun t105 => (if 0 ≤ (IntKind.u64.wrap (wrap64 (t105 + a0))) then (some (shl .u32 1 (IntKind.u64.wrap (wrap64 (t105 + a0))))) else (none)))
end Go.Proofs.Ytcepbgffnneagaa.Q
end

section
namespace Go.Proofs.Ytcepbgffnneagaa.Q
open Go.RowKit Go.Proofs.YtcepbgffnneagaaW.PrintWords Go.Proofs.YtcepbgffnneagaaW.PrintLast Go.Proofs.YtcepbgffnneagaaW.PrintMore
attribute [local go_sem] max2_int min2_int max_two min_two max_three min_three max_four min_four   -- for this text's walks alone
set_option linter.unusedVariables false
set_option linter.unusedSimpArgs false

def spec_l01Joined.f (k : Nat) (a0_0 : Int) (a0_1 : Int) (a1 : Int) (a2 : Int) : Option (Bool) := if a1 = a2 then (some false) else ((spec_l01Bit.f k a1 a2).bind fun t107 => (some ((Go.bits .and .u32 a0_1 t107) != 0)))
end Go.Proofs.Ytcepbgffnneagaa.Q
end

section
namespace Go.Proofs.Ytcepbgffnneagaa.Q
open Go.RowKit Go.Proofs.YtcepbgffnneagaaW.PrintWords Go.Proofs.YtcepbgffnneagaaW.PrintLast Go.Proofs.YtcepbgffnneagaaW.PrintMore
attribute [local go_sem] max2_int min2_int max_two min_two max_three min_three max_four min_four   -- for this text's walks alone
set_option linter.unusedVariables false
set_option linter.unusedSimpArgs false

mutual
def spec_l01On.l0 : Nat → List Int → Int → Int → Int → Int → Int → Option (Int × Int)
  | 0, _, _, _, _, _, _ => none
  | k + 1, x1, x6, x109000, x109001, x111000, x111001 => if x6 < x111000 then (spec_l01On.l1 k x1 x6 0 x109000 x109001 x111000 x111001) else (some (x111000, x111001))
def spec_l01On.l1 : Nat → List Int → Int → Int → Int → Int → Int → Int → Option (Int × Int)
  | 0, _, _, _, _, _, _, _ => none
  | k + 1, x1, x6, x7, x109000, x109001, x111000, x111001 => if x7 < x6 then (if 0 ≤ x7 then (if x7 < (x1.length : Int) then (if 0 ≤ x6 then (if x6 < (x1.length : Int) then ((spec_l01Joined.f k x109000 x109001 (rd x1 x7) (rd x1 x6)).bind fun t113 => (if t113 = true then ((spec_l01Bit.f k x7 x6).bind fun t114 => (spec_l01On.l1 k x1 x6 (wrap64 (x7 + 1)) x109000 x109001 x111000 (Go.bits .or .u32 x111001 t114))) else (spec_l01On.l1 k x1 x6 (wrap64 (x7 + 1)) x109000 x109001 x111000 x111001))) else (none)) else (none)) else (none)) else (none)) else (spec_l01On.l0 k x1 (wrap64 (x6 + 1)) x109000 x109001 x111000 x111001)
end
def spec_l01On.f (k : Nat) (a0_0 : Int) (a0_1 : Int) (l1 : List Int) : Option (Int × Int) := spec_l01On.l0 k l1 1 a0_0 a0_1 (l1.length : Int) 0
end Go.Proofs.Ytcepbgffnneagaa.Q
end

section
namespace Go.Proofs.Ytcepbgffnneagaa.Q
open Go.RowKit Go.Proofs.YtcepbgffnneagaaW.PrintWords Go.Proofs.YtcepbgffnneagaaW.PrintLast Go.Proofs.YtcepbgffnneagaaW.PrintMore
attribute [local go_sem] max2_int min2_int max_two min_two max_three min_three max_four min_four   -- for this text's walks alone
set_option linter.unusedVariables false
set_option linter.unusedSimpArgs false

end Go.Proofs.Ytcepbgffnneagaa.Q
end

section
namespace Go.Proofs.Ytcepbgffnneagaa.Q
open Go.RowKit Go.Proofs.YtcepbgffnneagaaW.PrintWords Go.Proofs.YtcepbgffnneagaaW.PrintLast Go.Proofs.YtcepbgffnneagaaW.PrintMore
attribute [local go_sem] max2_int min2_int max_two min_two max_three min_three max_four min_four   -- for this text's walks alone
set_option linter.unusedVariables false
set_option linter.unusedSimpArgs false

theorem allDiff_len {n : Int} (h0 : 0 ≤ n) (h5 : n ≤ 5) {l : List Int} (h : allDiff (wrap64 (n - 1)) l) : l.length ≤ n.toNat ∧ ∀ x ∈ l, 0 ≤ x ∧ x < n := by
  have hw : wrap64 (n - 1) = n - 1 := by unfold wrap64; omega
  rw [hw] at h
  have h2 : ∀ x ∈ l, 0 ≤ x ∧ x < n := fun x hx => by have := h.2 x hx; omega
  exact ⟨pigeon n.toNat l h.1 fun x hx => by have := h2 x hx; omega, h2⟩

end Go.Proofs.Ytcepbgffnneagaa.Q
end

section
namespace Go.Proofs.Ytcepbgffnneagaa.Q
open Go.RowKit Go.Proofs.YtcepbgffnneagaaW.PrintWords Go.Proofs.YtcepbgffnneagaaW.PrintLast Go.Proofs.YtcepbgffnneagaaW.PrintMore
attribute [local go_sem] max2_int min2_int max_two min_two max_three min_three max_four min_four   -- for this text's walks alone
set_option linter.unusedVariables false
set_option linter.unusedSimpArgs false

theorem l01Bit_eq (k : Nat) {i j : Int} (i0 : 0 ≤ i) (i4 : i ≤ 4) (j0 : 0 ≤ j) (j4 : j ≤ 4) : spec_l01Bit.f (k + 2) i j = some (bitI i j) := by
  rcases small4 i0 i4 with rfl | rfl | rfl | rfl | rfl <;> rcases small4 j0 j4 with rfl | rfl | rfl | rfl | rfl <;> kernel_rfl

end Go.Proofs.Ytcepbgffnneagaa.Q
end

section
namespace Go.Proofs.Ytcepbgffnneagaa.Q
open Go.RowKit Go.Proofs.YtcepbgffnneagaaW.PrintWords Go.Proofs.YtcepbgffnneagaaW.PrintLast Go.Proofs.YtcepbgffnneagaaW.PrintMore
attribute [local go_sem] max2_int min2_int max_two min_two max_three min_three max_four min_four   -- for this text's walks alone
set_option linter.unusedVariables false
set_option linter.unusedSimpArgs false

theorem joined_eq (k : Nat) (n e : Int) {i j : Int} (i0 : 0 ≤ i) (i4 : i ≤ 4) (j0 : 0 ≤ j) (j4 : j ≤ 4) (hij : i ≠ j) : spec_l01Joined.f (k + 2) n e i j = some (hasI e i j) := by
  unfold spec_l01Joined.f hasI
  rw [if_neg hij, l01Bit_eq k i0 i4 j0 j4]; rfl
theorem l01Bit_ge {k : Nat} (hk : 2 ≤ k) {i j : Int} (i0 : 0 ≤ i) (i4 : i ≤ 4) (j0 : 0 ≤ j) (j4 : j ≤ 4) : spec_l01Bit.f k i j = some (bitI i j) := by
  obtain ⟨q, rfl⟩ : ∃ q, k = q + 2 := ⟨k - 2, by omega⟩
  exact l01Bit_eq q i0 i4 j0 j4
theorem joined_ge {k : Nat} (hk : 2 ≤ k) (n e : Int) {i j : Int} (i0 : 0 ≤ i) (i4 : i ≤ 4) (j0 : 0 ≤ j) (j4 : j ≤ 4) (hij : i ≠ j) : spec_l01Joined.f k n e i j = some (hasI e i j) := by
  obtain ⟨q, rfl⟩ : ∃ q, k = q + 2 := ⟨k - 2, by omega⟩
  exact joined_eq q n e i0 i4 j0 j4 hij
theorem onS_row {l : List Int} {j : Nat} (n e0 : Int) (h5 : l.length ≤ 5) (h : ∀ i : Nat, i < l.length → 0 ≤ rd l i ∧ rd l i ≤ 4) (hne : ∀ i j : Nat, i < j → j < l.length → rd l i ≠ rd l j) (hj : j < l.length) (N : Int) :
    ∀ (d i : Nat) (e : Int) (k : Nat), i + d = j → d + 3 ≤ k → spec_l01On.l1 k l j i n e0 N e = spec_l01On.l0 (k - (d + 1)) l ((j + 1 : Nat) : Int) n e0 N (loopRow (fun i j => hasI e0 (rd l i) (rd l j)) j d i e)
  | 0, i, e, k, hd, hk => by
    have : i = j := by omega
    subst this
    obtain ⟨k, rfl⟩ : ∃ m, k = m + 1 := ⟨k - 1, by omega⟩
    simp only [spec_l01On.l1, loopRow]
    rw [if_neg (by omega), show wrap64 ((i : Int) + 1) = ((i + 1 : Nat) : Int) from by unfold wrap64; omega]; rfl
  | d + 1, i, e, k, hd, hk => by
    have hw : wrap64 ((i : Int) + 1) = ((i + 1 : Nat) : Int) := by unfold wrap64; omega
    have hi := h i (by omega)
    have hj' := h j hj
    obtain ⟨k, rfl⟩ : ∃ m, k = m + 1 := ⟨k - 1, by omega⟩
    simp only [spec_l01On.l1, loopRow]
    rw [if_pos (by omega), if_pos (by omega), if_pos (by omega), if_pos (by omega), if_pos (by omega), joined_ge (by omega) n e0 hi.1 hi.2 hj'.1 hj'.2 (hne i j (by omega) hj), hw, show k + 1 - (d + 1 + 1) = k - (d + 1) from by omega]
    simp only [Option.bind_some]
    by_cases hb : hasI e0 (rd l i) (rd l j) = true
    rotate_left
    · rw [if_neg hb, if_neg hb]
      exact onS_row n e0 h5 h hne hj N d (i + 1) e k (by omega) (by omega)
    · rw [if_pos hb, if_pos hb, l01Bit_ge (by omega) (by omega) (by omega) (by omega) (by omega)]
      simp only [Option.bind_some]
      exact onS_row n e0 h5 h hne hj N d (i + 1) _ k (by omega) (by omega)
theorem onS_all {l : List Int} (n e0 : Int) (h5 : l.length ≤ 5) (h : ∀ i : Nat, i < l.length → 0 ≤ rd l i ∧ rd l i ≤ 4) (hne : ∀ i j : Nat, i < j → j < l.length → rd l i ≠ rd l j) :
    ∀ (d j : Nat) (e : Int) (k : Nat), j + d = l.length → 7 * d + 3 ≤ k → spec_l01On.l0 k l j n e0 (l.length : Int) e = some ((l.length : Int), loopMade (fun i j => hasI e0 (rd l i) (rd l j)) d j e)
  | 0, j, e, k, hd, hk => by
    obtain ⟨k, rfl⟩ : ∃ m, k = m + 1 := ⟨k - 1, by omega⟩
    simp only [spec_l01On.l0, loopMade]
    rw [if_neg (by omega)]
  | d + 1, j, e, k, hd, hk => by
    obtain ⟨k, rfl⟩ : ∃ m, k = m + 1 := ⟨k - 1, by omega⟩
    simp only [spec_l01On.l0, loopMade]
    rw [if_pos (by omega)]
    have := onS_row n e0 h5 h hne (show j < l.length by omega) (l.length : Int) j 0 e k (by omega) (by omega)
    rw [show ((0 : Nat) : Int) = 0 from rfl] at this
    rw [this]
    exact onS_all n e0 h5 h hne d (j + 1) _ (k - (j + 1)) (by omega) (by omega)
theorem onS_eq (n e : Int) {l : List Int} (h5 : l.length ≤ 5) (h : ∀ i : Nat, i < l.length → 0 ≤ rd l i ∧ rd l i ≤ 4) (hne : ∀ i j : Nat, i < j → j < l.length → rd l i ≠ rd l j) (k : Nat) (hk : 40 ≤ k) :
    spec_l01On.f k n e l = some ((l.length : Int), onI e l) := by
  unfold spec_l01On.f onI madeI
  cases hl : l.length with
  | zero =>
    obtain ⟨k, rfl⟩ : ∃ m, k = m + 1 := ⟨k - 1, by omega⟩
    simp [spec_l01On.l0, loopMade]
  | succ m =>
    have := onS_all n e h5 h hne m 1 0 k (by omega) (by omega)
    rw [hl] at this
    rw [show ((1 : Nat) : Int) = 1 from rfl] at this
    rw [this]
    simp [loopMade, loopRow]

end Go.Proofs.Ytcepbgffnneagaa.Q
end

section
namespace Go.Proofs.Ytcepbgffnneagaa.Q
open Go.RowKit Go.Proofs.YtcepbgffnneagaaW.PrintWords Go.Proofs.YtcepbgffnneagaaW.PrintLast Go.Proofs.YtcepbgffnneagaaW.PrintMore
attribute [local go_sem] max2_int min2_int max_two min_two max_three min_three max_four min_four   -- for this text's walks alone
set_option linter.unusedVariables false
set_option linter.unusedSimpArgs false

theorem onS_diff (n e : Int) {m : Int} (h0 : 0 ≤ m) (h5 : m ≤ 5) {l : List Int} (h : allDiff (wrap64 (m - 1)) l) (k : Nat) (hk : 40 ≤ k) : spec_l01On.f k n e l = some ((l.length : Int), onI e l) := by
  have hl := allDiff_len h0 h5 h
  have hat : ∀ i : Nat, (hi : i < l.length) → 0 ≤ l[i] ∧ l[i] < m := fun i hi => hl.2 _ (List.getElem_mem hi)
  refine onS_eq n e (by omega) (fun i hi => ?_) (fun i j hij hj => ?_) k hk
  · rw [rd_of_lt l hi]; have := hat i hi; omega
  · rw [rd_of_lt l hj, rd_of_lt l (by omega)]
    exact List.pairwise_iff_getElem.1 h.1 i j (by omega) hj hij
theorem okList_diff {m : Int} (h0 : 0 ≤ m) (h5 : m ≤ 5) {l : List Int} (h : allDiff (wrap64 (m - 1)) l) : okList l := by
  have hl := allDiff_len h0 h5 h
  exact ⟨by omega, fun x hx => by have := hl.2 x hx; omega⟩

end Go.Proofs.Ytcepbgffnneagaa.Q
end

section
namespace Go.Proofs.Ytcepbgffnneagaa.Q
open Go.RowKit Go.Proofs.YtcepbgffnneagaaW.PrintWords Go.Proofs.YtcepbgffnneagaaW.PrintLast Go.Proofs.YtcepbgffnneagaaW.PrintMore
attribute [local go_sem] max2_int min2_int max_two min_two max_three min_three max_four min_four   -- for this text's walks alone
set_option linter.unusedVariables false
set_option linter.unusedSimpArgs false

def leastE (e : Int) (L : List (List Int)) (best : Int) : Int := L.foldl (fun b l => if onI e l < b then onI e l else b) best
theorem least_eq (n s : Nat) (hn : n < 6) (hs : s < n + 1) (e : Int) (hL : ∀ l ∈ leaves n (n - s) (firstI s), allDiff ((n : Int) - 1) l) : impl_Graph_least.f n e s = some ((n : Int), leastE e (leaves n (n - s) (firstI s)) e) := by
  unfold impl_Graph_least.f
  rw [if_pos (by omega), lstd_eq, show ((n : Int) - (s : Int)).toNat = n - s from by omega, Int.toNat_natCast, Int.toNat_natCast]
  rw [runCb_fold (leastCb e) (fun b l => if onI e l < b then onI e l else b)]
  · rfl
  · intro l hl a
    unfold leastCb
    rw [if_pos (okList_diff (m := n) (by omega) (by omega) (by rw [show wrap64 ((n : Int) - 1) = (n : Int) - 1 from by unfold wrap64; omega]; exact hL l hl))]
end Go.Proofs.Ytcepbgffnneagaa.Q
end

section
namespace Go.Proofs.Ytcepbgffnneagaa.Q
open Go.RowKit Go.Proofs.YtcepbgffnneagaaW.PrintWords Go.Proofs.YtcepbgffnneagaaW.PrintLast Go.Proofs.YtcepbgffnneagaaW.PrintMore
attribute [local go_sem] max2_int min2_int max_two min_two max_three min_three max_four min_four   -- for this text's walks alone
set_option linter.unusedVariables false
set_option linter.unusedSimpArgs false

theorem mem_leavesIn {g : List Int → List (List Int)} {l x : List Int} : ∀ (d i0 i : Nat), i0 ≤ i → i < i0 + d → (i : Int) ∉ l → x ∈ g (l ++ [(i : Int)]) → x ∈ leavesIn g l d i0
  | 0, i0, i, h1, h2, _, _ => by omega
  | d + 1, i0, i, h1, h2, hn, hx => by
    rw [leavesIn]
    rcases Nat.eq_or_lt_of_le h1 with rfl | h1
    · rw [if_neg hn]; exact List.mem_append_left _ hx
    · have := mem_leavesIn d (i0 + 1) i (by omega) (by omega) hn hx
      by_cases h : (i0 : Int) ∈ l
      · rw [if_pos h]; exact this
      · rw [if_neg h]; exact List.mem_append_right _ this
theorem mem_leaves (n : Nat) : ∀ (r : Nat) (pre t : List Int), t.length = r → (pre ++ t).Nodup → (∀ x ∈ t, 0 ≤ x ∧ x < n) → pre ++ t ∈ leaves n r pre
  | 0, pre, t, hl, _, _ => by
    obtain rfl := List.eq_nil_of_length_eq_zero hl
    rw [leaves, List.append_nil]; exact List.mem_singleton.2 rfl
  | r + 1, pre, t, hl, hd, hr => by
    cases t with
    | nil => simp at hl
    | cons x t =>
      have hx := hr x (List.mem_cons_self)
      have hxp : x ∉ pre := fun h => by
        rw [List.nodup_append] at hd
        exact hd.2.2 x h x (List.mem_cons_self) rfl
      rw [leaves]
      refine mem_leavesIn n 0 x.toNat (Nat.zero_le _) (by omega) (by rw [Int.toNat_of_nonneg hx.1]; exact hxp) ?_
      rw [Int.toNat_of_nonneg hx.1, show pre ++ x :: t = (pre ++ [x]) ++ t from by simp]
      exact mem_leaves n r (pre ++ [x]) t (by simpa using hl) (by simpa using hd) fun y hy => hr y (List.mem_cons_of_mem _ hy)
theorem leaves_take : ∀ n, n < 6 → ∀ s, s < n + 1 → ∀ l ∈ leaves n (n - s) (firstI s), l.take s = firstI s := by decide +kernel
theorem mem_orders (n s : Nat) (hs : s < n + 1) {l : List Int} (h : isOrd n l) (ht : l.take s = firstI s) : l ∈ leaves n (n - s) (firstI s) := by
  have e : firstI s ++ l.drop s = l := by rw [← ht]; exact List.take_append_drop s l
  have := mem_leaves n (n - s) (firstI s) (l.drop s) (by rw [List.length_drop, h.1]) (by rw [e]; exact h.2.1) (fun x hx => by have := h.2.2 x (List.mem_of_mem_drop hx); omega)
  rwa [e] at this
theorem map_firstI (l : List Int) : ∀ s, s ≤ l.length → (firstI s).map (fun x => rd l x) = l.take s
  | 0, _ => rfl
  | s + 1, h => by
    rw [firstI, List.map_append, map_firstI l s (by omega), List.take_succ_eq_append_getElem (by omega)]
    show _ ++ [rd l s] = _
    rw [rd_of_lt l (by omega)]
theorem comp_mem (n s : Nat) (hn : n < 6) (hs : s < n + 1) {l p : List Int} (hl : l ∈ leaves n (n - s) (firstI s)) (hp : p ∈ leaves n (n - s) (firstI s)) : comp l p ∈ leaves n (n - s) (firstI s) := by
  have ol : isOrd n l := leaves_ok_s n hn s hs l hl
  have op : isOrd n p := leaves_ok_s n hn s hs p hp
  refine mem_orders n s hs (ol.comp op) ?_
  unfold comp
  rw [← List.map_take, leaves_take n hn s hs p hp, map_firstI l s (by rw [ol.1]; omega), leaves_take n hn s hs l hl]
theorem orders_inv : ∀ n, n < 6 → ∀ s, s < n + 1 → ∀ l ∈ leaves n (n - s) (firstI s), ∃ p ∈ leaves n (n - s) (firstI s), comp l p = firstI n := by decide +kernel
theorem first_mem : ∀ n, n < 6 → ∀ s, s < n + 1 → firstI n ∈ leaves n (n - s) (firstI s) := by decide +kernel
theorem onI_first : ∀ n, n < 6 → ∀ b : Nat, b < 2 ^ prs n → onI (b : Nat) (firstI n) = (b : Nat) := by decide +kernel
theorem leastE_le (e : Int) : ∀ (L : List (List Int)) (best : Int), leastE e L best ≤ best ∧ ∀ l ∈ L, leastE e L best ≤ onI e l
  | [], best => ⟨Int.le_refl _, fun l hl => by cases hl⟩
  | x :: L, best => by
    have ih := leastE_le e L (if onI e x < best then onI e x else best)
    show leastE e L _ ≤ best ∧ ∀ l ∈ x :: L, leastE e L _ ≤ onI e l
    have h1 : (if onI e x < best then onI e x else best) ≤ best ∧ (if onI e x < best then onI e x else best) ≤ onI e x := by split <;> omega
    refine ⟨Int.le_trans ih.1 h1.1, fun l hl => ?_⟩
    rcases List.mem_cons.1 hl with rfl | hl
    · exact Int.le_trans ih.1 h1.2
    · exact ih.2 l hl
theorem leastE_mem (e : Int) : ∀ (L : List (List Int)) (best : Int), leastE e L best = best ∨ ∃ l ∈ L, leastE e L best = onI e l
  | [], best => Or.inl rfl
  | x :: L, best => by
    have ih := leastE_mem e L (if onI e x < best then onI e x else best)
    show leastE e L _ = best ∨ ∃ l ∈ x :: L, leastE e L _ = onI e l
    rcases ih with ih | ⟨l, hl, ih⟩
    · rw [ih]
      split
      · exact Or.inr ⟨x, List.mem_cons_self, rfl⟩
      · exact Or.inl rfl
    · exact Or.inr ⟨l, List.mem_cons_of_mem _ hl, ih⟩
/-- Two graphs have one least graph just if an order turns the one into the other. -/
theorem alike_iff (n s : Nat) (hn : n < 6) (hs : s < n + 1) (e h : Nat) (he : e < 2 ^ prs n) (hh : h < 2 ^ prs n) :
    (∃ l ∈ leaves n (n - s) (firstI s), onI e l = h) ↔ leastE e (leaves n (n - s) (firstI s)) e = leastE h (leaves n (n - s) (firstI s)) h := by
  have ord : ∀ l ∈ leaves n (n - s) (firstI s), isOrd n l := fun l hl => leaves_ok_s n hn s hs l hl
  have inv := orders_inv n hn s hs
  have cm : ∀ {l p : List Int}, l ∈ leaves n (n - s) (firstI s) → p ∈ leaves n (n - s) (firstI s) → comp l p ∈ leaves n (n - s) (firstI s) := fun hl hp => comp_mem n s hn hs hl hp
  have fm := first_mem n hn s hs
  generalize leaves n (n - s) (firstI s) = L at *
  have at_ : ∀ g : Nat, g < 2 ^ prs n → ∃ l ∈ L, leastE g L g = onI g l := fun g hg => by
    rcases leastE_mem g L g with h1 | h1
    · exact ⟨firstI n, fm, by rw [h1, onI_first n hn g hg]⟩
    · exact h1
  have le_ : ∀ (g k : Nat) {l : List Int}, g < 2 ^ prs n → k < 2 ^ prs n → l ∈ L → onI g l = k → leastE g L g ≤ leastE k L k := fun g k l hg hk hl e1 => by
    obtain ⟨p, hp, e2⟩ := at_ k hk
    rw [e2, ← e1, onI_comp n hn g (ord l hl) (ord p hp)]
    exact (leastE_le g L g).2 _ (cm hl hp)
  constructor
  · rintro ⟨l, hl, e1⟩
    obtain ⟨p, hp, e2⟩ := inv l hl
    have back : onI h p = e := by rw [← e1, onI_comp n hn e (ord l hl) (ord p hp), e2, onI_first n hn e he]
    exact Int.le_antisymm (le_ e h he hh hl e1) (le_ h e hh he hp back)
  · intro e0
    obtain ⟨l, hl, e1⟩ := at_ e he
    obtain ⟨q, hq, e2⟩ := at_ h hh
    obtain ⟨p, hp, e3⟩ := inv q hq
    refine ⟨comp l p, cm hl hp, ?_⟩
    rw [← onI_comp n hn e (ord l hl) (ord p hp), ← e1, e0, e2, onI_comp n hn h (ord q hq) (ord p hp), e3, onI_first n hn h hh]

end Go.Proofs.Ytcepbgffnneagaa.Q
end

section
namespace Go.Proofs.Ytcepbgffnneagaa.Q
open Go.RowKit Go.Proofs.YtcepbgffnneagaaW.PrintWords Go.Proofs.YtcepbgffnneagaaW.PrintLast Go.Proofs.YtcepbgffnneagaaW.PrintMore
attribute [local go_sem] max2_int min2_int max_two min_two max_three min_three max_four min_four   -- for this text's walks alone
set_option linter.unusedVariables false
set_option linter.unusedSimpArgs false

def srcOk (l : List Int) : Prop := l.length ≤ 3000 ∧ ∀ x ∈ l, 0 ≤ x ∧ x ≤ 255
theorem wrap_u64_nat (m : Nat) (h : m < 18446744073709551616) : IntKind.u64.wrap (m : Int) = m := by
  simp only [IntKind.wrap, IntKind.bits, IntKind.signed, Bool.false_and, Bool.false_eq_true, if_false]
  omega
theorem bits_and64 (x y : Int) : Go.bits .and .u64 x y = (((BitVec.ofInt 64 x &&& BitVec.ofInt 64 y).toNat : Nat) : Int) := wrap_u64_nat _ (BitVec.isLt _)
theorem and255 (x : Int) : 0 ≤ Go.bits .and .u64 x 255 ∧ Go.bits .and .u64 x 255 ≤ 255 := by
  rw [bits_and64]
  have h : (BitVec.ofInt 64 x &&& BitVec.ofInt 64 255).toNat ≤ 255 := by
    rw [BitVec.toNat_and]
    exact Nat.le_trans Nat.and_le_right (by decide)
  omega
theorem src_next (l : List Int) (hl : srcOk l) (at_ seed : Int) (h0 : 0 ≤ at_) (h1 : at_ ≤ 100000) : ∃ v s, spec_l00Src_next.f l at_ seed = some (v, at_ + 1, s) ∧ 0 ≤ v ∧ v ≤ 255 := by
  have hw : wrap64 (at_ + 1) = at_ + 1 := by unfold wrap64; omega
  unfold spec_l00Src_next.f
  rw [hw]
  by_cases h : at_ < (l.length : Int)
  · rw [if_pos h, if_pos h0, if_pos (by omega)]
    obtain ⟨i, rfl⟩ : ∃ i : Nat, at_ = i := ⟨at_.toNat, by omega⟩
    have hi : i < l.length := by omega
    have hx := hl.2 _ (List.getElem_mem hi)
    refine ⟨_, _, rfl, ?_⟩
    rw [rd_of_lt l hi]
    unfold wrap64; omega
  · rw [if_neg h, if_neg (by omega)]
    refine ⟨_, _, rfl, ?_⟩
    generalize IntKind.u64.wrap _ / 1099511627776 = q
    have := and255 q
    unfold wrap64; omega
theorem src_pick (l : List Int) (hl : srcOk l) (at_ seed n : Int) (h0 : 0 ≤ at_) (h1 : at_ ≤ 50000) (hn : 1 ≤ n) (hn2 : n ≤ 10000) : ∃ v a s, spec_l00Src_pick.f l at_ seed n = some (v, a, s) ∧ 0 ≤ v ∧ v < n ∧ at_ ≤ a ∧ a ≤ at_ + 2 := by
  unfold spec_l00Src_pick.f
  by_cases h : n ≤ 1
  · rw [if_pos h]; exact ⟨0, at_, seed, rfl, by omega, by omega, by omega, by omega⟩
  rw [if_neg h]
  obtain ⟨v, s, e1, hv0, hv1⟩ := src_next l hl at_ seed h0 (by omega)
  rw [e1]
  simp only [Option.bind_some]
  by_cases h2 : n > 200
  · rw [if_pos h2]
    obtain ⟨v2, s2, e2, hw0, hw1⟩ := src_next l hl (at_ + 1) s (by omega) (by omega)
    rw [e2]
    simp only [Option.bind_some]
    rw [if_neg (by omega)]
    have hx : wrap64 (wrap64 (v * 256) + v2) = v * 256 + v2 := by unfold wrap64; omega
    rw [hx]
    refine ⟨_, _, _, rfl, ?_, ?_, by omega, by omega⟩
    · rw [Int.tmod_eq_emod_of_nonneg (by omega)]; exact Int.emod_nonneg _ (by omega)
    · rw [Int.tmod_eq_emod_of_nonneg (by omega)]; exact Int.emod_lt_of_pos _ (by omega)
  · rw [if_neg h2, if_neg (by omega)]
    refine ⟨_, _, _, rfl, ?_, ?_, by omega, by omega⟩
    · rw [Int.tmod_eq_emod_of_nonneg hv0]; exact Int.emod_nonneg _ (by omega)
    · rw [Int.tmod_eq_emod_of_nonneg hv0]; exact Int.emod_lt_of_pos _ (by omega)
theorem and_le (p q : Nat) (hp : p < 4294967296) : ∃ r : Nat, r ≤ p ∧ Go.bits .and .u32 (p : Int) (q : Int) = r := by
  refine ⟨(BitVec.ofInt 32 p &&& BitVec.ofInt 32 q).toNat, ?_, bits_and32 _ _⟩
  rw [BitVec.toNat_and]
  refine Nat.le_trans Nat.and_le_left ?_
  rw [BitVec.ofInt_natCast, BitVec.toNat_ofNat]
  omega
theorem a2graph_consts : ∀ n : Nat, n < 6 → spec_l01Bits.f (n : Int) = some ((prs n : Nat) : Int) ∧ IntKind.u64.wrap ((prs n : Nat) : Int) = ((prs n : Nat) : Int) ∧ shl .i64 1 ((prs n : Nat) : Int) = ((2 ^ prs n : Nat) : Int) := by decide +kernel
theorem pow_prs : ∀ n : Nat, n < 6 → 1 ≤ 2 ^ prs n ∧ 2 ^ prs n ≤ 1024 := by decide
theorem A2Graph_ok (l : List Int) (hl : srcOk l) (n : Nat) (hn : n < 6) : ∃ e : Nat, e < 2 ^ prs n ∧ spec_A2Graph.f l n = some ((n : Int), (e : Int)) := by
  obtain ⟨c1, c2, c3⟩ := a2graph_consts n hn
  obtain ⟨p1, p2⟩ := pow_prs n hn
  unfold spec_A2Graph.f spec_l00From.f spec_l01Drawn.f
  simp only [Option.bind_some]
  rw [c1]
  simp only [Option.bind_some, c2, c3]
  rw [if_pos (by omega)]
  obtain ⟨v, a, s, e1, hv0, hv1, ha0, ha1⟩ := src_pick l hl 0 0 ((2 ^ prs n : Nat) : Int) (by omega) (by omega) (by omega) (by omega)
  rw [e1]
  simp only [Option.bind_some, spec_l00Src_one.f]
  obtain ⟨v2, a2, s2, e2, _, _, hb0, hb1⟩ := src_pick l hl a s 4 (by omega) (by omega) (by omega) (by omega)
  rw [e2]
  simp only [Option.bind_some]
  obtain ⟨w, rfl⟩ : ∃ w : Nat, v = w := ⟨v.toNat, by omega⟩
  have hw : ((w : Int)) % 4294967296 = w := by omega
  by_cases h4 : (v2 == 0) = true
  · rw [if_pos h4]
    obtain ⟨v3, a3, s3, e3, hx0, hx1, _, _⟩ := src_pick l hl a2 s2 ((2 ^ prs n : Nat) : Int) (by omega) (by omega) (by omega) (by omega)
    rw [e3]
    obtain ⟨u, rfl⟩ : ∃ u : Nat, v3 = u := ⟨v3.toNat, by omega⟩
    have hu : ((u : Int)) % 4294967296 = u := by omega
    obtain ⟨r, hr, er⟩ := and_le w u (by omega)
    simp only [Option.bind_some, hw, hu, er]
    exact ⟨r, by omega, rfl⟩
  · rw [if_neg h4]
    simp only [Option.bind_some, hw]
    exact ⟨w, by omega, rfl⟩
theorem next_in : ∀ n : Nat, n < 6 → ∀ p ∈ leaves n n [], (match spec_l01Next.f 100 p n with | some (true, q) => decide (q ∈ leaves n n []) | some (false, _) => true | none => false) = true := by decide +kernel
theorem A2Order_loop (n : Nat) (hn : n < 6) : ∀ (d k : Nat) (p : List Int), p ∈ leaves n n [] → d ≤ 200 → d + 200 ≤ k → ∃ q, spec_A2Order.l0 k n p d = some q ∧ q ∈ leaves n n []
  | 0, k, p, hp, _, hk => by
    obtain ⟨k, rfl⟩ : ∃ q, k = q + 1 := ⟨k - 1, by omega⟩
    exact ⟨p, by rw [spec_A2Order.l0, if_neg (by omega)], hp⟩
  | d + 1, k, p, hp, hd, hk => by
    obtain ⟨k, rfl⟩ : ∃ q, k = q + 1 := ⟨k - 1, by omega⟩
    have h := next_in n hn p hp
    have fm := first_mem n hn 0 (by omega)
    rw [show firstI 0 = [] from rfl, Nat.sub_zero] at fm
    have hw : wrap64 (((d + 1 : Nat) : Int) - 1) = (d : Int) := by
      unfold wrap64; omega
    rw [spec_A2Order.l0, if_pos (by omega)]
    simp only [hw]
    split at h
    · next q e =>
      rw [next_ge e k (by omega)]
      simp only [Option.bind_some, if_true]
      exact A2Order_loop n hn d k q (of_decide_eq_true h) (by omega) (by omega)
    · next q e =>
      rw [next_ge e k (by omega)]
      simp only [Option.bind_some, Bool.false_eq_true, if_false]
      rw [firstS_eq n (by omega) (by omega) k (by omega), Int.toNat_natCast]
      simp only [Option.bind_some]
      exact A2Order_loop n hn d k _ fm (by omega) (by omega)
    · cases h
theorem A2Order_ok (l : List Int) (hl : srcOk l) (n : Nat) (hn : n < 6) (k : Nat) (hk : 400 ≤ k) : ∃ p, p ∈ leaves n n [] ∧ spec_A2Order.f k l n = some p := by
  have fm := first_mem n hn 0 (by omega)
  rw [show firstI 0 = [] from rfl, Nat.sub_zero] at fm
  unfold spec_A2Order.f spec_l00From.f
  simp only [Option.bind_some]
  rw [firstS_eq n (by omega) (by omega) k (by omega), Int.toNat_natCast]
  simp only [Option.bind_some]
  obtain ⟨v, a, s, e1, hv0, hv1, _, _⟩ := src_pick l hl 0 0 121 (by omega) (by omega) (by omega) (by omega)
  rw [e1]
  obtain ⟨d, rfl⟩ : ∃ d : Nat, v = d := ⟨v.toNat, by omega⟩
  simp only [Option.bind_some]
  obtain ⟨q, e2, hq⟩ := A2Order_loop n hn d k (firstI n) fm (by omega) (by omega)
  exact ⟨q, hq, e2⟩

end Go.Proofs.Ytcepbgffnneagaa.Q
end

section
namespace Go.Proofs.Ytcepbgffnneagaa.Q
open Go.RowKit Go.Proofs.YtcepbgffnneagaaW.PrintWords Go.Proofs.YtcepbgffnneagaaW.PrintLast Go.Proofs.YtcepbgffnneagaaW.PrintMore
attribute [local go_sem] max2_int min2_int max_two min_two max_three min_three max_four min_four   -- for this text's walks alone
set_option linter.unusedVariables false
set_option linter.unusedSimpArgs false

def byteOk (l : List Int) : Prop := l.length < 9223372036854775808 ∧ ∀ x ∈ l, (Lit.int .u8 x).wf = true
theorem a2Long_cases {l m : List Int} (hl : byteOk l) (hm : byteOk m) : laws_a2Long.f l m = some true ∨ laws_a2Long.f l m = some false ∧ srcOk l ∧ srcOk m := by
  unfold laws_a2Long.f
  by_cases h : (l.length : Int) > 3000
  · rw [if_pos h]; exact Or.inl rfl
  rw [if_neg h]
  by_cases h2 : (m.length : Int) > 3000
  · rw [decide_eq_true h2]; exact Or.inl rfl
  rw [decide_eq_false h2]
  have ok : ∀ {l : List Int}, byteOk l → ¬ (l.length : Int) > 3000 → srcOk l := fun hl h =>
    ⟨by omega, fun x hx => by simpa [Lit.wf, IntKind.min, IntKind.max, IntKind.bits, IntKind.signed] using hl.2 x hx⟩
  exact Or.inr ⟨rfl, ok hl h, ok hm h2⟩
theorem a2At_ok {l : List Int} (hl : srcOk l) (a n : Nat) (hn : 1 ≤ n) : ∃ t : Nat, t < n ∧ laws_a2At.f l a n = some (t : Int) := by
  unfold laws_a2At.f
  by_cases h : (a : Int) ≥ (l.length : Int)
  · rw [if_pos h]; exact ⟨0, by omega, rfl⟩
  have ha : a < l.length := by omega
  have hx := hl.2 _ (List.getElem_mem ha)
  rw [if_neg h, if_neg (by omega), if_pos (by omega), if_pos (by omega), if_neg (by omega), rd_of_lt l ha, show wrap64 l[a] = l[a] from by unfold wrap64; omega, Int.tmod_eq_emod_of_nonneg hx.1]
  have h1 := Int.emod_nonneg l[a] (show (n : Int) ≠ 0 by omega)
  have h2 := Int.emod_lt_of_pos l[a] (show (0 : Int) < n by omega)
  exact ⟨(l[a] % n).toNat, by omega, by congr 1; omega⟩

end Go.Proofs.Ytcepbgffnneagaa.Q
end

section
namespace Go.Proofs.Ytcepbgffnneagaa.Q
open Go.RowKit Go.Proofs.YtcepbgffnneagaaW.PrintWords Go.Proofs.YtcepbgffnneagaaW.PrintLast Go.Proofs.YtcepbgffnneagaaW.PrintMore
attribute [local go_sem] max2_int min2_int max_two min_two max_three min_three max_four min_four   -- for this text's walks alone
set_option linter.unusedVariables false
set_option linter.unusedSimpArgs false

def cntB (b : Nat) : Int := (((List.range 10).countP fun q => b.testBit q : Nat) : Int)
theorem ones_eq : ∀ b : Nat, b < 1024 → bits_OnesCount32.f (b : Int) = some (cntB b) := by decide +kernel
def pairsL (n : Nat) : List (Nat × Nat) := (List.range n).flatMap fun j => (List.range j).map fun i => (i, j)
theorem pairsL_bits : ∀ n, n < 6 → (pairsL n).map (fun p => bitIx p.1 p.2) = List.range (prs n) := by decide
theorem pairsL_lt : ∀ n, n < 6 → ∀ p ∈ pairsL n, p.1 < p.2 ∧ p.2 < n := by decide
theorem pairsL_perm : ∀ n, n < 6 → ∀ l ∈ leaves n n [], ((pairsL n).map fun p => bitIx (rd l p.1).toNat (rd l p.2).toNat).isPerm (List.range (prs n)) = true := by decide +kernel
theorem cnt_short : ∀ n, n < 6 → ∀ b : Nat, b < 2 ^ prs n → (List.range 10).countP (fun q => b.testBit q) = (List.range (prs n)).countP (fun q => b.testBit q) := by decide +kernel
theorem cnt_on (n : Nat) (hn : n < 6) (e h : Nat) (he : e < 2 ^ prs n) {l : List Int} (hl : l ∈ leaves n n []) (eh : onI e l = h) : cntB h = cntB e := by
  have ol : isOrd n l := leaves_ok n hn n (by omega) l hl
  obtain ⟨b, hb, e1, h1⟩ := onI_nat n hn e ol
  obtain rfl : b = h := by rw [eh] at e1; omega
  unfold cntB
  have he' : e < 1024 := Nat.lt_of_lt_of_le he (prs_le n hn)
  have hb' : b < 1024 := Nat.lt_of_lt_of_le hb (prs_le n hn)
  rw [cnt_short n hn b hb, cnt_short n hn e he]
  have hp := List.isPerm_iff.1 (pairsL_perm n hn l hl)
  rw [← hp.countP_eq (fun q => e.testBit q), ← pairsL_bits n hn, List.countP_map, List.countP_map]
  congr 1
  refine List.countP_congr fun p hp => ?_
  obtain ⟨p1, p2⟩ := pairsL_lt n hn p hp
  obtain ⟨x, hx, ex⟩ := ol.at p.1 (by omega)
  obtain ⟨y, hy, ey⟩ := ol.at p.2 (by omega)
  have hne := ol.ne (show p.1 ≠ p.2 by omega) (by omega) (by omega)
  have := h1 p.1 p.2 (by omega) (by omega) (by omega)
  rw [ex, ey] at hne this
  rw [hasI_bit b hb' _ (by omega) _ (by omega) (by omega), hasI_bit e he' _ (by omega) _ (by omega) (by omega)] at this
  simp only [Function.comp, ex, ey, Int.toNat_natCast, this]

end Go.Proofs.Ytcepbgffnneagaa.Q
end

section
namespace Go.Proofs.Ytcepbgffnneagaa.Q
open Go.RowKit Go.Proofs.YtcepbgffnneagaaW.PrintWords Go.Proofs.YtcepbgffnneagaaW.PrintLast Go.Proofs.YtcepbgffnneagaaW.PrintMore
attribute [local go_sem] max2_int min2_int max_two min_two max_three min_three max_four min_four   -- for this text's walks alone
set_option linter.unusedVariables false
set_option linter.unusedSimpArgs false

theorem leaves_sub : ∀ n, n < 6 → ∀ s, s < n + 1 → ∀ l ∈ leaves n (n - s) (firstI s), l ∈ leaves n n [] := by
  intro n hn s hs l hl
  have h := leaves_ok_s n hn s hs l hl
  have := mem_orders n 0 (by omega) (l := l) h (by simp [firstI])
  simpa [firstI] using this
/-- Whether the program finds two graphs alike, the first s vertices fixed. -/
theorem alike_eq (n s : Nat) (hn : n < 6) (hs : s < n + 1) (e h : Nat) (he : e < 2 ^ prs n) (hh : h < 2 ^ prs n) : impl_Graph_alike.f n e n h s = some (leastE e (leaves n (n - s) (firstI s)) e == leastE h (leaves n (n - s) (firstI s)) h) := by
  have he' : e < 1024 := Nat.lt_of_lt_of_le he (prs_le n hn)
  have hh' : h < 1024 := Nat.lt_of_lt_of_le hh (prs_le n hn)
  have iff_ := alike_iff n s hn hs e h he hh
  unfold impl_Graph_alike.f
  rw [if_pos rfl, ones_eq e he', ones_eq h hh']
  simp only [Option.bind_some]
  by_cases hc : cntB e = cntB h
  · rw [if_pos hc]
    unfold impl_Graph_orders.f
    rw [if_pos (by omega), lstd_eq, show ((n : Int) - (s : Int)).toNat = n - s from by omega, Int.toNat_natCast, Int.toNat_natCast]
    rw [runCb_any _ (fun l => decide (onI e l = h))]
    · simp only [Option.map_some, Option.bind_some]
      congr 1
      rw [Bool.eq_iff_iff, List.any_eq_true, beq_iff_eq, ← iff_]
      simp only [decide_eq_true_eq]
    · intro l hl
      have ol := leaves_ok_s n hn s hs l hl
      unfold impl_Graph_alike_1.f
      rw [impl_onT.eq n e (okList_diff (m := n) (by omega) (by omega) (by rw [show wrap64 ((n : Int) - 1) = (n : Int) - 1 from by unfold wrap64; omega]; exact ol.2))]
      simp only [Option.bind_some, ol.1]
      congr 1
      rw [Bool.eq_iff_iff]; simp
  · rw [if_neg hc]
    congr 1
    symm
    rw [beq_eq_false_iff_ne]
    intro e0
    obtain ⟨l, hl, e1⟩ := iff_.2 e0
    exact hc (cnt_on n hn e h he (leaves_sub n hn s hs l hl) e1).symm

end Go.Proofs.Ytcepbgffnneagaa.Q
end

section
namespace Go.Proofs.Ytcepbgffnneagaa.Q
open Go.RowKit Go.Proofs.YtcepbgffnneagaaW.PrintWords Go.Proofs.YtcepbgffnneagaaW.PrintLast Go.Proofs.YtcepbgffnneagaaW.PrintMore
attribute [local go_sem] max2_int min2_int max_two min_two max_three min_three max_four min_four   -- for this text's walks alone
set_option linter.unusedVariables false
set_option linter.unusedSimpArgs false

end Go.Proofs.Ytcepbgffnneagaa.Q
end

section
namespace Go.Proofs.Ytcepbgffnneagaa.Q
open Go.RowKit Go.Proofs.YtcepbgffnneagaaW.PrintWords Go.Proofs.YtcepbgffnneagaaW.PrintLast Go.Proofs.YtcepbgffnneagaaW.PrintMore
attribute [local go_sem] max2_int min2_int max_two min_two max_three min_three max_four min_four   -- for this text's walks alone
set_option linter.unusedVariables false
set_option linter.unusedSimpArgs false

end Go.Proofs.Ytcepbgffnneagaa.Q
end

section
namespace Go.Proofs.Ytcepbgffnneagaa.Q
open Go.RowKit Go.Proofs.YtcepbgffnneagaaW.PrintWords Go.Proofs.YtcepbgffnneagaaW.PrintLast Go.Proofs.YtcepbgffnneagaaW.PrintMore
attribute [local go_sem] max2_int min2_int max_two min_two max_three min_three max_four min_four   -- for this text's walks alone
set_option linter.unusedVariables false
set_option linter.unusedSimpArgs false

def isLeastB (n s : Nat) (e : Int) : Bool := !(leaves n (n - s) (firstI s)).any fun l => decide (onI e l < e)
theorem isLeast_eq (n s : Nat) (hn : n < 6) (hs : s < n + 1) (e : Int) (hL : ∀ l ∈ leaves n (n - s) (firstI s), allDiff ((n : Int) - 1) l) : impl_Graph_isLeast.f n e s = some (isLeastB n s e) := by
  unfold impl_Graph_isLeast.f impl_Graph_orders.f
  rw [if_pos (by omega), lstd_eq, show ((n : Int) - (s : Int)).toNat = n - s from by omega, Int.toNat_natCast, Int.toNat_natCast]
  rw [runCb_any _ (fun l => decide (onI e l < e))]
  · rfl
  · intro l hl
    unfold impl_Graph_isLeast_1.f
    rw [impl_onT.eq n e (okList_diff (m := n) (by omega) (by omega) (by rw [show wrap64 ((n : Int) - 1) = (n : Int) - 1 from by unfold wrap64; omega]; exact hL l hl))]
    rfl
theorem prs_le' : ∀ n, n < 6 → 2 ^ prs n ≤ 1024 := by decide
/-- The graphs of size n with numbers of edges from e on, d of them, that ok tells. -/
def gList (n : Nat) (ok : Nat → Bool) : Nat → Nat → List S27
  | 0, _ => []
  | d + 1, e => if ok e = true then ⟨n, e⟩ :: gList n ok d (e + 1) else gList n ok d (e + 1)
theorem gList_length (n : Nat) (ok : Nat → Bool) : ∀ d e, (gList n ok d e).length ≤ d
  | 0, _ => Nat.le_refl _
  | d + 1, e => by
    have := gList_length n ok d (e + 1)
    rw [gList]; split
    · rw [List.length_cons]; omega
    · omega
end Go.Proofs.Ytcepbgffnneagaa.Q
end

section
namespace Go.Proofs.Ytcepbgffnneagaa.Q
open Go.RowKit Go.Proofs.YtcepbgffnneagaaW.PrintWords Go.Proofs.YtcepbgffnneagaaW.PrintLast Go.Proofs.YtcepbgffnneagaaW.PrintMore
attribute [local go_sem] max2_int min2_int max_two min_two max_three min_three max_four min_four   -- for this text's walks alone
set_option linter.unusedVariables false
set_option linter.unusedSimpArgs false

end Go.Proofs.Ytcepbgffnneagaa.Q
end

section
namespace Go.Proofs.Ytcepbgffnneagaa.Q
open Go.RowKit Go.Proofs.YtcepbgffnneagaaW.PrintWords Go.Proofs.YtcepbgffnneagaaW.PrintLast Go.Proofs.YtcepbgffnneagaaW.PrintMore
attribute [local go_sem] max2_int min2_int max_two min_two max_three min_three max_four min_four   -- for this text's walks alone
set_option linter.unusedVariables false
set_option linter.unusedSimpArgs false

end Go.Proofs.Ytcepbgffnneagaa.Q
end

section
namespace Go.Proofs.Ytcepbgffnneagaa.Q
open Go.RowKit Go.Proofs.YtcepbgffnneagaaW.PrintWords Go.Proofs.YtcepbgffnneagaaW.PrintLast Go.Proofs.YtcepbgffnneagaaW.PrintMore
attribute [local go_sem] max2_int min2_int max_two min_two max_three min_three max_four min_four   -- for this text's walks alone
set_option linter.unusedVariables false
set_option linter.unusedSimpArgs false

def spec_l01Part.l0 : Nat → List Int → Bool → Int → Int → Int → Int → Option (Bool)
  | 0, _, _, _, _, _, _ => none
  | k + 1, x5, x6, x1188000, x1188001, x1189000, x1189001 => if x6 = true then ((spec_l01On.f k x1188000 x1188001 x5).bind fun bt1192 => (if (Go.bits .and .u32 x1189001 bt1192.2) = x1189001 then (some true) else ((spec_l01Next.f k x5 x1188000).bind fun bt1194 => (spec_l01Part.l0 k bt1194.2 bt1194.1 x1188000 x1188001 x1189000 x1189001)))) else (some false)
def spec_l01Part.f (k : Nat) (a0_0 : Int) (a0_1 : Int) (a1_0 : Int) (a1_1 : Int) : Option (Bool) := if a1_0 > a0_0 then (some false) else ((spec_l01First.f k a1_0).bind fun t1189 => (spec_l01Part.l0 k t1189 true a0_0 a0_1 a1_0 a1_1))
end Go.Proofs.Ytcepbgffnneagaa.Q
end

section
namespace Go.Proofs.Ytcepbgffnneagaa.Q
open Go.RowKit Go.Proofs.YtcepbgffnneagaaW.PrintWords Go.Proofs.YtcepbgffnneagaaW.PrintLast Go.Proofs.YtcepbgffnneagaaW.PrintMore
attribute [local go_sem] max2_int min2_int max_two min_two max_three min_three max_four min_four   -- for this text's walks alone
set_option linter.unusedVariables false
set_option linter.unusedSimpArgs false

end Go.Proofs.Ytcepbgffnneagaa.Q
end

section
namespace Go.Proofs.Ytcepbgffnneagaa.Q
open Go.RowKit Go.Proofs.YtcepbgffnneagaaW.PrintWords Go.Proofs.YtcepbgffnneagaaW.PrintLast Go.Proofs.YtcepbgffnneagaaW.PrintMore
attribute [local go_sem] max2_int min2_int max_two min_two max_three min_three max_four min_four   -- for this text's walks alone
set_option linter.unusedVariables false
set_option linter.unusedSimpArgs false

def idxI {α : Type} (p : α → Bool) : List α → Nat → Int
  | [], _ => -1
  | x :: xs, i => if p x = true then (i : Int) else idxI p xs (i + 1)
theorem idxI_any {α : Type} (p : α → Bool) : ∀ (L : List α) (i : Nat), decide (idxI p L i ≥ 0) = L.any p
  | [], _ => by simp [idxI]
  | x :: xs, i => by
    rw [idxI, List.any_cons]
    by_cases h : p x = true
    · rw [if_pos h, h]; simp
    · rw [if_neg h, idxI_any p xs (i + 1)]; simp [Bool.eq_false_iff.2 h]

end Go.Proofs.Ytcepbgffnneagaa.Q
end

section
namespace Go.Proofs.Ytcepbgffnneagaa.Q
open Go.RowKit Go.Proofs.YtcepbgffnneagaaW.PrintWords Go.Proofs.YtcepbgffnneagaaW.PrintLast Go.Proofs.YtcepbgffnneagaaW.PrintMore
attribute [local go_sem] max2_int min2_int max_two min_two max_three min_three max_four min_four   -- for this text's walks alone
set_option linter.unusedVariables false
set_option linter.unusedSimpArgs false

theorem idxGraph_loop (cb : Int → Int → Option Bool) (p : S27 → Bool) (L : List S27) (hL : L.length ≤ 1048576) (hcb : ∀ x ∈ L, cb x.f0 x.f1 = some (p x)) : ∀ (d i k : Nat), i + d = L.length → d + 1 ≤ k → impl_Graph_166.l0 cb k L (L.length : Int) i = some (idxI p (L.drop i) i)
  | 0, i, k, hd, hk => by
    obtain ⟨k, rfl⟩ : ∃ q, k = q + 1 := ⟨k - 1, by omega⟩
    rw [impl_Graph_166.l0, if_neg (by omega), List.drop_eq_nil_of_le (by omega)]; rfl
  | d + 1, i, k, hd, hk => by
    obtain ⟨k, rfl⟩ : ∃ q, k = q + 1 := ⟨k - 1, by omega⟩
    have hi : i < L.length := by omega
    have hr : rd_T27 L (i : Int) = L[i] := by unfold rd_T27; exact getD_of_lt L _ hi
    rw [impl_Graph_166.l0]
    simp only [hr]
    rw [if_pos (by omega), if_pos (by omega), if_pos (by omega), hcb _ (List.getElem_mem hi), w64_succ (by omega), List.drop_eq_getElem_cons hi, idxI]
    simp only [Option.bind_some]
    split
    · rfl
    · exact idxGraph_loop cb p L hL hcb d (i + 1) k (by omega) (by omega)
theorem idxGraph_eq (cb : Int → Int → Option Bool) (p : S27 → Bool) (L : List S27) (hL : L.length ≤ 1048576) (hcb : ∀ x ∈ L, cb x.f0 x.f1 = some (p x)) (k : Nat) (hk : L.length + 1 ≤ k) : impl_Graph_166.f cb k L = some (idxI p L 0) := by
  unfold impl_Graph_166.f
  have := idxGraph_loop cb p L hL hcb L.length 0 k (Nat.zero_add _) hk
  rw [show ((0 : Nat) : Int) = 0 from rfl, List.drop_zero] at this
  exact this
theorem anyGraph_eq (cb : Int → Int → Option Bool) (p : S27 → Bool) (L : List S27) (hL : L.length ≤ 1048576) (hcb : ∀ x ∈ L, cb x.f0 x.f1 = some (p x)) (k : Nat) (hk : L.length + 1 ≤ k) : impl_Graph_157.f cb k L = some (L.any p) := by
  unfold impl_Graph_157.f
  rw [idxGraph_eq cb p L hL hcb k hk]
  simp only [Option.bind_some, idxI_any]

end Go.Proofs.Ytcepbgffnneagaa.Q
end

section
namespace Go.Proofs.Ytcepbgffnneagaa.Q
open Go.RowKit Go.Proofs.YtcepbgffnneagaaW.PrintWords Go.Proofs.YtcepbgffnneagaaW.PrintLast Go.Proofs.YtcepbgffnneagaaW.PrintMore
attribute [local go_sem] max2_int min2_int max_two min_two max_three min_three max_four min_four   -- for this text's walks alone
set_option linter.unusedVariables false
set_option linter.unusedSimpArgs false

theorem in_eq (a b c : Int) : impl_in.f a b c = some (decide (b ≤ a ∧ a ≤ c)) := by
  unfold impl_in.f
  by_cases h : a ≥ b
  · rw [if_pos h]; congr 1; rw [decide_eq_decide]; omega
  · rw [if_neg h]; congr 1; symm; rw [decide_eq_false_iff_not]; omega

end Go.Proofs.Ytcepbgffnneagaa.Q
end

section
namespace Go.Proofs.Ytcepbgffnneagaa.Q
open Go.RowKit Go.Proofs.YtcepbgffnneagaaW.PrintWords Go.Proofs.YtcepbgffnneagaaW.PrintLast Go.Proofs.YtcepbgffnneagaaW.PrintMore
attribute [local go_sem] max2_int min2_int max_two min_two max_three min_three max_four min_four   -- for this text's walks alone
set_option linter.unusedVariables false
set_option linter.unusedSimpArgs false

def validG (n e : Int) : Bool := decide (0 ≤ n ∧ n ≤ 5 ∧ e < 2 ^ (n.toNat * (n.toNat - 1) / 2))
end Go.Proofs.Ytcepbgffnneagaa.Q
end

section
namespace Go.Proofs.Ytcepbgffnneagaa.Q
open Go.RowKit Go.Proofs.YtcepbgffnneagaaW.PrintWords Go.Proofs.YtcepbgffnneagaaW.PrintLast Go.Proofs.YtcepbgffnneagaaW.PrintMore
attribute [local go_sem] max2_int min2_int max_two min_two max_three min_three max_four min_four   -- for this text's walks alone
set_option linter.unusedVariables false
set_option linter.unusedSimpArgs false

theorem ValidGraph_eq (n e : Int) (h0 : 0 ≤ e) (h1 : e ≤ 4294967295) : impl_ValidGraph.f n e = some (validG n e) := by
  unfold impl_ValidGraph.f validG
  rw [in_eq]; simp only [Option.bind_some]
  by_cases h : 0 ≤ n ∧ n ≤ 5
  · rw [if_pos (by simpa using h)]
    obtain ⟨ha, hb⟩ := h
    rcases small5 ha hb with rfl | rfl | rfl | rfl | rfl | rfl
    all_goals
      simp only [impl_pairs.f]
      simp [wrap64, shr, IntKind.bits]
    all_goals (first | done | (rw [Bool.eq_iff_iff]; simp; omega))
  · rw [if_neg (by simpa using h)]; congr 1; symm; rw [decide_eq_false_iff_not]; omega

end Go.Proofs.Ytcepbgffnneagaa.Q
end

section
namespace Go.Proofs.Ytcepbgffnneagaa.Q
open Go.RowKit Go.Proofs.YtcepbgffnneagaaW.PrintWords Go.Proofs.YtcepbgffnneagaaW.PrintLast Go.Proofs.YtcepbgffnneagaaW.PrintMore
attribute [local go_sem] max2_int min2_int max_two min_two max_three min_three max_four min_four   -- for this text's walks alone
set_option linter.unusedVariables false
set_option linter.unusedSimpArgs false

theorem andNot_iff (x y : BitVec 32) : x &&& ~~~ y = 0#32 ↔ x &&& y = x := by
  constructor
  · intro h
    ext i hi
    have := congrArg (fun z : BitVec 32 => z[i]) h
    simp only [BitVec.getElem_and, BitVec.getElem_not, BitVec.getElem_zero] at this ⊢
    revert this
    cases x[i] <;> cases y[i] <;> simp
  · intro h
    ext i hi
    have := congrArg (fun z : BitVec 32 => z[i]) h
    simp only [BitVec.getElem_and, BitVec.getElem_not, BitVec.getElem_zero] at this ⊢
    revert this
    cases x[i] <;> cases y[i] <;> simp
theorem part_bits {h : Int} (h0 : 0 ≤ h) (h1 : h ≤ 4294967295) (b : Int) : (Go.bits .andNot .u32 h b == 0) = decide (Go.bits .and .u32 h b = h) := by
  rw [bits_andNot32, bits_and32, Bool.eq_iff_iff, beq_iff_eq, decide_eq_true_eq]
  have hx : ((BitVec.ofInt 32 h).toNat : Int) = h := by rw [BitVec.toNat_ofInt]; omega
  generalize BitVec.ofInt 32 h = x at *
  generalize BitVec.ofInt 32 b = y
  rw [← hx]
  constructor
  · intro e
    have : x &&& ~~~ y = 0#32 := by apply BitVec.eq_of_toNat_eq; simpa using e
    rw [(andNot_iff x y).1 this]
  · intro e
    have : x &&& y = x := by apply BitVec.eq_of_toNat_eq; exact_mod_cast e
    rw [(andNot_iff x y).2 this]; rfl
theorem allDiff_wrap {n : Nat} (hn : n < 6) {l : List Int} (h : allDiff ((n : Int) - 1) l) : allDiff (wrap64 ((n : Int) - 1)) l := by
  rw [show wrap64 ((n : Int) - 1) = (n : Int) - 1 from by unfold wrap64; omega]; exact h
theorem part_loop (n : Nat) (hn : n < 6) (e m h : Int) : ∀ (ls : List (List Int)) (x : List Int) (k : Nat), isChain n (x :: ls) = true → (∀ l ∈ x :: ls, allDiff ((n : Int) - 1) l) → ls.length + 200 ≤ k →
    spec_l01Part.l0 k x true n e m h = some ((x :: ls).any fun l => decide (Go.bits .and .u32 h (onI e l) = h))
  | [], x, k, hc, hd, hk => by
    obtain ⟨k, rfl⟩ : ∃ q, k = q + 2 := ⟨k - 2, by omega⟩
    obtain ⟨y, hy⟩ := chain_one hc
    rw [spec_l01Part.l0, if_pos rfl, onS_diff n e (by omega) (by omega) (allDiff_wrap hn (hd x (List.mem_cons_self))) _ (by omega)]
    simp only [Option.bind_some, List.any_cons, List.any_nil, Bool.or_false]
    by_cases hb : Go.bits .and .u32 h (onI e x) = h
    · rw [if_pos hb, decide_eq_true hb]
    · rw [if_neg hb, decide_eq_false hb, hy _ (by omega)]
      simp only [Option.bind_some]
      rw [spec_l01Part.l0, if_neg (by simp)]
  | z :: ls, x, k, hc, hd, hk => by
    obtain ⟨k, rfl⟩ : ∃ q, k = q + 1 := ⟨k - 1, by omega⟩
    obtain ⟨h1, h2⟩ := chain_cons hc
    have hl : (z :: ls).length = ls.length + 1 := rfl
    rw [spec_l01Part.l0, if_pos rfl, onS_diff n e (by omega) (by omega) (allDiff_wrap hn (hd x (List.mem_cons_self))) _ (by omega)]
    simp only [Option.bind_some]
    rw [List.any_cons]
    by_cases hb : Go.bits .and .u32 h (onI e x) = h
    · rw [if_pos hb, decide_eq_true hb]; rfl
    · rw [if_neg hb, decide_eq_false hb, h1 _ (by omega)]
      simp only [Option.bind_some, Bool.false_or]
      exact part_loop n hn e m h ls z k h2 (fun l hl => hd l (List.mem_cons_of_mem _ hl)) (by omega)
theorem leaves_none : ∀ n, n < 6 → ∀ r, r < 6 → n < r → leaves n r [] = [] := by decide +kernel
theorem leaves_nodup : ∀ n, n < 6 → ∀ r, r < 6 → ∀ l ∈ leaves n r [], allDiff ((n : Int) - 1) l := by decide +kernel
theorem hasPart_eq (n m : Nat) (hn : n < 6) (hm : m < 6) (e h : Int) (h0 : 0 ≤ h) (h1 : h ≤ 4294967295) : impl_Graph_hasPart.f n e m h = some ((leaves n m []).any fun l => decide (Go.bits .and .u32 h (onI e l) = h)) := by
  unfold impl_Graph_hasPart.f impl_listed.f
  rw [if_pos (by simp; omega), lstd_eq]
  rw [runCb_any _ (fun l => decide (Go.bits .and .u32 h (onI e l) = h))]
  · simp
  · intro l hl
    simp only [Int.toNat_natCast, List.length_nil, Nat.sub_zero] at hl
    have hd := leaves_nodup n hn m hm l hl
    unfold impl_Graph_hasPart_1.f
    rw [impl_onT.eq n e (okList_diff (by omega) (by omega) (allDiff_wrap hn hd))]
    simp only [Option.bind_some]
    rw [part_bits h0 h1]
theorem l01Part_eq (n m : Nat) (hn : n < 6) (hm : m < 6) (e h : Int) (k : Nat) (hk : 1000 ≤ k) : spec_l01Part.f k n e m h = some ((leaves n m []).any fun l => decide (Go.bits .and .u32 h (onI e l) = h)) := by
  unfold spec_l01Part.f
  by_cases hmn : (m : Int) > n
  · rw [if_pos hmn, leaves_none n hn m hm (by omega)]; rfl
  · rw [if_neg hmn, firstS_eq m (by omega) (by omega) k (by omega)]
    simp only [Option.bind_some, Int.toNat_natCast]
    obtain ⟨hh, hc⟩ := chains n hn m (by omega)
    have hd := leaves_nodup n hn m hm
    have hlen : (leaves n m []).length ≤ 200 := (show ∀ n, n < 6 → ∀ m, m < 6 → (leaves n m []).length ≤ 200 from by decide +kernel) n hn m hm
    revert hh hc hd hlen
    generalize leaves n m [] = L
    intro hh hc hd hlen
    cases L with
    | nil => simp at hh
    | cons x ls =>
      obtain rfl : x = firstI m := by simpa using hh
      exact part_loop n hn e m h ls _ k hc hd (by simp only [List.length_cons] at hlen; omega)

end Go.Proofs.Ytcepbgffnneagaa.Q
end

section
namespace Go.Proofs.Ytcepbgffnneagaa.Q
open Go.RowKit Go.Proofs.YtcepbgffnneagaaW.PrintWords Go.Proofs.YtcepbgffnneagaaW.PrintLast Go.Proofs.YtcepbgffnneagaaW.PrintMore
attribute [local go_sem] max2_int min2_int max_two min_two max_three min_three max_four min_four   -- for this text's walks alone
set_option linter.unusedVariables false
set_option linter.unusedSimpArgs false

theorem rdG_nat (l : List S27) {i : Nat} (hi : i < l.length) : rd_T27 l (i : Int) = l[i] := by unfold rd_T27; exact getD_of_lt l _ hi

end Go.Proofs.Ytcepbgffnneagaa.Q
end

section
namespace Go.Proofs.Ytcepbgffnneagaa.Q
open Go.RowKit Go.Proofs.YtcepbgffnneagaaW.PrintWords Go.Proofs.YtcepbgffnneagaaW.PrintLast Go.Proofs.YtcepbgffnneagaaW.PrintMore
attribute [local go_sem] max2_int min2_int max_two min_two max_three min_three max_four min_four   -- for this text's walks alone
set_option linter.unusedVariables false
set_option linter.unusedSimpArgs false

theorem validG_nat {n e : Int} (h0 : 0 ≤ e) (h : validG n e = true) : ∃ (m f : Nat), n = m ∧ e = f ∧ m < 6 ∧ f < 2 ^ prs m := by
  simp only [validG, decide_eq_true_eq] at h
  refine ⟨n.toNat, e.toNat, by omega, by omega, by omega, ?_⟩
  have := h.2.2
  unfold prs
  have h2 : ((e.toNat : Nat) : Int) < ((2 ^ (n.toNat * (n.toNat - 1) / 2) : Nat) : Int) := by rw [Int.toNat_of_nonneg h0]; exact_mod_cast this
  exact_mod_cast h2

end Go.Proofs.Ytcepbgffnneagaa.Q
end

section
namespace Go.Proofs.Ytcepbgffnneagaa.Q
open Go.RowKit Go.Proofs.YtcepbgffnneagaaW.PrintWords Go.Proofs.YtcepbgffnneagaaW.PrintLast Go.Proofs.YtcepbgffnneagaaW.PrintMore
attribute [local go_sem] max2_int min2_int max_two min_two max_three min_three max_four min_four   -- for this text's walks alone
set_option linter.unusedVariables false
set_option linter.unusedSimpArgs false

def okGs (L : List S27) : Prop := ∀ x ∈ L, 0 ≤ x.f1 ∧ x.f1 ≤ 4294967295
def forb (L : List S27) : Int := if L.any (fun x => !validG x.f0 x.f1) = true then 1 else if (L.length : Int) > 6 then 3 else 0
theorem forbiddenOk_eq (L : List S27) (hL : L.length ≤ 1048576) (ho : okGs L) (k : Nat) (hk : L.length + 1 ≤ k) : impl_forbiddenOk.f k L = some (forb L) := by
  unfold impl_forbiddenOk.f
  rw [anyGraph_eq _ (fun x => !validG x.f0 x.f1) L hL (fun x hx => by unfold impl_badGraph.f; rw [ValidGraph_eq _ _ (ho x hx).1 (ho x hx).2]; rfl) k hk]
  simp only [Option.bind_some]
  unfold forb
  split
  · rfl
  · split <;> rfl
def partB (n : Nat) (e : Int) (x : S27) : Bool := (leaves n x.f0.toNat []).any fun l => decide (Go.bits .and .u32 x.f1 (onI e l) = x.f1)
theorem hasPart_x (n : Nat) (hn : n < 6) (e : Int) (x : S27) (hx : 0 ≤ x.f1 ∧ x.f1 ≤ 4294967295) (hv : validG x.f0 x.f1 = true) : impl_Graph_hasPart.f n e x.f0 x.f1 = some (partB n e x) ∧ ∀ k, 1000 ≤ k → spec_l01Part.f k n e x.f0 x.f1 = some (partB n e x) := by
  obtain ⟨m, f, e1, e2, hm, hf⟩ := validG_nat hx.1 hv
  unfold partB
  rw [e2] at hx
  rw [e1, e2, Int.toNat_natCast]
  exact ⟨hasPart_eq n m hn hm e f hx.1 hx.2, fun k hk => l01Part_eq n m hn hm e f k hk⟩
theorem free_eq (n : Nat) (hn : n < 6) (e : Int) (L : List S27) (ho : okGs L) (hL : L.length ≤ 6) (hv : ∀ x ∈ L, validG x.f0 x.f1 = true) (k : Nat) (hk : 20 ≤ k) : impl_Graph_free.f k n e L = some (!(L.any (partB n e))) := by
  unfold impl_Graph_free.f impl_Graph_157_of_impl_Graph_hasPart.f
  rw [anyGraph_eq _ (partB n e) L (by omega) (fun x hx => (hasPart_x n hn e x (ho x hx) (hv x hx)).1) k (by omega)]
  rfl
end Go.Proofs.Ytcepbgffnneagaa.Q
end

section
namespace Go.Proofs.Ytcepbgffnneagaa.Q
open Go.RowKit Go.Proofs.YtcepbgffnneagaaW.PrintWords Go.Proofs.YtcepbgffnneagaaW.PrintLast Go.Proofs.YtcepbgffnneagaaW.PrintMore
attribute [local go_sem] max2_int min2_int max_two min_two max_three min_three max_four min_four   -- for this text's walks alone
set_option linter.unusedVariables false
set_option linter.unusedSimpArgs false

theorem leasts_loop (cb : Int → Int → Option Bool) (p : Nat → Bool) (n s : Nat) (hn : n < 6) (hs : s < n + 1) (hcb : ∀ e : Nat, e < 2 ^ prs n → cb n e = some (p e)) : ∀ (d e k : Nat) (out : List S27), e + d = 2 ^ prs n → out.length ≤ e → d + 1 ≤ k →
    impl_leasts.l0 cb k n s out ((2 ^ prs n : Nat) : Int) e = some (out ++ gList n (fun e => p e && isLeastB n s e) d e)
  | 0, e, k, out, hd, ho, hk => by
    obtain ⟨k, rfl⟩ : ∃ q, k = q + 1 := ⟨k - 1, by omega⟩
    rw [impl_leasts.l0, if_neg (by omega), gList, List.append_nil]
  | d + 1, e, k, out, hd, ho, hk => by
    obtain ⟨k, rfl⟩ : ∃ q, k = q + 1 := ⟨k - 1, by omega⟩
    have hp := prs_le' n hn
    have he : ((e : Int) + 1) % 4294967296 = ((e + 1 : Nat) : Int) := by omega
    rw [impl_leasts.l0, if_pos (by omega), hcb e (by omega), he, gList]
    simp only [Option.bind_some]
    cases hpe : p e
    · simp only [Bool.false_eq_true, if_false, Bool.false_and]
      exact leasts_loop cb p n s hn hs hcb d (e + 1) k _ (by omega) (by omega) (by omega)
    · simp only [if_true, Bool.true_and, isLeast_eq n s hn hs e (fun l hl => (leaves_ok_s n hn s hs l hl).2), Option.bind_some]
      by_cases hl : isLeastB n s (e : Int) = true
      · rw [if_pos hl, if_pos hl, if_pos (by omega), leasts_loop cb p n s hn hs hcb d (e + 1) k _ (by omega) (by rw [List.length_append]; simp only [List.length_cons, List.length_nil]; omega) (by omega), List.append_assoc]; rfl
      · rw [if_neg hl, if_neg hl, leasts_loop cb p n s hn hs hcb d (e + 1) k _ (by omega) (by omega) (by omega)]
theorem leasts_eq (cb : Int → Int → Option Bool) (p : Nat → Bool) (n s : Nat) (hn : n < 6) (hs : s < n + 1) (hcb : ∀ e : Nat, e < 2 ^ prs n → cb n e = some (p e)) (k : Nat) (hk : 1100 ≤ k) : impl_leasts.f cb k n s = some (gList n (fun e => p e && isLeastB n s e) (2 ^ prs n) 0) := by
  have hb : impl_pairs.f (n : Int) = some ((prs n : Nat) : Int) := (show ∀ n : Nat, n < 6 → impl_pairs.f (n : Int) = some ((prs n : Nat) : Int) from by decide +kernel) n hn
  have hsh : shl .u32 1 ((prs n : Nat) : Int) = ((2 ^ prs n : Nat) : Int) := (show ∀ n : Nat, n < 6 → shl .u32 1 ((prs n : Nat) : Int) = ((2 ^ prs n : Nat) : Int) from by decide +kernel) n hn
  have hp := prs_le' n hn
  unfold impl_leasts.f
  rw [hb]
  simp only [Option.bind_some]
  rw [if_pos (by omega), hsh]
  have := leasts_loop cb p n s hn hs hcb (2 ^ prs n) 0 k [] (by omega) (by simp) (by omega)
  rw [show ((0 : Nat) : Int) = 0 from rfl] at this
  rw [this]; rfl
end Go.Proofs.Ytcepbgffnneagaa.Q
end

section
namespace Go.Proofs.Ytcepbgffnneagaa.Q
open Go.RowKit Go.Proofs.YtcepbgffnneagaaW.PrintWords Go.Proofs.YtcepbgffnneagaaW.PrintLast Go.Proofs.YtcepbgffnneagaaW.PrintMore
attribute [local go_sem] max2_int min2_int max_two min_two max_three min_three max_four min_four   -- for this text's walks alone
set_option linter.unusedVariables false
set_option linter.unusedSimpArgs false

theorem and_mod_all : ∀ s, s < 4 → ∀ e, e < 1024 → Go.bits .and .u32 ((e : Nat) : Int) ((((2 ^ prs s : Nat) : Int) - 1) % 4294967296) = ((e % 2 ^ prs s : Nat) : Int) := by decide +kernel
theorem prs_mono : ∀ n, n < 6 → ∀ s, s < n + 1 → prs s ≤ prs n := by decide
theorem gList_append (n : Nat) (ok : Nat → Bool) : ∀ a b e, gList n ok (a + b) e = gList n ok a e ++ gList n ok b (e + a)
  | 0, b, e => by rw [Nat.zero_add]; rfl
  | a + 1, b, e => by
    rw [show a + 1 + b = (a + b) + 1 from by omega, gList, gList, gList_append n ok a b (e + 1), show e + 1 + a = e + (a + 1) from by omega]
    split <;> rfl
theorem gBlock (n B t : Nat) (ht : t < B) (q : Nat → Bool) (hi : Nat) : ∀ d r, d + r = B → gList n (fun e => (e % B == t) && q e) d (hi * B + r) = if r ≤ t ∧ q (hi * B + t) = true then [⟨n, ((hi * B + t : Nat) : Int)⟩] else []
  | 0, r, h => by rw [gList, if_neg (by omega)]
  | d + 1, r, h => by
    have hm : (hi * B + r) % B = r := by rw [Nat.mul_comm, Nat.mul_add_mod, Nat.mod_eq_of_lt (by omega)]
    have ih := gBlock n B t ht q hi d (r + 1) (by omega)
    rw [gList, show hi * B + r + 1 = hi * B + (r + 1) from by omega, ih, hm]
    by_cases hrt : r = t
    · subst hrt
      rw [if_neg (show ¬ (r + 1 ≤ r ∧ q (hi * B + r) = true) by omega)]
      by_cases hq : q (hi * B + r) = true
      · rw [if_pos (by simp [hq]), if_pos ⟨Nat.le_refl _, hq⟩]
      · rw [if_neg (by simp [hq]), if_neg (fun a => hq a.2)]
    · rw [if_neg (by simp [hrt])]
      by_cases hlt : r + 1 ≤ t ∧ q (hi * B + t) = true
      · rw [if_pos hlt, if_pos ⟨by omega, hlt.2⟩]
      · rw [if_neg hlt, if_neg (fun a => hlt ⟨by omega, a.2⟩)]
def sList (n s t B : Nat) (q : Nat → Bool) : Nat → Nat → List S45
  | 0, _ => []
  | d + 1, hi => if q (hi * B + t) = true then ⟨s, ⟨n, ((hi * B + t : Nat) : Int)⟩⟩ :: sList n s t B q d (hi + 1) else sList n s t B q d (hi + 1)
def mkFl (s : Nat) (g : S27) : S45 := ⟨s, g⟩
theorem gList_sList (n s t B : Nat) (ht : t < B) (q : Nat → Bool) : ∀ D hi, (gList n (fun e => (e % B == t) && q e) (D * B) (hi * B)).map (mkFl s) = sList n s t B q D hi
  | 0, hi => by rw [Nat.zero_mul]; rfl
  | D + 1, hi => by
    have hb := gBlock n B t ht q hi B 0 (by omega)
    rw [Nat.add_zero] at hb
    rw [show (D + 1) * B = B + D * B from by rw [Nat.succ_mul]; omega, gList_append, List.map_append, hb, show hi * B + B = (hi + 1) * B from by rw [Nat.succ_mul], gList_sList n s t B ht q D (hi + 1), sList]
    by_cases hq : q (hi * B + t) = true
    · rw [if_pos ⟨Nat.zero_le _, hq⟩, if_pos hq]; rfl
    · rw [if_neg (fun a => hq a.2), if_neg hq]; rfl
theorem sList_length (n s t B : Nat) (q : Nat → Bool) : ∀ D hi, (sList n s t B q D hi).length ≤ D
  | 0, _ => Nat.le_refl _
  | D + 1, hi => by
    have := sList_length n s t B q D (hi + 1)
    rw [sList]; split
    · rw [List.length_cons]; omega
    · omega
theorem allFlagsI_loop (s : Nat) (a b : Int) (G : List S27) (hG : G.length ≤ 100000) : ∀ (d i k : Nat) (out : List S45), i + d = G.length → out.length ≤ i → d + 1 ≤ k →
    impl_allFlags.l0 k out G (G.length : Int) i s b = some (out ++ (G.drop i).map (mkFl s), decide (((out ++ (G.drop i).map (mkFl s)).length : Int) ≤ 64))
  | 0, i, k, out, hd, ho, hk => by
    obtain ⟨k, rfl⟩ : ∃ q, k = q + 1 := ⟨k - 1, by omega⟩
    rw [impl_allFlags.l0, if_neg (by omega), List.drop_eq_nil_of_le (by omega), List.map_nil, List.append_nil]
  | d + 1, i, k, out, hd, ho, hk => by
    obtain ⟨k, rfl⟩ : ∃ q, k = q + 1 := ⟨k - 1, by omega⟩
    have hi : i < G.length := by omega
    rw [impl_allFlags.l0, if_pos (by omega), if_pos (by omega), if_pos (by omega), if_pos (by omega), rdG_nat G hi, w64_succ (by omega)]
    rw [allFlagsI_loop s a b G hG d (i + 1) k _ (by omega) (by rw [List.length_append]; simp only [List.length_cons, List.length_nil]; omega) (by omega), List.append_assoc, List.drop_eq_getElem_cons hi, List.map_cons]
    rfl
def flagsL (n s t : Nat) (L : List S27) : List S45 := sList n s t (2 ^ prs s) (fun e => isLeastB n s e && !(L.any (partB n e))) (2 ^ (prs n - prs s)) 0
theorem allFlagsI_eq (n s t : Nat) (hn : n < 6) (hs : s < n + 1) (h3 : s < 4) (ht : t < 2 ^ prs s) (L : List S27) (ho : okGs L) (hL : L.length ≤ 6) (hv : ∀ x ∈ L, validG x.f0 x.f1 = true) (k : Nat) (hk : 3000 ≤ k) : impl_allFlags.f k s t n L = some (flagsL n s t L, decide (((flagsL n s t L).length : Int) ≤ 64)) := by
  have hb : impl_pairs.f (s : Int) = some ((prs s : Nat) : Int) := (show ∀ n : Nat, n < 6 → impl_pairs.f (n : Int) = some ((prs n : Nat) : Int) from by decide +kernel) s (by omega)
  have hsh : shl .u32 1 ((prs s : Nat) : Int) = ((2 ^ prs s : Nat) : Int) := (show ∀ n : Nat, n < 6 → shl .u32 1 ((prs n : Nat) : Int) = ((2 ^ prs n : Nat) : Int) from by decide +kernel) s (by omega)
  have hp := prs_le' n hn
  have hpm := prs_mono n hn s hs
  unfold impl_allFlags.f
  rw [hb]
  simp only [Option.bind_some]
  rw [if_pos (by omega), hsh]
  rw [leasts_eq _ (fun e => (e % 2 ^ prs s == t) && !(L.any (partB n e))) n s hn hs (fun e he => by
    refine impl_allFlags_1T.of (k := 30) _ _ _ _ _ _ ?_
    unfold impl_allFlags_1.f
    rw [and_mod_all s h3 e (by omega)]
    by_cases hm : e % 2 ^ prs s = t
    · rw [if_pos (by omega), free_eq n hn e L ho hL hv 30 (by omega), hm]; simp
    · rw [if_neg (by omega)]; simp [hm]) k (by omega)]
  simp only [Option.bind_some]
  have hgl := gList_length n (fun e => ((e % 2 ^ prs s == t) && !(L.any (partB n e))) && isLeastB n s e) (2 ^ prs n) 0
  have h := allFlagsI_loop s s t (gList n (fun e => ((e % 2 ^ prs s == t) && !(L.any (partB n e))) && isLeastB n s e) (2 ^ prs n) 0) (by omega) _ 0 k [] (Nat.zero_add _) (by simp) (by omega)
  rw [show ((0 : Nat) : Int) = 0 from rfl, List.drop_zero, List.nil_append] at h
  rw [h]
  have hfun : (fun e : Nat => ((e % 2 ^ prs s == t) && !(L.any (partB n e))) && isLeastB n s e) = fun e : Nat => (e % 2 ^ prs s == t) && (isLeastB n s e && !(L.any (partB n e))) := by
    funext e
    cases (e % 2 ^ prs s == t) <;> cases isLeastB n s e <;> cases L.any (partB n e) <;> rfl
  have hg := gList_sList n s t (2 ^ prs s) ht (fun e => isLeastB n s e && !(L.any (partB n e))) (2 ^ (prs n - prs s)) 0
  rw [Nat.zero_mul, ← Nat.pow_add, show prs n - prs s + prs s = prs n from by omega] at hg
  rw [hfun, hg]
  rfl

end Go.Proofs.Ytcepbgffnneagaa.Q
end

section
namespace Go.Proofs.Ytcepbgffnneagaa.Q
open Go.RowKit Go.Proofs.YtcepbgffnneagaaW.PrintWords Go.Proofs.YtcepbgffnneagaaW.PrintLast Go.Proofs.YtcepbgffnneagaaW.PrintMore
attribute [local go_sem] max2_int min2_int max_two min_two max_three min_three max_four min_four   -- for this text's walks alone
set_option linter.unusedVariables false
set_option linter.unusedSimpArgs false

def addRest (l : List Int) : Nat → Nat → List Int → List Int
  | 0, _, x => x
  | d + 1, i, x => addRest l d (i + 1) (if (i : Int) ∈ l then x else x ++ [(i : Int)])
theorem flagOf_loop (l : List Int) (hl : l.length ≤ 1048576) (n e : Int) : ∀ (d i k : Nat) (x : List Int), ((i + d : Nat) : Int) = n → i + d ≤ 5 → x.length + d ≤ 1048600 → d + l.length + 3 ≤ k → impl_flagOf.l0 k l x n i n e = (impl_onT.f n e (addRest l d i x)).bind fun bt => some ((l.length : Int), bt.1, bt.2)
  | 0, i, k, x, hd, h5, hx, hk => by
    obtain ⟨k, rfl⟩ : ∃ q, k = q + 1 := ⟨k - 1, by omega⟩
    rw [impl_flagOf.l0, if_neg (by omega)]; rfl
  | d + 1, i, k, x, hd, h5, hx, hk => by
    obtain ⟨k, rfl⟩ : ∃ q, k = q + 1 := ⟨k - 1, by omega⟩
    rw [impl_flagOf.l0, if_pos (by omega), contains_eq l hl i k (by omega), w64_succ (by omega)]
    simp only [Option.bind_some, decide_eq_true_eq, addRest]
    by_cases h : (i : Int) ∈ l
    · rw [if_pos h, if_pos h]
      exact flagOf_loop l hl n e d (i + 1) k x (by omega) (by omega) (by omega) (by omega)
    · rw [if_neg h, if_neg h, if_pos (by omega)]
      exact flagOf_loop l hl n e d (i + 1) k _ (by omega) (by omega) (by rw [List.length_append]; simp only [List.length_cons, List.length_nil]; omega) (by omega)
theorem addRest_diff (l : List Int) (m : Int) : ∀ (d i : Nat) (x : List Int), ((i + d : Nat) : Int) ≤ m + 1 → allDiff m x → (∀ y ∈ x, y ∈ l ∨ y < i) → allDiff m (addRest l d i x)
  | 0, i, x, _, h, _ => h
  | d + 1, i, x, hm, h, hy => by
    rw [addRest]
    by_cases hi : (i : Int) ∈ l
    · rw [if_pos hi]
      exact addRest_diff l m d (i + 1) x (by omega) h fun y a => (hy y a).imp id fun b => by omega
    · rw [if_neg hi]
      have hx : (i : Int) ∉ x := fun a => (hy _ a).elim hi (fun b => by omega)
      refine addRest_diff l m d (i + 1) _ (by omega) ⟨?_, fun y a => ?_⟩ fun y a => ?_
      · rw [List.nodup_append]
        refine ⟨h.1, by simp, fun a ha b hb => ?_⟩
        rw [List.mem_singleton] at hb
        subst hb
        exact fun e => hx (e ▸ ha)
      · rcases List.mem_append.1 a with a | a
        · exact h.2 y a
        · rw [List.mem_singleton] at a; subst a; omega
      · rcases List.mem_append.1 a with a | a
        · exact (hy y a).imp id fun b => by omega
        · rw [List.mem_singleton] at a; subst a; exact Or.inr (by omega)
/-- What the flag of a valid graph and of labels is. -/
theorem flagOf_impl {n : Int} (e : Int) (h0 : 0 ≤ n) (h5 : n ≤ 5) {l : List Int} (hd : allDiff (wrap64 (n - 1)) l) (k : Nat) (hk : 60 ≤ k) :
    impl_flagOf.f k n e l = some ((l.length : Int), ((addRest l n.toNat 0 l).length : Int), onI e (addRest l n.toNat 0 l)) := by
  have hl := allDiff_len h0 h5 hd
  have ha : allDiff (wrap64 (n - 1)) (addRest l n.toNat 0 l) := addRest_diff l _ n.toNat 0 l (by unfold wrap64; omega) hd fun y a => Or.inl a
  unfold impl_flagOf.f slices_Clone_int64_int64.f
  simp only [Option.bind_some, List.nil_append, List.length_nil]
  rw [if_pos (by omega)]
  simp only [Option.bind_some]
  have := flagOf_loop l (by omega) n e n.toNat 0 k l (by omega) (by omega) (by omega) (by omega)
  rw [show ((0 : Nat) : Int) = 0 from rfl] at this
  rw [this, impl_onT.eq n e (okList_diff h0 h5 ha)]; rfl

end Go.Proofs.Ytcepbgffnneagaa.Q
end

section
namespace Go.Proofs.Ytcepbgffnneagaa.Q
open Go.RowKit Go.Proofs.YtcepbgffnneagaaW.PrintWords Go.Proofs.YtcepbgffnneagaaW.PrintLast Go.Proofs.YtcepbgffnneagaaW.PrintMore
attribute [local go_sem] max2_int min2_int max_two min_two max_three min_three max_four min_four   -- for this text's walks alone
set_option linter.unusedVariables false
set_option linter.unusedSimpArgs false

end Go.Proofs.Ytcepbgffnneagaa.Q
end

section
namespace Go.Proofs.Ytcepbgffnneagaa.Q
open Go.RowKit Go.Proofs.YtcepbgffnneagaaW.PrintWords Go.Proofs.YtcepbgffnneagaaW.PrintLast Go.Proofs.YtcepbgffnneagaaW.PrintMore
attribute [local go_sem] max2_int min2_int max_two min_two max_three min_three max_four min_four   -- for this text's walks alone
set_option linter.unusedVariables false
set_option linter.unusedSimpArgs false

def validF (l n e : Int) : Bool := validG n e && decide (0 ≤ l ∧ l ≤ 3 ∧ l ≤ n)
end Go.Proofs.Ytcepbgffnneagaa.Q
end

section
namespace Go.Proofs.Ytcepbgffnneagaa.Q
open Go.RowKit Go.Proofs.YtcepbgffnneagaaW.PrintWords Go.Proofs.YtcepbgffnneagaaW.PrintLast Go.Proofs.YtcepbgffnneagaaW.PrintMore
attribute [local go_sem] max2_int min2_int max_two min_two max_three min_three max_four min_four   -- for this text's walks alone
set_option linter.unusedVariables false
set_option linter.unusedSimpArgs false

theorem ValidFlag_eq (l n e : Int) (h0 : 0 ≤ e) (h1 : e ≤ 4294967295) : impl_ValidFlag.f l n e = some (validF l n e) := by
  unfold impl_ValidFlag.f validF
  rw [ValidGraph_eq n e h0 h1, in_eq]; simp only [Option.bind_some]
  cases validG n e
  · rfl
  · by_cases h : 0 ≤ l ∧ l ≤ 3
    · rw [if_pos rfl, if_pos (by simpa using h)]; simp [h]
    · rw [if_pos rfl, if_neg (by simpa using h)]; congr 1; simp; omega

end Go.Proofs.Ytcepbgffnneagaa.Q
end

section
namespace Go.Proofs.Ytcepbgffnneagaa.Q
open Go.RowKit Go.Proofs.YtcepbgffnneagaaW.PrintWords Go.Proofs.YtcepbgffnneagaaW.PrintLast Go.Proofs.YtcepbgffnneagaaW.PrintMore
attribute [local go_sem] max2_int min2_int max_two min_two max_three min_three max_four min_four   -- for this text's walks alone
set_option linter.unusedVariables false
set_option linter.unusedSimpArgs false

theorem in_eq4 (a b c : Int) : impl_in.f a b c = some (decide (b ≤ a ∧ a ≤ c)) := by
  unfold impl_in.f
  by_cases h : a ≥ b
  · rw [if_pos h]; congr 1; rw [decide_eq_decide]; omega
  · rw [if_neg h]; congr 1; symm; rw [decide_eq_false_iff_not]; omega

end Go.Proofs.Ytcepbgffnneagaa.Q
end

section
namespace Go.Proofs.Ytcepbgffnneagaa.Q
open Go.RowKit Go.Proofs.YtcepbgffnneagaaW.PrintWords Go.Proofs.YtcepbgffnneagaaW.PrintLast Go.Proofs.YtcepbgffnneagaaW.PrintMore
attribute [local go_sem] max2_int min2_int max_two min_two max_three min_three max_four min_four   -- for this text's walks alone
set_option linter.unusedVariables false
set_option linter.unusedSimpArgs false

theorem lab_len : ∀ n, n < 6 → ∀ r, r < 4 → ∀ l ∈ leaves n r [], (addRest l n 0 l).length = n := by decide +kernel
theorem lab_flagI (n s : Nat) (hn : n < 6) (hs : s < n + 1) (h3 : s < 4) (e : Nat) (_he : e < 2 ^ prs n) {l : List Int} (hl : l ∈ leaves n s []) :
    ∃ m : Nat, m < 2 ^ prs n ∧ onI e (addRest l n 0 l) = m ∧ isOrd n (addRest l n 0 l) ∧ ∀ k, 60 ≤ k → impl_flagOf.f k n e l = some ((s : Int), (n : Int), (m : Int)) := by
  have h1 := leaves_ok n hn s hs l hl
  have h2 := lab_len n hn s h3 l hl
  have w1 : wrap64 ((n : Int) - 1) = (n : Int) - 1 := by unfold wrap64; omega
  have hd : allDiff (wrap64 ((n : Int) - 1)) l := by rw [w1]; exact h1.2
  have ho : isOrd n (addRest l n 0 l) := ⟨h2, addRest_diff l _ n 0 l (by omega) h1.2 fun y a => Or.inl a⟩
  obtain ⟨m, hm, e1, _⟩ := onI_nat n hn e ho
  refine ⟨m, hm, e1, ho, fun k hk => ?_⟩
  have h := flagOf_impl e (n := n) (by omega) (by omega) hd k hk
  rw [Int.toNat_natCast, h2, h1.1, e1] at h
  exact h
def labB (n s : Nat) (e : Int) (l : List Int) : Bool := leastE (onI e (addRest l n 0 l)) (leaves n (n - s) (firstI s)) (onI e (addRest l n 0 l)) == leastE e (leaves n (n - s) (firstI s)) e
def labE (n s : Nat) (e : Int) (L : List (List Int)) (many : Int) : Int := L.foldl (fun b l => if labB n s e l = true then wrap64 (b + 1) else b) many
theorem labelings_eq (n s : Nat) (hn : n < 6) (hs : s < n + 1) (h3 : s < 4) (e : Nat) (he : e < 2 ^ prs n) : impl_Flag_labelings.f s n e = some (labE n s e (leaves n s []) 0) := by
  unfold impl_Flag_labelings.f impl_listed.fs
  rw [if_pos (by simp only [List.length_nil]; omega), lstd_eq, Int.toNat_natCast, Int.toNat_natCast, List.length_nil, Nat.sub_zero]
  rw [runCb_fold _ (fun b l => if labB n s e l = true then wrap64 (b + 1) else b)]
  · rfl
  · intro l hl a
    obtain ⟨m, hm, e1, _, hk⟩ := lab_flagI n s hn hs h3 e he hl
    refine impl_Flag_labelings_1T.of (k := 60) _ _ _ _ _ ?_
    unfold impl_Flag_labelings_1.f
    rw [hk 60 (Nat.le_refl _)]
    simp only [Option.bind_some, impl_Flag_alike.f, if_true, alike_eq n s hn hs m e hm he]
    unfold labB
    rw [e1]
    split <;> rfl
-- the sum of a list of Booleans, counted by both
end Go.Proofs.Ytcepbgffnneagaa.Q
end

section
namespace Go.Proofs.Ytcepbgffnneagaa.Q
open Go.RowKit Go.Proofs.YtcepbgffnneagaaW.PrintWords Go.Proofs.YtcepbgffnneagaaW.PrintLast Go.Proofs.YtcepbgffnneagaaW.PrintMore
attribute [local go_sem] max2_int min2_int max_two min_two max_three min_three max_four min_four   -- for this text's walks alone
set_option linter.unusedVariables false
set_option linter.unusedSimpArgs false

def labP (n s : Nat) (f : S45) : Int × Int := (leastE f.f1.f1 (leaves n n []) f.f1.f1, labE n s f.f1.f1 (leaves n s []) 0)
def labT (n s : Nat) : List (Int × Int) := ((List.range (2 ^ prs s)).flatMap fun t => flagsL n s t []).map (labP n s)
def labSum (T : List (Int × Int)) (m x : Int) : Int := T.foldl (fun x p => if p.1 == m then wrap64 (x + p.2) else x) x
def dueG (n : Int) : Nat → Nat → Int → Int
  | 0, _, x => x
  | d + 1, i, x => dueG n d (i + 1) (wrap64 (x * (wrap64 (n - (i : Int)))))
def labOk (n s : Nat) (T : List (Int × Int)) : Bool := T.all (fun p => decide (1 ≤ p.2)) && (List.range (2 ^ prs n)).all fun m => !(isLeastB n 0 (m : Int)) || labSum T (m : Int) 0 == dueG n s 0 1
theorem lab_all : ∀ n : Nat, n < 5 → ∀ s : Nat, s < 4 → (n < s ∨ labOk n s (labT n s) = true) := by decide +kernel

end Go.Proofs.Ytcepbgffnneagaa.Q
end

section
namespace Go.Proofs.Ytcepbgffnneagaa.Q
open Go.RowKit Go.Proofs.YtcepbgffnneagaaW.PrintWords Go.Proofs.YtcepbgffnneagaaW.PrintLast Go.Proofs.YtcepbgffnneagaaW.PrintMore
attribute [local go_sem] max2_int min2_int max_two min_two max_three min_three max_four min_four   -- for this text's walks alone
set_option linter.unusedVariables false
set_option linter.unusedSimpArgs false

theorem least_at (n : Nat) (hn : n < 6) (e : Nat) (he : e < 2 ^ prs n) : ∃ l ∈ leaves n n [], leastE e (leaves n n []) e = onI e l := by
  have fm := first_mem n hn 0 (by omega)
  rw [show firstI 0 = [] from rfl, Nat.sub_zero] at fm
  rcases leastE_mem e (leaves n n []) e with h1 | h1
  · exact ⟨firstI n, fm, by rw [h1, onI_first n hn e he]⟩
  · exact h1
theorem least_least (n : Nat) (hn : n < 6) (e : Nat) (he : e < 2 ^ prs n) : ∃ m : Nat, m < 2 ^ prs n ∧ leastE e (leaves n n []) e = m ∧ isLeastB n 0 m = true := by
  have h0 := leaves_ok_s n hn 0 (by omega)
  have cm : ∀ {l p : List Int}, l ∈ leaves n (n - 0) (firstI 0) → p ∈ leaves n (n - 0) (firstI 0) → comp l p ∈ leaves n (n - 0) (firstI 0) := fun hl hp => comp_mem n 0 hn (by omega) hl hp
  obtain ⟨l, hl, e1⟩ := least_at n hn e he
  unfold isLeastB
  rw [show firstI 0 = [] from rfl, Nat.sub_zero] at *
  obtain ⟨m, hm, e2, _⟩ := onI_nat n hn e (h0 l hl)
  refine ⟨m, hm, by rw [e1, e2], ?_⟩
  rw [Bool.not_eq_true', List.any_eq_false]
  intro p hp
  rw [decide_eq_true_eq, ← e2, onI_comp n hn e (h0 l hl) (h0 p hp)]
  have := (leastE_le e (leaves n n []) e).2 _ (cm hl hp)
  omega
/-- What the least graph of a graph that is alike is. -/
theorem least_of_on (n : Nat) (hn : n < 6) (e h : Nat) (he : e < 2 ^ prs n) (hh : h < 2 ^ prs n) {p : List Int} (hp : p ∈ leaves n n []) (e1 : onI e p = h) : leastE h (leaves n n []) h = leastE e (leaves n n []) e := by
  have := (alike_iff n 0 hn (by omega) e h he hh).1
  rw [show firstI 0 = [] from rfl, Nat.sub_zero] at this
  exact (this ⟨p, hp, e1⟩).symm
end Go.Proofs.Ytcepbgffnneagaa.Q
end

section
namespace Go.Proofs.Ytcepbgffnneagaa.Q
open Go.RowKit Go.Proofs.YtcepbgffnneagaaW.PrintWords Go.Proofs.YtcepbgffnneagaaW.PrintLast Go.Proofs.YtcepbgffnneagaaW.PrintMore
attribute [local go_sem] max2_int min2_int max_two min_two max_three min_three max_four min_four   -- for this text's walks alone
set_option linter.unusedVariables false
set_option linter.unusedSimpArgs false

theorem plain_all : ∀ n, n < 6 → (addRest [] n 0 []).length = n ∧ ∀ e, e < 2 ^ prs n → onI (e : Nat) (addRest [] n 0 []) = (e : Nat) := by decide +kernel

end Go.Proofs.Ytcepbgffnneagaa.Q
end

section
namespace Go.Proofs.Ytcepbgffnneagaa.Q
open Go.RowKit Go.Proofs.YtcepbgffnneagaaW.PrintWords Go.Proofs.YtcepbgffnneagaaW.PrintLast Go.Proofs.YtcepbgffnneagaaW.PrintMore
attribute [local go_sem] max2_int min2_int max_two min_two max_three min_three max_four min_four   -- for this text's walks alone
set_option linter.unusedVariables false
set_option linter.unusedSimpArgs false

theorem set_mem {n k : Nat} {l : List Int} (hl : l.length = k) (hd : allDiff ((n : Int) - 1) l) : l ∈ leaves n k [] := by
  have := mem_leaves n k [] l hl (by rw [List.nil_append]; exact hd.1) (fun x hx => by have := hd.2 x hx; omega)
  rwa [List.nil_append] at this
end Go.Proofs.Ytcepbgffnneagaa.Q
end

section
namespace Go.Proofs.Ytcepbgffnneagaa.Q
open Go.RowKit Go.Proofs.YtcepbgffnneagaaW.PrintWords Go.Proofs.YtcepbgffnneagaaW.PrintLast Go.Proofs.YtcepbgffnneagaaW.PrintMore
attribute [local go_sem] max2_int min2_int max_two min_two max_three min_three max_four min_four   -- for this text's walks alone
set_option linter.unusedVariables false
set_option linter.unusedSimpArgs false

end Go.Proofs.Ytcepbgffnneagaa.Q
end

section
namespace Go.Proofs.Ytcepbgffnneagaa.Q
open Go.RowKit Go.Proofs.YtcepbgffnneagaaW.PrintWords Go.Proofs.YtcepbgffnneagaaW.PrintLast Go.Proofs.YtcepbgffnneagaaW.PrintMore
attribute [local go_sem] max2_int min2_int max_two min_two max_three min_three max_four min_four   -- for this text's walks alone
set_option linter.unusedVariables false
set_option linter.unusedSimpArgs false

theorem validG_small : ∀ n : Nat, n < 6 → ∀ a : Nat, a < 2 ^ prs n → validG (n : Int) (a : Int) = true := by decide +kernel
end Go.Proofs.Ytcepbgffnneagaa.Q
end

section
namespace Go.Proofs.Ytcepbgffnneagaa.Q
open Go.RowKit Go.Proofs.YtcepbgffnneagaaW.PrintWords Go.Proofs.YtcepbgffnneagaaW.PrintLast Go.Proofs.YtcepbgffnneagaaW.PrintMore
attribute [local go_sem] max2_int min2_int max_two min_two max_three min_three max_four min_four   -- for this text's walks alone
set_option linter.unusedVariables false
set_option linter.unusedSimpArgs false

def turnE (n s : Nat) (b : Int) (t : List Int) : Int := leastE (onI b (addRest t n 0 t)) (leaves n (n - s) (firstI s)) (onI b (addRest t n 0 t))
def invG (t : List Int) : Nat → Nat → List Int → List Int
  | 0, _, X => X
  | d + 1, i, X => invG t d (i + 1) (X.set (rd t (i : Int)).toNat (i : Int))
theorem inv_all : ∀ s : Nat, s < 4 → ∀ t ∈ leaves s s [], invG t s 0 (List.replicate s 0) ∈ leaves s s [] := by decide +kernel
theorem turn_back : ∀ n : Nat, n < 5 → ∀ s : Nat, s < 4 → (n < s ∨ ∀ t ∈ leaves s s [], ∀ b : Nat, b < 2 ^ prs n → turnE n s (turnE n s b t) (invG t s 0 (List.replicate s 0)) = leastE b (leaves n (n - s) (firstI s)) b) := by decide +kernel
theorem turn_nat (n s : Nat) (hn : n < 6) (hs : s < n + 1) (b : Nat) (hb : b < 2 ^ prs n) : ∃ u : Nat, u < 2 ^ prs n ∧ leastE b (leaves n (n - s) (firstI s)) b = u := by
  rcases leastE_mem b (leaves n (n - s) (firstI s)) b with h | ⟨l, hl, h⟩
  · exact ⟨b, hb, h⟩
  · obtain ⟨u, hu, eu, _⟩ := onI_nat n hn b (leaves_ok_s n hn s hs l hl)
    exact ⟨u, hu, by rw [h, eu]⟩

end Go.Proofs.Ytcepbgffnneagaa.Q
end

section
namespace Go.Proofs.Ytcepbgffnneagaa.Q
open Go.RowKit Go.Proofs.YtcepbgffnneagaaW.PrintWords Go.Proofs.YtcepbgffnneagaaW.PrintLast Go.Proofs.YtcepbgffnneagaaW.PrintMore
attribute [local go_sem] max2_int min2_int max_two min_two max_three min_three max_four min_four   -- for this text's walks alone
set_option linter.unusedVariables false
set_option linter.unusedSimpArgs false

def typesL (n : Nat) (L : List S27) : List S27 := gList n (fun e => !(L.any (partB n e))) (2 ^ prs n) 0
theorem typesI_loop (n : Nat) (hn : n < 6) (L : List S27) (ho : okGs L) (hL : L.length ≤ 6) (hv : ∀ x ∈ L, validG x.f0 x.f1 = true) : ∀ (d e k : Nat) (out : List S27), e + d = 2 ^ prs n → out.length ≤ e → d + 30 ≤ k →
    impl_AllTypes.l0 k n L out ((2 ^ prs n : Nat) : Int) e = some (out ++ gList n (fun e => !(L.any (partB n e))) d e, 0)
  | 0, e, k, out, hd, ho2, hk => by
    obtain ⟨k, rfl⟩ : ∃ q, k = q + 1 := ⟨k - 1, by omega⟩
    rw [impl_AllTypes.l0, if_neg (by omega), gList, List.append_nil]
  | d + 1, e, k, out, hd, ho2, hk => by
    obtain ⟨k, rfl⟩ : ∃ q, k = q + 1 := ⟨k - 1, by omega⟩
    have hp := prs_le' n hn
    have he : ((e : Int) + 1) % 4294967296 = ((e + 1 : Nat) : Int) := by omega
    rw [impl_AllTypes.l0, if_pos (by omega), free_eq n hn e L ho hL hv k (by omega), he, gList]
    simp only [Option.bind_some]
    cases hpe : (!(L.any (partB n (e : Int))))
    · simp only [Bool.false_eq_true, if_false]
      exact typesI_loop n hn L ho hL hv d (e + 1) k _ (by omega) (by omega) (by omega)
    · simp only [if_true]
      rw [if_pos (by omega), typesI_loop n hn L ho hL hv d (e + 1) k _ (by omega) (by rw [List.length_append]; simp only [List.length_cons, List.length_nil]; omega) (by omega), List.append_assoc]; rfl

end Go.Proofs.Ytcepbgffnneagaa.Q
end
