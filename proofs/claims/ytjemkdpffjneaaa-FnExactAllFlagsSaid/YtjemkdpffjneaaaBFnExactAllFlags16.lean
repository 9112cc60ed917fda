/- Contracts of Go functions and plain lemmas over what they compute; printed by the kit's print program or written by hand, joined. -/
import Derived.Test.YtjemkdpffjneaaaBFnExactAllFlags3
import Derived.Test.YtjemkdpffjneaaaBFnExactAllFlags4
import Derived.Test.YtjemkdpffjneaaaBFnExactAllFlags5
import Derived.Test.YtjemkdpffjneaaaBFnExactAllFlags6
import Derived.Test.YtjemkdpffjneaaaBFnExactAllFlags10
import Derived.Test.YtjemkdpffjneaaaBFnExactAllFlags11
import Derived.Test.YtjemkdpffjneaaaBFnExactAllFlags12
import Derived.Test.YtjemkdpffjneaaaBFnExactAllFlags8
import Derived.Test.YtjemkdpffjneaaaBFnExactAllFlags7
import Derived.Test.YtjemkdpffjneaaaBFnExactAllFlags9
import Derived.Test.YtjemkdpffjneaaaBFnExactAllFlags13
import Derived.Test.YtjemkdpffjneaaaBFnExactAllFlags14
import Derived.Test.YtjemkdpffjneaaaBFnExactAllFlags15
import Derived.Test.YtjemkdpffjneaaaBFnExactAllFlags2
import Derived.WalkKit
import Derived.ProofKit
import Derived.OpenShut
import Derived.ChangeOld
import Derived.Deep.Slices
section
namespace Go.Proofs.Ytjemkdpffjneaaa.Q
open Go.RowKit Go.Proofs.YtjemkdpffjneaaaW.PrintWords Go.Proofs.YtjemkdpffjneaaaW.PrintLast Go.Proofs.YtjemkdpffjneaaaW.PrintMore
attribute [local go_sem] max2_int min2_int max_two min_two max_three min_three max_four min_four   -- for this text's walks alone
set_option linter.unusedVariables false
set_option linter.unusedSimpArgs false

end Go.Proofs.Ytjemkdpffjneaaa.Q
end

section
namespace Go.Proofs.Ytjemkdpffjneaaa.Q
open Go.RowKit Go.Proofs.YtjemkdpffjneaaaW.PrintWords Go.Proofs.YtjemkdpffjneaaaW.PrintLast Go.Proofs.YtjemkdpffjneaaaW.PrintMore
attribute [local go_sem] max2_int min2_int max_two min_two max_three min_three max_four min_four   -- for this text's walks alone
set_option linter.unusedVariables false
set_option linter.unusedSimpArgs false

end Go.Proofs.Ytjemkdpffjneaaa.Q
end

section
namespace Go.Proofs.Ytjemkdpffjneaaa.Q
open Go.RowKit Go.Proofs.YtjemkdpffjneaaaW.PrintWords Go.Proofs.YtjemkdpffjneaaaW.PrintLast Go.Proofs.YtjemkdpffjneaaaW.PrintMore
attribute [local go_sem] max2_int min2_int max_two min_two max_three min_three max_four min_four   -- for this text's walks alone
set_option linter.unusedVariables false
set_option linter.unusedSimpArgs false

/-- All numbers of the list lie in 0 .. m and none occurs twice. -/
def allDiff (m : Int) (l : List Int) : Prop := l.Nodup ∧ ∀ x ∈ l, 0 ≤ x ∧ x ≤ m
instance (m : Int) (l : List Int) : Decidable (allDiff m l) := by unfold allDiff; infer_instance
end Go.Proofs.Ytjemkdpffjneaaa.Q
end

section
namespace Go.Proofs.Ytjemkdpffjneaaa.Q
open Go.RowKit Go.Proofs.YtjemkdpffjneaaaW.PrintWords Go.Proofs.YtjemkdpffjneaaaW.PrintLast Go.Proofs.YtjemkdpffjneaaaW.PrintMore
attribute [local go_sem] max2_int min2_int max_two min_two max_three min_three max_four min_four   -- for this text's walks alone
set_option linter.unusedVariables false
set_option linter.unusedSimpArgs false

def leavesIn (g : List Int → List (List Int)) (l : List Int) : Nat → Nat → List (List Int)
  | 0, _ => []
  | d + 1, i => if (i : Int) ∈ l then leavesIn g l d (i + 1) else g (l ++ [(i : Int)]) ++ leavesIn g l d (i + 1)
/-- All lists of different numbers below n that go on from l by r places, in order. -/
def leaves (n : Nat) : Nat → List Int → List (List Int)
  | 0, l => [l]
  | r + 1, l => leavesIn (leaves n r) l n 0
def runCb {σ : Type} (cb : List Int → σ → Option (Bool × σ)) : List (List Int) → σ → Option (Bool × σ)
  | [], a => some (false, a)
  | l :: ls, a => (cb l a).bind fun p => if p.1 = true then some (true, p.2) else runCb cb ls p.2
theorem runCb_append {σ : Type} (cb : List Int → σ → Option (Bool × σ)) (y : List (List Int)) : ∀ (x : List (List Int)) (a : σ), runCb cb (x ++ y) a = (runCb cb x a).bind fun p => if p.1 = true then some (true, p.2) else runCb cb y p.2
  | [], a => rfl
  | l :: ls, a => by
    simp only [List.cons_append, runCb]
    cases h : cb l a with
    | none => rfl
    | some p =>
      simp only [Option.bind_some]
      by_cases hp : p.1 = true
      · rw [if_pos hp, if_pos hp]; rfl
      · rw [if_neg hp, if_neg hp]; exact runCb_append cb y ls p.2
theorem lstdIn_eq {σ : Type} (cb : List Int → σ → Option (Bool × σ)) (f : List Int → σ → Option (Bool × σ)) (g : List Int → List (List Int)) (hf : ∀ l a, f l a = runCb cb (g l) a) (l : List Int) : ∀ (d i : Nat) (a : σ), lstdIn f l d i a = runCb cb (leavesIn g l d i) a
  | 0, _, _ => rfl
  | d + 1, i, a => by
    rw [lstdIn, leavesIn]
    by_cases h : (i : Int) ∈ l
    · rw [if_pos h, if_pos h]; exact lstdIn_eq cb f g hf l d (i + 1) a
    · rw [if_neg h, if_neg h, runCb_append, hf]
      congr 1
      funext p
      by_cases hp : p.1 = true
      · rw [if_pos hp, if_pos hp]
      · rw [if_neg hp, if_neg hp]; exact lstdIn_eq cb f g hf l d (i + 1) p.2
theorem lstd_eq {σ : Type} (cb : List Int → σ → Option (Bool × σ)) (n : Nat) : ∀ (r : Nat) (l : List Int) (a : σ), lstd cb n r l a = runCb cb (leaves n r l) a
  | 0, l, a => by
    simp only [lstd, leaves, runCb]
    cases cb l a with
    | none => rfl
    | some p =>
      obtain ⟨b, a'⟩ := p
      cases b <;> rfl
  | r + 1, l, a => by
    rw [lstd, leaves]
    exact lstdIn_eq cb _ _ (fun l a => lstd_eq cb n r l a) l n 0 a
/-- A callback that only looks. -/
theorem runCb_any (cb : List Int → Option Bool) (p : List Int → Bool) : ∀ (L : List (List Int)), (∀ l ∈ L, cb l = some (p l)) → runCb (fun l (_ : Unit) => (cb l).map fun b => (b, ())) L () = some (L.any p, ())
  | [], _ => rfl
  | l :: ls, h => by
    simp only [runCb, h l (List.mem_cons_self), Option.map_some, Option.bind_some, List.any_cons]
    cases hp : p l
    · simp only [Bool.false_eq_true, if_false, Bool.false_or]
      exact runCb_any cb p ls fun x hx => h x (List.mem_cons_of_mem _ hx)
    · simp
end Go.Proofs.Ytjemkdpffjneaaa.Q
end

section
namespace Go.Proofs.Ytjemkdpffjneaaa.Q
open Go.RowKit Go.Proofs.YtjemkdpffjneaaaW.PrintWords Go.Proofs.YtjemkdpffjneaaaW.PrintLast Go.Proofs.YtjemkdpffjneaaaW.PrintMore
attribute [local go_sem] max2_int min2_int max_two min_two max_three min_three max_four min_four   -- for this text's walks alone
set_option linter.unusedVariables false
set_option linter.unusedSimpArgs false

def isChain (n : Int) : List (List Int) → Bool
  | [] => true
  | x :: ls => match ls with
    | [] => match spec_l01Next.f 100 x n with | some (false, _) => true | _ => false
    | y :: _ => decide (spec_l01Next.f 100 x n = some (true, y)) && isChain n ls
theorem chains : ∀ n, n < 6 → ∀ r, r < n + 1 → (leaves n r []).head? = some (firstI r) ∧ isChain n (leaves n r []) = true := by decide +kernel
theorem next_ge {x : List Int} {n : Int} {p : Bool × List Int} (h : spec_l01Next.f 100 x n = some p) (k : Nat) (hk : 100 ≤ k) : spec_l01Next.f k x n = some p :=
  LeO_ge (F := fun k => spec_l01Next.f k x n) (fun k => spec_l01Next.mono x n k) hk _ h
theorem chain_one {n : Int} {x : List Int} (h : isChain n [x] = true) : ∃ y, ∀ k, 100 ≤ k → spec_l01Next.f k x n = some (false, y) := by
  simp only [isChain] at h
  split at h
  · next y e => exact ⟨y, fun k hk => next_ge e k hk⟩
  · cases h
theorem chain_cons {n : Int} {x y : List Int} {ls : List (List Int)} (h : isChain n (x :: y :: ls) = true) : (∀ k, 100 ≤ k → spec_l01Next.f k x n = some (true, y)) ∧ isChain n (y :: ls) = true := by
  rw [isChain] at h
  simp only [Bool.and_eq_true, decide_eq_true_eq] at h
  exact ⟨fun k hk => next_ge h.1 k hk, h.2⟩
theorem leaves_short : ∀ n, n < 6 → ∀ r, r < n + 1 → (leaves n r []).length ≤ 200 := by decide +kernel

end Go.Proofs.Ytjemkdpffjneaaa.Q
end

section
namespace Go.Proofs.Ytjemkdpffjneaaa.Q
open Go.RowKit Go.Proofs.YtjemkdpffjneaaaW.PrintWords Go.Proofs.YtjemkdpffjneaaaW.PrintLast Go.Proofs.YtjemkdpffjneaaaW.PrintMore
attribute [local go_sem] max2_int min2_int max_two min_two max_three min_three max_four min_four   -- for this text's walks alone
set_option linter.unusedVariables false
set_option linter.unusedSimpArgs false

theorem allDiff_len {n : Int} (h0 : 0 ≤ n) (h5 : n ≤ 5) {l : List Int} (h : allDiff (wrap64 (n - 1)) l) : l.length ≤ n.toNat ∧ ∀ x ∈ l, 0 ≤ x ∧ x < n := by
  have hw : wrap64 (n - 1) = n - 1 := by unfold wrap64; omega
  rw [hw] at h
  have h2 : ∀ x ∈ l, 0 ≤ x ∧ x < n := fun x hx => by have := h.2 x hx; omega
  exact ⟨pigeon n.toNat l h.1 fun x hx => by have := h2 x hx; omega, h2⟩

end Go.Proofs.Ytjemkdpffjneaaa.Q
end

section
namespace Go.Proofs.Ytjemkdpffjneaaa.Q
open Go.RowKit Go.Proofs.YtjemkdpffjneaaaW.PrintWords Go.Proofs.YtjemkdpffjneaaaW.PrintLast Go.Proofs.YtjemkdpffjneaaaW.PrintMore
attribute [local go_sem] max2_int min2_int max_two min_two max_three min_three max_four min_four   -- for this text's walks alone
set_option linter.unusedVariables false
set_option linter.unusedSimpArgs false

theorem l01Bit_eq (k : Nat) {i j : Int} (i0 : 0 ≤ i) (i4 : i ≤ 4) (j0 : 0 ≤ j) (j4 : j ≤ 4) : spec_l01Bit.f (k + 2) i j = some (bitI i j) := by
  rcases small4 i0 i4 with rfl | rfl | rfl | rfl | rfl <;> rcases small4 j0 j4 with rfl | rfl | rfl | rfl | rfl <;> kernel_rfl

end Go.Proofs.Ytjemkdpffjneaaa.Q
end

section
namespace Go.Proofs.Ytjemkdpffjneaaa.Q
open Go.RowKit Go.Proofs.YtjemkdpffjneaaaW.PrintWords Go.Proofs.YtjemkdpffjneaaaW.PrintLast Go.Proofs.YtjemkdpffjneaaaW.PrintMore
attribute [local go_sem] max2_int min2_int max_two min_two max_three min_three max_four min_four   -- for this text's walks alone
set_option linter.unusedVariables false
set_option linter.unusedSimpArgs false

theorem joined_eq (k : Nat) (n e : Int) {i j : Int} (i0 : 0 ≤ i) (i4 : i ≤ 4) (j0 : 0 ≤ j) (j4 : j ≤ 4) (hij : i ≠ j) : spec_l01Joined.f (k + 2) n e i j = some (hasI e i j) := by
  unfold spec_l01Joined.f hasI
  rw [if_neg hij, l01Bit_eq k i0 i4 j0 j4]; rfl
theorem l01Bit_ge {k : Nat} (hk : 2 ≤ k) {i j : Int} (i0 : 0 ≤ i) (i4 : i ≤ 4) (j0 : 0 ≤ j) (j4 : j ≤ 4) : spec_l01Bit.f k i j = some (bitI i j) := by
  obtain ⟨q, rfl⟩ : ∃ q, k = q + 2 := ⟨k - 2, by omega⟩
  exact l01Bit_eq q i0 i4 j0 j4
theorem joined_ge {k : Nat} (hk : 2 ≤ k) (n e : Int) {i j : Int} (i0 : 0 ≤ i) (i4 : i ≤ 4) (j0 : 0 ≤ j) (j4 : j ≤ 4) (hij : i ≠ j) : spec_l01Joined.f k n e i j = some (hasI e i j) := by
  obtain ⟨q, rfl⟩ : ∃ q, k = q + 2 := ⟨k - 2, by omega⟩
  exact joined_eq q n e i0 i4 j0 j4 hij
theorem onS_row {l : List Int} {j : Nat} (n e0 : Int) (h5 : l.length ≤ 5) (h : ∀ i : Nat, i < l.length → 0 ≤ rd l i ∧ rd l i ≤ 4) (hne : ∀ i j : Nat, i < j → j < l.length → rd l i ≠ rd l j) (hj : j < l.length) (N : Int) :
    ∀ (d i : Nat) (e : Int) (k : Nat), i + d = j → d + 3 ≤ k → spec_l01On.l1 k l j i n e0 N e = spec_l01On.l0 (k - (d + 1)) l ((j + 1 : Nat) : Int) n e0 N (loopRow (fun i j => hasI e0 (rd l i) (rd l j)) j d i e)
  | 0, i, e, k, hd, hk => by
    have : i = j := by omega
    subst this
    obtain ⟨k, rfl⟩ : ∃ m, k = m + 1 := ⟨k - 1, by omega⟩
    simp only [spec_l01On.l1, loopRow]
    rw [if_neg (by omega), show wrap64 ((i : Int) + 1) = ((i + 1 : Nat) : Int) from by unfold wrap64; omega]; rfl
  | d + 1, i, e, k, hd, hk => by
    have hw : wrap64 ((i : Int) + 1) = ((i + 1 : Nat) : Int) := by unfold wrap64; omega
    have hi := h i (by omega)
    have hj' := h j hj
    obtain ⟨k, rfl⟩ : ∃ m, k = m + 1 := ⟨k - 1, by omega⟩
    simp only [spec_l01On.l1, loopRow]
    rw [if_pos (by omega), if_pos (by omega), if_pos (by omega), if_pos (by omega), if_pos (by omega), joined_ge (by omega) n e0 hi.1 hi.2 hj'.1 hj'.2 (hne i j (by omega) hj), hw, show k + 1 - (d + 1 + 1) = k - (d + 1) from by omega]
    simp only [Option.bind_some]
    by_cases hb : hasI e0 (rd l i) (rd l j) = true
    rotate_left
    · rw [if_neg hb, if_neg hb]
      exact onS_row n e0 h5 h hne hj N d (i + 1) e k (by omega) (by omega)
    · rw [if_pos hb, if_pos hb, l01Bit_ge (by omega) (by omega) (by omega) (by omega) (by omega)]
      simp only [Option.bind_some]
      exact onS_row n e0 h5 h hne hj N d (i + 1) _ k (by omega) (by omega)
theorem onS_all {l : List Int} (n e0 : Int) (h5 : l.length ≤ 5) (h : ∀ i : Nat, i < l.length → 0 ≤ rd l i ∧ rd l i ≤ 4) (hne : ∀ i j : Nat, i < j → j < l.length → rd l i ≠ rd l j) :
    ∀ (d j : Nat) (e : Int) (k : Nat), j + d = l.length → 7 * d + 3 ≤ k → spec_l01On.l0 k l j n e0 (l.length : Int) e = some ((l.length : Int), loopMade (fun i j => hasI e0 (rd l i) (rd l j)) d j e)
  | 0, j, e, k, hd, hk => by
    obtain ⟨k, rfl⟩ : ∃ m, k = m + 1 := ⟨k - 1, by omega⟩
    simp only [spec_l01On.l0, loopMade]
    rw [if_neg (by omega)]
  | d + 1, j, e, k, hd, hk => by
    obtain ⟨k, rfl⟩ : ∃ m, k = m + 1 := ⟨k - 1, by omega⟩
    simp only [spec_l01On.l0, loopMade]
    rw [if_pos (by omega)]
    have := onS_row n e0 h5 h hne (show j < l.length by omega) (l.length : Int) j 0 e k (by omega) (by omega)
    rw [show ((0 : Nat) : Int) = 0 from rfl] at this
    rw [this]
    exact onS_all n e0 h5 h hne d (j + 1) _ (k - (j + 1)) (by omega) (by omega)
theorem onS_eq (n e : Int) {l : List Int} (h5 : l.length ≤ 5) (h : ∀ i : Nat, i < l.length → 0 ≤ rd l i ∧ rd l i ≤ 4) (hne : ∀ i j : Nat, i < j → j < l.length → rd l i ≠ rd l j) (k : Nat) (hk : 40 ≤ k) :
    spec_l01On.f k n e l = some ((l.length : Int), onI e l) := by
  unfold spec_l01On.f onI madeI
  cases hl : l.length with
  | zero =>
    obtain ⟨k, rfl⟩ : ∃ m, k = m + 1 := ⟨k - 1, by omega⟩
    simp [spec_l01On.l0, loopMade]
  | succ m =>
    have := onS_all n e h5 h hne m 1 0 k (by omega) (by omega)
    rw [hl] at this
    rw [show ((1 : Nat) : Int) = 1 from rfl] at this
    rw [this]
    simp [loopMade, loopRow]

end Go.Proofs.Ytjemkdpffjneaaa.Q
end

section
namespace Go.Proofs.Ytjemkdpffjneaaa.Q
open Go.RowKit Go.Proofs.YtjemkdpffjneaaaW.PrintWords Go.Proofs.YtjemkdpffjneaaaW.PrintLast Go.Proofs.YtjemkdpffjneaaaW.PrintMore
attribute [local go_sem] max2_int min2_int max_two min_two max_three min_three max_four min_four   -- for this text's walks alone
set_option linter.unusedVariables false
set_option linter.unusedSimpArgs false

theorem onS_diff (n e : Int) {m : Int} (h0 : 0 ≤ m) (h5 : m ≤ 5) {l : List Int} (h : allDiff (wrap64 (m - 1)) l) (k : Nat) (hk : 40 ≤ k) : spec_l01On.f k n e l = some ((l.length : Int), onI e l) := by
  have hl := allDiff_len h0 h5 h
  have hat : ∀ i : Nat, (hi : i < l.length) → 0 ≤ l[i] ∧ l[i] < m := fun i hi => hl.2 _ (List.getElem_mem hi)
  refine onS_eq n e (by omega) (fun i hi => ?_) (fun i j hij hj => ?_) k hk
  · rw [rd_of_lt l hi]; have := hat i hi; omega
  · rw [rd_of_lt l hj, rd_of_lt l (by omega)]
    exact List.pairwise_iff_getElem.1 h.1 i j (by omega) hj hij
theorem okList_diff {m : Int} (h0 : 0 ≤ m) (h5 : m ≤ 5) {l : List Int} (h : allDiff (wrap64 (m - 1)) l) : okList l := by
  have hl := allDiff_len h0 h5 h
  exact ⟨by omega, fun x hx => by have := hl.2 x hx; omega⟩

end Go.Proofs.Ytjemkdpffjneaaa.Q
end

section
namespace Go.Proofs.Ytjemkdpffjneaaa.Q
open Go.RowKit Go.Proofs.YtjemkdpffjneaaaW.PrintWords Go.Proofs.YtjemkdpffjneaaaW.PrintLast Go.Proofs.YtjemkdpffjneaaaW.PrintMore
attribute [local go_sem] max2_int min2_int max_two min_two max_three min_three max_four min_four   -- for this text's walks alone
set_option linter.unusedVariables false
set_option linter.unusedSimpArgs false

def isLeastB (n s : Nat) (e : Int) : Bool := !(leaves n (n - s) (firstI s)).any fun l => decide (onI e l < e)
theorem isLeast_eq (n s : Nat) (hn : n < 6) (hs : s < n + 1) (e : Int) (hL : ∀ l ∈ leaves n (n - s) (firstI s), allDiff ((n : Int) - 1) l) : impl_Graph_isLeast.f n e s = some (isLeastB n s e) := by
  unfold impl_Graph_isLeast.f impl_Graph_orders.f
  rw [if_pos (by omega), lstd_eq, show ((n : Int) - (s : Int)).toNat = n - s from by omega, Int.toNat_natCast, Int.toNat_natCast]
  rw [runCb_any _ (fun l => decide (onI e l < e))]
  · rfl
  · intro l hl
    unfold impl_Graph_isLeast_1.f
    rw [impl_onT.eq n e (okList_diff (m := n) (by omega) (by omega) (by rw [show wrap64 ((n : Int) - 1) = (n : Int) - 1 from by unfold wrap64; omega]; exact hL l hl))]
    rfl
theorem prs_le' : ∀ n, n < 6 → 2 ^ prs n ≤ 1024 := by decide
/-- The graphs of size n with numbers of edges from e on, d of them, that ok tells. -/
def gList (n : Nat) (ok : Nat → Bool) : Nat → Nat → List S33
  | 0, _ => []
  | d + 1, e => if ok e = true then ⟨n, e⟩ :: gList n ok d (e + 1) else gList n ok d (e + 1)
theorem gList_length (n : Nat) (ok : Nat → Bool) : ∀ d e, (gList n ok d e).length ≤ d
  | 0, _ => Nat.le_refl _
  | d + 1, e => by
    have := gList_length n ok d (e + 1)
    rw [gList]; split
    · rw [List.length_cons]; omega
    · omega
end Go.Proofs.Ytjemkdpffjneaaa.Q
end

section
namespace Go.Proofs.Ytjemkdpffjneaaa.Q
open Go.RowKit Go.Proofs.YtjemkdpffjneaaaW.PrintWords Go.Proofs.YtjemkdpffjneaaaW.PrintLast Go.Proofs.YtjemkdpffjneaaaW.PrintMore
attribute [local go_sem] max2_int min2_int max_two min_two max_three min_three max_four min_four   -- for this text's walks alone
set_option linter.unusedVariables false
set_option linter.unusedSimpArgs false

def idxI {α : Type} (p : α → Bool) : List α → Nat → Int
  | [], _ => -1
  | x :: xs, i => if p x = true then (i : Int) else idxI p xs (i + 1)
theorem idxI_any {α : Type} (p : α → Bool) : ∀ (L : List α) (i : Nat), decide (idxI p L i ≥ 0) = L.any p
  | [], _ => by simp [idxI]
  | x :: xs, i => by
    rw [idxI, List.any_cons]
    by_cases h : p x = true
    · rw [if_pos h, h]; simp
    · rw [if_neg h, idxI_any p xs (i + 1)]; simp [Bool.eq_false_iff.2 h]

end Go.Proofs.Ytjemkdpffjneaaa.Q
end

section
namespace Go.Proofs.Ytjemkdpffjneaaa.Q
open Go.RowKit Go.Proofs.YtjemkdpffjneaaaW.PrintWords Go.Proofs.YtjemkdpffjneaaaW.PrintLast Go.Proofs.YtjemkdpffjneaaaW.PrintMore
attribute [local go_sem] max2_int min2_int max_two min_two max_three min_three max_four min_four   -- for this text's walks alone
set_option linter.unusedVariables false
set_option linter.unusedSimpArgs false

theorem idxGraph_loop (cb : Int → Int → Option Bool) (p : S33 → Bool) (L : List S33) (hL : L.length ≤ 1048576) (hcb : ∀ x ∈ L, cb x.f0 x.f1 = some (p x)) : ∀ (d i k : Nat), i + d = L.length → d + 1 ≤ k → impl_Graph_149.l0 cb k L (L.length : Int) i = some (idxI p (L.drop i) i)
  | 0, i, k, hd, hk => by
    obtain ⟨k, rfl⟩ : ∃ q, k = q + 1 := ⟨k - 1, by omega⟩
    rw [impl_Graph_149.l0, if_neg (by omega), List.drop_eq_nil_of_le (by omega)]; rfl
  | d + 1, i, k, hd, hk => by
    obtain ⟨k, rfl⟩ : ∃ q, k = q + 1 := ⟨k - 1, by omega⟩
    have hi : i < L.length := by omega
    have hr : rd_T33 L (i : Int) = L[i] := by unfold rd_T33; exact getD_of_lt L _ hi
    rw [impl_Graph_149.l0]
    simp only [hr]
    rw [if_pos (by omega), if_pos (by omega), if_pos (by omega), hcb _ (List.getElem_mem hi), w64_succ (by omega), List.drop_eq_getElem_cons hi, idxI]
    simp only [Option.bind_some]
    split
    · rfl
    · exact idxGraph_loop cb p L hL hcb d (i + 1) k (by omega) (by omega)
theorem idxGraph_eq (cb : Int → Int → Option Bool) (p : S33 → Bool) (L : List S33) (hL : L.length ≤ 1048576) (hcb : ∀ x ∈ L, cb x.f0 x.f1 = some (p x)) (k : Nat) (hk : L.length + 1 ≤ k) : impl_Graph_149.f cb k L = some (idxI p L 0) := by
  unfold impl_Graph_149.f
  have := idxGraph_loop cb p L hL hcb L.length 0 k (Nat.zero_add _) hk
  rw [show ((0 : Nat) : Int) = 0 from rfl, List.drop_zero] at this
  exact this
theorem anyGraph_eq (cb : Int → Int → Option Bool) (p : S33 → Bool) (L : List S33) (hL : L.length ≤ 1048576) (hcb : ∀ x ∈ L, cb x.f0 x.f1 = some (p x)) (k : Nat) (hk : L.length + 1 ≤ k) : impl_Graph_122.f cb k L = some (L.any p) := by
  unfold impl_Graph_122.f
  rw [idxGraph_eq cb p L hL hcb k hk]
  simp only [Option.bind_some, idxI_any]

end Go.Proofs.Ytjemkdpffjneaaa.Q
end

section
namespace Go.Proofs.Ytjemkdpffjneaaa.Q
open Go.RowKit Go.Proofs.YtjemkdpffjneaaaW.PrintWords Go.Proofs.YtjemkdpffjneaaaW.PrintLast Go.Proofs.YtjemkdpffjneaaaW.PrintMore
attribute [local go_sem] max2_int min2_int max_two min_two max_three min_three max_four min_four   -- for this text's walks alone
set_option linter.unusedVariables false
set_option linter.unusedSimpArgs false

theorem in_eq (a b c : Int) : impl_in.f a b c = some (decide (b ≤ a ∧ a ≤ c)) := by
  unfold impl_in.f
  by_cases h : a ≥ b
  · rw [if_pos h]; congr 1; rw [decide_eq_decide]; omega
  · rw [if_neg h]; congr 1; symm; rw [decide_eq_false_iff_not]; omega

end Go.Proofs.Ytjemkdpffjneaaa.Q
end

section
namespace Go.Proofs.Ytjemkdpffjneaaa.Q
open Go.RowKit Go.Proofs.YtjemkdpffjneaaaW.PrintWords Go.Proofs.YtjemkdpffjneaaaW.PrintLast Go.Proofs.YtjemkdpffjneaaaW.PrintMore
attribute [local go_sem] max2_int min2_int max_two min_two max_three min_three max_four min_four   -- for this text's walks alone
set_option linter.unusedVariables false
set_option linter.unusedSimpArgs false

def validG (n e : Int) : Bool := decide (0 ≤ n ∧ n ≤ 5 ∧ e < 2 ^ (n.toNat * (n.toNat - 1) / 2))
theorem l01Ok_eq (n e : Int) (h0 : 0 ≤ e) (h1 : e ≤ 4294967295) : spec_l01Ok.f n e = some (validG n e) := by
  have hw : wrap64 e = e := by unfold wrap64; omega
  unfold spec_l01Ok.f validG
  rw [l00In_eq, hw]; simp only [Option.bind_some]
  by_cases h : 0 ≤ n ∧ n ≤ 5
  · rw [if_pos (by simpa using h)]
    obtain ⟨ha, hb⟩ := h
    rcases small5 ha hb with rfl | rfl | rfl | rfl | rfl | rfl
    all_goals
      simp only [spec_l01Bits.f]
      simp [wrap64, IntKind.wrap_u64, shl, IntKind.wrap_i64, IntKind.bits]
  · rw [if_neg (by simpa using h)]; congr 1; symm; rw [decide_eq_false_iff_not]; omega

end Go.Proofs.Ytjemkdpffjneaaa.Q
end

section
namespace Go.Proofs.Ytjemkdpffjneaaa.Q
open Go.RowKit Go.Proofs.YtjemkdpffjneaaaW.PrintWords Go.Proofs.YtjemkdpffjneaaaW.PrintLast Go.Proofs.YtjemkdpffjneaaaW.PrintMore
attribute [local go_sem] max2_int min2_int max_two min_two max_three min_three max_four min_four   -- for this text's walks alone
set_option linter.unusedVariables false
set_option linter.unusedSimpArgs false

theorem ValidGraph_eq (n e : Int) (h0 : 0 ≤ e) (h1 : e ≤ 4294967295) : impl_ValidGraph.f n e = some (validG n e) := by
  unfold impl_ValidGraph.f validG
  rw [in_eq]; simp only [Option.bind_some]
  by_cases h : 0 ≤ n ∧ n ≤ 5
  · rw [if_pos (by simpa using h)]
    obtain ⟨ha, hb⟩ := h
    rcases small5 ha hb with rfl | rfl | rfl | rfl | rfl | rfl
    all_goals
      simp only [impl_pairs.f]
      simp [wrap64, shr, IntKind.bits]
    all_goals (first | done | (rw [Bool.eq_iff_iff]; simp; omega))
  · rw [if_neg (by simpa using h)]; congr 1; symm; rw [decide_eq_false_iff_not]; omega

end Go.Proofs.Ytjemkdpffjneaaa.Q
end

section
namespace Go.Proofs.Ytjemkdpffjneaaa.Q
open Go.RowKit Go.Proofs.YtjemkdpffjneaaaW.PrintWords Go.Proofs.YtjemkdpffjneaaaW.PrintLast Go.Proofs.YtjemkdpffjneaaaW.PrintMore
attribute [local go_sem] max2_int min2_int max_two min_two max_three min_three max_four min_four   -- for this text's walks alone
set_option linter.unusedVariables false
set_option linter.unusedSimpArgs false

theorem wrap_u32_nat (v : BitVec 32) : IntKind.u32.wrap ((v.toNat : Nat) : Int) = ((v.toNat : Nat) : Int) := by
  rw [IntKind.wrap_u32]; have := v.isLt; omega
theorem bits_and32 (x y : Int) : Go.bits .and .u32 x y = (((BitVec.ofInt 32 x &&& BitVec.ofInt 32 y).toNat : Nat) : Int) := wrap_u32_nat _
theorem bits_andNot32 (x y : Int) : Go.bits .andNot .u32 x y = (((BitVec.ofInt 32 x &&& ~~~ BitVec.ofInt 32 y).toNat : Nat) : Int) := wrap_u32_nat _

end Go.Proofs.Ytjemkdpffjneaaa.Q
end

section
namespace Go.Proofs.Ytjemkdpffjneaaa.Q
open Go.RowKit Go.Proofs.YtjemkdpffjneaaaW.PrintWords Go.Proofs.YtjemkdpffjneaaaW.PrintLast Go.Proofs.YtjemkdpffjneaaaW.PrintMore
attribute [local go_sem] max2_int min2_int max_two min_two max_three min_three max_four min_four   -- for this text's walks alone
set_option linter.unusedVariables false
set_option linter.unusedSimpArgs false

theorem andNot_iff (x y : BitVec 32) : x &&& ~~~ y = 0#32 ↔ x &&& y = x := by
  constructor
  · intro h
    ext i hi
    have := congrArg (fun z : BitVec 32 => z[i]) h
    simp only [BitVec.getElem_and, BitVec.getElem_not, BitVec.getElem_zero] at this ⊢
    revert this
    cases x[i] <;> cases y[i] <;> simp
  · intro h
    ext i hi
    have := congrArg (fun z : BitVec 32 => z[i]) h
    simp only [BitVec.getElem_and, BitVec.getElem_not, BitVec.getElem_zero] at this ⊢
    revert this
    cases x[i] <;> cases y[i] <;> simp
theorem part_bits {h : Int} (h0 : 0 ≤ h) (h1 : h ≤ 4294967295) (b : Int) : (Go.bits .andNot .u32 h b == 0) = decide (Go.bits .and .u32 h b = h) := by
  rw [bits_andNot32, bits_and32, Bool.eq_iff_iff, beq_iff_eq, decide_eq_true_eq]
  have hx : ((BitVec.ofInt 32 h).toNat : Int) = h := by rw [BitVec.toNat_ofInt]; omega
  generalize BitVec.ofInt 32 h = x at *
  generalize BitVec.ofInt 32 b = y
  rw [← hx]
  constructor
  · intro e
    have : x &&& ~~~ y = 0#32 := by apply BitVec.eq_of_toNat_eq; simpa using e
    rw [(andNot_iff x y).1 this]
  · intro e
    have : x &&& y = x := by apply BitVec.eq_of_toNat_eq; exact_mod_cast e
    rw [(andNot_iff x y).2 this]; rfl
theorem allDiff_wrap {n : Nat} (hn : n < 6) {l : List Int} (h : allDiff ((n : Int) - 1) l) : allDiff (wrap64 ((n : Int) - 1)) l := by
  rw [show wrap64 ((n : Int) - 1) = (n : Int) - 1 from by unfold wrap64; omega]; exact h
theorem part_loop (n : Nat) (hn : n < 6) (e m h : Int) : ∀ (ls : List (List Int)) (x : List Int) (k : Nat), isChain n (x :: ls) = true → (∀ l ∈ x :: ls, allDiff ((n : Int) - 1) l) → ls.length + 200 ≤ k →
    spec_l01Part.l0 k x true n e m h = some ((x :: ls).any fun l => decide (Go.bits .and .u32 h (onI e l) = h))
  | [], x, k, hc, hd, hk => by
    obtain ⟨k, rfl⟩ : ∃ q, k = q + 2 := ⟨k - 2, by omega⟩
    obtain ⟨y, hy⟩ := chain_one hc
    rw [spec_l01Part.l0, if_pos rfl, onS_diff n e (by omega) (by omega) (allDiff_wrap hn (hd x (List.mem_cons_self))) _ (by omega)]
    simp only [Option.bind_some, List.any_cons, List.any_nil, Bool.or_false]
    by_cases hb : Go.bits .and .u32 h (onI e x) = h
    · rw [if_pos hb, decide_eq_true hb]
    · rw [if_neg hb, decide_eq_false hb, hy _ (by omega)]
      simp only [Option.bind_some]
      rw [spec_l01Part.l0, if_neg (by simp)]
  | z :: ls, x, k, hc, hd, hk => by
    obtain ⟨k, rfl⟩ : ∃ q, k = q + 1 := ⟨k - 1, by omega⟩
    obtain ⟨h1, h2⟩ := chain_cons hc
    have hl : (z :: ls).length = ls.length + 1 := rfl
    rw [spec_l01Part.l0, if_pos rfl, onS_diff n e (by omega) (by omega) (allDiff_wrap hn (hd x (List.mem_cons_self))) _ (by omega)]
    simp only [Option.bind_some]
    rw [List.any_cons]
    by_cases hb : Go.bits .and .u32 h (onI e x) = h
    · rw [if_pos hb, decide_eq_true hb]; rfl
    · rw [if_neg hb, decide_eq_false hb, h1 _ (by omega)]
      simp only [Option.bind_some, Bool.false_or]
      exact part_loop n hn e m h ls z k h2 (fun l hl => hd l (List.mem_cons_of_mem _ hl)) (by omega)
theorem leaves_none : ∀ n, n < 6 → ∀ r, r < 6 → n < r → leaves n r [] = [] := by decide +kernel
theorem leaves_nodup : ∀ n, n < 6 → ∀ r, r < 6 → ∀ l ∈ leaves n r [], allDiff ((n : Int) - 1) l := by decide +kernel
theorem hasPart_eq (n m : Nat) (hn : n < 6) (hm : m < 6) (e h : Int) (h0 : 0 ≤ h) (h1 : h ≤ 4294967295) : impl_Graph_hasPart.f n e m h = some ((leaves n m []).any fun l => decide (Go.bits .and .u32 h (onI e l) = h)) := by
  unfold impl_Graph_hasPart.f impl_listed.f
  rw [if_pos (by simp; omega), lstd_eq]
  rw [runCb_any _ (fun l => decide (Go.bits .and .u32 h (onI e l) = h))]
  · simp
  · intro l hl
    simp only [Int.toNat_natCast, List.length_nil, Nat.sub_zero] at hl
    have hd := leaves_nodup n hn m hm l hl
    unfold impl_Graph_hasPart_1.f
    rw [impl_onT.eq n e (okList_diff (by omega) (by omega) (allDiff_wrap hn hd))]
    simp only [Option.bind_some]
    rw [part_bits h0 h1]
theorem l01Part_eq (n m : Nat) (hn : n < 6) (hm : m < 6) (e h : Int) (k : Nat) (hk : 1000 ≤ k) : spec_l01Part.f k n e m h = some ((leaves n m []).any fun l => decide (Go.bits .and .u32 h (onI e l) = h)) := by
  unfold spec_l01Part.f
  by_cases hmn : (m : Int) > n
  · rw [if_pos hmn, leaves_none n hn m hm (by omega)]; rfl
  · rw [if_neg hmn, firstS_eq m (by omega) (by omega) k (by omega)]
    simp only [Option.bind_some, Int.toNat_natCast]
    obtain ⟨hh, hc⟩ := chains n hn m (by omega)
    have hd := leaves_nodup n hn m hm
    have hlen : (leaves n m []).length ≤ 200 := (show ∀ n, n < 6 → ∀ m, m < 6 → (leaves n m []).length ≤ 200 from by decide +kernel) n hn m hm
    revert hh hc hd hlen
    generalize leaves n m [] = L
    intro hh hc hd hlen
    cases L with
    | nil => simp at hh
    | cons x ls =>
      obtain rfl : x = firstI m := by simpa using hh
      exact part_loop n hn e m h ls _ k hc hd (by simp only [List.length_cons] at hlen; omega)

end Go.Proofs.Ytjemkdpffjneaaa.Q
end

section
namespace Go.Proofs.Ytjemkdpffjneaaa.Q
open Go.RowKit Go.Proofs.YtjemkdpffjneaaaW.PrintWords Go.Proofs.YtjemkdpffjneaaaW.PrintLast Go.Proofs.YtjemkdpffjneaaaW.PrintMore
attribute [local go_sem] max2_int min2_int max_two min_two max_three min_three max_four min_four   -- for this text's walks alone
set_option linter.unusedVariables false
set_option linter.unusedSimpArgs false

theorem rdG_nat (l : List S33) {i : Nat} (hi : i < l.length) : rd_T33 l (i : Int) = l[i] := by unfold rd_T33; exact getD_of_lt l _ hi

end Go.Proofs.Ytjemkdpffjneaaa.Q
end

section
namespace Go.Proofs.Ytjemkdpffjneaaa.Q
open Go.RowKit Go.Proofs.YtjemkdpffjneaaaW.PrintWords Go.Proofs.YtjemkdpffjneaaaW.PrintLast Go.Proofs.YtjemkdpffjneaaaW.PrintMore
attribute [local go_sem] max2_int min2_int max_two min_two max_three min_three max_four min_four   -- for this text's walks alone
set_option linter.unusedVariables false
set_option linter.unusedSimpArgs false

theorem validG_nat {n e : Int} (h0 : 0 ≤ e) (h : validG n e = true) : ∃ (m f : Nat), n = m ∧ e = f ∧ m < 6 ∧ f < 2 ^ prs m := by
  simp only [validG, decide_eq_true_eq] at h
  refine ⟨n.toNat, e.toNat, by omega, by omega, by omega, ?_⟩
  have := h.2.2
  unfold prs
  have h2 : ((e.toNat : Nat) : Int) < ((2 ^ (n.toNat * (n.toNat - 1) / 2) : Nat) : Int) := by rw [Int.toNat_of_nonneg h0]; exact_mod_cast this
  exact_mod_cast h2

end Go.Proofs.Ytjemkdpffjneaaa.Q
end

section
namespace Go.Proofs.Ytjemkdpffjneaaa.Q
open Go.RowKit Go.Proofs.YtjemkdpffjneaaaW.PrintWords Go.Proofs.YtjemkdpffjneaaaW.PrintLast Go.Proofs.YtjemkdpffjneaaaW.PrintMore
attribute [local go_sem] max2_int min2_int max_two min_two max_three min_three max_four min_four   -- for this text's walks alone
set_option linter.unusedVariables false
set_option linter.unusedSimpArgs false

def okGs (L : List S33) : Prop := ∀ x ∈ L, 0 ≤ x.f1 ∧ x.f1 ≤ 4294967295
def forb (L : List S33) : Int := if L.any (fun x => !validG x.f0 x.f1) = true then 1 else if (L.length : Int) > 6 then 3 else 0
theorem forbiddenOk_eq (L : List S33) (hL : L.length ≤ 1048576) (ho : okGs L) (k : Nat) (hk : L.length + 1 ≤ k) : impl_forbiddenOk.f k L = some (forb L) := by
  unfold impl_forbiddenOk.f
  rw [anyGraph_eq _ (fun x => !validG x.f0 x.f1) L hL (fun x hx => by unfold impl_badGraph.f; rw [ValidGraph_eq _ _ (ho x hx).1 (ho x hx).2]; rfl) k hk]
  simp only [Option.bind_some]
  unfold forb
  split
  · rfl
  · split <;> rfl
theorem l01Forbidden_loop (L : List S33) (hL : L.length ≤ 1048576) (ho : okGs L) : ∀ (d i k : Nat), i + d = L.length → d + 1 ≤ k → spec_l01Forbidden.l0 k L i = some (if (L.drop i).any (fun x => !validG x.f0 x.f1) = true then 1 else if (L.length : Int) > 6 then 3 else 0)
  | 0, i, k, hd, hk => by
    obtain ⟨k, rfl⟩ : ∃ q, k = q + 1 := ⟨k - 1, by omega⟩
    rw [spec_l01Forbidden.l0, if_neg (by omega), List.drop_eq_nil_of_le (by omega)]
    simp only [List.any_nil, Bool.false_eq_true, if_false]
    split <;> rfl
  | d + 1, i, k, hd, hk => by
    obtain ⟨k, rfl⟩ : ∃ q, k = q + 1 := ⟨k - 1, by omega⟩
    have hi : i < L.length := by omega
    have hx := ho _ (List.getElem_mem hi)
    rw [spec_l01Forbidden.l0, if_pos (by omega), if_pos (by omega), rdG_nat L hi, l01Ok_eq _ _ hx.1 hx.2, List.drop_eq_getElem_cons hi, List.any_cons]
    simp only [Option.bind_some]
    cases hv : validG L[i].f0 L[i].f1
    · simp
    · simp only [if_true, Bool.not_true, Bool.false_or]
      rw [w64_succ (by omega)]
      exact l01Forbidden_loop L hL ho d (i + 1) k (by omega) (by omega)
theorem l01Forbidden_eq (L : List S33) (hL : L.length ≤ 1048576) (ho : okGs L) (k : Nat) (hk : L.length + 1 ≤ k) : spec_l01Forbidden.f k L = some (forb L) := by
  unfold spec_l01Forbidden.f forb
  have := l01Forbidden_loop L hL ho L.length 0 k (Nat.zero_add _) hk
  rw [show ((0 : Nat) : Int) = 0 from rfl, List.drop_zero] at this
  exact this
theorem forb_zero {L : List S33} (h : forb L = 0) : L.length ≤ 6 ∧ ∀ x ∈ L, validG x.f0 x.f1 = true := by
  unfold forb at h
  split at h
  · cases h
  · next h1 =>
    split at h
    · cases h
    · next h2 =>
      refine ⟨by omega, fun x hx => ?_⟩
      cases hv : validG x.f0 x.f1
      · exact absurd (List.any_eq_true.2 ⟨x, hx, by rw [hv]; rfl⟩) h1
      · rfl
def partB (n : Nat) (e : Int) (x : S33) : Bool := (leaves n x.f0.toNat []).any fun l => decide (Go.bits .and .u32 x.f1 (onI e l) = x.f1)
theorem hasPart_x (n : Nat) (hn : n < 6) (e : Int) (x : S33) (hx : 0 ≤ x.f1 ∧ x.f1 ≤ 4294967295) (hv : validG x.f0 x.f1 = true) : impl_Graph_hasPart.f n e x.f0 x.f1 = some (partB n e x) ∧ ∀ k, 1000 ≤ k → spec_l01Part.f k n e x.f0 x.f1 = some (partB n e x) := by
  obtain ⟨m, f, e1, e2, hm, hf⟩ := validG_nat hx.1 hv
  unfold partB
  rw [e2] at hx
  rw [e1, e2, Int.toNat_natCast]
  exact ⟨hasPart_eq n m hn hm e f hx.1 hx.2, fun k hk => l01Part_eq n m hn hm e f k hk⟩
theorem free_eq (n : Nat) (hn : n < 6) (e : Int) (L : List S33) (ho : okGs L) (hL : L.length ≤ 6) (hv : ∀ x ∈ L, validG x.f0 x.f1 = true) (k : Nat) (hk : 20 ≤ k) : impl_Graph_free.f k n e L = some (!(L.any (partB n e))) := by
  unfold impl_Graph_free.f impl_Graph_122_of_impl_Graph_hasPart.f
  rw [anyGraph_eq _ (partB n e) L (by omega) (fun x hx => (hasPart_x n hn e x (ho x hx) (hv x hx)).1) k (by omega)]
  rfl
theorem l01Free_loop (n : Nat) (hn : n < 6) (e : Int) (L : List S33) (ho : okGs L) (hL : L.length ≤ 6) (hv : ∀ x ∈ L, validG x.f0 x.f1 = true) : ∀ (d i k : Nat), i + d = L.length → d + 1001 ≤ k → spec_l01Free.l0 k L i n e = some (!((L.drop i).any (partB n e)))
  | 0, i, k, hd, hk => by
    obtain ⟨k, rfl⟩ : ∃ q, k = q + 1 := ⟨k - 1, by omega⟩
    rw [spec_l01Free.l0, if_neg (by omega), List.drop_eq_nil_of_le (by omega)]; rfl
  | d + 1, i, k, hd, hk => by
    obtain ⟨k, rfl⟩ : ∃ q, k = q + 1 := ⟨k - 1, by omega⟩
    have hi : i < L.length := by omega
    have hm := List.getElem_mem hi
    rw [spec_l01Free.l0, if_pos (by omega), if_pos (by omega), rdG_nat L hi, (hasPart_x n hn e _ (ho _ hm) (hv _ hm)).2 k (by omega), List.drop_eq_getElem_cons hi, List.any_cons]
    simp only [Option.bind_some]
    cases hp : partB n e L[i]
    · simp only [Bool.false_eq_true, if_false, Bool.false_or]
      rw [w64_succ (by omega)]
      exact l01Free_loop n hn e L ho hL hv d (i + 1) k (by omega) (by omega)
    · simp
theorem l01Free_eq (n : Nat) (hn : n < 6) (e : Int) (L : List S33) (ho : okGs L) (hL : L.length ≤ 6) (hv : ∀ x ∈ L, validG x.f0 x.f1 = true) (k : Nat) (hk : 1010 ≤ k) : spec_l01Free.f k n e L = some (!(L.any (partB n e))) := by
  unfold spec_l01Free.f
  have := l01Free_loop n hn e L ho hL hv L.length 0 k (Nat.zero_add _) (by omega)
  rw [show ((0 : Nat) : Int) = 0 from rfl, List.drop_zero] at this
  exact this

end Go.Proofs.Ytjemkdpffjneaaa.Q
end

section
namespace Go.Proofs.Ytjemkdpffjneaaa.Q
open Go.RowKit Go.Proofs.YtjemkdpffjneaaaW.PrintWords Go.Proofs.YtjemkdpffjneaaaW.PrintLast Go.Proofs.YtjemkdpffjneaaaW.PrintMore
attribute [local go_sem] max2_int min2_int max_two min_two max_three min_three max_four min_four   -- for this text's walks alone
set_option linter.unusedVariables false
set_option linter.unusedSimpArgs false

def shiftL (s : Nat) (own : List Int) : List Int := firstI s ++ own.map fun x => (s : Int) + x
theorem leaves_shift : ∀ n, n < 6 → ∀ s, s < n + 1 → leaves n (n - s) (firstI s) = (leaves (n - s) (n - s) []).map (shiftL s) := by decide +kernel
theorem leaves_ok_s : ∀ n, n < 6 → ∀ s, s < n + 1 → ∀ l ∈ leaves n (n - s) (firstI s), l.length = n ∧ allDiff ((n : Int) - 1) l := by decide +kernel
theorem leaves_small : ∀ n, n < 6 → ∀ l ∈ leaves n n [], l.length = n ∧ ∀ x ∈ l, 0 ≤ x ∧ x ≤ 5 := by decide +kernel
theorem l03Order_loop (s : Nat) (hs : s < 6) (own : List Int) (hl : own.length ≤ 5) (ho : ∀ x ∈ own, 0 ≤ x ∧ x ≤ 5) : ∀ (d i k : Nat) (out : List Int), i + d = own.length → out.length ≤ 5 + i → d + 1 ≤ k → spec_l03Order.l0 k s own out i = some (out ++ (own.drop i).map fun x => (s : Int) + x)
  | 0, i, k, out, hd, hout, hk => by
    obtain ⟨k, rfl⟩ : ∃ q, k = q + 1 := ⟨k - 1, by omega⟩
    rw [spec_l03Order.l0, if_neg (by omega), List.drop_eq_nil_of_le (by omega)]; simp
  | d + 1, i, k, out, hd, hout, hk => by
    obtain ⟨k, rfl⟩ : ∃ q, k = q + 1 := ⟨k - 1, by omega⟩
    have hi : i < own.length := by omega
    have hx := ho _ (List.getElem_mem hi)
    rw [spec_l03Order.l0, if_pos (by omega), if_pos (by omega), if_pos (by omega), w64_succ (by omega), rd_of_lt own hi, show wrap64 ((s : Int) + own[i]) = (s : Int) + own[i] from by unfold wrap64; omega]
    rw [l03Order_loop s hs own hl ho d (i + 1) k _ (by omega) (by rw [List.length_append]; simp only [List.length_cons, List.length_nil]; omega) (by omega), List.append_assoc, List.drop_eq_getElem_cons hi]
    rfl
theorem l03Order_eq (s : Nat) (hs : s < 6) (own : List Int) (hl : own.length ≤ 5) (ho : ∀ x ∈ own, 0 ≤ x ∧ x ≤ 5) (k : Nat) (hk : 100 ≤ k) : spec_l03Order.f k s own = some (shiftL s own) := by
  unfold spec_l03Order.f
  rw [firstS_eq s (by omega) (by omega) k (by omega)]
  simp only [Option.bind_some, Int.toNat_natCast]
  have hfl : ∀ n, n < 6 → (firstI n).length = n := by decide
  have hfs := hfl s hs
  have := l03Order_loop s hs own hl ho own.length 0 k (firstI s) (by omega) (by omega) (by omega)
  rw [show ((0 : Nat) : Int) = 0 from rfl] at this
  rw [this]; rfl
/-- What is asked of each own order of a flag. -/
theorem own_ok (n s : Nat) (hn : n < 6) (hs : s < n + 1) : ∀ l ∈ leaves (n - s) (n - s) [], (l.length ≤ 5 ∧ ∀ y ∈ l, 0 ≤ y ∧ y ≤ 5) ∧ (shiftL s l).length = n ∧ allDiff ((n : Int) - 1) (shiftL s l) := by
  intro l hl
  have h1 := leaves_small (n - s) (by omega) l hl
  have h2 := leaves_ok_s n hn s hs (shiftL s l) (by rw [leaves_shift n hn s hs]; exact List.mem_map_of_mem hl)
  exact ⟨⟨by omega, h1.2⟩, h2⟩

end Go.Proofs.Ytjemkdpffjneaaa.Q
end

section
namespace Go.Proofs.Ytjemkdpffjneaaa.Q
open Go.RowKit Go.Proofs.YtjemkdpffjneaaaW.PrintWords Go.Proofs.YtjemkdpffjneaaaW.PrintLast Go.Proofs.YtjemkdpffjneaaaW.PrintMore
attribute [local go_sem] max2_int min2_int max_two min_two max_three min_three max_four min_four   -- for this text's walks alone
set_option linter.unusedVariables false
set_option linter.unusedSimpArgs false

/-- An order of the n vertices: at each place a vertex, no vertex twice. -/
def isOrd (n : Nat) (l : List Int) : Prop := l.length = n ∧ allDiff ((n : Int) - 1) l
theorem isOrd.at {n : Nat} {l : List Int} (h : isOrd n l) (i : Nat) (hi : i < n) : ∃ a : Nat, a < n ∧ rd l i = a := by
  have hl : i < l.length := by rw [h.1]; exact hi
  have := h.2.2 _ (List.getElem_mem hl)
  exact ⟨l[i].toNat, by omega, by rw [rd_of_lt l hl]; omega⟩
end Go.Proofs.Ytjemkdpffjneaaa.Q
end

section
namespace Go.Proofs.Ytjemkdpffjneaaa.Q
open Go.RowKit Go.Proofs.YtjemkdpffjneaaaW.PrintWords Go.Proofs.YtjemkdpffjneaaaW.PrintLast Go.Proofs.YtjemkdpffjneaaaW.PrintMore
attribute [local go_sem] max2_int min2_int max_two min_two max_three min_three max_four min_four   -- for this text's walks alone
set_option linter.unusedVariables false
set_option linter.unusedSimpArgs false

end Go.Proofs.Ytjemkdpffjneaaa.Q
end

section
namespace Go.Proofs.Ytjemkdpffjneaaa.Q
open Go.RowKit Go.Proofs.YtjemkdpffjneaaaW.PrintWords Go.Proofs.YtjemkdpffjneaaaW.PrintLast Go.Proofs.YtjemkdpffjneaaaW.PrintMore
attribute [local go_sem] max2_int min2_int max_two min_two max_three min_three max_four min_four   -- for this text's walks alone
set_option linter.unusedVariables false
set_option linter.unusedSimpArgs false

end Go.Proofs.Ytjemkdpffjneaaa.Q
end

section
namespace Go.Proofs.Ytjemkdpffjneaaa.Q
open Go.RowKit Go.Proofs.YtjemkdpffjneaaaW.PrintWords Go.Proofs.YtjemkdpffjneaaaW.PrintLast Go.Proofs.YtjemkdpffjneaaaW.PrintMore
attribute [local go_sem] max2_int min2_int max_two min_two max_three min_three max_four min_four   -- for this text's walks alone
set_option linter.unusedVariables false
set_option linter.unusedSimpArgs false

end Go.Proofs.Ytjemkdpffjneaaa.Q
end

section
namespace Go.Proofs.Ytjemkdpffjneaaa.Q
open Go.RowKit Go.Proofs.YtjemkdpffjneaaaW.PrintWords Go.Proofs.YtjemkdpffjneaaaW.PrintLast Go.Proofs.YtjemkdpffjneaaaW.PrintMore
attribute [local go_sem] max2_int min2_int max_two min_two max_three min_three max_four min_four   -- for this text's walks alone
set_option linter.unusedVariables false
set_option linter.unusedSimpArgs false

def leastE (e : Int) (L : List (List Int)) (best : Int) : Int := L.foldl (fun b l => if onI e l < b then onI e l else b) best
end Go.Proofs.Ytjemkdpffjneaaa.Q
end

section
namespace Go.Proofs.Ytjemkdpffjneaaa.Q
open Go.RowKit Go.Proofs.YtjemkdpffjneaaaW.PrintWords Go.Proofs.YtjemkdpffjneaaaW.PrintLast Go.Proofs.YtjemkdpffjneaaaW.PrintMore
attribute [local go_sem] max2_int min2_int max_two min_two max_three min_three max_four min_four   -- for this text's walks alone
set_option linter.unusedVariables false
set_option linter.unusedSimpArgs false

theorem leastE_le (e : Int) : ∀ (L : List (List Int)) (best : Int), leastE e L best ≤ best ∧ ∀ l ∈ L, leastE e L best ≤ onI e l
  | [], best => ⟨Int.le_refl _, fun l hl => by cases hl⟩
  | x :: L, best => by
    have ih := leastE_le e L (if onI e x < best then onI e x else best)
    show leastE e L _ ≤ best ∧ ∀ l ∈ x :: L, leastE e L _ ≤ onI e l
    have h1 : (if onI e x < best then onI e x else best) ≤ best ∧ (if onI e x < best then onI e x else best) ≤ onI e x := by split <;> omega
    refine ⟨Int.le_trans ih.1 h1.1, fun l hl => ?_⟩
    rcases List.mem_cons.1 hl with rfl | hl
    · exact Int.le_trans ih.1 h1.2
    · exact ih.2 l hl
theorem leastE_mem (e : Int) : ∀ (L : List (List Int)) (best : Int), leastE e L best = best ∨ ∃ l ∈ L, leastE e L best = onI e l
  | [], best => Or.inl rfl
  | x :: L, best => by
    have ih := leastE_mem e L (if onI e x < best then onI e x else best)
    show leastE e L _ = best ∨ ∃ l ∈ x :: L, leastE e L _ = onI e l
    rcases ih with ih | ⟨l, hl, ih⟩
    · rw [ih]
      split
      · exact Or.inr ⟨x, List.mem_cons_self, rfl⟩
      · exact Or.inl rfl
    · exact Or.inr ⟨l, List.mem_cons_of_mem _ hl, ih⟩
end Go.Proofs.Ytjemkdpffjneaaa.Q
end

section
namespace Go.Proofs.Ytjemkdpffjneaaa.Q
open Go.RowKit Go.Proofs.YtjemkdpffjneaaaW.PrintWords Go.Proofs.YtjemkdpffjneaaaW.PrintLast Go.Proofs.YtjemkdpffjneaaaW.PrintMore
attribute [local go_sem] max2_int min2_int max_two min_two max_three min_three max_four min_four   -- for this text's walks alone
set_option linter.unusedVariables false
set_option linter.unusedSimpArgs false

theorem least3_loop (n s : Nat) (hn : n < 6) (hs : s < n + 1) (e : Int) : ∀ (ls : List (List Int)) (x : List Int) (k : Nat) (best : Int), isChain ((n - s : Nat) : Int) (x :: ls) = true → (∀ l ∈ x :: ls, (l.length ≤ 5 ∧ ∀ y ∈ l, 0 ≤ y ∧ y ≤ 5) ∧ (shiftL s l).length = n ∧ allDiff ((n : Int) - 1) (shiftL s l)) → ls.length + 200 ≤ k →
    spec_l03Least.l0 k x true s n e s n best = some ((s : Int), (n : Int), leastE e ((x :: ls).map (shiftL s)) best)
  | [], x, k, best, hc, hd, hk => by
    obtain ⟨k, rfl⟩ : ∃ q, k = q + 2 := ⟨k - 2, by omega⟩
    obtain ⟨y, hy⟩ := chain_one hc
    obtain ⟨⟨hx1, hx2⟩, hx3, hx4⟩ := hd x (List.mem_cons_self)
    rw [spec_l03Least.l0, if_pos rfl, l03Order_eq s (by omega) x hx1 hx2 _ (by omega)]
    simp only [Option.bind_some]
    rw [onS_diff (m := n) n e (by omega) (by omega) (by rw [show wrap64 ((n : Int) - 1) = (n : Int) - 1 from by unfold wrap64; omega]; exact hx4) _ (by omega), show wrap64 ((n : Int) - (s : Int)) = ((n - s : Nat) : Int) from by unfold wrap64; omega]
    simp only [Option.bind_some, leastE, List.map_cons, List.map_nil, List.foldl_cons, List.foldl_nil, hx3]
    by_cases hb : onI e (shiftL s x) < best
    · rw [if_pos hb, if_pos hb, hy _ (by omega)]
      simp only [Option.bind_some]
      rw [spec_l03Least.l0, if_neg (by simp)]
    · rw [if_neg hb, if_neg hb, hy _ (by omega)]
      simp only [Option.bind_some]
      rw [spec_l03Least.l0, if_neg (by simp)]
  | z :: ls, x, k, best, hc, hd, hk => by
    obtain ⟨k, rfl⟩ : ∃ q, k = q + 1 := ⟨k - 1, by omega⟩
    obtain ⟨h1, h2⟩ := chain_cons hc
    obtain ⟨⟨hx1, hx2⟩, hx3, hx4⟩ := hd x (List.mem_cons_self)
    have hl : (z :: ls).length = ls.length + 1 := rfl
    rw [spec_l03Least.l0, if_pos rfl, l03Order_eq s (by omega) x hx1 hx2 _ (by omega)]
    simp only [Option.bind_some]
    rw [onS_diff (m := n) n e (by omega) (by omega) (by rw [show wrap64 ((n : Int) - 1) = (n : Int) - 1 from by unfold wrap64; omega]; exact hx4) _ (by omega), show wrap64 ((n : Int) - (s : Int)) = ((n - s : Nat) : Int) from by unfold wrap64; omega]
    have ih := fun best => least3_loop n s hn hs e ls z k best h2 (fun l hl => hd l (List.mem_cons_of_mem _ hl)) (by omega)
    simp only [Option.bind_some, leastE, hx3]
    rw [List.map_cons, List.foldl_cons]
    by_cases hb : onI e (shiftL s x) < best
    · rw [if_pos hb, if_pos hb, h1 _ (by omega)]
      exact ih _
    · rw [if_neg hb, if_neg hb, h1 _ (by omega)]
      exact ih _
theorem l03Least_eq (n s : Nat) (hn : n < 6) (hs : s < n + 1) (e : Int) (k : Nat) (hk : 1000 ≤ k) : spec_l03Least.f k s n e = some ((s : Int), (n : Int), leastE e (leaves n (n - s) (firstI s)) e) := by
  unfold spec_l03Least.f
  rw [show wrap64 ((n : Int) - (s : Int)) = ((n - s : Nat) : Int) from by unfold wrap64; omega, firstS_eq ((n - s : Nat) : Int) (by omega) (by omega) k (by omega), leaves_shift n hn s hs]
  simp only [Option.bind_some, Int.toNat_natCast]
  obtain ⟨hh, hc⟩ := chains (n - s) (by omega) (n - s) (by omega)
  have hd := own_ok n s hn hs
  have hlen := leaves_short (n - s) (by omega) (n - s) (by omega)
  revert hh hc hd hlen
  generalize leaves (n - s) (n - s) [] = L
  intro hh hc hd hlen
  cases L with
  | nil => simp at hh
  | cons x ls =>
    obtain rfl : x = firstI (n - s) := by simpa using hh
    exact least3_loop n s hn hs e ls _ k e hc hd (by simp only [List.length_cons] at hlen; omega)

end Go.Proofs.Ytjemkdpffjneaaa.Q
end

section
namespace Go.Proofs.Ytjemkdpffjneaaa.Q
open Go.RowKit Go.Proofs.YtjemkdpffjneaaaW.PrintWords Go.Proofs.YtjemkdpffjneaaaW.PrintLast Go.Proofs.YtjemkdpffjneaaaW.PrintMore
attribute [local go_sem] max2_int min2_int max_two min_two max_three min_three max_four min_four   -- for this text's walks alone
set_option linter.unusedVariables false
set_option linter.unusedSimpArgs false

theorem leasts_loop (cb : Int → Int → Option Bool) (p : Nat → Bool) (n s : Nat) (hn : n < 6) (hs : s < n + 1) (hcb : ∀ e : Nat, e < 2 ^ prs n → cb n e = some (p e)) : ∀ (d e k : Nat) (out : List S33), e + d = 2 ^ prs n → out.length ≤ e → d + 1 ≤ k →
    impl_leasts.l0 cb k n s out ((2 ^ prs n : Nat) : Int) e = some (out ++ gList n (fun e => p e && isLeastB n s e) d e)
  | 0, e, k, out, hd, ho, hk => by
    obtain ⟨k, rfl⟩ : ∃ q, k = q + 1 := ⟨k - 1, by omega⟩
    rw [impl_leasts.l0, if_neg (by omega), gList, List.append_nil]
  | d + 1, e, k, out, hd, ho, hk => by
    obtain ⟨k, rfl⟩ : ∃ q, k = q + 1 := ⟨k - 1, by omega⟩
    have hp := prs_le' n hn
    have he : ((e : Int) + 1) % 4294967296 = ((e + 1 : Nat) : Int) := by omega
    rw [impl_leasts.l0, if_pos (by omega), hcb e (by omega), he, gList]
    simp only [Option.bind_some]
    cases hpe : p e
    · simp only [Bool.false_eq_true, if_false, Bool.false_and]
      exact leasts_loop cb p n s hn hs hcb d (e + 1) k _ (by omega) (by omega) (by omega)
    · simp only [if_true, Bool.true_and, isLeast_eq n s hn hs e (fun l hl => (leaves_ok_s n hn s hs l hl).2), Option.bind_some]
      by_cases hl : isLeastB n s (e : Int) = true
      · rw [if_pos hl, if_pos hl, if_pos (by omega), leasts_loop cb p n s hn hs hcb d (e + 1) k _ (by omega) (by rw [List.length_append]; simp only [List.length_cons, List.length_nil]; omega) (by omega), List.append_assoc]; rfl
      · rw [if_neg hl, if_neg hl, leasts_loop cb p n s hn hs hcb d (e + 1) k _ (by omega) (by omega) (by omega)]
theorem leasts_eq (cb : Int → Int → Option Bool) (p : Nat → Bool) (n s : Nat) (hn : n < 6) (hs : s < n + 1) (hcb : ∀ e : Nat, e < 2 ^ prs n → cb n e = some (p e)) (k : Nat) (hk : 1100 ≤ k) : impl_leasts.f cb k n s = some (gList n (fun e => p e && isLeastB n s e) (2 ^ prs n) 0) := by
  have hb : impl_pairs.f (n : Int) = some ((prs n : Nat) : Int) := (show ∀ n : Nat, n < 6 → impl_pairs.f (n : Int) = some ((prs n : Nat) : Int) from by decide +kernel) n hn
  have hsh : shl .u32 1 ((prs n : Nat) : Int) = ((2 ^ prs n : Nat) : Int) := (show ∀ n : Nat, n < 6 → shl .u32 1 ((prs n : Nat) : Int) = ((2 ^ prs n : Nat) : Int) from by decide +kernel) n hn
  have hp := prs_le' n hn
  unfold impl_leasts.f
  rw [hb]
  simp only [Option.bind_some]
  rw [if_pos (by omega), hsh]
  have := leasts_loop cb p n s hn hs hcb (2 ^ prs n) 0 k [] (by omega) (by simp) (by omega)
  rw [show ((0 : Nat) : Int) = 0 from rfl] at this
  rw [this]; rfl
end Go.Proofs.Ytjemkdpffjneaaa.Q
end

section
namespace Go.Proofs.Ytjemkdpffjneaaa.Q
open Go.RowKit Go.Proofs.YtjemkdpffjneaaaW.PrintWords Go.Proofs.YtjemkdpffjneaaaW.PrintLast Go.Proofs.YtjemkdpffjneaaaW.PrintMore
attribute [local go_sem] max2_int min2_int max_two min_two max_three min_three max_four min_four   -- for this text's walks alone
set_option linter.unusedVariables false
set_option linter.unusedSimpArgs false

theorem and_mod_all : ∀ s, s < 4 → ∀ e, e < 1024 → Go.bits .and .u32 ((e : Nat) : Int) ((((2 ^ prs s : Nat) : Int) - 1) % 4294967296) = ((e % 2 ^ prs s : Nat) : Int) := by decide +kernel
theorem or_all : ∀ s, s < 4 → ∀ t, t < 2 ^ prs s → ∀ hi, hi < 1024 → Go.bits .or .u32 ((t : Nat) : Int) ((shl .i64 ((hi : Nat) : Int) ((prs s : Nat) : Int)) % 4294967296) = ((hi * 2 ^ prs s + t : Nat) : Int) := by decide +kernel
theorem prs_mono : ∀ n, n < 6 → ∀ s, s < n + 1 → prs s ≤ prs n := by decide
theorem gList_append (n : Nat) (ok : Nat → Bool) : ∀ a b e, gList n ok (a + b) e = gList n ok a e ++ gList n ok b (e + a)
  | 0, b, e => by rw [Nat.zero_add]; rfl
  | a + 1, b, e => by
    rw [show a + 1 + b = (a + b) + 1 from by omega, gList, gList, gList_append n ok a b (e + 1), show e + 1 + a = e + (a + 1) from by omega]
    split <;> rfl
theorem gBlock (n B t : Nat) (ht : t < B) (q : Nat → Bool) (hi : Nat) : ∀ d r, d + r = B → gList n (fun e => (e % B == t) && q e) d (hi * B + r) = if r ≤ t ∧ q (hi * B + t) = true then [⟨n, ((hi * B + t : Nat) : Int)⟩] else []
  | 0, r, h => by rw [gList, if_neg (by omega)]
  | d + 1, r, h => by
    have hm : (hi * B + r) % B = r := by rw [Nat.mul_comm, Nat.mul_add_mod, Nat.mod_eq_of_lt (by omega)]
    have ih := gBlock n B t ht q hi d (r + 1) (by omega)
    rw [gList, show hi * B + r + 1 = hi * B + (r + 1) from by omega, ih, hm]
    by_cases hrt : r = t
    · subst hrt
      rw [if_neg (show ¬ (r + 1 ≤ r ∧ q (hi * B + r) = true) by omega)]
      by_cases hq : q (hi * B + r) = true
      · rw [if_pos (by simp [hq]), if_pos ⟨Nat.le_refl _, hq⟩]
      · rw [if_neg (by simp [hq]), if_neg (fun a => hq a.2)]
    · rw [if_neg (by simp [hrt])]
      by_cases hlt : r + 1 ≤ t ∧ q (hi * B + t) = true
      · rw [if_pos hlt, if_pos ⟨by omega, hlt.2⟩]
      · rw [if_neg hlt, if_neg (fun a => hlt ⟨by omega, a.2⟩)]
def sList (n s t B : Nat) (q : Nat → Bool) : Nat → Nat → List S35
  | 0, _ => []
  | d + 1, hi => if q (hi * B + t) = true then ⟨s, ⟨n, ((hi * B + t : Nat) : Int)⟩⟩ :: sList n s t B q d (hi + 1) else sList n s t B q d (hi + 1)
def mkFl (s : Nat) (g : S33) : S35 := ⟨s, g⟩
theorem gList_sList (n s t B : Nat) (ht : t < B) (q : Nat → Bool) : ∀ D hi, (gList n (fun e => (e % B == t) && q e) (D * B) (hi * B)).map (mkFl s) = sList n s t B q D hi
  | 0, hi => by rw [Nat.zero_mul]; rfl
  | D + 1, hi => by
    have hb := gBlock n B t ht q hi B 0 (by omega)
    rw [Nat.add_zero] at hb
    rw [show (D + 1) * B = B + D * B from by rw [Nat.succ_mul]; omega, gList_append, List.map_append, hb, show hi * B + B = (hi + 1) * B from by rw [Nat.succ_mul], gList_sList n s t B ht q D (hi + 1), sList]
    by_cases hq : q (hi * B + t) = true
    · rw [if_pos ⟨Nat.zero_le _, hq⟩, if_pos hq]; rfl
    · rw [if_neg (fun a => hq a.2), if_neg hq]; rfl
theorem least_is (n s : Nat) (e : Int) : (leastE e (leaves n (n - s) (firstI s)) e == e) = isLeastB n s e := by
  unfold isLeastB
  generalize leaves n (n - s) (firstI s) = L
  have h1 := leastE_le e L e
  rw [Bool.eq_iff_iff, beq_iff_eq, Bool.not_eq_true', List.any_eq_false]
  constructor
  · intro h l hl
    rw [decide_eq_true_eq]
    have := h1.2 l hl
    omega
  · intro h
    rcases leastE_mem e L e with h2 | ⟨l, hl, h2⟩
    · exact h2
    · have := h l hl
      rw [decide_eq_true_eq] at this
      omega
theorem allFlagsI_loop (s : Nat) (a b : Int) (G : List S33) (hG : G.length ≤ 100000) : ∀ (d i k : Nat) (out : List S35), i + d = G.length → out.length ≤ i → d + 1 ≤ k →
    impl_allFlags.l0 k out G (G.length : Int) i s b = some (out ++ (G.drop i).map (mkFl s), decide (((out ++ (G.drop i).map (mkFl s)).length : Int) ≤ 64))
  | 0, i, k, out, hd, ho, hk => by
    obtain ⟨k, rfl⟩ : ∃ q, k = q + 1 := ⟨k - 1, by omega⟩
    rw [impl_allFlags.l0, if_neg (by omega), List.drop_eq_nil_of_le (by omega), List.map_nil, List.append_nil]
  | d + 1, i, k, out, hd, ho, hk => by
    obtain ⟨k, rfl⟩ : ∃ q, k = q + 1 := ⟨k - 1, by omega⟩
    have hi : i < G.length := by omega
    rw [impl_allFlags.l0, if_pos (by omega), if_pos (by omega), if_pos (by omega), if_pos (by omega), rdG_nat G hi, w64_succ (by omega)]
    rw [allFlagsI_loop s a b G hG d (i + 1) k _ (by omega) (by rw [List.length_append]; simp only [List.length_cons, List.length_nil]; omega) (by omega), List.append_assoc, List.drop_eq_getElem_cons hi, List.map_cons]
    rfl
def flagsL (n s t : Nat) (L : List S33) : List S35 := sList n s t (2 ^ prs s) (fun e => isLeastB n s e && !(L.any (partB n e))) (2 ^ (prs n - prs s)) 0
theorem allFlagsI_eq (n s t : Nat) (hn : n < 6) (hs : s < n + 1) (h3 : s < 4) (ht : t < 2 ^ prs s) (L : List S33) (ho : okGs L) (hL : L.length ≤ 6) (hv : ∀ x ∈ L, validG x.f0 x.f1 = true) (k : Nat) (hk : 3000 ≤ k) : impl_allFlags.f k s t n L = some (flagsL n s t L, decide (((flagsL n s t L).length : Int) ≤ 64)) := by
  have hb : impl_pairs.f (s : Int) = some ((prs s : Nat) : Int) := (show ∀ n : Nat, n < 6 → impl_pairs.f (n : Int) = some ((prs n : Nat) : Int) from by decide +kernel) s (by omega)
  have hsh : shl .u32 1 ((prs s : Nat) : Int) = ((2 ^ prs s : Nat) : Int) := (show ∀ n : Nat, n < 6 → shl .u32 1 ((prs n : Nat) : Int) = ((2 ^ prs n : Nat) : Int) from by decide +kernel) s (by omega)
  have hp := prs_le' n hn
  have hpm := prs_mono n hn s hs
  unfold impl_allFlags.f
  rw [hb]
  simp only [Option.bind_some]
  rw [if_pos (by omega), hsh]
  rw [leasts_eq _ (fun e => (e % 2 ^ prs s == t) && !(L.any (partB n e))) n s hn hs (fun e he => by
    refine impl_allFlags_1T.of (k := 30) _ _ _ _ _ _ ?_
    unfold impl_allFlags_1.f
    rw [and_mod_all s h3 e (by omega)]
    by_cases hm : e % 2 ^ prs s = t
    · rw [if_pos (by omega), free_eq n hn e L ho hL hv 30 (by omega), hm]; simp
    · rw [if_neg (by omega)]; simp [hm]) k (by omega)]
  simp only [Option.bind_some]
  have hgl := gList_length n (fun e => ((e % 2 ^ prs s == t) && !(L.any (partB n e))) && isLeastB n s e) (2 ^ prs n) 0
  have h := allFlagsI_loop s s t (gList n (fun e => ((e % 2 ^ prs s == t) && !(L.any (partB n e))) && isLeastB n s e) (2 ^ prs n) 0) (by omega) _ 0 k [] (Nat.zero_add _) (by simp) (by omega)
  rw [show ((0 : Nat) : Int) = 0 from rfl, List.drop_zero, List.nil_append] at h
  rw [h]
  have hfun : (fun e : Nat => ((e % 2 ^ prs s == t) && !(L.any (partB n e))) && isLeastB n s e) = fun e : Nat => (e % 2 ^ prs s == t) && (isLeastB n s e && !(L.any (partB n e))) := by
    funext e
    cases (e % 2 ^ prs s == t) <;> cases isLeastB n s e <;> cases L.any (partB n e) <;> rfl
  have hg := gList_sList n s t (2 ^ prs s) ht (fun e => isLeastB n s e && !(L.any (partB n e))) (2 ^ (prs n - prs s)) 0
  rw [Nat.zero_mul, ← Nat.pow_add, show prs n - prs s + prs s = prs n from by omega] at hg
  rw [hfun, hg]
  rfl
theorem l03All_consts : ∀ n, n < 6 → ∀ s, s < n + 1 → spec_l01Bits.f ((n : Nat) : Int) = some ((prs n : Nat) : Int) ∧ IntKind.u64.wrap ((IntKind.u64.wrap ((prs n : Nat) : Int)) - ((prs s : Nat) : Int)) = ((prs n - prs s : Nat) : Int) ∧ shl .i64 1 ((prs n - prs s : Nat) : Int) = ((2 ^ (prs n - prs s) : Nat) : Int) ∧ IntKind.u64.wrap ((prs s : Nat) : Int) = ((prs s : Nat) : Int) := by decide +kernel
theorem l03All_loop (n s t : Nat) (hn : n < 6) (hs : s < n + 1) (h3 : s < 4) (ht : t < 2 ^ prs s) (L : List S33) (ho : okGs L) (hL : L.length ≤ 6) (hv : ∀ x ∈ L, validG x.f0 x.f1 = true) : ∀ (d hi k : Nat) (out : List S35), hi + d = 2 ^ (prs n - prs s) → out.length ≤ hi → d + 1100 ≤ k →
    spec_l03All.l0 k n L out ((prs s : Nat) : Int) hi s t = some (out ++ sList n s t (2 ^ prs s) (fun e => isLeastB n s e && !(L.any (partB n e))) d hi)
  | 0, hi, k, out, hd, ho2, hk => by
    obtain ⟨k, rfl⟩ : ∃ q, k = q + 1 := ⟨k - 1, by omega⟩
    obtain ⟨c1, c2, c3, _⟩ := l03All_consts n hn s hs
    rw [spec_l03All.l0, c1]
    simp only [Option.bind_some, c2, c3]
    rw [if_pos (by omega), if_neg (by omega), sList, List.append_nil]
  | d + 1, hi, k, out, hd, ho2, hk => by
    obtain ⟨k, rfl⟩ : ∃ q, k = q + 1 := ⟨k - 1, by omega⟩
    obtain ⟨c1, c2, c3, _⟩ := l03All_consts n hn s hs
    have hp := prs_le' n hn
    have hpm := prs_mono n hn s hs
    have hle : 2 ^ (prs n - prs s) ≤ 2 ^ prs n := Nat.pow_le_pow_right (by omega) (by omega)
    have hor := or_all s h3 t ht hi (by omega)
    rw [spec_l03All.l0, c1]
    simp only [Option.bind_some, c2, c3, hor]
    rw [if_pos (by omega), if_pos (by omega), if_pos (by omega), l03Least_eq n s hn hs _ k (by omega)]
    simp only [Option.bind_some, beq_self_eq_true, Bool.true_and, least_is]
    rw [l01Free_eq n hn _ L ho hL hv k (by omega), w64_succ (by omega), sList]
    simp only [Option.bind_some]
    have ih := fun out h => l03All_loop n s t hn hs h3 ht L ho hL hv d (hi + 1) k out (by omega) h (by omega)
    cases h1 : isLeastB n s ((hi * 2 ^ prs s + t : Nat) : Int)
    · simp only [Bool.false_eq_true, if_false, Bool.false_and]
      exact ih _ (by omega)
    · simp only [if_true, Bool.true_and]
      cases h2 : (!(L.any (partB n ((hi * 2 ^ prs s + t : Nat) : Int))))
      · simp only [Bool.false_eq_true, if_false]
        exact ih _ (by omega)
      · simp only [if_true]
        rw [if_pos (by omega), ih _ (by rw [List.length_append]; simp only [List.length_cons, List.length_nil]; omega), List.append_assoc]
        rfl
theorem l03All_eq (n s t : Nat) (hn : n < 6) (hs : s < n + 1) (h3 : s < 4) (ht : t < 2 ^ prs s) (L : List S33) (ho : okGs L) (hL : L.length ≤ 6) (hv : ∀ x ∈ L, validG x.f0 x.f1 = true) (k : Nat) (hk : 3000 ≤ k) : spec_l03All.f k s t n L = some (flagsL n s t L) := by
  have hp := prs_le' n hn
  have hle : 2 ^ (prs n - prs s) ≤ 2 ^ prs n := Nat.pow_le_pow_right (by omega) (by omega)
  obtain ⟨_, _, _, c4⟩ := l03All_consts n hn s hs
  obtain ⟨c1, _⟩ := l03All_consts s (by omega) s (by omega)
  unfold spec_l03All.f
  rw [c1]
  simp only [Option.bind_some, c4]
  have := l03All_loop n s t hn hs h3 ht L ho hL hv (2 ^ (prs n - prs s)) 0 k [] (Nat.zero_add _) (by simp) (by omega)
  rw [show ((0 : Nat) : Int) = 0 from rfl, List.nil_append] at this
  exact this

end Go.Proofs.Ytjemkdpffjneaaa.Q
end

section
namespace Go.Proofs.Ytjemkdpffjneaaa.Q
open Go.RowKit Go.Proofs.YtjemkdpffjneaaaW.PrintWords Go.Proofs.YtjemkdpffjneaaaW.PrintLast Go.Proofs.YtjemkdpffjneaaaW.PrintMore
attribute [local go_sem] max2_int min2_int max_two min_two max_three min_three max_four min_four   -- for this text's walks alone
set_option linter.unusedVariables false
set_option linter.unusedSimpArgs false

theorem eqFlagS_loop (l : List S35) (hl : l.length ≤ 1048576) : ∀ (d i k : Nat), i + d = l.length → d + 1 ≤ k → laws_eqFlagS.l0 k l l i = some true
  | 0, i, k, hd, hk => by
    obtain ⟨k, rfl⟩ : ∃ q, k = q + 1 := ⟨k - 1, by omega⟩
    rw [laws_eqFlagS.l0, if_neg (by omega)]
  | d + 1, i, k, hd, hk => by
    obtain ⟨k, rfl⟩ : ∃ q, k = q + 1 := ⟨k - 1, by omega⟩
    rw [laws_eqFlagS.l0, if_pos (by omega), if_pos (by omega), if_pos (by omega)]
    simp only [laws_eqFlag.f, laws_eqGraph.f, if_true, Option.bind_some]
    rw [w64_succ (by omega)]
    exact eqFlagS_loop l hl d (i + 1) k (by omega) (by omega)
theorem eqFlagS_self (l : List S35) (hl : l.length ≤ 1048576) (k : Nat) (hk : 1048577 ≤ k) : laws_eqFlagS.f k l l = some true := by
  unfold laws_eqFlagS.f
  rw [if_pos rfl]; exact eqFlagS_loop l hl l.length 0 k (by omega) (by omega)

end Go.Proofs.Ytjemkdpffjneaaa.Q
end

section
namespace Go.Proofs.Ytjemkdpffjneaaa.Q
open Go.RowKit Go.Proofs.YtjemkdpffjneaaaW.PrintWords Go.Proofs.YtjemkdpffjneaaaW.PrintLast Go.Proofs.YtjemkdpffjneaaaW.PrintMore
attribute [local go_sem] max2_int min2_int max_two min_two max_three min_three max_four min_four   -- for this text's walks alone
set_option linter.unusedVariables false
set_option linter.unusedSimpArgs false

theorem eqGraphS_loop (l : List S33) (hl : l.length ≤ 1048576) : ∀ (d i k : Nat), i + d = l.length → d + 1 ≤ k → laws_eqGraphS.l0 k l l i = some true
  | 0, i, k, hd, hk => by
    obtain ⟨k, rfl⟩ : ∃ q, k = q + 1 := ⟨k - 1, by omega⟩
    rw [laws_eqGraphS.l0, if_neg (by omega)]
  | d + 1, i, k, hd, hk => by
    obtain ⟨k, rfl⟩ : ∃ q, k = q + 1 := ⟨k - 1, by omega⟩
    rw [laws_eqGraphS.l0, if_pos (by omega), if_pos (by omega), if_pos (by omega), laws_eqGraph.f, if_pos rfl, if_pos rfl]
    simp only [Option.bind_some, if_true]
    rw [w64_succ (by omega)]
    exact eqGraphS_loop l hl d (i + 1) k (by omega) (by omega)
theorem eqGraphS_self (l : List S33) (hl : l.length ≤ 1048576) (k : Nat) (hk : 1048577 ≤ k) : laws_eqGraphS.f k l l = some true := by
  unfold laws_eqGraphS.f
  rw [if_pos rfl]; exact eqGraphS_loop l hl l.length 0 k (by omega) (by omega)

end Go.Proofs.Ytjemkdpffjneaaa.Q
end

section
namespace Go.Proofs.Ytjemkdpffjneaaa.Q
open Go.RowKit Go.Proofs.YtjemkdpffjneaaaW.PrintWords Go.Proofs.YtjemkdpffjneaaaW.PrintLast Go.Proofs.YtjemkdpffjneaaaW.PrintMore
attribute [local go_sem] max2_int min2_int max_two min_two max_three min_three max_four min_four   -- for this text's walks alone
set_option linter.unusedVariables false
set_option linter.unusedSimpArgs false

def markF : Nat → Int → List S35
  | 0, _ => []
  | d + 1, m => ⟨m, ⟨m + 1, m + 2⟩⟩ :: markF d (m + 3)
theorem markF_length : ∀ d m, (markF d m).length = d
  | 0, _ => rfl
  | d + 1, m => by rw [markF, List.length_cons, markF_length d]
theorem rdF_nat (l : List S35) {i : Nat} (hi : i < l.length) : rd_T35 l (i : Int) = l[i] := by unfold rd_T35; exact getD_of_lt l _ hi
theorem markFlagS_loop : ∀ (d i k : Nat) (L : List S35) (m : Int), i + d = L.length → L.length ≤ 1048576 → 0 ≤ m → m + 3 * d ≤ 2147483648 → d + 1 ≤ k → laws_markFlagS.l0 k L m i = some (m + 3 * d, L.take i ++ markF d m)
  | 0, i, k, L, m, hd, hL, h0, h1, hk => by
    obtain ⟨k, rfl⟩ : ∃ q, k = q + 1 := ⟨k - 1, by omega⟩
    rw [laws_markFlagS.l0, if_neg (by omega), List.take_of_length_le (by omega), markF, List.append_nil]
    congr 2; omega
  | d + 1, i, k, L, m, hd, hL, h0, h1, hk => by
    obtain ⟨k, rfl⟩ : ∃ q, k = q + 1 := ⟨k - 1, by omega⟩
    have hi : i < L.length := by omega
    have hm1 : wrap64 (m + 1) = m + 1 := by unfold wrap64; omega
    have hm2 : wrap64 (m + 1 + 1) = m + 2 := by unfold wrap64; omega
    have hm3 : wrap64 (m + 2 + 1) = m + 3 := by unfold wrap64; omega
    have hmm : (m + 2) % 4294967296 = m + 2 := by omega
    rw [laws_markFlagS.l0, if_pos (by omega), if_pos (by omega)]
    simp only [Option.bind_some, Int.toNat_natCast, hm1, hm2, hm3, hmm]
    have key : ∀ a, rd_T35 (L.set i a) (i : Int) = a := fun a => by rw [rdF_nat _ (by rw [List.length_set]; exact hi), List.getElem_set_self]
    rw [w64_succ (by omega)]
    simp only [key, List.set_set]
    rw [markFlagS_loop d (i + 1) k _ (m + 3) (by rw [List.length_set]; omega) (by rw [List.length_set]; exact hL) (by omega) (by omega) (by omega), set_take _ _ hi, List.append_assoc]
    congr 2
    omega
theorem markFlagS_eq (L : List S35) (hL : L.length ≤ 1000) (k : Nat) (hk : 1048577 ≤ k) : laws_markFlagS.f k L 1 = some (1 + 3 * (L.length : Int), markF L.length 1) := by
  unfold laws_markFlagS.f
  have := markFlagS_loop L.length 0 k L 1 (by omega) (by omega) (by omega) (by omega) (by omega)
  rw [show ((0 : Nat) : Int) = 0 from rfl] at this
  rw [this]; simp
theorem heldFlagS_loop : ∀ (d k : Nat) (pre : List S35) (m : Int), pre.length + d ≤ 1048576 → 0 ≤ m → m + 3 * d ≤ 2147483648 → d + 1 ≤ k → laws_heldFlagS.l0 k (pre ++ markF d m) m pre.length = some (m + 3 * d)
  | 0, k, pre, m, hL, h0, h1, hk => by
    obtain ⟨k, rfl⟩ : ∃ q, k = q + 1 := ⟨k - 1, by omega⟩
    rw [laws_heldFlagS.l0, if_neg (by simp [markF])]
    congr 1; omega
  | d + 1, k, pre, m, hL, h0, h1, hk => by
    obtain ⟨k, rfl⟩ : ∃ q, k = q + 1 := ⟨k - 1, by omega⟩
    have hlen : (pre ++ markF (d + 1) m).length = pre.length + (d + 1) := by rw [List.length_append, markF_length]
    have hi : pre.length < (pre ++ markF (d + 1) m).length := by omega
    have hg : (pre ++ markF (d + 1) m)[pre.length] = ⟨m, ⟨m + 1, m + 2⟩⟩ := by simp [markF]
    have hm1 : wrap64 (m + 1) = m + 1 := by unfold wrap64; omega
    have hm2 : wrap64 (m + 1 + 1) = m + 2 := by unfold wrap64; omega
    have hm3 : wrap64 (m + 2 + 1) = m + 3 := by unfold wrap64; omega
    have hmm : (m + 2) % 4294967296 = m + 2 := by omega
    rw [laws_heldFlagS.l0, if_pos (by omega), if_pos (by omega), rdF_nat _ hi, hg]
    simp only [hm1, hm2, hm3, hmm, if_true]
    rw [w64_succ (by omega)]
    have := heldFlagS_loop d k (pre ++ [⟨m, ⟨m + 1, m + 2⟩⟩]) (m + 3) (by rw [List.length_append]; simp only [List.length_cons, List.length_nil]; omega) (by omega) (by omega) (by omega)
    rw [List.length_append, List.append_assoc] at this
    simp only [List.length_cons, List.length_nil] at this
    rw [show pre ++ markF (d + 1) m = pre ++ ([⟨m, ⟨m + 1, m + 2⟩⟩] ++ markF d (m + 3)) from rfl, this]
    congr 1; omega
theorem heldFlagS_eq (d : Nat) (hd : d ≤ 1000) (k : Nat) (hk : 1048577 ≤ k) : laws_heldFlagS.f k (markF d 1) 1 = some (1 + 3 * (d : Int)) := by
  unfold laws_heldFlagS.f
  exact heldFlagS_loop d k [] 1 (by simp only [List.length_nil]; omega) (by omega) (by omega) (by omega)

end Go.Proofs.Ytjemkdpffjneaaa.Q
end

section
namespace Go.Proofs.Ytjemkdpffjneaaa.Q
open Go.RowKit Go.Proofs.YtjemkdpffjneaaaW.PrintWords Go.Proofs.YtjemkdpffjneaaaW.PrintLast Go.Proofs.YtjemkdpffjneaaaW.PrintMore
attribute [local go_sem] max2_int min2_int max_two min_two max_three min_three max_four min_four   -- for this text's walks alone
set_option linter.unusedVariables false
set_option linter.unusedSimpArgs false

end Go.Proofs.Ytjemkdpffjneaaa.Q
end

section
namespace Go.Proofs.Ytjemkdpffjneaaa.Q
open Go.RowKit Go.Proofs.YtjemkdpffjneaaaW.PrintWords Go.Proofs.YtjemkdpffjneaaaW.PrintLast Go.Proofs.YtjemkdpffjneaaaW.PrintMore
attribute [local go_sem] max2_int min2_int max_two min_two max_three min_three max_four min_four   -- for this text's walks alone
set_option linter.unusedVariables false
set_option linter.unusedSimpArgs false

def markG : Nat → Int → List S33
  | 0, _ => []
  | d + 1, m => ⟨m, m + 1⟩ :: markG d (m + 2)
theorem markGraphS_loop : ∀ (d i k : Nat) (L : List S33) (m : Int), i + d = L.length → L.length ≤ 1048576 → 0 ≤ m → m + 2 * d ≤ 2147483648 → d + 1 ≤ k → laws_markGraphS.l0 k L m i = some (m + 2 * d, L.take i ++ markG d m)
  | 0, i, k, L, m, hd, hL, h0, h1, hk => by
    obtain ⟨k, rfl⟩ : ∃ q, k = q + 1 := ⟨k - 1, by omega⟩
    rw [laws_markGraphS.l0, if_neg (by omega), List.take_of_length_le (by omega), markG, List.append_nil]
    congr 2; omega
  | d + 1, i, k, L, m, hd, hL, h0, h1, hk => by
    obtain ⟨k, rfl⟩ : ∃ q, k = q + 1 := ⟨k - 1, by omega⟩
    have hi : i < L.length := by omega
    have hm1 : wrap64 (m + 1) = m + 1 := by unfold wrap64; omega
    have hm2 : wrap64 (m + 1 + 1) = m + 2 := by unfold wrap64; omega
    have hmm : (m + 1) % 4294967296 = m + 1 := by omega
    rw [laws_markGraphS.l0, if_pos (by omega), if_pos (by omega)]
    simp only [Option.bind_some, Int.toNat_natCast, hm1, hm2, hmm]
    generalize (rd_T33 L (i : Int)).f1 = q
    rw [w64_succ (by omega), rdG_nat _ (by rw [List.length_set]; exact hi), List.getElem_set_self, List.set_set]
    rw [markGraphS_loop d (i + 1) k _ (m + 2) (by rw [List.length_set]; omega) (by rw [List.length_set]; exact hL) (by omega) (by omega) (by omega), set_take _ _ hi, List.append_assoc]
    congr 2
    omega
theorem markGraphS_eq (L : List S33) (hL : L.length ≤ 1048576) (m : Int) (h0 : 0 ≤ m) (h1 : m ≤ 1000000) (k : Nat) (hk : 1048577 ≤ k) : laws_markGraphS.f k L m = some (m + 2 * L.length, markG L.length m) := by
  unfold laws_markGraphS.f
  have := markGraphS_loop L.length 0 k L m (by omega) hL h0 (by omega) (by omega)
  rw [show ((0 : Nat) : Int) = 0 from rfl] at this
  rw [this]; simp
end Go.Proofs.Ytjemkdpffjneaaa.Q
end

section
namespace Go.Proofs.Ytjemkdpffjneaaa.Q
open Go.RowKit Go.Proofs.YtjemkdpffjneaaaW.PrintWords Go.Proofs.YtjemkdpffjneaaaW.PrintLast Go.Proofs.YtjemkdpffjneaaaW.PrintMore
attribute [local go_sem] max2_int min2_int max_two min_two max_three min_three max_four min_four   -- for this text's walks alone
set_option linter.unusedVariables false
set_option linter.unusedSimpArgs false

theorem in_eq4 (a b c : Int) : impl_in.f a b c = some (decide (b ≤ a ∧ a ≤ c)) := by
  unfold impl_in.f
  by_cases h : a ≥ b
  · rw [if_pos h]; congr 1; rw [decide_eq_decide]; omega
  · rw [if_neg h]; congr 1; symm; rw [decide_eq_false_iff_not]; omega

end Go.Proofs.Ytjemkdpffjneaaa.Q
end

section
namespace Go.Proofs.Ytjemkdpffjneaaa.Q
open Go.RowKit Go.Proofs.YtjemkdpffjneaaaW.PrintWords Go.Proofs.YtjemkdpffjneaaaW.PrintLast Go.Proofs.YtjemkdpffjneaaaW.PrintMore
attribute [local go_sem] max2_int min2_int max_two min_two max_three min_three max_four min_four   -- for this text's walks alone
set_option linter.unusedVariables false
set_option linter.unusedSimpArgs false

def toG (x : S30) : S33 := ⟨x.f0, x.f1⟩
def toGs (l : List S30) : List S33 := l.map toG
theorem toGraphS_loop (l : List S30) (hl : l.length ≤ 1048576) : ∀ (d i k : Nat) (out : List S33), i + d = l.length → out.length = l.length → d + 1 ≤ k → laws_toGraphS.l0 k l out i = some (out.take i ++ (l.drop i).map toG)
  | 0, i, k, out, hd, ho, hk => by
    obtain ⟨k, rfl⟩ : ∃ q, k = q + 1 := ⟨k - 1, by omega⟩
    rw [laws_toGraphS.l0, if_neg (by omega), List.drop_eq_nil_of_le (by omega), List.take_of_length_le (by omega)]; simp
  | d + 1, i, k, out, hd, ho, hk => by
    obtain ⟨k, rfl⟩ : ∃ q, k = q + 1 := ⟨k - 1, by omega⟩
    rw [laws_toGraphS.l0, if_pos (by omega), if_pos (by omega), laws_toGraph.f]
    simp only [Option.bind_some]
    rw [if_pos (by omega), w64_succ (by omega), Int.toNat_natCast]
    rw [toGraphS_loop l hl d (i + 1) k _ (by omega) (by rw [List.length_set]; exact ho) (by omega), set_take _ _ (by omega), List.append_assoc]
    congr 2
    rw [List.drop_eq_getElem_cons (show i < l.length by omega), List.map_cons]
    show [_] ++ _ = _
    congr 1
    unfold rd_T30
    rw [getD_of_lt _ _ (by omega)]; rfl
theorem toGraphS_eq (l : List S30) (hl : l.length ≤ 1048576) (k : Nat) (hk : 1048577 ≤ k) : laws_toGraphS.f k l = some (toGs l) := by
  unfold laws_toGraphS.f
  rw [if_pos (by omega), if_pos (by omega)]
  have := toGraphS_loop l hl l.length 0 k (List.replicate ((l.length : Int) : Int).toNat z33) (by omega) (by simp) (by omega)
  rw [show ((0 : Nat) : Int) = 0 from rfl] at this
  rw [this]; simp [toGs]

end Go.Proofs.Ytjemkdpffjneaaa.Q
end

section
namespace Go.Proofs.Ytjemkdpffjneaaa.Q
open Go.RowKit Go.Proofs.YtjemkdpffjneaaaW.PrintWords Go.Proofs.YtjemkdpffjneaaaW.PrintLast Go.Proofs.YtjemkdpffjneaaaW.PrintMore
attribute [local go_sem] max2_int min2_int max_two min_two max_three min_three max_four min_four   -- for this text's walks alone
set_option linter.unusedVariables false
set_option linter.unusedSimpArgs false

theorem AllFlags_fin (a b n : Int) (l : List S30) (hl : l.length ≤ 1048576) (L : List S35) (hL : L.length ≤ 1000) (c : Int) (k : Nat) (hk : 1048590 ≤ k) (h : ∀ k, 1048577 ≤ k → impl_AllFlags.f k a b n (toGs l) = some (L, c)) :
    laws_FnExactAllFlags.j0 k n l L c (toGs l) L c false a b = some true := by
  obtain ⟨k, rfl⟩ : ∃ q, k = q + 3 := ⟨k - 3, by omega⟩
  have hlen : (toGs l).length = l.length := by unfold toGs; rw [List.length_map]
  rw [laws_FnExactAllFlags.j0, if_neg (by simp), toGraphS_eq l hl _ (by omega)]
  simp only [Option.bind_some]
  rw [eqGraphS_self _ (by omega) _ (by omega), markGraphS_eq _ (by omega) 1 (by omega) (by omega) _ (by omega)]
  simp only [Option.bind_some, if_true]
  rw [if_neg (by omega), eqFlagS_self L (by omega) _ (by omega)]
  simp only [Option.bind_some, if_true, bne_self_eq_false]
  rw [laws_FnExactAllFlags.j1, if_neg (by simp), markFlagS_eq L hL _ (by omega)]
  simp only [Option.bind_some]
  rw [heldFlagS_eq L.length hL _ (by omega)]
  simp only [Option.bind_some]
  rw [if_neg (by omega), if_pos trivial]
  simp only [laws_toGraph.f, Option.bind_some]
  rw [toGraphS_eq l hl _ (by omega)]
  simp only [Option.bind_some]
  rw [h _ (by omega)]
  simp only [Option.bind_some]
  rw [eqFlagS_self L (by omega) _ (by omega)]
  simp only [Option.bind_some, if_true, bne_self_eq_false]
  rw [laws_FnExactAllFlags.j2, if_neg (by simp), heldFlagS_eq L.length hL _ (by omega)]
  simp only [Option.bind_some]
  rw [if_neg (by omega), if_pos trivial]
theorem FnExactAllFlags_pure (a b n : Int) (l : List S30) (_ha : (Lit.int .i64 a).wf = true) (hb : (Lit.int .u32 b).wf = true) (_hn : (Lit.int .i64 n).wf = true) (hl : l.length < 9223372036854775808 ∧ ∀ b ∈ l, (Lit.int .i64 b.f0).wf = true ∧ (Lit.int .u32 b.f1).wf = true) : ∃ k, laws_FnExactAllFlags.f k a b n l = some true := by
  obtain ⟨K, hK⟩ : ∃ K : Nat, 2000000 ≤ K := ⟨2000000, Nat.le_refl _⟩
  refine ⟨K + 1, ?_⟩
  have he' : 0 ≤ b ∧ b ≤ 4294967295 := by simpa [Lit.wf, IntKind.min, IntKind.max, IntKind.bits, IntKind.signed] using hb
  unfold laws_FnExactAllFlags.f laws_szGraphS.f
  by_cases hs : wrap64 (1048576 - (l.length : Int)) < 0
  · rw [if_pos hs]; rfl
  rw [if_neg hs]
  have hl2 : l.length ≤ 1048576 := by have := hl.1; unfold wrap64 at hs; omega
  simp only [Option.bind_some]
  rw [if_neg hs]
  have ho : okGs (toGs l) := fun x hx => by
    obtain ⟨b, hb, rfl⟩ := List.mem_map.1 hx
    have := (hl.2 b hb).2
    simpa [toG, Lit.wf, IntKind.min, IntKind.max, IntKind.bits, IntKind.signed] using this
  have hlen : (toGs l).length = l.length := by unfold toGs; rw [List.length_map]
  obtain ⟨L, c, hL, hsp, him⟩ : ∃ (L : List S35) (c : Int), L.length ≤ 1000 ∧ spec_AllFlags.f (K + 1) a b n (toGs l) = some (L, c) ∧ ∀ k, 1048577 ≤ k → impl_AllFlags.f k a b n (toGs l) = some (L, c) := by
    unfold spec_AllFlags.f impl_AllFlags.f
    rw [l01Ok_eq a b he'.1 he'.2, ValidGraph_eq a b he'.1 he'.2]
    simp only [Option.bind_some]
    cases hv : validG a b
    · exact ⟨[], 1, by simp, rfl, fun k _ => rfl⟩
    simp only [if_true]
    rw [l01Forbidden_eq _ (by omega) ho (K + 1) (by omega)]
    simp only [Option.bind_some]
    by_cases hf : forb (toGs l) = 0
    rotate_left
    · refine ⟨[], forb (toGs l), by simp, by rw [if_neg hf], fun k hk => ?_⟩
      rw [forbiddenOk_eq _ (by omega) ho k (by omega)]
      simp only [Option.bind_some, if_neg hf]
    obtain ⟨h6, hvs⟩ := forb_zero hf
    have him1 : ∀ k, 1048577 ≤ k → impl_forbiddenOk.f k (toGs l) = some 0 := fun k hk => by rw [forbiddenOk_eq _ (by omega) ho k (by omega), hf]
    rw [if_pos hf]
    obtain ⟨s, t, rfl, rfl, hs6, ht⟩ := validG_nat he'.1 hv
    by_cases h3 : (s : Int) > 3
    · refine ⟨[], 2, by simp, by rw [if_pos h3, spec_AllFlags.j0, if_pos rfl], fun k hk => ?_⟩
      rw [him1 k hk]
      simp only [Option.bind_some, if_true, impl_spanOk.f]
      rw [if_neg (by omega)]
      simp
    rw [if_neg h3, l00In_eq]
    simp only [Option.bind_some]
    by_cases hn : (s : Int) ≤ n ∧ n ≤ 5
    rotate_left
    · refine ⟨[], 2, by simp, by rw [decide_eq_false hn, spec_AllFlags.j0, if_pos (by rfl)], fun k hk => ?_⟩
      rw [him1 k hk]
      simp only [Option.bind_some, if_true, impl_spanOk.f]
      rw [if_pos (by omega), in_eq4, decide_eq_false hn]
      simp
    obtain ⟨m, rfl⟩ : ∃ m : Nat, n = m := ⟨n.toNat, by omega⟩
    have hm : m < 6 := by omega
    have hsp := l03All_eq m s t hm (by omega) (by omega) ht (toGs l) ho h6 hvs K (by omega)
    have hi : ∀ k, 1048577 ≤ k → impl_allFlags.f k s t m (toGs l) = some (flagsL m s t (toGs l), decide (((flagsL m s t (toGs l)).length : Int) ≤ 64)) := fun k hk => allFlagsI_eq m s t hm (by omega) (by omega) ht (toGs l) ho h6 hvs k (by omega)
    rw [decide_eq_true hn, spec_AllFlags.j0, if_neg (by simp), hsp]
    simp only [Option.bind_some]
    by_cases h64 : ((flagsL m s t (toGs l)).length : Int) > 64
    · refine ⟨[], 3, by simp, by rw [if_pos h64], fun k hk => ?_⟩
      rw [him1 k hk]
      simp only [Option.bind_some, if_true, impl_spanOk.f]
      rw [if_pos (by omega), in_eq4, decide_eq_true hn]
      simp only [Option.bind_some, if_true]
      rw [hi k hk, decide_eq_false (by omega)]
      simp
    · refine ⟨flagsL m s t (toGs l), 0, by omega, by rw [if_neg h64], fun k hk => ?_⟩
      rw [him1 k hk]
      simp only [Option.bind_some, if_true, impl_spanOk.f]
      rw [if_pos (by omega), in_eq4, decide_eq_true hn]
      simp only [Option.bind_some, if_true]
      rw [hi k hk, decide_eq_true (by omega)]
      simp
  simp only [laws_toGraph.f, Option.bind_some]
  rw [toGraphS_eq l hl2 (K + 1) (by omega)]
  simp only [Option.bind_some]
  rw [hsp]
  simp only [Option.bind_some]
  rw [him (K + 1) (by omega)]
  simp only [Option.bind_some]
  rw [eqFlagS_self L (by omega) (K + 1) (by omega)]
  simp only [Option.bind_some, if_true, bne_self_eq_false]
  exact AllFlags_fin _ _ _ l hl2 L hL c (K + 1) (by omega) him

end Go.Proofs.Ytjemkdpffjneaaa.Q
end

section
namespace Go.Proofs.YtjemkdpffjneaaaW.PrintWords
open Go Go.RowKit Go.ChangeShapes Go.WideShapes Go.ChangeAt Go.Deep
set_option linter.unusedVariables false
section
variable {H : Type} (enc : TypeId × Value → H) (P : Program) (W : World)
/-- Whatever reads as data of type t stands for a plain value. -/
def Opens {α : Type} (t : TypeId) (k : Kd α) (wf : α → Prop) : Prop :=
  ∀ (fuel : Nat) (cs : List Value) (x : DataW H × List MemPlace), DataW.trod enc P W 0 (fun _ => true) true fuel t cs = some x → ∃ a, k.K W a cs ∧ wf a
end
section
variable {H : Type} {enc : TypeId × Value → H} {P : Program} {W : World}
theorem Opens.int {t : TypeId} {k : IntKind} (ht : P.underlying t = some (.int k)) : Opens enc P W t (Kd.int k) (fun n => (Lit.int k n).wf = true) := by
  intro fuel cs x h
  obtain ⟨n, rfl, _, hw⟩ := DataW.trod_int ht h
  exact ⟨n, rfl, hw⟩
theorem Opens.bool {t : TypeId} (ht : P.underlying t = some .bool) : Opens enc P W t Kd.bool (fun _ => True) := by
  intro fuel cs x h
  obtain ⟨n, rfl, _⟩ := DataW.trod_bool ht h
  exact ⟨n, rfl, trivial⟩
theorem Opens.struct2 {α β : Type} {t : TypeId} {f0 f1 : Field} {k0 : Kd α} {k1 : Kd β} {p0 : α → Prop} {p1 : β → Prop} (ht : P.underlying t = some (.struct #[f0, f1])) (o0 : f0.offset = 0) (o1 : f1.offset = P.cellsOf f0.type) (hc : P.cellsOf t = P.cellsOf f0.type + P.cellsOf f1.type)
    (h0 : Opens enc P W f0.type k0 p0) (h1 : Opens enc P W f1.type k1 p1) : Opens enc P W t (Kd.pair k0 k1) (fun p => p0 p.1 ∧ p1 p.2) := by
  intro fuel cs x h
  obtain ⟨y0, y1, n, _, hl, e0, e1⟩ := trod_struct2 ht h
  obtain ⟨a, ka, wa⟩ := h0 n _ _ e0
  obtain ⟨b, kb, wb⟩ := h1 n _ _ e1
  refine ⟨(a, b), ⟨_, _, ?_, ka, kb⟩, wa, wb⟩
  rw [o0, o1, List.drop_zero, List.take_of_length_le (l := List.drop _ cs) (by rw [List.length_drop, hl, hc]; omega), List.take_append_drop]
theorem Opens.iso {α β : Type} {t : TypeId} {k : Kd α} {p : α → Prop} (f : β → α) (g : α → β) (hfg : ∀ a, f (g a) = a) (h : Opens enc P W t k p) : Opens enc P W t (Kd.iso k f) (fun b => p (f b)) := by
  intro fuel cs x hx
  obtain ⟨a, ka, wa⟩ := h fuel cs x hx
  exact ⟨g a, by show k.K W (f (g a)) cs; rw [hfg]; exact ka, by show p (f (g a)); rw [hfg]; exact wa⟩
theorem Opens.slice {α : Type} (z : α) {t e : TypeId} {k : Kd α} {p : α → Prop} (ht : P.underlying t = some (.slice e)) (hs : k.sz = P.cellsOf e) (h : Opens enc P W e k p) : Opens enc P W t (Kd.slice e k) (fun l => l.length < 9223372036854775808 ∧ ∀ a ∈ l, p a) := by
  haveI : Inhabited α := ⟨z⟩
  intro fuel cs x hx
  rcases open_slice ht hx with ⟨rfl, _⟩ | ⟨ad, len, cap, m, n, D, Pl, rfl, _, hl, hm, hmm, _, hel⟩
  · exact ⟨[], ⟨none, 0, rfl, Nat.le_refl _, rfl, by simp, fun h0 => absurd h0 (Nat.lt_irrefl 0)⟩, by simp, fun a ha => by cases ha⟩
  · have hlm : len ≤ m := by
      rw [hmm]; split
      · exact hl
      · exact Nat.le_refl _
    obtain ⟨F, hF⟩ := choose_lt (α := α) (n := len) (p := fun i a => p a ∧ ∃ cs', k.K W a cs' ∧ W.cells? 0 (ad.add (i * P.cellsOf e)) (P.cellsOf e) = some cs') (fun i hi => by
      obtain ⟨cs', h1, h2⟩ := hel i (by omega)
      obtain ⟨a, ka, wa⟩ := h n _ _ h2
      exact ⟨a, wa, cs', ka, h1⟩)
    refine ⟨(List.range len).map F, ⟨some ad, cap, by simp, by simpa using hl, by simp, by simp; unfold maxLen at hm; omega, fun _ => ⟨ad, rfl, fun j q hq => ?_⟩⟩, by simp; unfold maxLen at hm; omega, fun a ha => ?_⟩
    · obtain ⟨hj, rfl⟩ : j < len ∧ F j = q := by
        rw [List.getElem?_map] at hq
        rcases Nat.lt_or_ge j len with hj | hj
        · rw [List.getElem?_range hj] at hq; exact ⟨hj, by simpa using hq⟩
        · rw [List.getElem?_eq_none (by simpa using hj)] at hq; simp at hq
      obtain ⟨_, cs', ka, h1⟩ := hF j hj
      obtain ⟨_, hlen, hcell⟩ := World.cells?_some h1
      refine ⟨cs', k.K_len ka, ka, fun i u hu => ?_⟩
      have hi : i < P.cellsOf e := by rw [← hlen]; exact (List.getElem?_eq_some_iff.1 hu).1
      rw [hs, ← add_add, hcell i hi]; exact hu
    · obtain ⟨i, hi, rfl⟩ := List.mem_map.1 ha
      exact (hF i (List.mem_range.1 hi)).1
end
end Go.Proofs.YtjemkdpffjneaaaW.PrintWords
end
