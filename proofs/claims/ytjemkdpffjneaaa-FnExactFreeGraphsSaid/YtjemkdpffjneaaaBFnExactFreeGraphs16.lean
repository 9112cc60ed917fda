/- Contracts of Go functions and plain lemmas over what they compute; printed by the kit's print program or written by hand, joined. -/
import Derived.Test.YtjemkdpffjneaaaBFnExactFreeGraphs3
import Derived.Test.YtjemkdpffjneaaaBFnExactFreeGraphs10
import Derived.Test.YtjemkdpffjneaaaBFnExactFreeGraphs9
import Derived.Test.YtjemkdpffjneaaaBFnExactFreeGraphs4
import Derived.Test.YtjemkdpffjneaaaBFnExactFreeGraphs5
import Derived.Test.YtjemkdpffjneaaaBFnExactFreeGraphs12
import Derived.Test.YtjemkdpffjneaaaBFnExactFreeGraphs6
import Derived.Test.YtjemkdpffjneaaaBFnExactFreeGraphs8
import Derived.Test.YtjemkdpffjneaaaBFnExactFreeGraphs13
import Derived.Test.YtjemkdpffjneaaaBFnExactFreeGraphs7
import Derived.Test.YtjemkdpffjneaaaBFnExactFreeGraphs11
import Derived.Test.YtjemkdpffjneaaaBFnExactFreeGraphs14
import Derived.Test.YtjemkdpffjneaaaBFnExactFreeGraphs15
import Derived.Test.YtjemkdpffjneaaaBFnExactFreeGraphs2
import Derived.WalkKit
import Derived.ProofKit
import Derived.OpenShut
import Derived.ChangeOld
import Derived.Deep.Slices
section
namespace Go.Proofs.Ytjemkdpffjneaaa.Q
open Go.RowKit Go.Proofs.YtjemkdpffjneaaaW.PrintWords Go.Proofs.YtjemkdpffjneaaaW.PrintLast Go.Proofs.YtjemkdpffjneaaaW.PrintMore
attribute [local go_sem] max2_int min2_int max_two min_two max_three min_three max_four min_four   -- for this text's walks alone
set_option linter.unusedVariables false
set_option linter.unusedSimpArgs false

theorem eqGraphS_loop (l : List S33) (hl : l.length ≤ 1048576) : ∀ (d i k : Nat), i + d = l.length → d + 1 ≤ k → laws_eqGraphS.l0 k l l i = some true
  | 0, i, k, hd, hk => by
    obtain ⟨k, rfl⟩ : ∃ q, k = q + 1 := ⟨k - 1, by omega⟩
    rw [laws_eqGraphS.l0, if_neg (by omega)]
  | d + 1, i, k, hd, hk => by
    obtain ⟨k, rfl⟩ : ∃ q, k = q + 1 := ⟨k - 1, by omega⟩
    rw [laws_eqGraphS.l0, if_pos (by omega), if_pos (by omega), if_pos (by omega), laws_eqGraph.f, if_pos rfl, if_pos rfl]
    simp only [Option.bind_some, if_true]
    rw [w64_succ (by omega)]
    exact eqGraphS_loop l hl d (i + 1) k (by omega) (by omega)
theorem eqGraphS_self (l : List S33) (hl : l.length ≤ 1048576) (k : Nat) (hk : 1048577 ≤ k) : laws_eqGraphS.f k l l = some true := by
  unfold laws_eqGraphS.f
  rw [if_pos rfl]; exact eqGraphS_loop l hl l.length 0 k (by omega) (by omega)

end Go.Proofs.Ytjemkdpffjneaaa.Q
end

section
namespace Go.Proofs.Ytjemkdpffjneaaa.Q
open Go.RowKit Go.Proofs.YtjemkdpffjneaaaW.PrintWords Go.Proofs.YtjemkdpffjneaaaW.PrintLast Go.Proofs.YtjemkdpffjneaaaW.PrintMore
attribute [local go_sem] max2_int min2_int max_two min_two max_three min_three max_four min_four   -- for this text's walks alone
set_option linter.unusedVariables false
set_option linter.unusedSimpArgs false

def idxI {α : Type} (p : α → Bool) : List α → Nat → Int
  | [], _ => -1
  | x :: xs, i => if p x = true then (i : Int) else idxI p xs (i + 1)
theorem idxI_any {α : Type} (p : α → Bool) : ∀ (L : List α) (i : Nat), decide (idxI p L i ≥ 0) = L.any p
  | [], _ => by simp [idxI]
  | x :: xs, i => by
    rw [idxI, List.any_cons]
    by_cases h : p x = true
    · rw [if_pos h, h]; simp
    · rw [if_neg h, idxI_any p xs (i + 1)]; simp [Bool.eq_false_iff.2 h]

end Go.Proofs.Ytjemkdpffjneaaa.Q
end

section
namespace Go.Proofs.Ytjemkdpffjneaaa.Q
open Go.RowKit Go.Proofs.YtjemkdpffjneaaaW.PrintWords Go.Proofs.YtjemkdpffjneaaaW.PrintLast Go.Proofs.YtjemkdpffjneaaaW.PrintMore
attribute [local go_sem] max2_int min2_int max_two min_two max_three min_three max_four min_four   -- for this text's walks alone
set_option linter.unusedVariables false
set_option linter.unusedSimpArgs false

theorem idxGraph_loop (cb : Int → Int → Option Bool) (p : S33 → Bool) (L : List S33) (hL : L.length ≤ 1048576) (hcb : ∀ x ∈ L, cb x.f0 x.f1 = some (p x)) : ∀ (d i k : Nat), i + d = L.length → d + 1 ≤ k → impl_Graph_149.l0 cb k L (L.length : Int) i = some (idxI p (L.drop i) i)
  | 0, i, k, hd, hk => by
    obtain ⟨k, rfl⟩ : ∃ q, k = q + 1 := ⟨k - 1, by omega⟩
    rw [impl_Graph_149.l0, if_neg (by omega), List.drop_eq_nil_of_le (by omega)]; rfl
  | d + 1, i, k, hd, hk => by
    obtain ⟨k, rfl⟩ : ∃ q, k = q + 1 := ⟨k - 1, by omega⟩
    have hi : i < L.length := by omega
    have hr : rd_T33 L (i : Int) = L[i] := by unfold rd_T33; exact getD_of_lt L _ hi
    rw [impl_Graph_149.l0]
    simp only [hr]
    rw [if_pos (by omega), if_pos (by omega), if_pos (by omega), hcb _ (List.getElem_mem hi), w64_succ (by omega), List.drop_eq_getElem_cons hi, idxI]
    simp only [Option.bind_some]
    split
    · rfl
    · exact idxGraph_loop cb p L hL hcb d (i + 1) k (by omega) (by omega)
theorem idxGraph_eq (cb : Int → Int → Option Bool) (p : S33 → Bool) (L : List S33) (hL : L.length ≤ 1048576) (hcb : ∀ x ∈ L, cb x.f0 x.f1 = some (p x)) (k : Nat) (hk : L.length + 1 ≤ k) : impl_Graph_149.f cb k L = some (idxI p L 0) := by
  unfold impl_Graph_149.f
  have := idxGraph_loop cb p L hL hcb L.length 0 k (Nat.zero_add _) hk
  rw [show ((0 : Nat) : Int) = 0 from rfl, List.drop_zero] at this
  exact this
theorem anyGraph_eq (cb : Int → Int → Option Bool) (p : S33 → Bool) (L : List S33) (hL : L.length ≤ 1048576) (hcb : ∀ x ∈ L, cb x.f0 x.f1 = some (p x)) (k : Nat) (hk : L.length + 1 ≤ k) : impl_Graph_122.f cb k L = some (L.any p) := by
  unfold impl_Graph_122.f
  rw [idxGraph_eq cb p L hL hcb k hk]
  simp only [Option.bind_some, idxI_any]

end Go.Proofs.Ytjemkdpffjneaaa.Q
end

section
namespace Go.Proofs.Ytjemkdpffjneaaa.Q
open Go.RowKit Go.Proofs.YtjemkdpffjneaaaW.PrintWords Go.Proofs.YtjemkdpffjneaaaW.PrintLast Go.Proofs.YtjemkdpffjneaaaW.PrintMore
attribute [local go_sem] max2_int min2_int max_two min_two max_three min_three max_four min_four   -- for this text's walks alone
set_option linter.unusedVariables false
set_option linter.unusedSimpArgs false

theorem in_eq (a b c : Int) : impl_in.f a b c = some (decide (b ≤ a ∧ a ≤ c)) := by
  unfold impl_in.f
  by_cases h : a ≥ b
  · rw [if_pos h]; congr 1; rw [decide_eq_decide]; omega
  · rw [if_neg h]; congr 1; symm; rw [decide_eq_false_iff_not]; omega

end Go.Proofs.Ytjemkdpffjneaaa.Q
end

section
namespace Go.Proofs.Ytjemkdpffjneaaa.Q
open Go.RowKit Go.Proofs.YtjemkdpffjneaaaW.PrintWords Go.Proofs.YtjemkdpffjneaaaW.PrintLast Go.Proofs.YtjemkdpffjneaaaW.PrintMore
attribute [local go_sem] max2_int min2_int max_two min_two max_three min_three max_four min_four   -- for this text's walks alone
set_option linter.unusedVariables false
set_option linter.unusedSimpArgs false

def validG (n e : Int) : Bool := decide (0 ≤ n ∧ n ≤ 5 ∧ e < 2 ^ (n.toNat * (n.toNat - 1) / 2))
theorem l01Ok_eq (n e : Int) (h0 : 0 ≤ e) (h1 : e ≤ 4294967295) : spec_l01Ok.f n e = some (validG n e) := by
  have hw : wrap64 e = e := by unfold wrap64; omega
  unfold spec_l01Ok.f validG
  rw [l00In_eq, hw]; simp only [Option.bind_some]
  by_cases h : 0 ≤ n ∧ n ≤ 5
  · rw [if_pos (by simpa using h)]
    obtain ⟨ha, hb⟩ := h
    rcases small5 ha hb with rfl | rfl | rfl | rfl | rfl | rfl
    all_goals
      simp only [spec_l01Bits.f]
      simp [wrap64, IntKind.wrap_u64, shl, IntKind.wrap_i64, IntKind.bits]
  · rw [if_neg (by simpa using h)]; congr 1; symm; rw [decide_eq_false_iff_not]; omega

end Go.Proofs.Ytjemkdpffjneaaa.Q
end

section
namespace Go.Proofs.Ytjemkdpffjneaaa.Q
open Go.RowKit Go.Proofs.YtjemkdpffjneaaaW.PrintWords Go.Proofs.YtjemkdpffjneaaaW.PrintLast Go.Proofs.YtjemkdpffjneaaaW.PrintMore
attribute [local go_sem] max2_int min2_int max_two min_two max_three min_three max_four min_four   -- for this text's walks alone
set_option linter.unusedVariables false
set_option linter.unusedSimpArgs false

theorem ValidGraph_eq (n e : Int) (h0 : 0 ≤ e) (h1 : e ≤ 4294967295) : impl_ValidGraph.f n e = some (validG n e) := by
  unfold impl_ValidGraph.f validG
  rw [in_eq]; simp only [Option.bind_some]
  by_cases h : 0 ≤ n ∧ n ≤ 5
  · rw [if_pos (by simpa using h)]
    obtain ⟨ha, hb⟩ := h
    rcases small5 ha hb with rfl | rfl | rfl | rfl | rfl | rfl
    all_goals
      simp only [impl_pairs.f]
      simp [wrap64, shr, IntKind.bits]
    all_goals (first | done | (rw [Bool.eq_iff_iff]; simp; omega))
  · rw [if_neg (by simpa using h)]; congr 1; symm; rw [decide_eq_false_iff_not]; omega

end Go.Proofs.Ytjemkdpffjneaaa.Q
end

section
namespace Go.Proofs.Ytjemkdpffjneaaa.Q
open Go.RowKit Go.Proofs.YtjemkdpffjneaaaW.PrintWords Go.Proofs.YtjemkdpffjneaaaW.PrintLast Go.Proofs.YtjemkdpffjneaaaW.PrintMore
attribute [local go_sem] max2_int min2_int max_two min_two max_three min_three max_four min_four   -- for this text's walks alone
set_option linter.unusedVariables false
set_option linter.unusedSimpArgs false

def leavesIn (g : List Int → List (List Int)) (l : List Int) : Nat → Nat → List (List Int)
  | 0, _ => []
  | d + 1, i => if (i : Int) ∈ l then leavesIn g l d (i + 1) else g (l ++ [(i : Int)]) ++ leavesIn g l d (i + 1)
/-- All lists of different numbers below n that go on from l by r places, in order. -/
def leaves (n : Nat) : Nat → List Int → List (List Int)
  | 0, l => [l]
  | r + 1, l => leavesIn (leaves n r) l n 0
def runCb {σ : Type} (cb : List Int → σ → Option (Bool × σ)) : List (List Int) → σ → Option (Bool × σ)
  | [], a => some (false, a)
  | l :: ls, a => (cb l a).bind fun p => if p.1 = true then some (true, p.2) else runCb cb ls p.2
theorem runCb_append {σ : Type} (cb : List Int → σ → Option (Bool × σ)) (y : List (List Int)) : ∀ (x : List (List Int)) (a : σ), runCb cb (x ++ y) a = (runCb cb x a).bind fun p => if p.1 = true then some (true, p.2) else runCb cb y p.2
  | [], a => rfl
  | l :: ls, a => by
    simp only [List.cons_append, runCb]
    cases h : cb l a with
    | none => rfl
    | some p =>
      simp only [Option.bind_some]
      by_cases hp : p.1 = true
      · rw [if_pos hp, if_pos hp]; rfl
      · rw [if_neg hp, if_neg hp]; exact runCb_append cb y ls p.2
theorem lstdIn_eq {σ : Type} (cb : List Int → σ → Option (Bool × σ)) (f : List Int → σ → Option (Bool × σ)) (g : List Int → List (List Int)) (hf : ∀ l a, f l a = runCb cb (g l) a) (l : List Int) : ∀ (d i : Nat) (a : σ), lstdIn f l d i a = runCb cb (leavesIn g l d i) a
  | 0, _, _ => rfl
  | d + 1, i, a => by
    rw [lstdIn, leavesIn]
    by_cases h : (i : Int) ∈ l
    · rw [if_pos h, if_pos h]; exact lstdIn_eq cb f g hf l d (i + 1) a
    · rw [if_neg h, if_neg h, runCb_append, hf]
      congr 1
      funext p
      by_cases hp : p.1 = true
      · rw [if_pos hp, if_pos hp]
      · rw [if_neg hp, if_neg hp]; exact lstdIn_eq cb f g hf l d (i + 1) p.2
theorem lstd_eq {σ : Type} (cb : List Int → σ → Option (Bool × σ)) (n : Nat) : ∀ (r : Nat) (l : List Int) (a : σ), lstd cb n r l a = runCb cb (leaves n r l) a
  | 0, l, a => by
    simp only [lstd, leaves, runCb]
    cases cb l a with
    | none => rfl
    | some p =>
      obtain ⟨b, a'⟩ := p
      cases b <;> rfl
  | r + 1, l, a => by
    rw [lstd, leaves]
    exact lstdIn_eq cb _ _ (fun l a => lstd_eq cb n r l a) l n 0 a
/-- A callback that only looks. -/
theorem runCb_any (cb : List Int → Option Bool) (p : List Int → Bool) : ∀ (L : List (List Int)), (∀ l ∈ L, cb l = some (p l)) → runCb (fun l (_ : Unit) => (cb l).map fun b => (b, ())) L () = some (L.any p, ())
  | [], _ => rfl
  | l :: ls, h => by
    simp only [runCb, h l (List.mem_cons_self), Option.map_some, Option.bind_some, List.any_cons]
    cases hp : p l
    · simp only [Bool.false_eq_true, if_false, Bool.false_or]
      exact runCb_any cb p ls fun x hx => h x (List.mem_cons_of_mem _ hx)
    · simp
end Go.Proofs.Ytjemkdpffjneaaa.Q
end

section
namespace Go.Proofs.Ytjemkdpffjneaaa.Q
open Go.RowKit Go.Proofs.YtjemkdpffjneaaaW.PrintWords Go.Proofs.YtjemkdpffjneaaaW.PrintLast Go.Proofs.YtjemkdpffjneaaaW.PrintMore
attribute [local go_sem] max2_int min2_int max_two min_two max_three min_three max_four min_four   -- for this text's walks alone
set_option linter.unusedVariables false
set_option linter.unusedSimpArgs false

/-- All numbers of the list lie in 0 .. m and none occurs twice. -/
def allDiff (m : Int) (l : List Int) : Prop := l.Nodup ∧ ∀ x ∈ l, 0 ≤ x ∧ x ≤ m
instance (m : Int) (l : List Int) : Decidable (allDiff m l) := by unfold allDiff; infer_instance
end Go.Proofs.Ytjemkdpffjneaaa.Q
end

section
namespace Go.Proofs.Ytjemkdpffjneaaa.Q
open Go.RowKit Go.Proofs.YtjemkdpffjneaaaW.PrintWords Go.Proofs.YtjemkdpffjneaaaW.PrintLast Go.Proofs.YtjemkdpffjneaaaW.PrintMore
attribute [local go_sem] max2_int min2_int max_two min_two max_three min_three max_four min_four   -- for this text's walks alone
set_option linter.unusedVariables false
set_option linter.unusedSimpArgs false

theorem wrap_u32_nat (v : BitVec 32) : IntKind.u32.wrap ((v.toNat : Nat) : Int) = ((v.toNat : Nat) : Int) := by
  rw [IntKind.wrap_u32]; have := v.isLt; omega
theorem bits_and32 (x y : Int) : Go.bits .and .u32 x y = (((BitVec.ofInt 32 x &&& BitVec.ofInt 32 y).toNat : Nat) : Int) := wrap_u32_nat _
theorem bits_andNot32 (x y : Int) : Go.bits .andNot .u32 x y = (((BitVec.ofInt 32 x &&& ~~~ BitVec.ofInt 32 y).toNat : Nat) : Int) := wrap_u32_nat _

end Go.Proofs.Ytjemkdpffjneaaa.Q
end

section
namespace Go.Proofs.Ytjemkdpffjneaaa.Q
open Go.RowKit Go.Proofs.YtjemkdpffjneaaaW.PrintWords Go.Proofs.YtjemkdpffjneaaaW.PrintLast Go.Proofs.YtjemkdpffjneaaaW.PrintMore
attribute [local go_sem] max2_int min2_int max_two min_two max_three min_three max_four min_four   -- for this text's walks alone
set_option linter.unusedVariables false
set_option linter.unusedSimpArgs false

def isChain (n : Int) : List (List Int) → Bool
  | [] => true
  | x :: ls => match ls with
    | [] => match spec_l01Next.f 100 x n with | some (false, _) => true | _ => false
    | y :: _ => decide (spec_l01Next.f 100 x n = some (true, y)) && isChain n ls
theorem chains : ∀ n, n < 6 → ∀ r, r < n + 1 → (leaves n r []).head? = some (firstI r) ∧ isChain n (leaves n r []) = true := by decide +kernel
theorem leaves_ok : ∀ n, n < 6 → ∀ r, r < n + 1 → ∀ l ∈ leaves n r [], l.length = r ∧ allDiff ((n : Int) - 1) l := by decide +kernel
theorem next_ge {x : List Int} {n : Int} {p : Bool × List Int} (h : spec_l01Next.f 100 x n = some p) (k : Nat) (hk : 100 ≤ k) : spec_l01Next.f k x n = some p :=
  LeO_ge (F := fun k => spec_l01Next.f k x n) (fun k => spec_l01Next.mono x n k) hk _ h
theorem chain_one {n : Int} {x : List Int} (h : isChain n [x] = true) : ∃ y, ∀ k, 100 ≤ k → spec_l01Next.f k x n = some (false, y) := by
  simp only [isChain] at h
  split at h
  · next y e => exact ⟨y, fun k hk => next_ge e k hk⟩
  · cases h
theorem chain_cons {n : Int} {x y : List Int} {ls : List (List Int)} (h : isChain n (x :: y :: ls) = true) : (∀ k, 100 ≤ k → spec_l01Next.f k x n = some (true, y)) ∧ isChain n (y :: ls) = true := by
  rw [isChain] at h
  simp only [Bool.and_eq_true, decide_eq_true_eq] at h
  exact ⟨fun k hk => next_ge h.1 k hk, h.2⟩
theorem leaves_short : ∀ n, n < 6 → ∀ r, r < n + 1 → (leaves n r []).length ≤ 200 := by decide +kernel

end Go.Proofs.Ytjemkdpffjneaaa.Q
end

section
namespace Go.Proofs.Ytjemkdpffjneaaa.Q
open Go.RowKit Go.Proofs.YtjemkdpffjneaaaW.PrintWords Go.Proofs.YtjemkdpffjneaaaW.PrintLast Go.Proofs.YtjemkdpffjneaaaW.PrintMore
attribute [local go_sem] max2_int min2_int max_two min_two max_three min_three max_four min_four   -- for this text's walks alone
set_option linter.unusedVariables false
set_option linter.unusedSimpArgs false

theorem allDiff_len {n : Int} (h0 : 0 ≤ n) (h5 : n ≤ 5) {l : List Int} (h : allDiff (wrap64 (n - 1)) l) : l.length ≤ n.toNat ∧ ∀ x ∈ l, 0 ≤ x ∧ x < n := by
  have hw : wrap64 (n - 1) = n - 1 := by unfold wrap64; omega
  rw [hw] at h
  have h2 : ∀ x ∈ l, 0 ≤ x ∧ x < n := fun x hx => by have := h.2 x hx; omega
  exact ⟨pigeon n.toNat l h.1 fun x hx => by have := h2 x hx; omega, h2⟩

end Go.Proofs.Ytjemkdpffjneaaa.Q
end

section
namespace Go.Proofs.Ytjemkdpffjneaaa.Q
open Go.RowKit Go.Proofs.YtjemkdpffjneaaaW.PrintWords Go.Proofs.YtjemkdpffjneaaaW.PrintLast Go.Proofs.YtjemkdpffjneaaaW.PrintMore
attribute [local go_sem] max2_int min2_int max_two min_two max_three min_three max_four min_four   -- for this text's walks alone
set_option linter.unusedVariables false
set_option linter.unusedSimpArgs false

theorem l01Bit_eq (k : Nat) {i j : Int} (i0 : 0 ≤ i) (i4 : i ≤ 4) (j0 : 0 ≤ j) (j4 : j ≤ 4) : spec_l01Bit.f (k + 2) i j = some (bitI i j) := by
  rcases small4 i0 i4 with rfl | rfl | rfl | rfl | rfl <;> rcases small4 j0 j4 with rfl | rfl | rfl | rfl | rfl <;> kernel_rfl

end Go.Proofs.Ytjemkdpffjneaaa.Q
end

section
namespace Go.Proofs.Ytjemkdpffjneaaa.Q
open Go.RowKit Go.Proofs.YtjemkdpffjneaaaW.PrintWords Go.Proofs.YtjemkdpffjneaaaW.PrintLast Go.Proofs.YtjemkdpffjneaaaW.PrintMore
attribute [local go_sem] max2_int min2_int max_two min_two max_three min_three max_four min_four   -- for this text's walks alone
set_option linter.unusedVariables false
set_option linter.unusedSimpArgs false

theorem joined_eq (k : Nat) (n e : Int) {i j : Int} (i0 : 0 ≤ i) (i4 : i ≤ 4) (j0 : 0 ≤ j) (j4 : j ≤ 4) (hij : i ≠ j) : spec_l01Joined.f (k + 2) n e i j = some (hasI e i j) := by
  unfold spec_l01Joined.f hasI
  rw [if_neg hij, l01Bit_eq k i0 i4 j0 j4]; rfl
theorem l01Bit_ge {k : Nat} (hk : 2 ≤ k) {i j : Int} (i0 : 0 ≤ i) (i4 : i ≤ 4) (j0 : 0 ≤ j) (j4 : j ≤ 4) : spec_l01Bit.f k i j = some (bitI i j) := by
  obtain ⟨q, rfl⟩ : ∃ q, k = q + 2 := ⟨k - 2, by omega⟩
  exact l01Bit_eq q i0 i4 j0 j4
theorem joined_ge {k : Nat} (hk : 2 ≤ k) (n e : Int) {i j : Int} (i0 : 0 ≤ i) (i4 : i ≤ 4) (j0 : 0 ≤ j) (j4 : j ≤ 4) (hij : i ≠ j) : spec_l01Joined.f k n e i j = some (hasI e i j) := by
  obtain ⟨q, rfl⟩ : ∃ q, k = q + 2 := ⟨k - 2, by omega⟩
  exact joined_eq q n e i0 i4 j0 j4 hij
theorem onS_row {l : List Int} {j : Nat} (n e0 : Int) (h5 : l.length ≤ 5) (h : ∀ i : Nat, i < l.length → 0 ≤ rd l i ∧ rd l i ≤ 4) (hne : ∀ i j : Nat, i < j → j < l.length → rd l i ≠ rd l j) (hj : j < l.length) (N : Int) :
    ∀ (d i : Nat) (e : Int) (k : Nat), i + d = j → d + 3 ≤ k → spec_l01On.l1 k l j i n e0 N e = spec_l01On.l0 (k - (d + 1)) l ((j + 1 : Nat) : Int) n e0 N (loopRow (fun i j => hasI e0 (rd l i) (rd l j)) j d i e)
  | 0, i, e, k, hd, hk => by
    have : i = j := by omega
    subst this
    obtain ⟨k, rfl⟩ : ∃ m, k = m + 1 := ⟨k - 1, by omega⟩
    simp only [spec_l01On.l1, loopRow]
    rw [if_neg (by omega), show wrap64 ((i : Int) + 1) = ((i + 1 : Nat) : Int) from by unfold wrap64; omega]; rfl
  | d + 1, i, e, k, hd, hk => by
    have hw : wrap64 ((i : Int) + 1) = ((i + 1 : Nat) : Int) := by unfold wrap64; omega
    have hi := h i (by omega)
    have hj' := h j hj
    obtain ⟨k, rfl⟩ : ∃ m, k = m + 1 := ⟨k - 1, by omega⟩
    simp only [spec_l01On.l1, loopRow]
    rw [if_pos (by omega), if_pos (by omega), if_pos (by omega), if_pos (by omega), if_pos (by omega), joined_ge (by omega) n e0 hi.1 hi.2 hj'.1 hj'.2 (hne i j (by omega) hj), hw, show k + 1 - (d + 1 + 1) = k - (d + 1) from by omega]
    simp only [Option.bind_some]
    by_cases hb : hasI e0 (rd l i) (rd l j) = true
    rotate_left
    · rw [if_neg hb, if_neg hb]
      exact onS_row n e0 h5 h hne hj N d (i + 1) e k (by omega) (by omega)
    · rw [if_pos hb, if_pos hb, l01Bit_ge (by omega) (by omega) (by omega) (by omega) (by omega)]
      simp only [Option.bind_some]
      exact onS_row n e0 h5 h hne hj N d (i + 1) _ k (by omega) (by omega)
theorem onS_all {l : List Int} (n e0 : Int) (h5 : l.length ≤ 5) (h : ∀ i : Nat, i < l.length → 0 ≤ rd l i ∧ rd l i ≤ 4) (hne : ∀ i j : Nat, i < j → j < l.length → rd l i ≠ rd l j) :
    ∀ (d j : Nat) (e : Int) (k : Nat), j + d = l.length → 7 * d + 3 ≤ k → spec_l01On.l0 k l j n e0 (l.length : Int) e = some ((l.length : Int), loopMade (fun i j => hasI e0 (rd l i) (rd l j)) d j e)
  | 0, j, e, k, hd, hk => by
    obtain ⟨k, rfl⟩ : ∃ m, k = m + 1 := ⟨k - 1, by omega⟩
    simp only [spec_l01On.l0, loopMade]
    rw [if_neg (by omega)]
  | d + 1, j, e, k, hd, hk => by
    obtain ⟨k, rfl⟩ : ∃ m, k = m + 1 := ⟨k - 1, by omega⟩
    simp only [spec_l01On.l0, loopMade]
    rw [if_pos (by omega)]
    have := onS_row n e0 h5 h hne (show j < l.length by omega) (l.length : Int) j 0 e k (by omega) (by omega)
    rw [show ((0 : Nat) : Int) = 0 from rfl] at this
    rw [this]
    exact onS_all n e0 h5 h hne d (j + 1) _ (k - (j + 1)) (by omega) (by omega)
theorem onS_eq (n e : Int) {l : List Int} (h5 : l.length ≤ 5) (h : ∀ i : Nat, i < l.length → 0 ≤ rd l i ∧ rd l i ≤ 4) (hne : ∀ i j : Nat, i < j → j < l.length → rd l i ≠ rd l j) (k : Nat) (hk : 40 ≤ k) :
    spec_l01On.f k n e l = some ((l.length : Int), onI e l) := by
  unfold spec_l01On.f onI madeI
  cases hl : l.length with
  | zero =>
    obtain ⟨k, rfl⟩ : ∃ m, k = m + 1 := ⟨k - 1, by omega⟩
    simp [spec_l01On.l0, loopMade]
  | succ m =>
    have := onS_all n e h5 h hne m 1 0 k (by omega) (by omega)
    rw [hl] at this
    rw [show ((1 : Nat) : Int) = 1 from rfl] at this
    rw [this]
    simp [loopMade, loopRow]

end Go.Proofs.Ytjemkdpffjneaaa.Q
end

section
namespace Go.Proofs.Ytjemkdpffjneaaa.Q
open Go.RowKit Go.Proofs.YtjemkdpffjneaaaW.PrintWords Go.Proofs.YtjemkdpffjneaaaW.PrintLast Go.Proofs.YtjemkdpffjneaaaW.PrintMore
attribute [local go_sem] max2_int min2_int max_two min_two max_three min_three max_four min_four   -- for this text's walks alone
set_option linter.unusedVariables false
set_option linter.unusedSimpArgs false

theorem onS_diff (n e : Int) {m : Int} (h0 : 0 ≤ m) (h5 : m ≤ 5) {l : List Int} (h : allDiff (wrap64 (m - 1)) l) (k : Nat) (hk : 40 ≤ k) : spec_l01On.f k n e l = some ((l.length : Int), onI e l) := by
  have hl := allDiff_len h0 h5 h
  have hat : ∀ i : Nat, (hi : i < l.length) → 0 ≤ l[i] ∧ l[i] < m := fun i hi => hl.2 _ (List.getElem_mem hi)
  refine onS_eq n e (by omega) (fun i hi => ?_) (fun i j hij hj => ?_) k hk
  · rw [rd_of_lt l hi]; have := hat i hi; omega
  · rw [rd_of_lt l hj, rd_of_lt l (by omega)]
    exact List.pairwise_iff_getElem.1 h.1 i j (by omega) hj hij
theorem okList_diff {m : Int} (h0 : 0 ≤ m) (h5 : m ≤ 5) {l : List Int} (h : allDiff (wrap64 (m - 1)) l) : okList l := by
  have hl := allDiff_len h0 h5 h
  exact ⟨by omega, fun x hx => by have := hl.2 x hx; omega⟩

end Go.Proofs.Ytjemkdpffjneaaa.Q
end

section
namespace Go.Proofs.Ytjemkdpffjneaaa.Q
open Go.RowKit Go.Proofs.YtjemkdpffjneaaaW.PrintWords Go.Proofs.YtjemkdpffjneaaaW.PrintLast Go.Proofs.YtjemkdpffjneaaaW.PrintMore
attribute [local go_sem] max2_int min2_int max_two min_two max_three min_three max_four min_four   -- for this text's walks alone
set_option linter.unusedVariables false
set_option linter.unusedSimpArgs false

theorem andNot_iff (x y : BitVec 32) : x &&& ~~~ y = 0#32 ↔ x &&& y = x := by
  constructor
  · intro h
    ext i hi
    have := congrArg (fun z : BitVec 32 => z[i]) h
    simp only [BitVec.getElem_and, BitVec.getElem_not, BitVec.getElem_zero] at this ⊢
    revert this
    cases x[i] <;> cases y[i] <;> simp
  · intro h
    ext i hi
    have := congrArg (fun z : BitVec 32 => z[i]) h
    simp only [BitVec.getElem_and, BitVec.getElem_not, BitVec.getElem_zero] at this ⊢
    revert this
    cases x[i] <;> cases y[i] <;> simp
theorem part_bits {h : Int} (h0 : 0 ≤ h) (h1 : h ≤ 4294967295) (b : Int) : (Go.bits .andNot .u32 h b == 0) = decide (Go.bits .and .u32 h b = h) := by
  rw [bits_andNot32, bits_and32, Bool.eq_iff_iff, beq_iff_eq, decide_eq_true_eq]
  have hx : ((BitVec.ofInt 32 h).toNat : Int) = h := by rw [BitVec.toNat_ofInt]; omega
  generalize BitVec.ofInt 32 h = x at *
  generalize BitVec.ofInt 32 b = y
  rw [← hx]
  constructor
  · intro e
    have : x &&& ~~~ y = 0#32 := by apply BitVec.eq_of_toNat_eq; simpa using e
    rw [(andNot_iff x y).1 this]
  · intro e
    have : x &&& y = x := by apply BitVec.eq_of_toNat_eq; exact_mod_cast e
    rw [(andNot_iff x y).2 this]; rfl
theorem allDiff_wrap {n : Nat} (hn : n < 6) {l : List Int} (h : allDiff ((n : Int) - 1) l) : allDiff (wrap64 ((n : Int) - 1)) l := by
  rw [show wrap64 ((n : Int) - 1) = (n : Int) - 1 from by unfold wrap64; omega]; exact h
theorem part_loop (n : Nat) (hn : n < 6) (e m h : Int) : ∀ (ls : List (List Int)) (x : List Int) (k : Nat), isChain n (x :: ls) = true → (∀ l ∈ x :: ls, allDiff ((n : Int) - 1) l) → ls.length + 200 ≤ k →
    spec_l01Part.l0 k x true n e m h = some ((x :: ls).any fun l => decide (Go.bits .and .u32 h (onI e l) = h))
  | [], x, k, hc, hd, hk => by
    obtain ⟨k, rfl⟩ : ∃ q, k = q + 2 := ⟨k - 2, by omega⟩
    obtain ⟨y, hy⟩ := chain_one hc
    rw [spec_l01Part.l0, if_pos rfl, onS_diff n e (by omega) (by omega) (allDiff_wrap hn (hd x (List.mem_cons_self))) _ (by omega)]
    simp only [Option.bind_some, List.any_cons, List.any_nil, Bool.or_false]
    by_cases hb : Go.bits .and .u32 h (onI e x) = h
    · rw [if_pos hb, decide_eq_true hb]
    · rw [if_neg hb, decide_eq_false hb, hy _ (by omega)]
      simp only [Option.bind_some]
      rw [spec_l01Part.l0, if_neg (by simp)]
  | z :: ls, x, k, hc, hd, hk => by
    obtain ⟨k, rfl⟩ : ∃ q, k = q + 1 := ⟨k - 1, by omega⟩
    obtain ⟨h1, h2⟩ := chain_cons hc
    have hl : (z :: ls).length = ls.length + 1 := rfl
    rw [spec_l01Part.l0, if_pos rfl, onS_diff n e (by omega) (by omega) (allDiff_wrap hn (hd x (List.mem_cons_self))) _ (by omega)]
    simp only [Option.bind_some]
    rw [List.any_cons]
    by_cases hb : Go.bits .and .u32 h (onI e x) = h
    · rw [if_pos hb, decide_eq_true hb]; rfl
    · rw [if_neg hb, decide_eq_false hb, h1 _ (by omega)]
      simp only [Option.bind_some, Bool.false_or]
      exact part_loop n hn e m h ls z k h2 (fun l hl => hd l (List.mem_cons_of_mem _ hl)) (by omega)
theorem leaves_none : ∀ n, n < 6 → ∀ r, r < 6 → n < r → leaves n r [] = [] := by decide +kernel
theorem leaves_nodup : ∀ n, n < 6 → ∀ r, r < 6 → ∀ l ∈ leaves n r [], allDiff ((n : Int) - 1) l := by decide +kernel
theorem hasPart_eq (n m : Nat) (hn : n < 6) (hm : m < 6) (e h : Int) (h0 : 0 ≤ h) (h1 : h ≤ 4294967295) : impl_Graph_hasPart.f n e m h = some ((leaves n m []).any fun l => decide (Go.bits .and .u32 h (onI e l) = h)) := by
  unfold impl_Graph_hasPart.f impl_listed.f
  rw [if_pos (by simp; omega), lstd_eq]
  rw [runCb_any _ (fun l => decide (Go.bits .and .u32 h (onI e l) = h))]
  · simp
  · intro l hl
    simp only [Int.toNat_natCast, List.length_nil, Nat.sub_zero] at hl
    have hd := leaves_nodup n hn m hm l hl
    unfold impl_Graph_hasPart_1.f
    rw [impl_onT.eq n e (okList_diff (by omega) (by omega) (allDiff_wrap hn hd))]
    simp only [Option.bind_some]
    rw [part_bits h0 h1]
theorem l01Part_eq (n m : Nat) (hn : n < 6) (hm : m < 6) (e h : Int) (k : Nat) (hk : 1000 ≤ k) : spec_l01Part.f k n e m h = some ((leaves n m []).any fun l => decide (Go.bits .and .u32 h (onI e l) = h)) := by
  unfold spec_l01Part.f
  by_cases hmn : (m : Int) > n
  · rw [if_pos hmn, leaves_none n hn m hm (by omega)]; rfl
  · rw [if_neg hmn, firstS_eq m (by omega) (by omega) k (by omega)]
    simp only [Option.bind_some, Int.toNat_natCast]
    obtain ⟨hh, hc⟩ := chains n hn m (by omega)
    have hd := leaves_nodup n hn m hm
    have hlen : (leaves n m []).length ≤ 200 := (show ∀ n, n < 6 → ∀ m, m < 6 → (leaves n m []).length ≤ 200 from by decide +kernel) n hn m hm
    revert hh hc hd hlen
    generalize leaves n m [] = L
    intro hh hc hd hlen
    cases L with
    | nil => simp at hh
    | cons x ls =>
      obtain rfl : x = firstI m := by simpa using hh
      exact part_loop n hn e m h ls _ k hc hd (by simp only [List.length_cons] at hlen; omega)

end Go.Proofs.Ytjemkdpffjneaaa.Q
end

section
namespace Go.Proofs.Ytjemkdpffjneaaa.Q
open Go.RowKit Go.Proofs.YtjemkdpffjneaaaW.PrintWords Go.Proofs.YtjemkdpffjneaaaW.PrintLast Go.Proofs.YtjemkdpffjneaaaW.PrintMore
attribute [local go_sem] max2_int min2_int max_two min_two max_three min_three max_four min_four   -- for this text's walks alone
set_option linter.unusedVariables false
set_option linter.unusedSimpArgs false

theorem rdG_nat (l : List S33) {i : Nat} (hi : i < l.length) : rd_T33 l (i : Int) = l[i] := by unfold rd_T33; exact getD_of_lt l _ hi

end Go.Proofs.Ytjemkdpffjneaaa.Q
end

section
namespace Go.Proofs.Ytjemkdpffjneaaa.Q
open Go.RowKit Go.Proofs.YtjemkdpffjneaaaW.PrintWords Go.Proofs.YtjemkdpffjneaaaW.PrintLast Go.Proofs.YtjemkdpffjneaaaW.PrintMore
attribute [local go_sem] max2_int min2_int max_two min_two max_three min_three max_four min_four   -- for this text's walks alone
set_option linter.unusedVariables false
set_option linter.unusedSimpArgs false

theorem validG_nat {n e : Int} (h0 : 0 ≤ e) (h : validG n e = true) : ∃ (m f : Nat), n = m ∧ e = f ∧ m < 6 ∧ f < 2 ^ prs m := by
  simp only [validG, decide_eq_true_eq] at h
  refine ⟨n.toNat, e.toNat, by omega, by omega, by omega, ?_⟩
  have := h.2.2
  unfold prs
  have h2 : ((e.toNat : Nat) : Int) < ((2 ^ (n.toNat * (n.toNat - 1) / 2) : Nat) : Int) := by rw [Int.toNat_of_nonneg h0]; exact_mod_cast this
  exact_mod_cast h2

end Go.Proofs.Ytjemkdpffjneaaa.Q
end

section
namespace Go.Proofs.Ytjemkdpffjneaaa.Q
open Go.RowKit Go.Proofs.YtjemkdpffjneaaaW.PrintWords Go.Proofs.YtjemkdpffjneaaaW.PrintLast Go.Proofs.YtjemkdpffjneaaaW.PrintMore
attribute [local go_sem] max2_int min2_int max_two min_two max_three min_three max_four min_four   -- for this text's walks alone
set_option linter.unusedVariables false
set_option linter.unusedSimpArgs false

def okGs (L : List S33) : Prop := ∀ x ∈ L, 0 ≤ x.f1 ∧ x.f1 ≤ 4294967295
def forb (L : List S33) : Int := if L.any (fun x => !validG x.f0 x.f1) = true then 1 else if (L.length : Int) > 6 then 3 else 0
theorem forbiddenOk_eq (L : List S33) (hL : L.length ≤ 1048576) (ho : okGs L) (k : Nat) (hk : L.length + 1 ≤ k) : impl_forbiddenOk.f k L = some (forb L) := by
  unfold impl_forbiddenOk.f
  rw [anyGraph_eq _ (fun x => !validG x.f0 x.f1) L hL (fun x hx => by unfold impl_badGraph.f; rw [ValidGraph_eq _ _ (ho x hx).1 (ho x hx).2]; rfl) k hk]
  simp only [Option.bind_some]
  unfold forb
  split
  · rfl
  · split <;> rfl
theorem l01Forbidden_loop (L : List S33) (hL : L.length ≤ 1048576) (ho : okGs L) : ∀ (d i k : Nat), i + d = L.length → d + 1 ≤ k → spec_l01Forbidden.l0 k L i = some (if (L.drop i).any (fun x => !validG x.f0 x.f1) = true then 1 else if (L.length : Int) > 6 then 3 else 0)
  | 0, i, k, hd, hk => by
    obtain ⟨k, rfl⟩ : ∃ q, k = q + 1 := ⟨k - 1, by omega⟩
    rw [spec_l01Forbidden.l0, if_neg (by omega), List.drop_eq_nil_of_le (by omega)]
    simp only [List.any_nil, Bool.false_eq_true, if_false]
    split <;> rfl
  | d + 1, i, k, hd, hk => by
    obtain ⟨k, rfl⟩ : ∃ q, k = q + 1 := ⟨k - 1, by omega⟩
    have hi : i < L.length := by omega
    have hx := ho _ (List.getElem_mem hi)
    rw [spec_l01Forbidden.l0, if_pos (by omega), if_pos (by omega), rdG_nat L hi, l01Ok_eq _ _ hx.1 hx.2, List.drop_eq_getElem_cons hi, List.any_cons]
    simp only [Option.bind_some]
    cases hv : validG L[i].f0 L[i].f1
    · simp
    · simp only [if_true, Bool.not_true, Bool.false_or]
      rw [w64_succ (by omega)]
      exact l01Forbidden_loop L hL ho d (i + 1) k (by omega) (by omega)
theorem l01Forbidden_eq (L : List S33) (hL : L.length ≤ 1048576) (ho : okGs L) (k : Nat) (hk : L.length + 1 ≤ k) : spec_l01Forbidden.f k L = some (forb L) := by
  unfold spec_l01Forbidden.f forb
  have := l01Forbidden_loop L hL ho L.length 0 k (Nat.zero_add _) hk
  rw [show ((0 : Nat) : Int) = 0 from rfl, List.drop_zero] at this
  exact this
theorem forb_zero {L : List S33} (h : forb L = 0) : L.length ≤ 6 ∧ ∀ x ∈ L, validG x.f0 x.f1 = true := by
  unfold forb at h
  split at h
  · cases h
  · next h1 =>
    split at h
    · cases h
    · next h2 =>
      refine ⟨by omega, fun x hx => ?_⟩
      cases hv : validG x.f0 x.f1
      · exact absurd (List.any_eq_true.2 ⟨x, hx, by rw [hv]; rfl⟩) h1
      · rfl
def partB (n : Nat) (e : Int) (x : S33) : Bool := (leaves n x.f0.toNat []).any fun l => decide (Go.bits .and .u32 x.f1 (onI e l) = x.f1)
theorem hasPart_x (n : Nat) (hn : n < 6) (e : Int) (x : S33) (hx : 0 ≤ x.f1 ∧ x.f1 ≤ 4294967295) (hv : validG x.f0 x.f1 = true) : impl_Graph_hasPart.f n e x.f0 x.f1 = some (partB n e x) ∧ ∀ k, 1000 ≤ k → spec_l01Part.f k n e x.f0 x.f1 = some (partB n e x) := by
  obtain ⟨m, f, e1, e2, hm, hf⟩ := validG_nat hx.1 hv
  unfold partB
  rw [e2] at hx
  rw [e1, e2, Int.toNat_natCast]
  exact ⟨hasPart_eq n m hn hm e f hx.1 hx.2, fun k hk => l01Part_eq n m hn hm e f k hk⟩
theorem free_eq (n : Nat) (hn : n < 6) (e : Int) (L : List S33) (ho : okGs L) (hL : L.length ≤ 6) (hv : ∀ x ∈ L, validG x.f0 x.f1 = true) (k : Nat) (hk : 20 ≤ k) : impl_Graph_free.f k n e L = some (!(L.any (partB n e))) := by
  unfold impl_Graph_free.f impl_Graph_122_of_impl_Graph_hasPart.f
  rw [anyGraph_eq _ (partB n e) L (by omega) (fun x hx => (hasPart_x n hn e x (ho x hx) (hv x hx)).1) k (by omega)]
  rfl
theorem l01Free_loop (n : Nat) (hn : n < 6) (e : Int) (L : List S33) (ho : okGs L) (hL : L.length ≤ 6) (hv : ∀ x ∈ L, validG x.f0 x.f1 = true) : ∀ (d i k : Nat), i + d = L.length → d + 1001 ≤ k → spec_l01Free.l0 k L i n e = some (!((L.drop i).any (partB n e)))
  | 0, i, k, hd, hk => by
    obtain ⟨k, rfl⟩ : ∃ q, k = q + 1 := ⟨k - 1, by omega⟩
    rw [spec_l01Free.l0, if_neg (by omega), List.drop_eq_nil_of_le (by omega)]; rfl
  | d + 1, i, k, hd, hk => by
    obtain ⟨k, rfl⟩ : ∃ q, k = q + 1 := ⟨k - 1, by omega⟩
    have hi : i < L.length := by omega
    have hm := List.getElem_mem hi
    rw [spec_l01Free.l0, if_pos (by omega), if_pos (by omega), rdG_nat L hi, (hasPart_x n hn e _ (ho _ hm) (hv _ hm)).2 k (by omega), List.drop_eq_getElem_cons hi, List.any_cons]
    simp only [Option.bind_some]
    cases hp : partB n e L[i]
    · simp only [Bool.false_eq_true, if_false, Bool.false_or]
      rw [w64_succ (by omega)]
      exact l01Free_loop n hn e L ho hL hv d (i + 1) k (by omega) (by omega)
    · simp
theorem l01Free_eq (n : Nat) (hn : n < 6) (e : Int) (L : List S33) (ho : okGs L) (hL : L.length ≤ 6) (hv : ∀ x ∈ L, validG x.f0 x.f1 = true) (k : Nat) (hk : 1010 ≤ k) : spec_l01Free.f k n e L = some (!(L.any (partB n e))) := by
  unfold spec_l01Free.f
  have := l01Free_loop n hn e L ho hL hv L.length 0 k (Nat.zero_add _) (by omega)
  rw [show ((0 : Nat) : Int) = 0 from rfl, List.drop_zero] at this
  exact this

end Go.Proofs.Ytjemkdpffjneaaa.Q
end

section
namespace Go.Proofs.Ytjemkdpffjneaaa.Q
open Go.RowKit Go.Proofs.YtjemkdpffjneaaaW.PrintWords Go.Proofs.YtjemkdpffjneaaaW.PrintLast Go.Proofs.YtjemkdpffjneaaaW.PrintMore
attribute [local go_sem] max2_int min2_int max_two min_two max_three min_three max_four min_four   -- for this text's walks alone
set_option linter.unusedVariables false
set_option linter.unusedSimpArgs false

def isLeastB (n s : Nat) (e : Int) : Bool := !(leaves n (n - s) (firstI s)).any fun l => decide (onI e l < e)
theorem isLeast_eq (n s : Nat) (hn : n < 6) (hs : s < n + 1) (e : Int) (hL : ∀ l ∈ leaves n (n - s) (firstI s), allDiff ((n : Int) - 1) l) : impl_Graph_isLeast.f n e s = some (isLeastB n s e) := by
  unfold impl_Graph_isLeast.f impl_Graph_orders.f
  rw [if_pos (by omega), lstd_eq, show ((n : Int) - (s : Int)).toNat = n - s from by omega, Int.toNat_natCast, Int.toNat_natCast]
  rw [runCb_any _ (fun l => decide (onI e l < e))]
  · rfl
  · intro l hl
    unfold impl_Graph_isLeast_1.f
    rw [impl_onT.eq n e (okList_diff (m := n) (by omega) (by omega) (by rw [show wrap64 ((n : Int) - 1) = (n : Int) - 1 from by unfold wrap64; omega]; exact hL l hl))]
    rfl
theorem isLeastS_loop (n : Nat) (hn : n < 6) (e : Int) : ∀ (ls : List (List Int)) (x : List Int) (k : Nat), isChain n (x :: ls) = true → (∀ l ∈ x :: ls, allDiff ((n : Int) - 1) l) → ls.length + 200 ≤ k →
    spec_l01IsLeast.l0 k x true n e = some (!(x :: ls).any fun l => decide (onI e l < e))
  | [], x, k, hc, hd, hk => by
    obtain ⟨k, rfl⟩ : ∃ q, k = q + 2 := ⟨k - 2, by omega⟩
    obtain ⟨y, hy⟩ := chain_one hc
    rw [spec_l01IsLeast.l0, if_pos rfl, onS_diff (m := n) n e (by omega) (by omega) (by rw [show wrap64 ((n : Int) - 1) = (n : Int) - 1 from by unfold wrap64; omega]; exact hd x (List.mem_cons_self)) _ (by omega)]
    simp only [Option.bind_some, List.any_cons, List.any_nil, Bool.or_false]
    by_cases hb : onI e x < e
    · rw [if_pos hb, decide_eq_true hb]; rfl
    · rw [if_neg hb, decide_eq_false hb, hy _ (by omega)]
      simp only [Option.bind_some]
      rw [spec_l01IsLeast.l0, if_neg (by simp)]; rfl
  | z :: ls, x, k, hc, hd, hk => by
    obtain ⟨k, rfl⟩ : ∃ q, k = q + 1 := ⟨k - 1, by omega⟩
    obtain ⟨h1, h2⟩ := chain_cons hc
    have hl : (z :: ls).length = ls.length + 1 := rfl
    rw [spec_l01IsLeast.l0, if_pos rfl, onS_diff (m := n) n e (by omega) (by omega) (by rw [show wrap64 ((n : Int) - 1) = (n : Int) - 1 from by unfold wrap64; omega]; exact hd x (List.mem_cons_self)) _ (by omega)]
    simp only [Option.bind_some]
    rw [List.any_cons]
    by_cases hb : onI e x < e
    · rw [if_pos hb, decide_eq_true hb]; rfl
    · rw [if_neg hb, decide_eq_false hb, h1 _ (by omega)]
      simp only [Option.bind_some, Bool.false_or]
      exact isLeastS_loop n hn e ls z k h2 (fun l hl => hd l (List.mem_cons_of_mem _ hl)) (by omega)
theorem l01IsLeast_eq (n : Nat) (hn : n < 6) (e : Int) (k : Nat) (hk : 1000 ≤ k) : spec_l01IsLeast.f k n e = some (isLeastB n 0 e) := by
  unfold spec_l01IsLeast.f
  rw [firstS_eq n (by omega) (by omega) k (by omega)]
  simp only [Option.bind_some, Int.toNat_natCast]
  obtain ⟨hh, hc⟩ := chains n hn n (by omega)
  have hd := fun l hl => (leaves_ok n hn n (by omega) l hl).2
  have hlen := leaves_short n hn n (by omega)
  unfold isLeastB
  rw [show firstI 0 = [] from rfl, Nat.sub_zero]
  revert hh hc hd hlen
  generalize leaves n n [] = L
  intro hh hc hd hlen
  cases L with
  | nil => simp at hh
  | cons x ls =>
    obtain rfl : x = firstI n := by simpa using hh
    exact isLeastS_loop n hn e ls _ k hc hd (by simp only [List.length_cons] at hlen; omega)
theorem prs_le' : ∀ n, n < 6 → 2 ^ prs n ≤ 1024 := by decide
/-- The graphs of size n with numbers of edges from e on, d of them, that ok tells. -/
def gList (n : Nat) (ok : Nat → Bool) : Nat → Nat → List S33
  | 0, _ => []
  | d + 1, e => if ok e = true then ⟨n, e⟩ :: gList n ok d (e + 1) else gList n ok d (e + 1)
theorem gList_length (n : Nat) (ok : Nat → Bool) : ∀ d e, (gList n ok d e).length ≤ d
  | 0, _ => Nat.le_refl _
  | d + 1, e => by
    have := gList_length n ok d (e + 1)
    rw [gList]; split
    · rw [List.length_cons]; omega
    · omega
theorem l01All_loop (n : Nat) (hn : n < 6) : ∀ (d e k : Nat) (out : List S33), e + d = 2 ^ prs n → out.length ≤ e → d + 1100 ≤ k → spec_l01All.l0 k n out e = some (out ++ gList n (fun e => isLeastB n 0 e) d e)
  | 0, e, k, out, hd, ho, hk => by
    obtain ⟨k, rfl⟩ : ∃ q, k = q + 1 := ⟨k - 1, by omega⟩
    have hb : spec_l01Bits.f (n : Int) = some ((prs n : Nat) : Int) := (show ∀ n : Nat, n < 6 → spec_l01Bits.f (n : Int) = some ((prs n : Nat) : Int) from by decide +kernel) n hn
    have hw : IntKind.u64.wrap ((prs n : Nat) : Int) = ((prs n : Nat) : Int) := (show ∀ n : Nat, n < 6 → IntKind.u64.wrap ((prs n : Nat) : Int) = ((prs n : Nat) : Int) from by decide +kernel) n hn
    have hsh : shl .i64 1 ((prs n : Nat) : Int) = ((2 ^ prs n : Nat) : Int) := (show ∀ n : Nat, n < 6 → shl .i64 1 ((prs n : Nat) : Int) = ((2 ^ prs n : Nat) : Int) from by decide +kernel) n hn
    rw [spec_l01All.l0, hb]
    simp only [Option.bind_some, hw, hsh]
    rw [if_pos (by omega), if_neg (by omega), gList, List.append_nil]
  | d + 1, e, k, out, hd, ho, hk => by
    obtain ⟨k, rfl⟩ : ∃ q, k = q + 1 := ⟨k - 1, by omega⟩
    have hp := prs_le' n hn
    have hb : spec_l01Bits.f (n : Int) = some ((prs n : Nat) : Int) := (show ∀ n : Nat, n < 6 → spec_l01Bits.f (n : Int) = some ((prs n : Nat) : Int) from by decide +kernel) n hn
    have hw : IntKind.u64.wrap ((prs n : Nat) : Int) = ((prs n : Nat) : Int) := (show ∀ n : Nat, n < 6 → IntKind.u64.wrap ((prs n : Nat) : Int) = ((prs n : Nat) : Int) from by decide +kernel) n hn
    have hsh : shl .i64 1 ((prs n : Nat) : Int) = ((2 ^ prs n : Nat) : Int) := (show ∀ n : Nat, n < 6 → shl .i64 1 ((prs n : Nat) : Int) = ((2 ^ prs n : Nat) : Int) from by decide +kernel) n hn
    have he : ((e : Int)) % 4294967296 = (e : Int) := by omega
    rw [spec_l01All.l0, hb]
    simp only [Option.bind_some, hw, hsh]
    rw [if_pos (by omega), if_pos (by omega), he, l01IsLeast_eq n hn e k (by omega), w64_succ (by omega), gList]
    simp only [Option.bind_some]
    by_cases hl : isLeastB n 0 (e : Int) = true
    · rw [if_pos hl, if_pos hl, if_pos (by omega), l01All_loop n hn d (e + 1) k _ (by omega) (by rw [List.length_append]; simp only [List.length_cons, List.length_nil]; omega) (by omega), List.append_assoc]; rfl
    · rw [if_neg hl, if_neg hl, l01All_loop n hn d (e + 1) k _ (by omega) (by omega) (by omega)]

end Go.Proofs.Ytjemkdpffjneaaa.Q
end

section
namespace Go.Proofs.Ytjemkdpffjneaaa.Q
open Go.RowKit Go.Proofs.YtjemkdpffjneaaaW.PrintWords Go.Proofs.YtjemkdpffjneaaaW.PrintLast Go.Proofs.YtjemkdpffjneaaaW.PrintMore
attribute [local go_sem] max2_int min2_int max_two min_two max_three min_three max_four min_four   -- for this text's walks alone
set_option linter.unusedVariables false
set_option linter.unusedSimpArgs false

theorem idxI_del {α : Type} (p : α → Bool) : ∀ (L : List α) (i : Nat), (idxI p L i = -1 ∧ L.filter (fun x => !p x) = L) ∨ (∃ j : Nat, j < L.length ∧ idxI p L i = ((i + j : Nat) : Int) ∧ L.take j ++ (L.drop (j + 1)).filter (fun x => !p x) = L.filter (fun x => !p x))
  | [], i => Or.inl ⟨rfl, rfl⟩
  | x :: xs, i => by
    rw [idxI]
    by_cases h : p x = true
    · rw [if_pos h]
      refine Or.inr ⟨0, by simp, rfl, ?_⟩
      rw [List.filter_cons, if_neg (by simp [h])]; rfl
    · rw [if_neg h]
      have hx : (!p x) = true := by simp [h]
      rcases idxI_del p xs (i + 1) with ⟨h1, h2⟩ | ⟨j, h1, h2, h3⟩
      · exact Or.inl ⟨h1, by rw [List.filter_cons, if_pos hx, h2]⟩
      · refine Or.inr ⟨j + 1, by rw [List.length_cons]; omega, by rw [h2]; congr 1; omega, ?_⟩
        rw [List.filter_cons, if_pos hx, List.take_succ_cons, List.drop_succ_cons, List.cons_append, h3]
theorem del_loop (cb : Int → Int → Option Bool) (p : S33 → Bool) (L : List S33) (hL : L.length ≤ 1048576) (hcb : ∀ x ∈ L, cb x.f0 x.f1 = some (p x)) : ∀ (d i j k : Nat) (X : List S33), j + d = L.length → i ≤ j → X.length = L.length → X.drop j = L.drop j → d + 1 ≤ k → impl_Graph_124.l0 cb k X i j = some (X.take i ++ (L.drop j).filter (fun x => !p x))
  | 0, i, j, k, X, hd, hi, hX, he, hk => by
    obtain ⟨k, rfl⟩ : ∃ q, k = q + 1 := ⟨k - 1, by omega⟩
    rw [impl_Graph_124.l0, if_neg (by omega), if_pos (by omega), if_pos (by omega), List.drop_eq_nil_of_le (by omega), Int.toNat_natCast, List.filter_nil, List.append_nil]
  | d + 1, i, j, k, X, hd, hi, hX, he, hk => by
    obtain ⟨k, rfl⟩ : ∃ q, k = q + 1 := ⟨k - 1, by omega⟩
    have hj : j < L.length := by omega
    have hjX : j < X.length := by omega
    have hx : X[j] = L[j] := by
      rw [List.drop_eq_getElem_cons hj, List.drop_eq_getElem_cons hjX] at he
      exact (List.cons.inj he).1
    have he2 : X.drop (j + 1) = L.drop (j + 1) := by
      rw [List.drop_eq_getElem_cons hj, List.drop_eq_getElem_cons hjX] at he
      exact (List.cons.inj he).2
    have hr : rd_T33 X (j : Int) = L[j] := by unfold rd_T33; rw [getD_of_lt X _ hjX, hx]
    rw [impl_Graph_124.l0]
    simp only [hr]
    rw [if_pos (by omega), if_pos (by omega), hcb _ (List.getElem_mem hj), w64_succ (by omega), List.drop_eq_getElem_cons hj, List.filter_cons]
    simp only [Option.bind_some]
    by_cases hp : p L[j] = true
    · rw [if_pos hp, if_neg (show ¬ (!p L[j]) = true by simp [hp])]
      exact del_loop cb p L hL hcb d i (j + 1) k X (by omega) (by omega) hX he2 (by omega)
    · rw [if_neg hp, if_pos (show (!p L[j]) = true by simp [hp]), if_pos (by omega), if_pos (by omega), w64_succ (by omega), Int.toNat_natCast]
      rw [del_loop cb p L hL hcb d (i + 1) (j + 1) k _ (by omega) (by omega) (by rw [List.length_set]; exact hX) (by rw [List.drop_set_of_lt (show i < j + 1 by omega)]; exact he2) (by omega), set_take _ _ (by omega), List.append_assoc]
      rfl
theorem del_eq (cb : Int → Int → Option Bool) (p : S33 → Bool) (L : List S33) (hL : L.length ≤ 1048576) (hcb : ∀ x ∈ L, cb x.f0 x.f1 = some (p x)) (k : Nat) (hk : L.length + 1 ≤ k) : impl_Graph_124.f cb k L = some (L.filter (fun x => !p x)) := by
  unfold impl_Graph_124.f
  rw [idxGraph_eq cb p L hL hcb k hk]
  simp only [Option.bind_some]
  rcases idxI_del p L 0 with ⟨h1, h2⟩ | ⟨j, h1, h2, h3⟩
  · rw [h1, if_pos rfl, h2]
  · rw [Nat.zero_add] at h2
    rw [h2, if_neg (by omega), w64_succ (by omega), del_loop cb p L hL hcb (L.length - (j + 1)) j (j + 1) k L (by omega) (by omega) rfl rfl (by omega), h3]

end Go.Proofs.Ytjemkdpffjneaaa.Q
end

section
namespace Go.Proofs.Ytjemkdpffjneaaa.Q
open Go.RowKit Go.Proofs.YtjemkdpffjneaaaW.PrintWords Go.Proofs.YtjemkdpffjneaaaW.PrintLast Go.Proofs.YtjemkdpffjneaaaW.PrintMore
attribute [local go_sem] max2_int min2_int max_two min_two max_three min_three max_four min_four   -- for this text's walks alone
set_option linter.unusedVariables false
set_option linter.unusedSimpArgs false

theorem gList_ok (n : Nat) (ok : Nat → Bool) : ∀ (d e : Nat) (x : S33), x ∈ gList n ok d e → ∃ m : Nat, x = ⟨n, m⟩ ∧ e ≤ m ∧ m < e + d ∧ ok m = true
  | 0, e, x, h => by rw [gList] at h; cases h
  | d + 1, e, x, h => by
    rw [gList] at h
    by_cases hk : ok e = true
    · rw [if_pos hk] at h
      rcases List.mem_cons.1 h with rfl | h
      · exact ⟨e, rfl, by omega, by omega, hk⟩
      · obtain ⟨m, h1, h2, h3, h4⟩ := gList_ok n ok d (e + 1) x h
        exact ⟨m, h1, by omega, by omega, h4⟩
    · rw [if_neg hk] at h
      obtain ⟨m, h1, h2, h3, h4⟩ := gList_ok n ok d (e + 1) x h
      exact ⟨m, h1, by omega, by omega, h4⟩
theorem gList_filter (n : Nat) (ok p : Nat → Bool) (P : S33 → Bool) (hP : ∀ m : Nat, P ⟨n, m⟩ = p m) : ∀ d e, (gList n ok d e).filter P = gList n (fun e => p e && ok e) d e
  | 0, e => rfl
  | d + 1, e => by
    rw [gList, gList]
    have ih := gList_filter n ok p P hP d (e + 1)
    cases hk : ok e
    · rw [if_neg (by simp), if_neg (by simp), ih]
    · rw [if_pos rfl, List.filter_cons, hP, ih]
      cases hp : p e
      · rw [if_neg (by simp), if_neg (by simp)]
      · rw [if_pos rfl, if_pos (by simp)]

end Go.Proofs.Ytjemkdpffjneaaa.Q
end

section
namespace Go.Proofs.Ytjemkdpffjneaaa.Q
open Go.RowKit Go.Proofs.YtjemkdpffjneaaaW.PrintWords Go.Proofs.YtjemkdpffjneaaaW.PrintLast Go.Proofs.YtjemkdpffjneaaaW.PrintMore
attribute [local go_sem] max2_int min2_int max_two min_two max_three min_three max_four min_four   -- for this text's walks alone
set_option linter.unusedVariables false
set_option linter.unusedSimpArgs false

end Go.Proofs.Ytjemkdpffjneaaa.Q
end

section
namespace Go.Proofs.Ytjemkdpffjneaaa.Q
open Go.RowKit Go.Proofs.YtjemkdpffjneaaaW.PrintWords Go.Proofs.YtjemkdpffjneaaaW.PrintLast Go.Proofs.YtjemkdpffjneaaaW.PrintMore
attribute [local go_sem] max2_int min2_int max_two min_two max_three min_three max_four min_four   -- for this text's walks alone
set_option linter.unusedVariables false
set_option linter.unusedSimpArgs false

theorem leaves_ok_s : ∀ n, n < 6 → ∀ s, s < n + 1 → ∀ l ∈ leaves n (n - s) (firstI s), l.length = n ∧ allDiff ((n : Int) - 1) l := by decide +kernel
end Go.Proofs.Ytjemkdpffjneaaa.Q
end

section
namespace Go.Proofs.Ytjemkdpffjneaaa.Q
open Go.RowKit Go.Proofs.YtjemkdpffjneaaaW.PrintWords Go.Proofs.YtjemkdpffjneaaaW.PrintLast Go.Proofs.YtjemkdpffjneaaaW.PrintMore
attribute [local go_sem] max2_int min2_int max_two min_two max_three min_three max_four min_four   -- for this text's walks alone
set_option linter.unusedVariables false
set_option linter.unusedSimpArgs false

theorem leasts_loop (cb : Int → Int → Option Bool) (p : Nat → Bool) (n s : Nat) (hn : n < 6) (hs : s < n + 1) (hcb : ∀ e : Nat, e < 2 ^ prs n → cb n e = some (p e)) : ∀ (d e k : Nat) (out : List S33), e + d = 2 ^ prs n → out.length ≤ e → d + 1 ≤ k →
    impl_leasts.l0 cb k n s out ((2 ^ prs n : Nat) : Int) e = some (out ++ gList n (fun e => p e && isLeastB n s e) d e)
  | 0, e, k, out, hd, ho, hk => by
    obtain ⟨k, rfl⟩ : ∃ q, k = q + 1 := ⟨k - 1, by omega⟩
    rw [impl_leasts.l0, if_neg (by omega), gList, List.append_nil]
  | d + 1, e, k, out, hd, ho, hk => by
    obtain ⟨k, rfl⟩ : ∃ q, k = q + 1 := ⟨k - 1, by omega⟩
    have hp := prs_le' n hn
    have he : ((e : Int) + 1) % 4294967296 = ((e + 1 : Nat) : Int) := by omega
    rw [impl_leasts.l0, if_pos (by omega), hcb e (by omega), he, gList]
    simp only [Option.bind_some]
    cases hpe : p e
    · simp only [Bool.false_eq_true, if_false, Bool.false_and]
      exact leasts_loop cb p n s hn hs hcb d (e + 1) k _ (by omega) (by omega) (by omega)
    · simp only [if_true, Bool.true_and, isLeast_eq n s hn hs e (fun l hl => (leaves_ok_s n hn s hs l hl).2), Option.bind_some]
      by_cases hl : isLeastB n s (e : Int) = true
      · rw [if_pos hl, if_pos hl, if_pos (by omega), leasts_loop cb p n s hn hs hcb d (e + 1) k _ (by omega) (by rw [List.length_append]; simp only [List.length_cons, List.length_nil]; omega) (by omega), List.append_assoc]; rfl
      · rw [if_neg hl, if_neg hl, leasts_loop cb p n s hn hs hcb d (e + 1) k _ (by omega) (by omega) (by omega)]
theorem leasts_eq (cb : Int → Int → Option Bool) (p : Nat → Bool) (n s : Nat) (hn : n < 6) (hs : s < n + 1) (hcb : ∀ e : Nat, e < 2 ^ prs n → cb n e = some (p e)) (k : Nat) (hk : 1100 ≤ k) : impl_leasts.f cb k n s = some (gList n (fun e => p e && isLeastB n s e) (2 ^ prs n) 0) := by
  have hb : impl_pairs.f (n : Int) = some ((prs n : Nat) : Int) := (show ∀ n : Nat, n < 6 → impl_pairs.f (n : Int) = some ((prs n : Nat) : Int) from by decide +kernel) n hn
  have hsh : shl .u32 1 ((prs n : Nat) : Int) = ((2 ^ prs n : Nat) : Int) := (show ∀ n : Nat, n < 6 → shl .u32 1 ((prs n : Nat) : Int) = ((2 ^ prs n : Nat) : Int) from by decide +kernel) n hn
  have hp := prs_le' n hn
  unfold impl_leasts.f
  rw [hb]
  simp only [Option.bind_some]
  rw [if_pos (by omega), hsh]
  have := leasts_loop cb p n s hn hs hcb (2 ^ prs n) 0 k [] (by omega) (by simp) (by omega)
  rw [show ((0 : Nat) : Int) = 0 from rfl] at this
  rw [this]; rfl
theorem l01All_eq (n : Nat) (hn : n < 6) (k : Nat) (hk : 3000 ≤ k) : spec_l01All.f k n = some (gList n (fun e => isLeastB n 0 e) (2 ^ prs n) 0) := by
  have hp := prs_le' n hn
  unfold spec_l01All.f
  have := l01All_loop n hn (2 ^ prs n) 0 k [] (by omega) (by simp) (by omega)
  rw [show ((0 : Nat) : Int) = 0 from rfl] at this
  rw [this]; rfl

end Go.Proofs.Ytjemkdpffjneaaa.Q
end

section
namespace Go.Proofs.Ytjemkdpffjneaaa.Q
open Go.RowKit Go.Proofs.YtjemkdpffjneaaaW.PrintWords Go.Proofs.YtjemkdpffjneaaaW.PrintLast Go.Proofs.YtjemkdpffjneaaaW.PrintMore
attribute [local go_sem] max2_int min2_int max_two min_two max_three min_three max_four min_four   -- for this text's walks alone
set_option linter.unusedVariables false
set_option linter.unusedSimpArgs false

def freeL (n : Nat) (L : List S33) : List S33 := gList n (fun e => !(L.any (partB n e)) && isLeastB n 0 e) (2 ^ prs n) 0
theorem freeL_length (n : Nat) (hn : n < 6) (L : List S33) : (freeL n L).length ≤ 1024 := by
  have := gList_length n (fun e => !(L.any (partB n e)) && isLeastB n 0 e) (2 ^ prs n) 0
  have := prs_le' n hn
  unfold freeL; omega
theorem freeGraphs_eq (n : Nat) (hn : n < 6) (L : List S33) (ho : okGs L) (hL : L.length ≤ 6) (hv : ∀ x ∈ L, validG x.f0 x.f1 = true) (k : Nat) (hk : 2000 ≤ k) : impl_freeGraphs.f k n L = some (freeL n L) := by
  have hp := prs_le' n hn
  unfold impl_freeGraphs.f
  have h1 := leasts_eq (fun y0_0 y0_1 => impl_freeGraphs_1.f y0_0 y0_1) (fun _ => true) n 0 hn (by omega) (fun _ _ => rfl) k (by omega)
  rw [show ((0 : Nat) : Int) = 0 from rfl] at h1
  rw [h1]
  simp only [Option.bind_some, Bool.true_and]
  have hlen := gList_length n (fun e => isLeastB n 0 e) (2 ^ prs n) 0
  rw [del_eq _ (fun x => L.any (partB n x.f1)) _ (by omega) (fun x hx => ?_) k (by omega)]
  · simp only [Option.bind_some]
    rw [gList_filter n (fun e => isLeastB n 0 e) (fun e => !(L.any (partB n e))) _ (fun m => rfl)]
    rfl
  · obtain ⟨m, rfl, -, -, -⟩ := gList_ok n _ _ _ x hx
    refine impl_freeGraphs_2T.of (n : Int) (m : Int) L (k := 20) ?_
    unfold impl_freeGraphs_2.f
    rw [free_eq n hn m L ho hL hv 20 (by omega)]
    simp
theorem l01AllFree_loop (n : Nat) (hn : n < 6) (L : List S33) (ho : okGs L) (hL : L.length ≤ 6) (hv : ∀ x ∈ L, validG x.f0 x.f1 = true) (A : List S33) (hA : A.length ≤ 1048576) (hn2 : ∀ x ∈ A, x.f0 = n) : ∀ (d i k : Nat) (out : List S33), i + d = A.length → out.length ≤ i → d + 1100 ≤ k → spec_l01AllFree.l0 k L A out i = some (out ++ (A.drop i).filter (fun x => !(L.any (partB n x.f1))))
  | 0, i, k, out, hd, hlo, hk => by
    obtain ⟨k, rfl⟩ : ∃ q, k = q + 1 := ⟨k - 1, by omega⟩
    rw [spec_l01AllFree.l0, if_neg (by omega), List.drop_eq_nil_of_le (by omega), List.filter_nil, List.append_nil]
  | d + 1, i, k, out, hd, hlo, hk => by
    obtain ⟨k, rfl⟩ : ∃ q, k = q + 1 := ⟨k - 1, by omega⟩
    have hi : i < A.length := by omega
    have hx := hn2 _ (List.getElem_mem hi)
    rw [spec_l01AllFree.l0]
    simp only [rdG_nat A hi]
    rw [if_pos (by omega), if_pos (by omega)]
    simp only [hx]
    rw [l01Free_eq n hn _ L ho hL hv k (by omega), w64_succ (by omega), List.drop_eq_getElem_cons hi, List.filter_cons]
    simp only [Option.bind_some]
    have e : (⟨(n : Int), A[i].f1⟩ : S33) = A[i] := by rw [← hx]
    by_cases hp : (!(L.any (partB n A[i].f1))) = true
    · rw [if_pos hp, if_pos hp, if_pos (by omega), e, l01AllFree_loop n hn L ho hL hv A hA hn2 d (i + 1) k _ (by omega) (by rw [List.length_append]; simp only [List.length_cons, List.length_nil]; omega) (by omega), List.append_assoc]; rfl
    · rw [if_neg hp, if_neg hp]
      exact l01AllFree_loop n hn L ho hL hv A hA hn2 d (i + 1) k _ (by omega) (by omega) (by omega)
theorem l01AllFree_eq (n : Nat) (hn : n < 6) (L : List S33) (ho : okGs L) (hL : L.length ≤ 6) (hv : ∀ x ∈ L, validG x.f0 x.f1 = true) (k : Nat) (hk : 3000 ≤ k) : spec_l01AllFree.f k n L = some (freeL n L) := by
  have hp := prs_le' n hn
  have hlen := gList_length n (fun e => isLeastB n 0 e) (2 ^ prs n) 0
  unfold spec_l01AllFree.f
  rw [l01All_eq n hn k (by omega)]
  simp only [Option.bind_some]
  have := l01AllFree_loop n hn L ho hL hv _ (show (gList n (fun e => isLeastB n 0 e) (2 ^ prs n) 0).length ≤ 1048576 by omega) (fun x hx => by obtain ⟨m, rfl, -, -, -⟩ := gList_ok n _ _ _ x hx; rfl) _ 0 k [] (Nat.zero_add _) (by simp) (by omega)
  rw [show ((0 : Nat) : Int) = 0 from rfl] at this
  rw [this, List.drop_zero, List.nil_append, gList_filter n (fun e => isLeastB n 0 e) (fun e => !(L.any (partB n e))) _ (fun m => rfl)]
  rfl

end Go.Proofs.Ytjemkdpffjneaaa.Q
end

section
namespace Go.Proofs.Ytjemkdpffjneaaa.Q
open Go.RowKit Go.Proofs.YtjemkdpffjneaaaW.PrintWords Go.Proofs.YtjemkdpffjneaaaW.PrintLast Go.Proofs.YtjemkdpffjneaaaW.PrintMore
attribute [local go_sem] max2_int min2_int max_two min_two max_three min_three max_four min_four   -- for this text's walks alone
set_option linter.unusedVariables false
set_option linter.unusedSimpArgs false

def markG : Nat → Int → List S33
  | 0, _ => []
  | d + 1, m => ⟨m, m + 1⟩ :: markG d (m + 2)
theorem markG_length : ∀ d m, (markG d m).length = d
  | 0, _ => rfl
  | d + 1, m => by rw [markG, List.length_cons, markG_length d]
theorem markGraphS_loop : ∀ (d i k : Nat) (L : List S33) (m : Int), i + d = L.length → L.length ≤ 1048576 → 0 ≤ m → m + 2 * d ≤ 2147483648 → d + 1 ≤ k → laws_markGraphS.l0 k L m i = some (m + 2 * d, L.take i ++ markG d m)
  | 0, i, k, L, m, hd, hL, h0, h1, hk => by
    obtain ⟨k, rfl⟩ : ∃ q, k = q + 1 := ⟨k - 1, by omega⟩
    rw [laws_markGraphS.l0, if_neg (by omega), List.take_of_length_le (by omega), markG, List.append_nil]
    congr 2; omega
  | d + 1, i, k, L, m, hd, hL, h0, h1, hk => by
    obtain ⟨k, rfl⟩ : ∃ q, k = q + 1 := ⟨k - 1, by omega⟩
    have hi : i < L.length := by omega
    have hm1 : wrap64 (m + 1) = m + 1 := by unfold wrap64; omega
    have hm2 : wrap64 (m + 1 + 1) = m + 2 := by unfold wrap64; omega
    have hmm : (m + 1) % 4294967296 = m + 1 := by omega
    rw [laws_markGraphS.l0, if_pos (by omega), if_pos (by omega)]
    simp only [Option.bind_some, Int.toNat_natCast, hm1, hm2, hmm]
    generalize (rd_T33 L (i : Int)).f1 = q
    rw [w64_succ (by omega), rdG_nat _ (by rw [List.length_set]; exact hi), List.getElem_set_self, List.set_set]
    rw [markGraphS_loop d (i + 1) k _ (m + 2) (by rw [List.length_set]; omega) (by rw [List.length_set]; exact hL) (by omega) (by omega) (by omega), set_take _ _ hi, List.append_assoc]
    congr 2
    omega
theorem markGraphS_eq (L : List S33) (hL : L.length ≤ 1048576) (m : Int) (h0 : 0 ≤ m) (h1 : m ≤ 1000000) (k : Nat) (hk : 1048577 ≤ k) : laws_markGraphS.f k L m = some (m + 2 * L.length, markG L.length m) := by
  unfold laws_markGraphS.f
  have := markGraphS_loop L.length 0 k L m (by omega) hL h0 (by omega) (by omega)
  rw [show ((0 : Nat) : Int) = 0 from rfl] at this
  rw [this]; simp
theorem heldGraphS_loop : ∀ (d k : Nat) (pre : List S33) (m : Int), pre.length + d ≤ 1048576 → 0 ≤ m → m + 2 * d ≤ 2147483648 → d + 1 ≤ k → laws_heldGraphS.l0 k (pre ++ markG d m) m pre.length = some (m + 2 * d)
  | 0, k, pre, m, hL, h0, h1, hk => by
    obtain ⟨k, rfl⟩ : ∃ q, k = q + 1 := ⟨k - 1, by omega⟩
    rw [laws_heldGraphS.l0, if_neg (by simp [markG])]
    congr 1; omega
  | d + 1, k, pre, m, hL, h0, h1, hk => by
    obtain ⟨k, rfl⟩ : ∃ q, k = q + 1 := ⟨k - 1, by omega⟩
    have hlen : (pre ++ markG (d + 1) m).length = pre.length + (d + 1) := by rw [List.length_append, markG_length]
    have hi : pre.length < (pre ++ markG (d + 1) m).length := by omega
    have hg : (pre ++ markG (d + 1) m)[pre.length] = ⟨m, m + 1⟩ := by simp [markG]
    have hm1 : wrap64 (m + 1) = m + 1 := by unfold wrap64; omega
    have hm2 : wrap64 (m + 1 + 1) = m + 2 := by unfold wrap64; omega
    have hmm : (m + 1) % 4294967296 = m + 1 := by omega
    rw [laws_heldGraphS.l0, if_pos (by omega), if_pos (by omega), rdG_nat _ hi, hg]
    simp only [hm1, hm2, hmm, if_true]
    rw [w64_succ (by omega)]
    have := heldGraphS_loop d k (pre ++ [⟨m, m + 1⟩]) (m + 2) (by rw [List.length_append]; simp only [List.length_cons, List.length_nil]; omega) (by omega) (by omega) (by omega)
    rw [List.length_append, List.append_assoc] at this
    simp only [List.length_cons, List.length_nil] at this
    rw [show pre ++ markG (d + 1) m = pre ++ ([⟨m, m + 1⟩] ++ markG d (m + 2)) from rfl, this]
    congr 1; omega
theorem heldGraphS_eq (d : Nat) (hd : d ≤ 1048576) (m : Int) (h0 : 0 ≤ m) (h1 : m ≤ 1000000) (k : Nat) (hk : 1048577 ≤ k) : laws_heldGraphS.f k (markG d m) m = some (m + 2 * d) := by
  unfold laws_heldGraphS.f
  exact heldGraphS_loop d k [] m (by simpa using hd) h0 (by omega) (by omega)

end Go.Proofs.Ytjemkdpffjneaaa.Q
end

section
namespace Go.Proofs.Ytjemkdpffjneaaa.Q
open Go.RowKit Go.Proofs.YtjemkdpffjneaaaW.PrintWords Go.Proofs.YtjemkdpffjneaaaW.PrintLast Go.Proofs.YtjemkdpffjneaaaW.PrintMore
attribute [local go_sem] max2_int min2_int max_two min_two max_three min_three max_four min_four   -- for this text's walks alone
set_option linter.unusedVariables false
set_option linter.unusedSimpArgs false

theorem in_eq4 (a b c : Int) : impl_in.f a b c = some (decide (b ≤ a ∧ a ≤ c)) := by
  unfold impl_in.f
  by_cases h : a ≥ b
  · rw [if_pos h]; congr 1; rw [decide_eq_decide]; omega
  · rw [if_neg h]; congr 1; symm; rw [decide_eq_false_iff_not]; omega

end Go.Proofs.Ytjemkdpffjneaaa.Q
end

section
namespace Go.Proofs.Ytjemkdpffjneaaa.Q
open Go.RowKit Go.Proofs.YtjemkdpffjneaaaW.PrintWords Go.Proofs.YtjemkdpffjneaaaW.PrintLast Go.Proofs.YtjemkdpffjneaaaW.PrintMore
attribute [local go_sem] max2_int min2_int max_two min_two max_three min_three max_four min_four   -- for this text's walks alone
set_option linter.unusedVariables false
set_option linter.unusedSimpArgs false

def toG (x : S30) : S33 := ⟨x.f0, x.f1⟩
def toGs (l : List S30) : List S33 := l.map toG
theorem toGraphS_loop (l : List S30) (hl : l.length ≤ 1048576) : ∀ (d i k : Nat) (out : List S33), i + d = l.length → out.length = l.length → d + 1 ≤ k → laws_toGraphS.l0 k l out i = some (out.take i ++ (l.drop i).map toG)
  | 0, i, k, out, hd, ho, hk => by
    obtain ⟨k, rfl⟩ : ∃ q, k = q + 1 := ⟨k - 1, by omega⟩
    rw [laws_toGraphS.l0, if_neg (by omega), List.drop_eq_nil_of_le (by omega), List.take_of_length_le (by omega)]; simp
  | d + 1, i, k, out, hd, ho, hk => by
    obtain ⟨k, rfl⟩ : ∃ q, k = q + 1 := ⟨k - 1, by omega⟩
    rw [laws_toGraphS.l0, if_pos (by omega), if_pos (by omega), laws_toGraph.f]
    simp only [Option.bind_some]
    rw [if_pos (by omega), w64_succ (by omega), Int.toNat_natCast]
    rw [toGraphS_loop l hl d (i + 1) k _ (by omega) (by rw [List.length_set]; exact ho) (by omega), set_take _ _ (by omega), List.append_assoc]
    congr 2
    rw [List.drop_eq_getElem_cons (show i < l.length by omega), List.map_cons]
    show [_] ++ _ = _
    congr 1
    unfold rd_T30
    rw [getD_of_lt _ _ (by omega)]; rfl
theorem toGraphS_eq (l : List S30) (hl : l.length ≤ 1048576) (k : Nat) (hk : 1048577 ≤ k) : laws_toGraphS.f k l = some (toGs l) := by
  unfold laws_toGraphS.f
  rw [if_pos (by omega), if_pos (by omega)]
  have := toGraphS_loop l hl l.length 0 k (List.replicate ((l.length : Int) : Int).toNat z33) (by omega) (by simp) (by omega)
  rw [show ((0 : Nat) : Int) = 0 from rfl] at this
  rw [this]; simp [toGs]

end Go.Proofs.Ytjemkdpffjneaaa.Q
end

section
namespace Go.Proofs.Ytjemkdpffjneaaa.Q
open Go.RowKit Go.Proofs.YtjemkdpffjneaaaW.PrintWords Go.Proofs.YtjemkdpffjneaaaW.PrintLast Go.Proofs.YtjemkdpffjneaaaW.PrintMore
attribute [local go_sem] max2_int min2_int max_two min_two max_three min_three max_four min_four   -- for this text's walks alone
set_option linter.unusedVariables false
set_option linter.unusedSimpArgs false

theorem FreeGraphs_fin (n : Int) (l : List S30) (hl : l.length ≤ 1048576) (L : List S33) (hL : L.length ≤ 1024) (c : Int) (k : Nat) (hk : 1048590 ≤ k) (h : ∀ k, 1048577 ≤ k → impl_FreeGraphs.f k n (toGs l) = some (L, c)) :
    laws_FnExactFreeGraphs.j0 k n l L c (toGs l) L c false = some true := by
  obtain ⟨k, rfl⟩ : ∃ q, k = q + 3 := ⟨k - 3, by omega⟩
  have hlen : (toGs l).length = l.length := by unfold toGs; rw [List.length_map]
  rw [laws_FnExactFreeGraphs.j0, if_neg (by simp), toGraphS_eq l hl _ (by omega)]
  simp only [Option.bind_some]
  rw [eqGraphS_self _ (by omega) _ (by omega), markGraphS_eq _ (by omega) 1 (by omega) (by omega) _ (by omega)]
  simp only [Option.bind_some, if_true]
  rw [if_neg (by omega), eqGraphS_self L (by omega) _ (by omega)]
  simp only [Option.bind_some, if_true, bne_self_eq_false]
  rw [laws_FnExactFreeGraphs.j1, if_neg (by simp), markGraphS_eq L (by omega) 1 (by omega) (by omega) _ (by omega)]
  simp only [Option.bind_some]
  rw [heldGraphS_eq L.length (by omega) 1 (by omega) (by omega) _ (by omega)]
  simp only [Option.bind_some]
  rw [if_neg (by omega), if_pos trivial, toGraphS_eq l hl _ (by omega)]
  simp only [Option.bind_some]
  rw [h _ (by omega)]
  simp only [Option.bind_some]
  rw [eqGraphS_self L (by omega) _ (by omega)]
  simp only [Option.bind_some, if_true, bne_self_eq_false]
  rw [laws_FnExactFreeGraphs.j2, if_neg (by simp), heldGraphS_eq L.length (by omega) 1 (by omega) (by omega) _ (by omega)]
  simp only [Option.bind_some]
  rw [if_neg (by omega), if_pos trivial]
theorem FnExactFreeGraphs_pure (n : Int) (l : List S30) (_hn : (Lit.int .i64 n).wf = true) (hl : l.length < 9223372036854775808 ∧ ∀ b ∈ l, (Lit.int .i64 b.f0).wf = true ∧ (Lit.int .u32 b.f1).wf = true) : ∃ k, laws_FnExactFreeGraphs.f k n l = some true := by
  obtain ⟨K, hK⟩ : ∃ K : Nat, 2000000 ≤ K := ⟨2000000, Nat.le_refl _⟩
  refine ⟨K, ?_⟩
  unfold laws_FnExactFreeGraphs.f laws_szGraphS.f
  by_cases hs : wrap64 (1048576 - (l.length : Int)) < 0
  · rw [if_pos hs]; rfl
  rw [if_neg hs]
  have hl2 : l.length ≤ 1048576 := by have := hl.1; unfold wrap64 at hs; omega
  simp only [Option.bind_some]
  rw [if_neg hs]
  have ho : okGs (toGs l) := fun x hx => by
    obtain ⟨b, hb, rfl⟩ := List.mem_map.1 hx
    have := (hl.2 b hb).2
    simpa [toG, Lit.wf, IntKind.min, IntKind.max, IntKind.bits, IntKind.signed] using this
  have hlen : (toGs l).length = l.length := by unfold toGs; rw [List.length_map]
  obtain ⟨L, c, hL, hsp, him⟩ : ∃ (L : List S33) (c : Int), L.length ≤ 1024 ∧ spec_FreeGraphs.f K n (toGs l) = some (L, c) ∧ ∀ k, 1048577 ≤ k → impl_FreeGraphs.f k n (toGs l) = some (L, c) := by
    unfold spec_FreeGraphs.f impl_FreeGraphs.f
    rw [l01Forbidden_eq _ (by omega) ho K (by omega)]
    simp only [Option.bind_some]
    by_cases hf : forb (toGs l) = 0
    rotate_left
    · refine ⟨[], forb (toGs l), by simp, by rw [if_neg hf], fun k hk => ?_⟩
      rw [forbiddenOk_eq _ (by omega) ho k (by omega)]
      simp only [Option.bind_some, if_neg hf]
    obtain ⟨h6, hvs⟩ := forb_zero hf
    have him1 : ∀ k, 1048577 ≤ k → impl_forbiddenOk.f k (toGs l) = some 0 := fun k hk => by rw [forbiddenOk_eq _ (by omega) ho k (by omega), hf]
    rw [if_pos hf, l00In_eq]
    simp only [Option.bind_some]
    by_cases hn : 0 ≤ n ∧ n ≤ 5
    rotate_left
    · refine ⟨[], 2, by simp, by rw [decide_eq_false hn]; rfl, fun k hk => ?_⟩
      rw [him1 k hk, impl_sizeOk.f, in_eq4, decide_eq_false hn]
      rfl
    obtain ⟨m, rfl⟩ : ∃ m : Nat, n = m := ⟨n.toNat, by omega⟩
    have hm : m < 6 := by omega
    refine ⟨freeL m (toGs l), 0, freeL_length m hm _, ?_, fun k hk => ?_⟩
    · rw [decide_eq_true hn, if_pos rfl, l01AllFree_eq m hm _ ho h6 hvs K (by omega)]; rfl
    · rw [him1 k hk, impl_sizeOk.f, in_eq4, decide_eq_true hn]
      simp only [Option.bind_some, if_true]
      rw [freeGraphs_eq m hm _ ho h6 hvs k (by omega)]; rfl
  rw [toGraphS_eq l hl2 K (by omega)]
  simp only [Option.bind_some]
  rw [hsp]
  simp only [Option.bind_some]
  rw [him K (by omega)]
  simp only [Option.bind_some]
  rw [eqGraphS_self L (by omega) K (by omega)]
  simp only [Option.bind_some, if_true, bne_self_eq_false]
  exact FreeGraphs_fin n l hl2 L hL c K (by omega) him

end Go.Proofs.Ytjemkdpffjneaaa.Q
end

section
namespace Go.Proofs.YtjemkdpffjneaaaW.PrintWords
open Go Go.RowKit Go.ChangeShapes Go.WideShapes Go.ChangeAt Go.Deep
set_option linter.unusedVariables false
section
variable {H : Type} (enc : TypeId × Value → H) (P : Program) (W : World)
/-- Whatever reads as data of type t stands for a plain value. -/
def Opens {α : Type} (t : TypeId) (k : Kd α) (wf : α → Prop) : Prop :=
  ∀ (fuel : Nat) (cs : List Value) (x : DataW H × List MemPlace), DataW.trod enc P W 0 (fun _ => true) true fuel t cs = some x → ∃ a, k.K W a cs ∧ wf a
end
section
variable {H : Type} {enc : TypeId × Value → H} {P : Program} {W : World}
theorem Opens.int {t : TypeId} {k : IntKind} (ht : P.underlying t = some (.int k)) : Opens enc P W t (Kd.int k) (fun n => (Lit.int k n).wf = true) := by
  intro fuel cs x h
  obtain ⟨n, rfl, _, hw⟩ := DataW.trod_int ht h
  exact ⟨n, rfl, hw⟩
theorem Opens.bool {t : TypeId} (ht : P.underlying t = some .bool) : Opens enc P W t Kd.bool (fun _ => True) := by
  intro fuel cs x h
  obtain ⟨n, rfl, _⟩ := DataW.trod_bool ht h
  exact ⟨n, rfl, trivial⟩
theorem Opens.struct2 {α β : Type} {t : TypeId} {f0 f1 : Field} {k0 : Kd α} {k1 : Kd β} {p0 : α → Prop} {p1 : β → Prop} (ht : P.underlying t = some (.struct #[f0, f1])) (o0 : f0.offset = 0) (o1 : f1.offset = P.cellsOf f0.type) (hc : P.cellsOf t = P.cellsOf f0.type + P.cellsOf f1.type)
    (h0 : Opens enc P W f0.type k0 p0) (h1 : Opens enc P W f1.type k1 p1) : Opens enc P W t (Kd.pair k0 k1) (fun p => p0 p.1 ∧ p1 p.2) := by
  intro fuel cs x h
  obtain ⟨y0, y1, n, _, hl, e0, e1⟩ := trod_struct2 ht h
  obtain ⟨a, ka, wa⟩ := h0 n _ _ e0
  obtain ⟨b, kb, wb⟩ := h1 n _ _ e1
  refine ⟨(a, b), ⟨_, _, ?_, ka, kb⟩, wa, wb⟩
  rw [o0, o1, List.drop_zero, List.take_of_length_le (l := List.drop _ cs) (by rw [List.length_drop, hl, hc]; omega), List.take_append_drop]
theorem Opens.iso {α β : Type} {t : TypeId} {k : Kd α} {p : α → Prop} (f : β → α) (g : α → β) (hfg : ∀ a, f (g a) = a) (h : Opens enc P W t k p) : Opens enc P W t (Kd.iso k f) (fun b => p (f b)) := by
  intro fuel cs x hx
  obtain ⟨a, ka, wa⟩ := h fuel cs x hx
  exact ⟨g a, by show k.K W (f (g a)) cs; rw [hfg]; exact ka, by show p (f (g a)); rw [hfg]; exact wa⟩
theorem Opens.slice {α : Type} (z : α) {t e : TypeId} {k : Kd α} {p : α → Prop} (ht : P.underlying t = some (.slice e)) (hs : k.sz = P.cellsOf e) (h : Opens enc P W e k p) : Opens enc P W t (Kd.slice e k) (fun l => l.length < 9223372036854775808 ∧ ∀ a ∈ l, p a) := by
  haveI : Inhabited α := ⟨z⟩
  intro fuel cs x hx
  rcases open_slice ht hx with ⟨rfl, _⟩ | ⟨ad, len, cap, m, n, D, Pl, rfl, _, hl, hm, hmm, _, hel⟩
  · exact ⟨[], ⟨none, 0, rfl, Nat.le_refl _, rfl, by simp, fun h0 => absurd h0 (Nat.lt_irrefl 0)⟩, by simp, fun a ha => by cases ha⟩
  · have hlm : len ≤ m := by
      rw [hmm]; split
      · exact hl
      · exact Nat.le_refl _
    obtain ⟨F, hF⟩ := choose_lt (α := α) (n := len) (p := fun i a => p a ∧ ∃ cs', k.K W a cs' ∧ W.cells? 0 (ad.add (i * P.cellsOf e)) (P.cellsOf e) = some cs') (fun i hi => by
      obtain ⟨cs', h1, h2⟩ := hel i (by omega)
      obtain ⟨a, ka, wa⟩ := h n _ _ h2
      exact ⟨a, wa, cs', ka, h1⟩)
    refine ⟨(List.range len).map F, ⟨some ad, cap, by simp, by simpa using hl, by simp, by simp; unfold maxLen at hm; omega, fun _ => ⟨ad, rfl, fun j q hq => ?_⟩⟩, by simp; unfold maxLen at hm; omega, fun a ha => ?_⟩
    · obtain ⟨hj, rfl⟩ : j < len ∧ F j = q := by
        rw [List.getElem?_map] at hq
        rcases Nat.lt_or_ge j len with hj | hj
        · rw [List.getElem?_range hj] at hq; exact ⟨hj, by simpa using hq⟩
        · rw [List.getElem?_eq_none (by simpa using hj)] at hq; simp at hq
      obtain ⟨_, cs', ka, h1⟩ := hF j hj
      obtain ⟨_, hlen, hcell⟩ := World.cells?_some h1
      refine ⟨cs', k.K_len ka, ka, fun i u hu => ?_⟩
      have hi : i < P.cellsOf e := by rw [← hlen]; exact (List.getElem?_eq_some_iff.1 hu).1
      rw [hs, ← add_add, hcell i hi]; exact hu
    · obtain ⟨i, hi, rfl⟩ := List.mem_map.1 ha
      exact (hF i (List.mem_range.1 hi)).1
end
end Go.Proofs.YtjemkdpffjneaaaW.PrintWords
end
