/- Contracts of Go functions and plain lemmas over what they compute; printed by the kit's print program or written by hand, joined. -/
import Derived.Test.YtjemkdpffjneaaaBFnExactTurnLabels3
import Derived.Test.YtjemkdpffjneaaaBFnExactTurnLabels6
import Derived.Test.YtjemkdpffjneaaaBFnExactTurnLabels11
import Derived.Test.YtjemkdpffjneaaaBFnExactTurnLabels8
import Derived.Test.YtjemkdpffjneaaaBFnExactTurnLabels12
import Derived.Test.YtjemkdpffjneaaaBFnExactTurnLabels9
import Derived.Test.YtjemkdpffjneaaaBFnExactTurnLabels14
import Derived.Test.YtjemkdpffjneaaaBFnExactTurnLabels10
import Derived.Test.YtjemkdpffjneaaaBFnExactTurnLabels4
import Derived.Test.YtjemkdpffjneaaaBFnExactTurnLabels5
import Derived.Test.YtjemkdpffjneaaaBFnExactTurnLabels13
import Derived.Test.YtjemkdpffjneaaaBFnExactTurnLabels7
import Derived.Test.YtjemkdpffjneaaaBFnExactTurnLabels2
import Derived.WalkKit
import Derived.ProofKit
import Derived.OpenShut
import Derived.ChangeOld
import Derived.Deep.Slices
section
namespace Go.Proofs.Ytjemkdpffjneaaa.Q
open Go.RowKit Go.Proofs.YtjemkdpffjneaaaW.PrintWords Go.Proofs.YtjemkdpffjneaaaW.PrintLast Go.Proofs.YtjemkdpffjneaaaW.PrintMore
attribute [local go_sem] max2_int min2_int max_two min_two max_three min_three max_four min_four   -- for this text's walks alone
set_option linter.unusedVariables false
set_option linter.unusedSimpArgs false

def addRest (l : List Int) : Nat → Nat → List Int → List Int
  | 0, _, x => x
  | d + 1, i, x => addRest l d (i + 1) (if (i : Int) ∈ l then x else x ++ [(i : Int)])
theorem flagOf_loop (l : List Int) (hl : l.length ≤ 1048576) (n e : Int) : ∀ (d i k : Nat) (x : List Int), ((i + d : Nat) : Int) = n → i + d ≤ 5 → x.length + d ≤ 1048600 → d + l.length + 3 ≤ k → impl_flagOf.l0 k l x n i n e = (impl_onT.f n e (addRest l d i x)).bind fun bt => some ((l.length : Int), bt.1, bt.2)
  | 0, i, k, x, hd, h5, hx, hk => by
    obtain ⟨k, rfl⟩ : ∃ q, k = q + 1 := ⟨k - 1, by omega⟩
    rw [impl_flagOf.l0, if_neg (by omega)]; rfl
  | d + 1, i, k, x, hd, h5, hx, hk => by
    obtain ⟨k, rfl⟩ : ∃ q, k = q + 1 := ⟨k - 1, by omega⟩
    rw [impl_flagOf.l0, if_pos (by omega), contains_eq l hl i k (by omega), w64_succ (by omega)]
    simp only [Option.bind_some, decide_eq_true_eq, addRest]
    by_cases h : (i : Int) ∈ l
    · rw [if_pos h, if_pos h]
      exact flagOf_loop l hl n e d (i + 1) k x (by omega) (by omega) (by omega) (by omega)
    · rw [if_neg h, if_neg h, if_pos (by omega)]
      exact flagOf_loop l hl n e d (i + 1) k _ (by omega) (by omega) (by rw [List.length_append]; simp only [List.length_cons, List.length_nil]; omega) (by omega)
theorem l03FlagOf_loop (l : List Int) (hl : l.length ≤ 1048576) (n e : Int) : ∀ (d i k : Nat) (x : List Int), ((i + d : Nat) : Int) = n → i + d ≤ 5 → x.length + d ≤ 1048600 → d + l.length + 3 ≤ k → spec_l03FlagOf.l0 k l x i n e = (spec_l01On.f (k - (d + 1)) n e (addRest l d i x)).bind fun bt => some ((l.length : Int), bt.1, bt.2)
  | 0, i, k, x, hd, h5, hx, hk => by
    obtain ⟨k, rfl⟩ : ∃ q, k = q + 1 := ⟨k - 1, by omega⟩
    rw [spec_l03FlagOf.l0, if_neg (by omega)]; rfl
  | d + 1, i, k, x, hd, h5, hx, hk => by
    obtain ⟨k, rfl⟩ : ∃ q, k = q + 1 := ⟨k - 1, by omega⟩
    rw [spec_l03FlagOf.l0, if_pos (by omega), among_eq l hl i k (by omega), w64_succ (by omega), show k + 1 - (d + 1 + 1) = k - (d + 1) from by omega]
    simp only [Option.bind_some, decide_eq_true_eq, addRest]
    by_cases h : (i : Int) ∈ l
    · rw [if_pos h, if_pos h]
      exact l03FlagOf_loop l hl n e d (i + 1) k x (by omega) (by omega) (by omega) (by omega)
    · rw [if_neg h, if_neg h, if_pos (by omega)]
      exact l03FlagOf_loop l hl n e d (i + 1) k _ (by omega) (by omega) (by rw [List.length_append]; simp only [List.length_cons, List.length_nil]; omega) (by omega)
theorem addRest_diff (l : List Int) (m : Int) : ∀ (d i : Nat) (x : List Int), ((i + d : Nat) : Int) ≤ m + 1 → allDiff m x → (∀ y ∈ x, y ∈ l ∨ y < i) → allDiff m (addRest l d i x)
  | 0, i, x, _, h, _ => h
  | d + 1, i, x, hm, h, hy => by
    rw [addRest]
    by_cases hi : (i : Int) ∈ l
    · rw [if_pos hi]
      exact addRest_diff l m d (i + 1) x (by omega) h fun y a => (hy y a).imp id fun b => by omega
    · rw [if_neg hi]
      have hx : (i : Int) ∉ x := fun a => (hy _ a).elim hi (fun b => by omega)
      refine addRest_diff l m d (i + 1) _ (by omega) ⟨?_, fun y a => ?_⟩ fun y a => ?_
      · rw [List.nodup_append]
        refine ⟨h.1, by simp, fun a ha b hb => ?_⟩
        rw [List.mem_singleton] at hb
        subst hb
        exact fun e => hx (e ▸ ha)
      · rcases List.mem_append.1 a with a | a
        · exact h.2 y a
        · rw [List.mem_singleton] at a; subst a; omega
      · rcases List.mem_append.1 a with a | a
        · exact (hy y a).imp id fun b => by omega
        · rw [List.mem_singleton] at a; subst a; exact Or.inr (by omega)
/-- What the flag of a valid graph and of labels is, by both. -/
theorem flagOf_both {n : Int} (e : Int) (h0 : 0 ≤ n) (h5 : n ≤ 5) {l : List Int} (hd : allDiff (wrap64 (n - 1)) l) (k : Nat) (hk : 60 ≤ k) :
    impl_flagOf.f k n e l = some ((l.length : Int), ((addRest l n.toNat 0 l).length : Int), onI e (addRest l n.toNat 0 l)) ∧ spec_l03FlagOf.f k n e l = some ((l.length : Int), ((addRest l n.toNat 0 l).length : Int), onI e (addRest l n.toNat 0 l)) := by
  have hl := allDiff_len h0 h5 hd
  have ha : allDiff (wrap64 (n - 1)) (addRest l n.toNat 0 l) := addRest_diff l _ n.toNat 0 l (by unfold wrap64; omega) hd fun y a => Or.inl a
  constructor
  · unfold impl_flagOf.f slices_Clone_int64_int64.f
    simp only [Option.bind_some, List.nil_append, List.length_nil]
    rw [if_pos (by omega)]
    simp only [Option.bind_some]
    have := flagOf_loop l (by omega) n e n.toNat 0 k l (by omega) (by omega) (by omega) (by omega)
    rw [show ((0 : Nat) : Int) = 0 from rfl] at this
    rw [this, impl_onT.eq n e (okList_diff h0 h5 ha)]; rfl
  · unfold spec_l03FlagOf.f
    simp only [Option.bind_some, List.nil_append, List.length_nil]
    rw [if_pos (by omega)]
    have := l03FlagOf_loop l (by omega) n e n.toNat 0 k l (by omega) (by omega) (by omega) (by omega)
    rw [show ((0 : Nat) : Int) = 0 from rfl] at this
    rw [this, onS_diff n e h0 h5 ha _ (by omega)]; rfl

end Go.Proofs.Ytjemkdpffjneaaa.Q
end

section
namespace Go.Proofs.Ytjemkdpffjneaaa.Q
open Go.RowKit Go.Proofs.YtjemkdpffjneaaaW.PrintWords Go.Proofs.YtjemkdpffjneaaaW.PrintLast Go.Proofs.YtjemkdpffjneaaaW.PrintMore
attribute [local go_sem] max2_int min2_int max_two min_two max_three min_three max_four min_four   -- for this text's walks alone
set_option linter.unusedVariables false
set_option linter.unusedSimpArgs false

def leavesIn (g : List Int → List (List Int)) (l : List Int) : Nat → Nat → List (List Int)
  | 0, _ => []
  | d + 1, i => if (i : Int) ∈ l then leavesIn g l d (i + 1) else g (l ++ [(i : Int)]) ++ leavesIn g l d (i + 1)
/-- All lists of different numbers below n that go on from l by r places, in order. -/
def leaves (n : Nat) : Nat → List Int → List (List Int)
  | 0, l => [l]
  | r + 1, l => leavesIn (leaves n r) l n 0
def runCb {σ : Type} (cb : List Int → σ → Option (Bool × σ)) : List (List Int) → σ → Option (Bool × σ)
  | [], a => some (false, a)
  | l :: ls, a => (cb l a).bind fun p => if p.1 = true then some (true, p.2) else runCb cb ls p.2
theorem runCb_append {σ : Type} (cb : List Int → σ → Option (Bool × σ)) (y : List (List Int)) : ∀ (x : List (List Int)) (a : σ), runCb cb (x ++ y) a = (runCb cb x a).bind fun p => if p.1 = true then some (true, p.2) else runCb cb y p.2
  | [], a => rfl
  | l :: ls, a => by
    simp only [List.cons_append, runCb]
    cases h : cb l a with
    | none => rfl
    | some p =>
      simp only [Option.bind_some]
      by_cases hp : p.1 = true
      · rw [if_pos hp, if_pos hp]; rfl
      · rw [if_neg hp, if_neg hp]; exact runCb_append cb y ls p.2
theorem lstdIn_eq {σ : Type} (cb : List Int → σ → Option (Bool × σ)) (f : List Int → σ → Option (Bool × σ)) (g : List Int → List (List Int)) (hf : ∀ l a, f l a = runCb cb (g l) a) (l : List Int) : ∀ (d i : Nat) (a : σ), lstdIn f l d i a = runCb cb (leavesIn g l d i) a
  | 0, _, _ => rfl
  | d + 1, i, a => by
    rw [lstdIn, leavesIn]
    by_cases h : (i : Int) ∈ l
    · rw [if_pos h, if_pos h]; exact lstdIn_eq cb f g hf l d (i + 1) a
    · rw [if_neg h, if_neg h, runCb_append, hf]
      congr 1
      funext p
      by_cases hp : p.1 = true
      · rw [if_pos hp, if_pos hp]
      · rw [if_neg hp, if_neg hp]; exact lstdIn_eq cb f g hf l d (i + 1) p.2
theorem lstd_eq {σ : Type} (cb : List Int → σ → Option (Bool × σ)) (n : Nat) : ∀ (r : Nat) (l : List Int) (a : σ), lstd cb n r l a = runCb cb (leaves n r l) a
  | 0, l, a => by
    simp only [lstd, leaves, runCb]
    cases cb l a with
    | none => rfl
    | some p =>
      obtain ⟨b, a'⟩ := p
      cases b <;> rfl
  | r + 1, l, a => by
    rw [lstd, leaves]
    exact lstdIn_eq cb _ _ (fun l a => lstd_eq cb n r l a) l n 0 a
/-- A callback that never says enough, and reckons on. -/
theorem runCb_fold {σ : Type} (cb : List Int → σ → Option (Bool × σ)) (g : σ → List Int → σ) : ∀ (L : List (List Int)) (a : σ), (∀ l ∈ L, ∀ a, cb l a = some (false, g a l)) → runCb cb L a = some (false, L.foldl g a)
  | [], _, _ => rfl
  | l :: ls, a, h => by
    simp only [runCb, h l (List.mem_cons_self) a, Option.bind_some, Bool.false_eq_true, if_false, List.foldl_cons]
    exact runCb_fold cb g ls _ fun x hx => h x (List.mem_cons_of_mem _ hx)

end Go.Proofs.Ytjemkdpffjneaaa.Q
end

section
namespace Go.Proofs.Ytjemkdpffjneaaa.Q
open Go.RowKit Go.Proofs.YtjemkdpffjneaaaW.PrintWords Go.Proofs.YtjemkdpffjneaaaW.PrintLast Go.Proofs.YtjemkdpffjneaaaW.PrintMore
attribute [local go_sem] max2_int min2_int max_two min_two max_three min_three max_four min_four   -- for this text's walks alone
set_option linter.unusedVariables false
set_option linter.unusedSimpArgs false

def shiftL (s : Nat) (own : List Int) : List Int := firstI s ++ own.map fun x => (s : Int) + x
theorem leaves_shift : ∀ n, n < 6 → ∀ s, s < n + 1 → leaves n (n - s) (firstI s) = (leaves (n - s) (n - s) []).map (shiftL s) := by decide +kernel
theorem leaves_ok_s : ∀ n, n < 6 → ∀ s, s < n + 1 → ∀ l ∈ leaves n (n - s) (firstI s), l.length = n ∧ allDiff ((n : Int) - 1) l := by decide +kernel
theorem leaves_small : ∀ n, n < 6 → ∀ l ∈ leaves n n [], l.length = n ∧ ∀ x ∈ l, 0 ≤ x ∧ x ≤ 5 := by decide +kernel
theorem l03Order_loop (s : Nat) (hs : s < 6) (own : List Int) (hl : own.length ≤ 5) (ho : ∀ x ∈ own, 0 ≤ x ∧ x ≤ 5) : ∀ (d i k : Nat) (out : List Int), i + d = own.length → out.length ≤ 5 + i → d + 1 ≤ k → spec_l03Order.l0 k s own out i = some (out ++ (own.drop i).map fun x => (s : Int) + x)
  | 0, i, k, out, hd, hout, hk => by
    obtain ⟨k, rfl⟩ : ∃ q, k = q + 1 := ⟨k - 1, by omega⟩
    rw [spec_l03Order.l0, if_neg (by omega), List.drop_eq_nil_of_le (by omega)]; simp
  | d + 1, i, k, out, hd, hout, hk => by
    obtain ⟨k, rfl⟩ : ∃ q, k = q + 1 := ⟨k - 1, by omega⟩
    have hi : i < own.length := by omega
    have hx := ho _ (List.getElem_mem hi)
    rw [spec_l03Order.l0, if_pos (by omega), if_pos (by omega), if_pos (by omega), w64_succ (by omega), rd_of_lt own hi, show wrap64 ((s : Int) + own[i]) = (s : Int) + own[i] from by unfold wrap64; omega]
    rw [l03Order_loop s hs own hl ho d (i + 1) k _ (by omega) (by rw [List.length_append]; simp only [List.length_cons, List.length_nil]; omega) (by omega), List.append_assoc, List.drop_eq_getElem_cons hi]
    rfl
theorem l03Order_eq (s : Nat) (hs : s < 6) (own : List Int) (hl : own.length ≤ 5) (ho : ∀ x ∈ own, 0 ≤ x ∧ x ≤ 5) (k : Nat) (hk : 100 ≤ k) : spec_l03Order.f k s own = some (shiftL s own) := by
  unfold spec_l03Order.f
  rw [firstS_eq s (by omega) (by omega) k (by omega)]
  simp only [Option.bind_some, Int.toNat_natCast]
  have hfl : ∀ n, n < 6 → (firstI n).length = n := by decide
  have hfs := hfl s hs
  have := l03Order_loop s hs own hl ho own.length 0 k (firstI s) (by omega) (by omega) (by omega)
  rw [show ((0 : Nat) : Int) = 0 from rfl] at this
  rw [this]; rfl
/-- What is asked of each own order of a flag. -/
theorem own_ok (n s : Nat) (hn : n < 6) (hs : s < n + 1) : ∀ l ∈ leaves (n - s) (n - s) [], (l.length ≤ 5 ∧ ∀ y ∈ l, 0 ≤ y ∧ y ≤ 5) ∧ (shiftL s l).length = n ∧ allDiff ((n : Int) - 1) (shiftL s l) := by
  intro l hl
  have h1 := leaves_small (n - s) (by omega) l hl
  have h2 := leaves_ok_s n hn s hs (shiftL s l) (by rw [leaves_shift n hn s hs]; exact List.mem_map_of_mem hl)
  exact ⟨⟨by omega, h1.2⟩, h2⟩

end Go.Proofs.Ytjemkdpffjneaaa.Q
end

section
namespace Go.Proofs.Ytjemkdpffjneaaa.Q
open Go.RowKit Go.Proofs.YtjemkdpffjneaaaW.PrintWords Go.Proofs.YtjemkdpffjneaaaW.PrintLast Go.Proofs.YtjemkdpffjneaaaW.PrintMore
attribute [local go_sem] max2_int min2_int max_two min_two max_three min_three max_four min_four   -- for this text's walks alone
set_option linter.unusedVariables false
set_option linter.unusedSimpArgs false

/-- An order of the n vertices: at each place a vertex, no vertex twice. -/
def isOrd (n : Nat) (l : List Int) : Prop := l.length = n ∧ allDiff ((n : Int) - 1) l
theorem isOrd.at {n : Nat} {l : List Int} (h : isOrd n l) (i : Nat) (hi : i < n) : ∃ a : Nat, a < n ∧ rd l i = a := by
  have hl : i < l.length := by rw [h.1]; exact hi
  have := h.2.2 _ (List.getElem_mem hl)
  exact ⟨l[i].toNat, by omega, by rw [rd_of_lt l hl]; omega⟩
end Go.Proofs.Ytjemkdpffjneaaa.Q
end

section
namespace Go.Proofs.Ytjemkdpffjneaaa.Q
open Go.RowKit Go.Proofs.YtjemkdpffjneaaaW.PrintWords Go.Proofs.YtjemkdpffjneaaaW.PrintLast Go.Proofs.YtjemkdpffjneaaaW.PrintMore
attribute [local go_sem] max2_int min2_int max_two min_two max_three min_three max_four min_four   -- for this text's walks alone
set_option linter.unusedVariables false
set_option linter.unusedSimpArgs false

end Go.Proofs.Ytjemkdpffjneaaa.Q
end

section
namespace Go.Proofs.Ytjemkdpffjneaaa.Q
open Go.RowKit Go.Proofs.YtjemkdpffjneaaaW.PrintWords Go.Proofs.YtjemkdpffjneaaaW.PrintLast Go.Proofs.YtjemkdpffjneaaaW.PrintMore
attribute [local go_sem] max2_int min2_int max_two min_two max_three min_three max_four min_four   -- for this text's walks alone
set_option linter.unusedVariables false
set_option linter.unusedSimpArgs false

def isChain (n : Int) : List (List Int) → Bool
  | [] => true
  | x :: ls => match ls with
    | [] => match spec_l01Next.f 100 x n with | some (false, _) => true | _ => false
    | y :: _ => decide (spec_l01Next.f 100 x n = some (true, y)) && isChain n ls
theorem chains : ∀ n, n < 6 → ∀ r, r < n + 1 → (leaves n r []).head? = some (firstI r) ∧ isChain n (leaves n r []) = true := by decide +kernel
theorem next_ge {x : List Int} {n : Int} {p : Bool × List Int} (h : spec_l01Next.f 100 x n = some p) (k : Nat) (hk : 100 ≤ k) : spec_l01Next.f k x n = some p :=
  LeO_ge (F := fun k => spec_l01Next.f k x n) (fun k => spec_l01Next.mono x n k) hk _ h
theorem chain_one {n : Int} {x : List Int} (h : isChain n [x] = true) : ∃ y, ∀ k, 100 ≤ k → spec_l01Next.f k x n = some (false, y) := by
  simp only [isChain] at h
  split at h
  · next y e => exact ⟨y, fun k hk => next_ge e k hk⟩
  · cases h
theorem chain_cons {n : Int} {x y : List Int} {ls : List (List Int)} (h : isChain n (x :: y :: ls) = true) : (∀ k, 100 ≤ k → spec_l01Next.f k x n = some (true, y)) ∧ isChain n (y :: ls) = true := by
  rw [isChain] at h
  simp only [Bool.and_eq_true, decide_eq_true_eq] at h
  exact ⟨fun k hk => next_ge h.1 k hk, h.2⟩
theorem leaves_short : ∀ n, n < 6 → ∀ r, r < n + 1 → (leaves n r []).length ≤ 200 := by decide +kernel

end Go.Proofs.Ytjemkdpffjneaaa.Q
end

section
namespace Go.Proofs.Ytjemkdpffjneaaa.Q
open Go.RowKit Go.Proofs.YtjemkdpffjneaaaW.PrintWords Go.Proofs.YtjemkdpffjneaaaW.PrintLast Go.Proofs.YtjemkdpffjneaaaW.PrintMore
attribute [local go_sem] max2_int min2_int max_two min_two max_three min_three max_four min_four   -- for this text's walks alone
set_option linter.unusedVariables false
set_option linter.unusedSimpArgs false

def leastE (e : Int) (L : List (List Int)) (best : Int) : Int := L.foldl (fun b l => if onI e l < b then onI e l else b) best
theorem least_eq (n s : Nat) (hn : n < 6) (hs : s < n + 1) (e : Int) (hL : ∀ l ∈ leaves n (n - s) (firstI s), allDiff ((n : Int) - 1) l) : impl_Graph_least.f n e s = some ((n : Int), leastE e (leaves n (n - s) (firstI s)) e) := by
  unfold impl_Graph_least.f
  rw [if_pos (by omega), lstd_eq, show ((n : Int) - (s : Int)).toNat = n - s from by omega, Int.toNat_natCast, Int.toNat_natCast]
  rw [runCb_fold (leastCb e) (fun b l => if onI e l < b then onI e l else b)]
  · rfl
  · intro l hl a
    unfold leastCb
    rw [if_pos (okList_diff (m := n) (by omega) (by omega) (by rw [show wrap64 ((n : Int) - 1) = (n : Int) - 1 from by unfold wrap64; omega]; exact hL l hl))]
end Go.Proofs.Ytjemkdpffjneaaa.Q
end

section
namespace Go.Proofs.Ytjemkdpffjneaaa.Q
open Go.RowKit Go.Proofs.YtjemkdpffjneaaaW.PrintWords Go.Proofs.YtjemkdpffjneaaaW.PrintLast Go.Proofs.YtjemkdpffjneaaaW.PrintMore
attribute [local go_sem] max2_int min2_int max_two min_two max_three min_three max_four min_four   -- for this text's walks alone
set_option linter.unusedVariables false
set_option linter.unusedSimpArgs false

theorem mem_leavesIn {g : List Int → List (List Int)} {l x : List Int} : ∀ (d i0 i : Nat), i0 ≤ i → i < i0 + d → (i : Int) ∉ l → x ∈ g (l ++ [(i : Int)]) → x ∈ leavesIn g l d i0
  | 0, i0, i, h1, h2, _, _ => by omega
  | d + 1, i0, i, h1, h2, hn, hx => by
    rw [leavesIn]
    rcases Nat.eq_or_lt_of_le h1 with rfl | h1
    · rw [if_neg hn]; exact List.mem_append_left _ hx
    · have := mem_leavesIn d (i0 + 1) i (by omega) (by omega) hn hx
      by_cases h : (i0 : Int) ∈ l
      · rw [if_pos h]; exact this
      · rw [if_neg h]; exact List.mem_append_right _ this
theorem mem_leaves (n : Nat) : ∀ (r : Nat) (pre t : List Int), t.length = r → (pre ++ t).Nodup → (∀ x ∈ t, 0 ≤ x ∧ x < n) → pre ++ t ∈ leaves n r pre
  | 0, pre, t, hl, _, _ => by
    obtain rfl := List.eq_nil_of_length_eq_zero hl
    rw [leaves, List.append_nil]; exact List.mem_singleton.2 rfl
  | r + 1, pre, t, hl, hd, hr => by
    cases t with
    | nil => simp at hl
    | cons x t =>
      have hx := hr x (List.mem_cons_self)
      have hxp : x ∉ pre := fun h => by
        rw [List.nodup_append] at hd
        exact hd.2.2 x h x (List.mem_cons_self) rfl
      rw [leaves]
      refine mem_leavesIn n 0 x.toNat (Nat.zero_le _) (by omega) (by rw [Int.toNat_of_nonneg hx.1]; exact hxp) ?_
      rw [Int.toNat_of_nonneg hx.1, show pre ++ x :: t = (pre ++ [x]) ++ t from by simp]
      exact mem_leaves n r (pre ++ [x]) t (by simpa using hl) (by simpa using hd) fun y hy => hr y (List.mem_cons_of_mem _ hy)
end Go.Proofs.Ytjemkdpffjneaaa.Q
end

section
namespace Go.Proofs.Ytjemkdpffjneaaa.Q
open Go.RowKit Go.Proofs.YtjemkdpffjneaaaW.PrintWords Go.Proofs.YtjemkdpffjneaaaW.PrintLast Go.Proofs.YtjemkdpffjneaaaW.PrintMore
attribute [local go_sem] max2_int min2_int max_two min_two max_three min_three max_four min_four   -- for this text's walks alone
set_option linter.unusedVariables false
set_option linter.unusedSimpArgs false

theorem in_eq (a b c : Int) : impl_in.f a b c = some (decide (b ≤ a ∧ a ≤ c)) := by
  unfold impl_in.f
  by_cases h : a ≥ b
  · rw [if_pos h]; congr 1; rw [decide_eq_decide]; omega
  · rw [if_neg h]; congr 1; symm; rw [decide_eq_false_iff_not]; omega

end Go.Proofs.Ytjemkdpffjneaaa.Q
end

section
namespace Go.Proofs.Ytjemkdpffjneaaa.Q
open Go.RowKit Go.Proofs.YtjemkdpffjneaaaW.PrintWords Go.Proofs.YtjemkdpffjneaaaW.PrintLast Go.Proofs.YtjemkdpffjneaaaW.PrintMore
attribute [local go_sem] max2_int min2_int max_two min_two max_three min_three max_four min_four   -- for this text's walks alone
set_option linter.unusedVariables false
set_option linter.unusedSimpArgs false

def validG (n e : Int) : Bool := decide (0 ≤ n ∧ n ≤ 5 ∧ e < 2 ^ (n.toNat * (n.toNat - 1) / 2))
theorem l01Ok_eq (n e : Int) (h0 : 0 ≤ e) (h1 : e ≤ 4294967295) : spec_l01Ok.f n e = some (validG n e) := by
  have hw : wrap64 e = e := by unfold wrap64; omega
  unfold spec_l01Ok.f validG
  rw [l00In_eq, hw]; simp only [Option.bind_some]
  by_cases h : 0 ≤ n ∧ n ≤ 5
  · rw [if_pos (by simpa using h)]
    obtain ⟨ha, hb⟩ := h
    rcases small5 ha hb with rfl | rfl | rfl | rfl | rfl | rfl
    all_goals
      simp only [spec_l01Bits.f]
      simp [wrap64, IntKind.wrap_u64, shl, IntKind.wrap_i64, IntKind.bits]
  · rw [if_neg (by simpa using h)]; congr 1; symm; rw [decide_eq_false_iff_not]; omega

end Go.Proofs.Ytjemkdpffjneaaa.Q
end

section
namespace Go.Proofs.Ytjemkdpffjneaaa.Q
open Go.RowKit Go.Proofs.YtjemkdpffjneaaaW.PrintWords Go.Proofs.YtjemkdpffjneaaaW.PrintLast Go.Proofs.YtjemkdpffjneaaaW.PrintMore
attribute [local go_sem] max2_int min2_int max_two min_two max_three min_three max_four min_four   -- for this text's walks alone
set_option linter.unusedVariables false
set_option linter.unusedSimpArgs false

theorem ValidGraph_eq (n e : Int) (h0 : 0 ≤ e) (h1 : e ≤ 4294967295) : impl_ValidGraph.f n e = some (validG n e) := by
  unfold impl_ValidGraph.f validG
  rw [in_eq]; simp only [Option.bind_some]
  by_cases h : 0 ≤ n ∧ n ≤ 5
  · rw [if_pos (by simpa using h)]
    obtain ⟨ha, hb⟩ := h
    rcases small5 ha hb with rfl | rfl | rfl | rfl | rfl | rfl
    all_goals
      simp only [impl_pairs.f]
      simp [wrap64, shr, IntKind.bits]
    all_goals (first | done | (rw [Bool.eq_iff_iff]; simp; omega))
  · rw [if_neg (by simpa using h)]; congr 1; symm; rw [decide_eq_false_iff_not]; omega

end Go.Proofs.Ytjemkdpffjneaaa.Q
end

section
namespace Go.Proofs.Ytjemkdpffjneaaa.Q
open Go.RowKit Go.Proofs.YtjemkdpffjneaaaW.PrintWords Go.Proofs.YtjemkdpffjneaaaW.PrintLast Go.Proofs.YtjemkdpffjneaaaW.PrintMore
attribute [local go_sem] max2_int min2_int max_two min_two max_three min_three max_four min_four   -- for this text's walks alone
set_option linter.unusedVariables false
set_option linter.unusedSimpArgs false

def validF (l n e : Int) : Bool := validG n e && decide (0 ≤ l ∧ l ≤ 3 ∧ l ≤ n)
theorem l03Ok_eq (l n e : Int) (h0 : 0 ≤ e) (h1 : e ≤ 4294967295) : spec_l03Ok.f l n e = some (validF l n e) := by
  unfold spec_l03Ok.f validF
  rw [l01Ok_eq n e h0 h1, l00In_eq]; simp only [Option.bind_some]
  cases validG n e
  · rfl
  · by_cases h : 0 ≤ l ∧ l ≤ 3
    · rw [if_pos rfl, if_pos (by simpa using h)]; simp [h]
    · rw [if_pos rfl, if_neg (by simpa using h)]; congr 1; simp; omega

end Go.Proofs.Ytjemkdpffjneaaa.Q
end

section
namespace Go.Proofs.Ytjemkdpffjneaaa.Q
open Go.RowKit Go.Proofs.YtjemkdpffjneaaaW.PrintWords Go.Proofs.YtjemkdpffjneaaaW.PrintLast Go.Proofs.YtjemkdpffjneaaaW.PrintMore
attribute [local go_sem] max2_int min2_int max_two min_two max_three min_three max_four min_four   -- for this text's walks alone
set_option linter.unusedVariables false
set_option linter.unusedSimpArgs false

theorem ValidFlag_eq (l n e : Int) (h0 : 0 ≤ e) (h1 : e ≤ 4294967295) : impl_ValidFlag.f l n e = some (validF l n e) := by
  unfold impl_ValidFlag.f validF
  rw [ValidGraph_eq n e h0 h1, in_eq]; simp only [Option.bind_some]
  cases validG n e
  · rfl
  · by_cases h : 0 ≤ l ∧ l ≤ 3
    · rw [if_pos rfl, if_pos (by simpa using h)]; simp [h]
    · rw [if_pos rfl, if_neg (by simpa using h)]; congr 1; simp; omega

end Go.Proofs.Ytjemkdpffjneaaa.Q
end

section
namespace Go.Proofs.Ytjemkdpffjneaaa.Q
open Go.RowKit Go.Proofs.YtjemkdpffjneaaaW.PrintWords Go.Proofs.YtjemkdpffjneaaaW.PrintLast Go.Proofs.YtjemkdpffjneaaaW.PrintMore
attribute [local go_sem] max2_int min2_int max_two min_two max_three min_three max_four min_four   -- for this text's walks alone
set_option linter.unusedVariables false
set_option linter.unusedSimpArgs false

theorem toInt64S_loop (l : List Int) (hl : l.length ≤ 1048576) : ∀ (d i k : Nat) (out : List Int), i + d = l.length → out.length = l.length → d + 1 ≤ k → laws_toInt64S.l0 k l out i = some (out.take i ++ l.drop i)
  | 0, i, k, out, hd, ho, hk => by
    obtain ⟨k, rfl⟩ : ∃ q, k = q + 1 := ⟨k - 1, by omega⟩
    rw [laws_toInt64S.l0, if_neg (by omega), List.drop_eq_nil_of_le (by omega), List.take_of_length_le (by omega)]; simp
  | d + 1, i, k, out, hd, ho, hk => by
    obtain ⟨k, rfl⟩ : ∃ q, k = q + 1 := ⟨k - 1, by omega⟩
    rw [laws_toInt64S.l0, if_pos (by omega), if_pos (by omega), if_pos (by omega), w64_succ (by omega), Int.toNat_natCast, rd_of_lt l (by omega)]
    rw [toInt64S_loop l hl d (i + 1) k _ (by omega) (by rw [List.length_set]; exact ho) (by omega), set_take _ _ (by omega), List.append_assoc]
    congr 2
    rw [List.drop_eq_getElem_cons (show i < l.length by omega)]
    rfl
theorem toInt64S_eq (l : List Int) (hl : l.length ≤ 1048576) (k : Nat) (hk : 1048577 ≤ k) : laws_toInt64S.f k l = some l := by
  unfold laws_toInt64S.f
  rw [if_pos (by omega), if_pos (by omega)]
  have := toInt64S_loop l hl l.length 0 k (List.replicate ((l.length : Int) : Int).toNat 0) (by omega) (by simp) (by omega)
  rw [show ((0 : Nat) : Int) = 0 from rfl] at this
  rw [this]; simp
theorem eqInt64S_loop (l : List Int) (hl : l.length ≤ 1048576) : ∀ (d i k : Nat), i + d = l.length → d + 1 ≤ k → laws_eqInt64S.l0 k l l i = some true
  | 0, i, k, hd, hk => by
    obtain ⟨k, rfl⟩ : ∃ q, k = q + 1 := ⟨k - 1, by omega⟩
    rw [laws_eqInt64S.l0, if_neg (by omega)]
  | d + 1, i, k, hd, hk => by
    obtain ⟨k, rfl⟩ : ∃ q, k = q + 1 := ⟨k - 1, by omega⟩
    rw [laws_eqInt64S.l0, if_pos (by omega), if_pos (by omega), if_pos (by omega), if_pos rfl, w64_succ (by omega)]
    exact eqInt64S_loop l hl d (i + 1) k (by omega) (by omega)
theorem eqInt64S_self (l : List Int) (hl : l.length ≤ 1048576) (k : Nat) (hk : 1048577 ≤ k) : laws_eqInt64S.f k l l = some true := by
  unfold laws_eqInt64S.f
  rw [if_pos rfl]; exact eqInt64S_loop l hl l.length 0 k (by omega) (by omega)

end Go.Proofs.Ytjemkdpffjneaaa.Q
end

section
namespace Go.Proofs.Ytjemkdpffjneaaa.Q
open Go.RowKit Go.Proofs.YtjemkdpffjneaaaW.PrintWords Go.Proofs.YtjemkdpffjneaaaW.PrintLast Go.Proofs.YtjemkdpffjneaaaW.PrintMore
attribute [local go_sem] max2_int min2_int max_two min_two max_three min_three max_four min_four   -- for this text's walks alone
set_option linter.unusedVariables false
set_option linter.unusedSimpArgs false

theorem least3_loop (n s : Nat) (hn : n < 6) (hs : s < n + 1) (e : Int) : ∀ (ls : List (List Int)) (x : List Int) (k : Nat) (best : Int), isChain ((n - s : Nat) : Int) (x :: ls) = true → (∀ l ∈ x :: ls, (l.length ≤ 5 ∧ ∀ y ∈ l, 0 ≤ y ∧ y ≤ 5) ∧ (shiftL s l).length = n ∧ allDiff ((n : Int) - 1) (shiftL s l)) → ls.length + 200 ≤ k →
    spec_l03Least.l0 k x true s n e s n best = some ((s : Int), (n : Int), leastE e ((x :: ls).map (shiftL s)) best)
  | [], x, k, best, hc, hd, hk => by
    obtain ⟨k, rfl⟩ : ∃ q, k = q + 2 := ⟨k - 2, by omega⟩
    obtain ⟨y, hy⟩ := chain_one hc
    obtain ⟨⟨hx1, hx2⟩, hx3, hx4⟩ := hd x (List.mem_cons_self)
    rw [spec_l03Least.l0, if_pos rfl, l03Order_eq s (by omega) x hx1 hx2 _ (by omega)]
    simp only [Option.bind_some]
    rw [onS_diff (m := n) n e (by omega) (by omega) (by rw [show wrap64 ((n : Int) - 1) = (n : Int) - 1 from by unfold wrap64; omega]; exact hx4) _ (by omega), show wrap64 ((n : Int) - (s : Int)) = ((n - s : Nat) : Int) from by unfold wrap64; omega]
    simp only [Option.bind_some, leastE, List.map_cons, List.map_nil, List.foldl_cons, List.foldl_nil, hx3]
    by_cases hb : onI e (shiftL s x) < best
    · rw [if_pos hb, if_pos hb, hy _ (by omega)]
      simp only [Option.bind_some]
      rw [spec_l03Least.l0, if_neg (by simp)]
    · rw [if_neg hb, if_neg hb, hy _ (by omega)]
      simp only [Option.bind_some]
      rw [spec_l03Least.l0, if_neg (by simp)]
  | z :: ls, x, k, best, hc, hd, hk => by
    obtain ⟨k, rfl⟩ : ∃ q, k = q + 1 := ⟨k - 1, by omega⟩
    obtain ⟨h1, h2⟩ := chain_cons hc
    obtain ⟨⟨hx1, hx2⟩, hx3, hx4⟩ := hd x (List.mem_cons_self)
    have hl : (z :: ls).length = ls.length + 1 := rfl
    rw [spec_l03Least.l0, if_pos rfl, l03Order_eq s (by omega) x hx1 hx2 _ (by omega)]
    simp only [Option.bind_some]
    rw [onS_diff (m := n) n e (by omega) (by omega) (by rw [show wrap64 ((n : Int) - 1) = (n : Int) - 1 from by unfold wrap64; omega]; exact hx4) _ (by omega), show wrap64 ((n : Int) - (s : Int)) = ((n - s : Nat) : Int) from by unfold wrap64; omega]
    have ih := fun best => least3_loop n s hn hs e ls z k best h2 (fun l hl => hd l (List.mem_cons_of_mem _ hl)) (by omega)
    simp only [Option.bind_some, leastE, hx3]
    rw [List.map_cons, List.foldl_cons]
    by_cases hb : onI e (shiftL s x) < best
    · rw [if_pos hb, if_pos hb, h1 _ (by omega)]
      exact ih _
    · rw [if_neg hb, if_neg hb, h1 _ (by omega)]
      exact ih _
theorem l03Least_eq (n s : Nat) (hn : n < 6) (hs : s < n + 1) (e : Int) (k : Nat) (hk : 1000 ≤ k) : spec_l03Least.f k s n e = some ((s : Int), (n : Int), leastE e (leaves n (n - s) (firstI s)) e) := by
  unfold spec_l03Least.f
  rw [show wrap64 ((n : Int) - (s : Int)) = ((n - s : Nat) : Int) from by unfold wrap64; omega, firstS_eq ((n - s : Nat) : Int) (by omega) (by omega) k (by omega), leaves_shift n hn s hs]
  simp only [Option.bind_some, Int.toNat_natCast]
  obtain ⟨hh, hc⟩ := chains (n - s) (by omega) (n - s) (by omega)
  have hd := own_ok n s hn hs
  have hlen := leaves_short (n - s) (by omega) (n - s) (by omega)
  revert hh hc hd hlen
  generalize leaves (n - s) (n - s) [] = L
  intro hh hc hd hlen
  cases L with
  | nil => simp at hh
  | cons x ls =>
    obtain rfl : x = firstI (n - s) := by simpa using hh
    exact least3_loop n s hn hs e ls _ k e hc hd (by simp only [List.length_cons] at hlen; omega)

end Go.Proofs.Ytjemkdpffjneaaa.Q
end

section
namespace Go.Proofs.Ytjemkdpffjneaaa.Q
open Go.RowKit Go.Proofs.YtjemkdpffjneaaaW.PrintWords Go.Proofs.YtjemkdpffjneaaaW.PrintLast Go.Proofs.YtjemkdpffjneaaaW.PrintMore
attribute [local go_sem] max2_int min2_int max_two min_two max_three min_three max_four min_four   -- for this text's walks alone
set_option linter.unusedVariables false
set_option linter.unusedSimpArgs false

theorem validG_nat {n e : Int} (h0 : 0 ≤ e) (h : validG n e = true) : ∃ (m f : Nat), n = m ∧ e = f ∧ m < 6 ∧ f < 2 ^ prs m := by
  simp only [validG, decide_eq_true_eq] at h
  refine ⟨n.toNat, e.toNat, by omega, by omega, by omega, ?_⟩
  have := h.2.2
  unfold prs
  have h2 : ((e.toNat : Nat) : Int) < ((2 ^ (n.toNat * (n.toNat - 1) / 2) : Nat) : Int) := by rw [Int.toNat_of_nonneg h0]; exact_mod_cast this
  exact_mod_cast h2

end Go.Proofs.Ytjemkdpffjneaaa.Q
end

section
namespace Go.Proofs.Ytjemkdpffjneaaa.Q
open Go.RowKit Go.Proofs.YtjemkdpffjneaaaW.PrintWords Go.Proofs.YtjemkdpffjneaaaW.PrintLast Go.Proofs.YtjemkdpffjneaaaW.PrintMore
attribute [local go_sem] max2_int min2_int max_two min_two max_three min_three max_four min_four   -- for this text's walks alone
set_option linter.unusedVariables false
set_option linter.unusedSimpArgs false

theorem validF_nat {l n e : Int} (h0 : 0 ≤ e) (h : validF l n e = true) : ∃ (s m f : Nat), l = s ∧ n = m ∧ e = f ∧ m < 6 ∧ s < m + 1 ∧ f < 2 ^ prs m := by
  simp only [validF, Bool.and_eq_true, decide_eq_true_eq] at h
  obtain ⟨m, f, rfl, rfl, hm, hf⟩ := validG_nat h0 h.1
  exact ⟨l.toNat, m, f, by omega, rfl, rfl, hm, by omega, hf⟩

end Go.Proofs.Ytjemkdpffjneaaa.Q
end

section
namespace Go.Proofs.Ytjemkdpffjneaaa.Q
open Go.RowKit Go.Proofs.YtjemkdpffjneaaaW.PrintWords Go.Proofs.YtjemkdpffjneaaaW.PrintLast Go.Proofs.YtjemkdpffjneaaaW.PrintMore
attribute [local go_sem] max2_int min2_int max_two min_two max_three min_three max_four min_four   -- for this text's walks alone
set_option linter.unusedVariables false
set_option linter.unusedSimpArgs false

theorem addRest_len : ∀ n, n < 6 → ∀ r, r < 4 → ∀ l ∈ leaves n r [], (addRest l n 0 l).length = n := by decide +kernel
theorem TurnLabels_pure_aux (n s : Nat) (hn : n < 6) (hs : s < n + 1) (h3 : s < 4) {l : List Int} (hlen : l.length = s) (hd : allDiff (wrap64 ((s : Int) - 1)) l) : allDiff (wrap64 ((n : Int) - 1)) l ∧ (addRest l n 0 l).length = n := by
  have w1 : wrap64 ((s : Int) - 1) = (s : Int) - 1 := by unfold wrap64; omega
  have w2 : wrap64 ((n : Int) - 1) = (n : Int) - 1 := by unfold wrap64; omega
  rw [w1] at hd
  rw [w2]
  have h1 : allDiff ((n : Int) - 1) l := ⟨hd.1, fun x hx => by have := hd.2 x hx; omega⟩
  refine ⟨h1, addRest_len n hn s h3 l ?_⟩
  have := mem_leaves n s [] l hlen (by simpa using h1.1) (fun x hx => by have := h1.2 x hx; omega)
  simpa using this
theorem FnExactTurnLabels_pure (a n e : Int) (l : List Int) (_ha : (Lit.int .i64 a).wf = true) (_hn : (Lit.int .i64 n).wf = true) (he : (Lit.int .u32 e).wf = true) (hl : l.length < 9223372036854775808 ∧ ∀ x ∈ l, (Lit.int .i64 x).wf = true) : ∃ k, laws_FnExactTurnLabels.f k a n e l = some true := by
  refine ⟨1048577 * 1048579 + 1, ?_⟩
  have he' : 0 ≤ e ∧ e ≤ 4294967295 := by simpa [Lit.wf, IntKind.min, IntKind.max, IntKind.bits, IntKind.signed] using he
  unfold laws_FnExactTurnLabels.f
  by_cases hs : (l.length : Int) > 1048576
  · rw [if_pos hs]
  rw [if_neg hs]
  have hl' : l.length ≤ 1048576 := by omega
  simp only [laws_toFlag.f, laws_toGraph.f, Option.bind_some, toInt64S_eq l hl' (1048577 * 1048579 + 1) (by omega), spec_TurnLabels.f, spec_TurnLabels.j0, impl_TurnLabels.f, impl_TurnLabels.j0, l03Ok_eq a n e he'.1 he'.2, ValidFlag_eq a n e he'.1 he'.2, diffS_eq l hl' a (1048577 * 1048579 + 1) (by omega), impl_different.f]
  have fin : ∀ a b c d : Int, ((laws_eqFlag.f a b c a b c).bind fun t347 => (if t347 = true then (laws_FnExactTurnLabels.j0 (1048577 * 1048579 + 1) l l (d != d)) else (laws_FnExactTurnLabels.j0 (1048577 * 1048579 + 1) l l true))) = some true := by
    intro a b c d
    simp only [laws_eqFlag.f, laws_eqGraph.f, if_true, Option.bind_some, bne_self_eq_false]
    rw [laws_FnExactTurnLabels.j0, if_neg (by simp), toInt64S_eq l hl' (1048577 * 1048579) (by omega)]
    simp only [Option.bind_some, eqInt64S_self l hl' (1048577 * 1048579) (by omega), if_true]
  cases hv : validF a n e
  · exact fin 0 0 0 1
  have hv2 := hv
  simp only [validF, Bool.and_eq_true, decide_eq_true_eq] at hv2
  obtain ⟨s, n, e, rfl, rfl, rfl, hn, hsn, _⟩ := validF_nat he'.1 hv
  simp only [if_true]
  by_cases hlen : (l.length : Int) = s
  rotate_left
  · simp only [if_neg hlen, Option.bind_some]
    exact fin 0 0 0 2
  simp only [if_pos hlen]
  by_cases hd : allDiff (wrap64 ((s : Int) - 1)) l
  · obtain ⟨h1, h2⟩ := TurnLabels_pure_aux n s hn hsn (by omega) (by omega) hd
    have h := flagOf_both e (n := n) (by omega) (by omega) h1 (1048577 * 1048579) (by omega)
    rw [Int.toNat_natCast, h2, hlen] at h
    simp only [decide_eq_true hd, Bool.not_true, Bool.false_eq_true, if_false, h.1, h.2, Option.bind_some, impl_Flag_least.f, least_eq n s hn hsn _ (fun l hl => (leaves_ok_s n hn s hsn l hl).2), l03Least_eq n s hn hsn _ (1048577 * 1048579) (by omega)]
    exact fin _ _ _ 0
  · simp only [decide_eq_false hd, Bool.not_false, if_true, Option.bind_some]
    exact fin 0 0 0 2

end Go.Proofs.Ytjemkdpffjneaaa.Q
end

section
namespace Go.Proofs.YtjemkdpffjneaaaW.PrintWords
open Go Go.RowKit Go.ChangeShapes Go.WideShapes Go.ChangeAt Go.Deep
set_option linter.unusedVariables false
section
variable {H : Type} (enc : TypeId × Value → H) (P : Program) (W : World)
/-- Whatever reads as data of type t stands for a plain value. -/
def Opens {α : Type} (t : TypeId) (k : Kd α) (wf : α → Prop) : Prop :=
  ∀ (fuel : Nat) (cs : List Value) (x : DataW H × List MemPlace), DataW.trod enc P W 0 (fun _ => true) true fuel t cs = some x → ∃ a, k.K W a cs ∧ wf a
end
section
variable {H : Type} {enc : TypeId × Value → H} {P : Program} {W : World}
theorem Opens.int {t : TypeId} {k : IntKind} (ht : P.underlying t = some (.int k)) : Opens enc P W t (Kd.int k) (fun n => (Lit.int k n).wf = true) := by
  intro fuel cs x h
  obtain ⟨n, rfl, _, hw⟩ := DataW.trod_int ht h
  exact ⟨n, rfl, hw⟩
theorem Opens.bool {t : TypeId} (ht : P.underlying t = some .bool) : Opens enc P W t Kd.bool (fun _ => True) := by
  intro fuel cs x h
  obtain ⟨n, rfl, _⟩ := DataW.trod_bool ht h
  exact ⟨n, rfl, trivial⟩
theorem Opens.struct2 {α β : Type} {t : TypeId} {f0 f1 : Field} {k0 : Kd α} {k1 : Kd β} {p0 : α → Prop} {p1 : β → Prop} (ht : P.underlying t = some (.struct #[f0, f1])) (o0 : f0.offset = 0) (o1 : f1.offset = P.cellsOf f0.type) (hc : P.cellsOf t = P.cellsOf f0.type + P.cellsOf f1.type)
    (h0 : Opens enc P W f0.type k0 p0) (h1 : Opens enc P W f1.type k1 p1) : Opens enc P W t (Kd.pair k0 k1) (fun p => p0 p.1 ∧ p1 p.2) := by
  intro fuel cs x h
  obtain ⟨y0, y1, n, _, hl, e0, e1⟩ := trod_struct2 ht h
  obtain ⟨a, ka, wa⟩ := h0 n _ _ e0
  obtain ⟨b, kb, wb⟩ := h1 n _ _ e1
  refine ⟨(a, b), ⟨_, _, ?_, ka, kb⟩, wa, wb⟩
  rw [o0, o1, List.drop_zero, List.take_of_length_le (l := List.drop _ cs) (by rw [List.length_drop, hl, hc]; omega), List.take_append_drop]
theorem Opens.iso {α β : Type} {t : TypeId} {k : Kd α} {p : α → Prop} (f : β → α) (g : α → β) (hfg : ∀ a, f (g a) = a) (h : Opens enc P W t k p) : Opens enc P W t (Kd.iso k f) (fun b => p (f b)) := by
  intro fuel cs x hx
  obtain ⟨a, ka, wa⟩ := h fuel cs x hx
  exact ⟨g a, by show k.K W (f (g a)) cs; rw [hfg]; exact ka, by show p (f (g a)); rw [hfg]; exact wa⟩
theorem Opens.slice {α : Type} (z : α) {t e : TypeId} {k : Kd α} {p : α → Prop} (ht : P.underlying t = some (.slice e)) (hs : k.sz = P.cellsOf e) (h : Opens enc P W e k p) : Opens enc P W t (Kd.slice e k) (fun l => l.length < 9223372036854775808 ∧ ∀ a ∈ l, p a) := by
  haveI : Inhabited α := ⟨z⟩
  intro fuel cs x hx
  rcases open_slice ht hx with ⟨rfl, _⟩ | ⟨ad, len, cap, m, n, D, Pl, rfl, _, hl, hm, hmm, _, hel⟩
  · exact ⟨[], ⟨none, 0, rfl, Nat.le_refl _, rfl, by simp, fun h0 => absurd h0 (Nat.lt_irrefl 0)⟩, by simp, fun a ha => by cases ha⟩
  · have hlm : len ≤ m := by
      rw [hmm]; split
      · exact hl
      · exact Nat.le_refl _
    obtain ⟨F, hF⟩ := choose_lt (α := α) (n := len) (p := fun i a => p a ∧ ∃ cs', k.K W a cs' ∧ W.cells? 0 (ad.add (i * P.cellsOf e)) (P.cellsOf e) = some cs') (fun i hi => by
      obtain ⟨cs', h1, h2⟩ := hel i (by omega)
      obtain ⟨a, ka, wa⟩ := h n _ _ h2
      exact ⟨a, wa, cs', ka, h1⟩)
    refine ⟨(List.range len).map F, ⟨some ad, cap, by simp, by simpa using hl, by simp, by simp; unfold maxLen at hm; omega, fun _ => ⟨ad, rfl, fun j q hq => ?_⟩⟩, by simp; unfold maxLen at hm; omega, fun a ha => ?_⟩
    · obtain ⟨hj, rfl⟩ : j < len ∧ F j = q := by
        rw [List.getElem?_map] at hq
        rcases Nat.lt_or_ge j len with hj | hj
        · rw [List.getElem?_range hj] at hq; exact ⟨hj, by simpa using hq⟩
        · rw [List.getElem?_eq_none (by simpa using hj)] at hq; simp at hq
      obtain ⟨_, cs', ka, h1⟩ := hF j hj
      obtain ⟨_, hlen, hcell⟩ := World.cells?_some h1
      refine ⟨cs', k.K_len ka, ka, fun i u hu => ?_⟩
      have hi : i < P.cellsOf e := by rw [← hlen]; exact (List.getElem?_eq_some_iff.1 hu).1
      rw [hs, ← add_add, hcell i hi]; exact hu
    · obtain ⟨i, hi, rfl⟩ := List.mem_map.1 ha
      exact (hF i (List.mem_range.1 hi)).1
end
end Go.Proofs.YtjemkdpffjneaaaW.PrintWords
end
