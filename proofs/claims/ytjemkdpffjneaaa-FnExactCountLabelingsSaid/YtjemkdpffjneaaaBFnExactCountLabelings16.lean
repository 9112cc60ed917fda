/- Contracts of Go functions and plain lemmas over what they compute; printed by the kit's print program or written by hand, joined. -/
import Derived.Test.YtjemkdpffjneaaaBFnExactCountLabelings3
import Derived.Test.YtjemkdpffjneaaaBFnExactCountLabelings6
import Derived.Test.YtjemkdpffjneaaaBFnExactCountLabelings12
import Derived.Test.YtjemkdpffjneaaaBFnExactCountLabelings8
import Derived.Test.YtjemkdpffjneaaaBFnExactCountLabelings15
import Derived.Test.YtjemkdpffjneaaaBFnExactCountLabelings13
import Derived.Test.YtjemkdpffjneaaaBFnExactCountLabelings14
import Derived.Test.YtjemkdpffjneaaaBFnExactCountLabelings10
import Derived.Test.YtjemkdpffjneaaaBFnExactCountLabelings7
import Derived.Test.YtjemkdpffjneaaaBFnExactCountLabelings9
import Derived.Test.YtjemkdpffjneaaaBFnExactCountLabelings2
import Derived.WalkKit
import Derived.ProofKit
import Derived.OpenShut
import Derived.ChangeOld
import Derived.Deep.Slices
section
namespace Go.Proofs.Ytjemkdpffjneaaa.Q
open Go.RowKit Go.Proofs.YtjemkdpffjneaaaW.PrintWords Go.Proofs.YtjemkdpffjneaaaW.PrintLast Go.Proofs.YtjemkdpffjneaaaW.PrintMore
attribute [local go_sem] max2_int min2_int max_two min_two max_three min_three max_four min_four   -- for this text's walks alone
set_option linter.unusedVariables false
set_option linter.unusedSimpArgs false

def addRest (l : List Int) : Nat → Nat → List Int → List Int
  | 0, _, x => x
  | d + 1, i, x => addRest l d (i + 1) (if (i : Int) ∈ l then x else x ++ [(i : Int)])
theorem flagOf_loop (l : List Int) (hl : l.length ≤ 1048576) (n e : Int) : ∀ (d i k : Nat) (x : List Int), ((i + d : Nat) : Int) = n → i + d ≤ 5 → x.length + d ≤ 1048600 → d + l.length + 3 ≤ k → impl_flagOf.l0 k l x n i n e = (impl_onT.f n e (addRest l d i x)).bind fun bt => some ((l.length : Int), bt.1, bt.2)
  | 0, i, k, x, hd, h5, hx, hk => by
    obtain ⟨k, rfl⟩ : ∃ q, k = q + 1 := ⟨k - 1, by omega⟩
    rw [impl_flagOf.l0, if_neg (by omega)]; rfl
  | d + 1, i, k, x, hd, h5, hx, hk => by
    obtain ⟨k, rfl⟩ : ∃ q, k = q + 1 := ⟨k - 1, by omega⟩
    rw [impl_flagOf.l0, if_pos (by omega), contains_eq l hl i k (by omega), w64_succ (by omega)]
    simp only [Option.bind_some, decide_eq_true_eq, addRest]
    by_cases h : (i : Int) ∈ l
    · rw [if_pos h, if_pos h]
      exact flagOf_loop l hl n e d (i + 1) k x (by omega) (by omega) (by omega) (by omega)
    · rw [if_neg h, if_neg h, if_pos (by omega)]
      exact flagOf_loop l hl n e d (i + 1) k _ (by omega) (by omega) (by rw [List.length_append]; simp only [List.length_cons, List.length_nil]; omega) (by omega)
theorem l03FlagOf_loop (l : List Int) (hl : l.length ≤ 1048576) (n e : Int) : ∀ (d i k : Nat) (x : List Int), ((i + d : Nat) : Int) = n → i + d ≤ 5 → x.length + d ≤ 1048600 → d + l.length + 3 ≤ k → spec_l03FlagOf.l0 k l x i n e = (spec_l01On.f (k - (d + 1)) n e (addRest l d i x)).bind fun bt => some ((l.length : Int), bt.1, bt.2)
  | 0, i, k, x, hd, h5, hx, hk => by
    obtain ⟨k, rfl⟩ : ∃ q, k = q + 1 := ⟨k - 1, by omega⟩
    rw [spec_l03FlagOf.l0, if_neg (by omega)]; rfl
  | d + 1, i, k, x, hd, h5, hx, hk => by
    obtain ⟨k, rfl⟩ : ∃ q, k = q + 1 := ⟨k - 1, by omega⟩
    rw [spec_l03FlagOf.l0, if_pos (by omega), among_eq l hl i k (by omega), w64_succ (by omega), show k + 1 - (d + 1 + 1) = k - (d + 1) from by omega]
    simp only [Option.bind_some, decide_eq_true_eq, addRest]
    by_cases h : (i : Int) ∈ l
    · rw [if_pos h, if_pos h]
      exact l03FlagOf_loop l hl n e d (i + 1) k x (by omega) (by omega) (by omega) (by omega)
    · rw [if_neg h, if_neg h, if_pos (by omega)]
      exact l03FlagOf_loop l hl n e d (i + 1) k _ (by omega) (by omega) (by rw [List.length_append]; simp only [List.length_cons, List.length_nil]; omega) (by omega)
theorem addRest_diff (l : List Int) (m : Int) : ∀ (d i : Nat) (x : List Int), ((i + d : Nat) : Int) ≤ m + 1 → allDiff m x → (∀ y ∈ x, y ∈ l ∨ y < i) → allDiff m (addRest l d i x)
  | 0, i, x, _, h, _ => h
  | d + 1, i, x, hm, h, hy => by
    rw [addRest]
    by_cases hi : (i : Int) ∈ l
    · rw [if_pos hi]
      exact addRest_diff l m d (i + 1) x (by omega) h fun y a => (hy y a).imp id fun b => by omega
    · rw [if_neg hi]
      have hx : (i : Int) ∉ x := fun a => (hy _ a).elim hi (fun b => by omega)
      refine addRest_diff l m d (i + 1) _ (by omega) ⟨?_, fun y a => ?_⟩ fun y a => ?_
      · rw [List.nodup_append]
        refine ⟨h.1, by simp, fun a ha b hb => ?_⟩
        rw [List.mem_singleton] at hb
        subst hb
        exact fun e => hx (e ▸ ha)
      · rcases List.mem_append.1 a with a | a
        · exact h.2 y a
        · rw [List.mem_singleton] at a; subst a; omega
      · rcases List.mem_append.1 a with a | a
        · exact (hy y a).imp id fun b => by omega
        · rw [List.mem_singleton] at a; subst a; exact Or.inr (by omega)
/-- What the flag of a valid graph and of labels is, by both. -/
theorem flagOf_both {n : Int} (e : Int) (h0 : 0 ≤ n) (h5 : n ≤ 5) {l : List Int} (hd : allDiff (wrap64 (n - 1)) l) (k : Nat) (hk : 60 ≤ k) :
    impl_flagOf.f k n e l = some ((l.length : Int), ((addRest l n.toNat 0 l).length : Int), onI e (addRest l n.toNat 0 l)) ∧ spec_l03FlagOf.f k n e l = some ((l.length : Int), ((addRest l n.toNat 0 l).length : Int), onI e (addRest l n.toNat 0 l)) := by
  have hl := allDiff_len h0 h5 hd
  have ha : allDiff (wrap64 (n - 1)) (addRest l n.toNat 0 l) := addRest_diff l _ n.toNat 0 l (by unfold wrap64; omega) hd fun y a => Or.inl a
  constructor
  · unfold impl_flagOf.f slices_Clone_int64_int64.f
    simp only [Option.bind_some, List.nil_append, List.length_nil]
    rw [if_pos (by omega)]
    simp only [Option.bind_some]
    have := flagOf_loop l (by omega) n e n.toNat 0 k l (by omega) (by omega) (by omega) (by omega)
    rw [show ((0 : Nat) : Int) = 0 from rfl] at this
    rw [this, impl_onT.eq n e (okList_diff h0 h5 ha)]; rfl
  · unfold spec_l03FlagOf.f
    simp only [Option.bind_some, List.nil_append, List.length_nil]
    rw [if_pos (by omega)]
    have := l03FlagOf_loop l (by omega) n e n.toNat 0 k l (by omega) (by omega) (by omega) (by omega)
    rw [show ((0 : Nat) : Int) = 0 from rfl] at this
    rw [this, onS_diff n e h0 h5 ha _ (by omega)]; rfl

end Go.Proofs.Ytjemkdpffjneaaa.Q
end

section
namespace Go.Proofs.Ytjemkdpffjneaaa.Q
open Go.RowKit Go.Proofs.YtjemkdpffjneaaaW.PrintWords Go.Proofs.YtjemkdpffjneaaaW.PrintLast Go.Proofs.YtjemkdpffjneaaaW.PrintMore
attribute [local go_sem] max2_int min2_int max_two min_two max_three min_three max_four min_four   -- for this text's walks alone
set_option linter.unusedVariables false
set_option linter.unusedSimpArgs false

theorem lab_len : ∀ n, n < 6 → ∀ r, r < 4 → ∀ l ∈ leaves n r [], (addRest l n 0 l).length = n := by decide +kernel
theorem lab_flag (n s : Nat) (hn : n < 6) (hs : s < n + 1) (h3 : s < 4) (e : Nat) (he : e < 2 ^ prs n) {l : List Int} (hl : l ∈ leaves n s []) :
    ∃ m : Nat, m < 2 ^ prs n ∧ onI e (addRest l n 0 l) = m ∧ ∀ k, 60 ≤ k → impl_flagOf.f k n e l = some ((s : Int), (n : Int), (m : Int)) ∧ spec_l03FlagOf.f k n e l = some ((s : Int), (n : Int), (m : Int)) := by
  have h1 := leaves_ok n hn s hs l hl
  have h2 := lab_len n hn s h3 l hl
  have w1 : wrap64 ((n : Int) - 1) = (n : Int) - 1 := by unfold wrap64; omega
  have hd : allDiff (wrap64 ((n : Int) - 1)) l := by rw [w1]; exact h1.2
  have ho : isOrd n (addRest l n 0 l) := ⟨h2, addRest_diff l _ n 0 l (by omega) h1.2 fun y a => Or.inl a⟩
  obtain ⟨m, hm, e1, _⟩ := onI_nat n hn e ho
  refine ⟨m, hm, e1, fun k hk => ?_⟩
  have h := flagOf_both e (n := n) (by omega) (by omega) hd k hk
  rw [Int.toNat_natCast, h2, h1.1, e1] at h
  exact h
def labB (n s : Nat) (e : Int) (l : List Int) : Bool := leastE (onI e (addRest l n 0 l)) (leaves n (n - s) (firstI s)) (onI e (addRest l n 0 l)) == leastE e (leaves n (n - s) (firstI s)) e
def labE (n s : Nat) (e : Int) (L : List (List Int)) (many : Int) : Int := L.foldl (fun b l => if labB n s e l = true then wrap64 (b + 1) else b) many
theorem labelings_eq (n s : Nat) (hn : n < 6) (hs : s < n + 1) (h3 : s < 4) (e : Nat) (he : e < 2 ^ prs n) : impl_Flag_labelings.f s n e = some (labE n s e (leaves n s []) 0) := by
  unfold impl_Flag_labelings.f impl_listed.fs
  rw [if_pos (by simp only [List.length_nil]; omega), lstd_eq, Int.toNat_natCast, Int.toNat_natCast, List.length_nil, Nat.sub_zero]
  rw [runCb_fold _ (fun b l => if labB n s e l = true then wrap64 (b + 1) else b)]
  · rfl
  · intro l hl a
    obtain ⟨m, hm, e1, hk⟩ := lab_flag n s hn hs h3 e he hl
    refine impl_Flag_labelings_1T.of (k := 60) _ _ _ _ _ ?_
    unfold impl_Flag_labelings_1.f
    rw [(hk 60 (Nat.le_refl _)).1]
    simp only [Option.bind_some, impl_Flag_alike.f, if_true, alike_eq n s hn hs m e hm he]
    unfold labB
    rw [e1]
    split <;> rfl
-- the sum of a list of Booleans, counted by both
end Go.Proofs.Ytjemkdpffjneaaa.Q
end

section
namespace Go.Proofs.Ytjemkdpffjneaaa.Q
open Go.RowKit Go.Proofs.YtjemkdpffjneaaaW.PrintWords Go.Proofs.YtjemkdpffjneaaaW.PrintLast Go.Proofs.YtjemkdpffjneaaaW.PrintMore
attribute [local go_sem] max2_int min2_int max_two min_two max_three min_three max_four min_four   -- for this text's walks alone
set_option linter.unusedVariables false
set_option linter.unusedSimpArgs false

theorem least3_loop (n s : Nat) (hn : n < 6) (hs : s < n + 1) (e : Int) : ∀ (ls : List (List Int)) (x : List Int) (k : Nat) (best : Int), isChain ((n - s : Nat) : Int) (x :: ls) = true → (∀ l ∈ x :: ls, (l.length ≤ 5 ∧ ∀ y ∈ l, 0 ≤ y ∧ y ≤ 5) ∧ (shiftL s l).length = n ∧ allDiff ((n : Int) - 1) (shiftL s l)) → ls.length + 200 ≤ k →
    spec_l03Least.l0 k x true s n e s n best = some ((s : Int), (n : Int), leastE e ((x :: ls).map (shiftL s)) best)
  | [], x, k, best, hc, hd, hk => by
    obtain ⟨k, rfl⟩ : ∃ q, k = q + 2 := ⟨k - 2, by omega⟩
    obtain ⟨y, hy⟩ := chain_one hc
    obtain ⟨⟨hx1, hx2⟩, hx3, hx4⟩ := hd x (List.mem_cons_self)
    rw [spec_l03Least.l0, if_pos rfl, l03Order_eq s (by omega) x hx1 hx2 _ (by omega)]
    simp only [Option.bind_some]
    rw [onS_diff (m := n) n e (by omega) (by omega) (by rw [show wrap64 ((n : Int) - 1) = (n : Int) - 1 from by unfold wrap64; omega]; exact hx4) _ (by omega), show wrap64 ((n : Int) - (s : Int)) = ((n - s : Nat) : Int) from by unfold wrap64; omega]
    simp only [Option.bind_some, leastE, List.map_cons, List.map_nil, List.foldl_cons, List.foldl_nil, hx3]
    by_cases hb : onI e (shiftL s x) < best
    · rw [if_pos hb, if_pos hb, hy _ (by omega)]
      simp only [Option.bind_some]
      rw [spec_l03Least.l0, if_neg (by simp)]
    · rw [if_neg hb, if_neg hb, hy _ (by omega)]
      simp only [Option.bind_some]
      rw [spec_l03Least.l0, if_neg (by simp)]
  | z :: ls, x, k, best, hc, hd, hk => by
    obtain ⟨k, rfl⟩ : ∃ q, k = q + 1 := ⟨k - 1, by omega⟩
    obtain ⟨h1, h2⟩ := chain_cons hc
    obtain ⟨⟨hx1, hx2⟩, hx3, hx4⟩ := hd x (List.mem_cons_self)
    have hl : (z :: ls).length = ls.length + 1 := rfl
    rw [spec_l03Least.l0, if_pos rfl, l03Order_eq s (by omega) x hx1 hx2 _ (by omega)]
    simp only [Option.bind_some]
    rw [onS_diff (m := n) n e (by omega) (by omega) (by rw [show wrap64 ((n : Int) - 1) = (n : Int) - 1 from by unfold wrap64; omega]; exact hx4) _ (by omega), show wrap64 ((n : Int) - (s : Int)) = ((n - s : Nat) : Int) from by unfold wrap64; omega]
    have ih := fun best => least3_loop n s hn hs e ls z k best h2 (fun l hl => hd l (List.mem_cons_of_mem _ hl)) (by omega)
    simp only [Option.bind_some, leastE, hx3]
    rw [List.map_cons, List.foldl_cons]
    by_cases hb : onI e (shiftL s x) < best
    · rw [if_pos hb, if_pos hb, h1 _ (by omega)]
      exact ih _
    · rw [if_neg hb, if_neg hb, h1 _ (by omega)]
      exact ih _
theorem l03Least_eq (n s : Nat) (hn : n < 6) (hs : s < n + 1) (e : Int) (k : Nat) (hk : 1000 ≤ k) : spec_l03Least.f k s n e = some ((s : Int), (n : Int), leastE e (leaves n (n - s) (firstI s)) e) := by
  unfold spec_l03Least.f
  rw [show wrap64 ((n : Int) - (s : Int)) = ((n - s : Nat) : Int) from by unfold wrap64; omega, firstS_eq ((n - s : Nat) : Int) (by omega) (by omega) k (by omega), leaves_shift n hn s hs]
  simp only [Option.bind_some, Int.toNat_natCast]
  obtain ⟨hh, hc⟩ := chains (n - s) (by omega) (n - s) (by omega)
  have hd := own_ok n s hn hs
  have hlen := leaves_short (n - s) (by omega) (n - s) (by omega)
  revert hh hc hd hlen
  generalize leaves (n - s) (n - s) [] = L
  intro hh hc hd hlen
  cases L with
  | nil => simp at hh
  | cons x ls =>
    obtain rfl : x = firstI (n - s) := by simpa using hh
    exact least3_loop n s hn hs e ls _ k e hc hd (by simp only [List.length_cons] at hlen; omega)

end Go.Proofs.Ytjemkdpffjneaaa.Q
end

section
namespace Go.Proofs.Ytjemkdpffjneaaa.Q
open Go.RowKit Go.Proofs.YtjemkdpffjneaaaW.PrintWords Go.Proofs.YtjemkdpffjneaaaW.PrintLast Go.Proofs.YtjemkdpffjneaaaW.PrintMore
attribute [local go_sem] max2_int min2_int max_two min_two max_three min_three max_four min_four   -- for this text's walks alone
set_option linter.unusedVariables false
set_option linter.unusedSimpArgs false

theorem validG_nat {n e : Int} (h0 : 0 ≤ e) (h : validG n e = true) : ∃ (m f : Nat), n = m ∧ e = f ∧ m < 6 ∧ f < 2 ^ prs m := by
  simp only [validG, decide_eq_true_eq] at h
  refine ⟨n.toNat, e.toNat, by omega, by omega, by omega, ?_⟩
  have := h.2.2
  unfold prs
  have h2 : ((e.toNat : Nat) : Int) < ((2 ^ (n.toNat * (n.toNat - 1) / 2) : Nat) : Int) := by rw [Int.toNat_of_nonneg h0]; exact_mod_cast this
  exact_mod_cast h2

end Go.Proofs.Ytjemkdpffjneaaa.Q
end

section
namespace Go.Proofs.Ytjemkdpffjneaaa.Q
open Go.RowKit Go.Proofs.YtjemkdpffjneaaaW.PrintWords Go.Proofs.YtjemkdpffjneaaaW.PrintLast Go.Proofs.YtjemkdpffjneaaaW.PrintMore
attribute [local go_sem] max2_int min2_int max_two min_two max_three min_three max_four min_four   -- for this text's walks alone
set_option linter.unusedVariables false
set_option linter.unusedSimpArgs false

theorem validF_nat {l n e : Int} (h0 : 0 ≤ e) (h : validF l n e = true) : ∃ (s m f : Nat), l = s ∧ n = m ∧ e = f ∧ m < 6 ∧ s < m + 1 ∧ f < 2 ^ prs m := by
  simp only [validF, Bool.and_eq_true, decide_eq_true_eq] at h
  obtain ⟨m, f, rfl, rfl, hm, hf⟩ := validG_nat h0 h.1
  exact ⟨l.toNat, m, f, by omega, rfl, rfl, hm, by omega, hf⟩

end Go.Proofs.Ytjemkdpffjneaaa.Q
end

section
namespace Go.Proofs.Ytjemkdpffjneaaa.Q
open Go.RowKit Go.Proofs.YtjemkdpffjneaaaW.PrintWords Go.Proofs.YtjemkdpffjneaaaW.PrintLast Go.Proofs.YtjemkdpffjneaaaW.PrintMore
attribute [local go_sem] max2_int min2_int max_two min_two max_three min_three max_four min_four   -- for this text's walks alone
set_option linter.unusedVariables false
set_option linter.unusedSimpArgs false

theorem labS_loop (n s : Nat) (hn : n < 6) (hs : s < n + 1) (h3 : s < 4) (e : Nat) (he : e < 2 ^ prs n) : ∀ (ls : List (List Int)) (x : List Int) (k : Nat) (many : Int), isChain (n : Int) (x :: ls) = true → (∀ l ∈ x :: ls, l ∈ leaves n s []) → ls.length + 1100 ≤ k →
    spec_CountLabelings.l0 k many x true s n e s n (leastE e (leaves n (n - s) (firstI s)) e) = some (labE n s e (x :: ls) many, 0)
  | [], x, k, many, hc, hd, hk => by
    obtain ⟨k, rfl⟩ : ∃ q, k = q + 2 := ⟨k - 2, by omega⟩
    obtain ⟨y, hy⟩ := chain_one hc
    obtain ⟨m, hm, e1, hf⟩ := lab_flag n s hn hs h3 e he (hd x List.mem_cons_self)
    rw [spec_CountLabelings.l0, if_pos rfl, (hf (k + 1) (by omega)).2]
    simp only [Option.bind_some]
    rw [l03Least_eq n s hn hs m (k + 1) (by omega), hy _ (by omega)]
    simp only [Option.bind_some, labE, List.foldl_cons, List.foldl_nil, labB, e1, beq_self_eq_true, Bool.true_and]
    split <;> (rw [spec_CountLabelings.l0, if_neg (by simp)])
  | z :: ls, x, k, many, hc, hd, hk => by
    obtain ⟨k, rfl⟩ : ∃ q, k = q + 1 := ⟨k - 1, by omega⟩
    obtain ⟨h1, h2⟩ := chain_cons hc
    have hl : (z :: ls).length = ls.length + 1 := rfl
    obtain ⟨m, hm, e1, hf⟩ := lab_flag n s hn hs h3 e he (hd x List.mem_cons_self)
    rw [spec_CountLabelings.l0, if_pos rfl, (hf k (by omega)).2]
    simp only [Option.bind_some]
    have ih := fun many => labS_loop n s hn hs h3 e he ls z k many h2 (fun l hl => hd l (List.mem_cons_of_mem _ hl)) (by omega)
    rw [l03Least_eq n s hn hs m k (by omega), h1 _ (by omega)]
    simp only [Option.bind_some, labE]
    rw [List.foldl_cons]
    simp only [labB, e1, beq_self_eq_true, Bool.true_and]
    split <;> exact ih _
theorem FnExactCountLabelings_pure (l n e : Int) (_hl : (Lit.int .i64 l).wf = true) (_hn : (Lit.int .i64 n).wf = true) (he : (Lit.int .u32 e).wf = true) : ∃ k, laws_FnExactCountLabelings.f k l n e = some true := by
  obtain ⟨K, hK⟩ : ∃ K : Nat, 2000 ≤ K := ⟨2000, Nat.le_refl _⟩
  refine ⟨K, ?_⟩
  have he' : 0 ≤ e ∧ e ≤ 4294967295 := by simpa [Lit.wf, IntKind.min, IntKind.max, IntKind.bits, IntKind.signed] using he
  simp only [laws_FnExactCountLabelings.f, laws_toFlag.f, laws_toGraph.f, Option.bind_some, spec_CountLabelings.f, impl_CountLabelings.f, l03Ok_eq l n e he'.1 he'.2, ValidFlag_eq l n e he'.1 he'.2]
  cases hv : validF l n e
  · rfl
  have hv2 := hv
  simp only [validF, Bool.and_eq_true, decide_eq_true_eq] at hv2
  obtain ⟨s, n, e, rfl, rfl, rfl, hn, hs, he2⟩ := validF_nat he'.1 hv
  have h3 : s < 4 := by omega
  simp only [if_true, labelings_eq n s hn hs h3 e he2, l03Least_eq n s hn hs e K (by omega), firstS_eq (s : Int) (by omega) (by omega) K (by omega), Int.toNat_natCast, Option.bind_some]
  obtain ⟨hh, hc⟩ := chains n hn s hs
  have hlen := leaves_short n hn s hs
  have hall : ∀ l ∈ leaves n s [], l ∈ leaves n s [] := fun l h => h
  have hmain : spec_CountLabelings.l0 K 0 (firstI s) true s n e s n (leastE e (leaves n (n - s) (firstI s)) e) = some (labE n s e (leaves n s []) 0, 0) := by
    revert hh hc hlen hall
    generalize hL : leaves n s [] = L
    intro hh hc hlen hall
    cases L with
    | nil => simp at hh
    | cons x ls =>
      obtain rfl : x = firstI s := by simpa using hh
      exact labS_loop n s hn hs h3 e he2 ls _ K 0 hc (fun l h => by rw [hL]; exact h) (by simp only [List.length_cons] at hlen; omega)
  rw [hmain]
  simp

end Go.Proofs.Ytjemkdpffjneaaa.Q
end

section
namespace Go.Proofs.YtjemkdpffjneaaaW.PrintWords
open Go Go.RowKit Go.ChangeShapes Go.WideShapes Go.ChangeAt Go.Deep
set_option linter.unusedVariables false
section
variable {H : Type} (enc : TypeId × Value → H) (P : Program) (W : World)
/-- Whatever reads as data of type t stands for a plain value. -/
def Opens {α : Type} (t : TypeId) (k : Kd α) (wf : α → Prop) : Prop :=
  ∀ (fuel : Nat) (cs : List Value) (x : DataW H × List MemPlace), DataW.trod enc P W 0 (fun _ => true) true fuel t cs = some x → ∃ a, k.K W a cs ∧ wf a
end
section
variable {H : Type} {enc : TypeId × Value → H} {P : Program} {W : World}
theorem Opens.int {t : TypeId} {k : IntKind} (ht : P.underlying t = some (.int k)) : Opens enc P W t (Kd.int k) (fun n => (Lit.int k n).wf = true) := by
  intro fuel cs x h
  obtain ⟨n, rfl, _, hw⟩ := DataW.trod_int ht h
  exact ⟨n, rfl, hw⟩
theorem Opens.bool {t : TypeId} (ht : P.underlying t = some .bool) : Opens enc P W t Kd.bool (fun _ => True) := by
  intro fuel cs x h
  obtain ⟨n, rfl, _⟩ := DataW.trod_bool ht h
  exact ⟨n, rfl, trivial⟩
theorem Opens.struct2 {α β : Type} {t : TypeId} {f0 f1 : Field} {k0 : Kd α} {k1 : Kd β} {p0 : α → Prop} {p1 : β → Prop} (ht : P.underlying t = some (.struct #[f0, f1])) (o0 : f0.offset = 0) (o1 : f1.offset = P.cellsOf f0.type) (hc : P.cellsOf t = P.cellsOf f0.type + P.cellsOf f1.type)
    (h0 : Opens enc P W f0.type k0 p0) (h1 : Opens enc P W f1.type k1 p1) : Opens enc P W t (Kd.pair k0 k1) (fun p => p0 p.1 ∧ p1 p.2) := by
  intro fuel cs x h
  obtain ⟨y0, y1, n, _, hl, e0, e1⟩ := trod_struct2 ht h
  obtain ⟨a, ka, wa⟩ := h0 n _ _ e0
  obtain ⟨b, kb, wb⟩ := h1 n _ _ e1
  refine ⟨(a, b), ⟨_, _, ?_, ka, kb⟩, wa, wb⟩
  rw [o0, o1, List.drop_zero, List.take_of_length_le (l := List.drop _ cs) (by rw [List.length_drop, hl, hc]; omega), List.take_append_drop]
theorem Opens.iso {α β : Type} {t : TypeId} {k : Kd α} {p : α → Prop} (f : β → α) (g : α → β) (hfg : ∀ a, f (g a) = a) (h : Opens enc P W t k p) : Opens enc P W t (Kd.iso k f) (fun b => p (f b)) := by
  intro fuel cs x hx
  obtain ⟨a, ka, wa⟩ := h fuel cs x hx
  exact ⟨g a, by show k.K W (f (g a)) cs; rw [hfg]; exact ka, by show p (f (g a)); rw [hfg]; exact wa⟩
theorem Opens.slice {α : Type} (z : α) {t e : TypeId} {k : Kd α} {p : α → Prop} (ht : P.underlying t = some (.slice e)) (hs : k.sz = P.cellsOf e) (h : Opens enc P W e k p) : Opens enc P W t (Kd.slice e k) (fun l => l.length < 9223372036854775808 ∧ ∀ a ∈ l, p a) := by
  haveI : Inhabited α := ⟨z⟩
  intro fuel cs x hx
  rcases open_slice ht hx with ⟨rfl, _⟩ | ⟨ad, len, cap, m, n, D, Pl, rfl, _, hl, hm, hmm, _, hel⟩
  · exact ⟨[], ⟨none, 0, rfl, Nat.le_refl _, rfl, by simp, fun h0 => absurd h0 (Nat.lt_irrefl 0)⟩, by simp, fun a ha => by cases ha⟩
  · have hlm : len ≤ m := by
      rw [hmm]; split
      · exact hl
      · exact Nat.le_refl _
    obtain ⟨F, hF⟩ := choose_lt (α := α) (n := len) (p := fun i a => p a ∧ ∃ cs', k.K W a cs' ∧ W.cells? 0 (ad.add (i * P.cellsOf e)) (P.cellsOf e) = some cs') (fun i hi => by
      obtain ⟨cs', h1, h2⟩ := hel i (by omega)
      obtain ⟨a, ka, wa⟩ := h n _ _ h2
      exact ⟨a, wa, cs', ka, h1⟩)
    refine ⟨(List.range len).map F, ⟨some ad, cap, by simp, by simpa using hl, by simp, by simp; unfold maxLen at hm; omega, fun _ => ⟨ad, rfl, fun j q hq => ?_⟩⟩, by simp; unfold maxLen at hm; omega, fun a ha => ?_⟩
    · obtain ⟨hj, rfl⟩ : j < len ∧ F j = q := by
        rw [List.getElem?_map] at hq
        rcases Nat.lt_or_ge j len with hj | hj
        · rw [List.getElem?_range hj] at hq; exact ⟨hj, by simpa using hq⟩
        · rw [List.getElem?_eq_none (by simpa using hj)] at hq; simp at hq
      obtain ⟨_, cs', ka, h1⟩ := hF j hj
      obtain ⟨_, hlen, hcell⟩ := World.cells?_some h1
      refine ⟨cs', k.K_len ka, ka, fun i u hu => ?_⟩
      have hi : i < P.cellsOf e := by rw [← hlen]; exact (List.getElem?_eq_some_iff.1 hu).1
      rw [hs, ← add_add, hcell i hi]; exact hu
    · obtain ⟨i, hi, rfl⟩ := List.mem_map.1 ha
      exact (hF i (List.mem_range.1 hi)).1
end
end Go.Proofs.YtjemkdpffjneaaaW.PrintWords
end
