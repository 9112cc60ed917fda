/- Contracts of Go functions and plain lemmas over what they compute; printed by the kit's print program or written by hand, joined. -/
import Derived.Test.YtafkdkiagmbeaaaBFnExactAreAlikeFlags1
import Derived.Test.YtafkdkiagmbeaaaBFnExactAreAlikeFlags7
import Derived.Test.YtafkdkiagmbeaaaBFnExactAreAlikeFlags8
import Derived.Test.YtafkdkiagmbeaaaBFnExactAreAlikeFlags16
import Derived.Test.YtafkdkiagmbeaaaBFnExactAreAlikeFlags2
import Derived.Test.YtafkdkiagmbeaaaBFnExactAreAlikeFlags14
import Derived.Test.YtafkdkiagmbeaaaBFnExactAreAlikeFlags6
import Derived.Test.YtafkdkiagmbeaaaBFnExactAreAlikeFlags10
import Derived.Test.YtafkdkiagmbeaaaBFnExactAreAlikeFlags11
import Derived.Test.YtafkdkiagmbeaaaBFnExactAreAlikeFlags12
import Derived.Test.YtafkdkiagmbeaaaBFnExactAreAlikeFlags13
import Derived.Test.YtafkdkiagmbeaaaWMore
import Derived.WalkKit
import Derived.ProofKit
import Derived.OpenShut
import Derived.ChangeOld
import Derived.Deep.Slices
section
/- A contract of one Go function: what it returns for its arguments; printed by the kit's print program or written by hand. -/
namespace Go.Proofs.Ytafkdkiagmbeaaa.Q
open Go.RowKit Go.Proofs.YtafkdkiagmbeaaaW.PrintWords Go.Proofs.YtafkdkiagmbeaaaW.PrintLast Go.Proofs.YtafkdkiagmbeaaaW.PrintMore
attribute [local go_sem] max2_int min2_int max_two min_two max_three min_three max_four min_four   -- for this text's walks alone
set_option linter.unusedVariables false
set_option linter.unusedSimpArgs false

/-! #### pure: ImplValid -/
theorem ValidGraph_eq (n e : Int) (h0 : 0 ≤ e) (h1 : e ≤ 4294967295) : impl_ValidGraph.f n e = some (validG n e) := by
  unfold impl_ValidGraph.f validG
  rw [in_eq]; simp only [Option.bind_some]
  by_cases h : 0 ≤ n ∧ n ≤ 5
  · rw [if_pos (by simpa using h)]
    obtain ⟨ha, hb⟩ := h
    rcases small5 ha hb with rfl | rfl | rfl | rfl | rfl | rfl
    all_goals
      simp only [impl_pairs.f]
      simp [wrap64, shr, IntKind.bits]
    all_goals (first | done | (rw [Bool.eq_iff_iff]; simp; omega))
  · rw [if_neg (by simpa using h)]; congr 1; symm; rw [decide_eq_false_iff_not]; omega

end Go.Proofs.Ytafkdkiagmbeaaa.Q
end

section
/- A contract of one Go function: what it returns for its arguments; printed by the kit's print program or written by hand. -/
namespace Go.Proofs.Ytafkdkiagmbeaaa.Q
open Go.RowKit Go.Proofs.YtafkdkiagmbeaaaW.PrintWords Go.Proofs.YtafkdkiagmbeaaaW.PrintLast Go.Proofs.YtafkdkiagmbeaaaW.PrintMore
attribute [local go_sem] max2_int min2_int max_two min_two max_three min_three max_four min_four   -- for this text's walks alone
set_option linter.unusedVariables false
set_option linter.unusedSimpArgs false

/-! #### pure: ValidFlagP -/
def validF (l n e : Int) : Bool := validG n e && decide (0 ≤ l ∧ l ≤ 3 ∧ l ≤ n)
theorem l03Ok_eq (l n e : Int) (h0 : 0 ≤ e) (h1 : e ≤ 4294967295) : spec_l03Ok.f l n e = some (validF l n e) := by
  unfold spec_l03Ok.f validF
  rw [l01Ok_eq n e h0 h1, l00In_eq]; simp only [Option.bind_some]
  cases validG n e
  · rfl
  · by_cases h : 0 ≤ l ∧ l ≤ 3
    · rw [if_pos rfl, if_pos (by simpa using h)]; simp [h]
    · rw [if_pos rfl, if_neg (by simpa using h)]; congr 1; simp; omega

end Go.Proofs.Ytafkdkiagmbeaaa.Q
end

section
/- A contract of one Go function: what it returns for its arguments; printed by the kit's print program or written by hand. -/
namespace Go.Proofs.Ytafkdkiagmbeaaa.Q
open Go.RowKit Go.Proofs.YtafkdkiagmbeaaaW.PrintWords Go.Proofs.YtafkdkiagmbeaaaW.PrintLast Go.Proofs.YtafkdkiagmbeaaaW.PrintMore
attribute [local go_sem] max2_int min2_int max_two min_two max_three min_three max_four min_four   -- for this text's walks alone
set_option linter.unusedVariables false
set_option linter.unusedSimpArgs false

/-! #### pure: ImplValidFlag -/
theorem ValidFlag_eq (l n e : Int) (h0 : 0 ≤ e) (h1 : e ≤ 4294967295) : impl_ValidFlag.f l n e = some (validF l n e) := by
  unfold impl_ValidFlag.f validF
  rw [ValidGraph_eq n e h0 h1, in_eq]; simp only [Option.bind_some]
  cases validG n e
  · rfl
  · by_cases h : 0 ≤ l ∧ l ≤ 3
    · rw [if_pos rfl, if_pos (by simpa using h)]; simp [h]
    · rw [if_pos rfl, if_neg (by simpa using h)]; congr 1; simp; omega

end Go.Proofs.Ytafkdkiagmbeaaa.Q
end

section
/- A contract of one Go function: what it returns for its arguments; printed by the kit's print program or written by hand. -/
namespace Go.Proofs.Ytafkdkiagmbeaaa.Q
open Go.RowKit Go.Proofs.YtafkdkiagmbeaaaW.PrintWords Go.Proofs.YtafkdkiagmbeaaaW.PrintLast Go.Proofs.YtafkdkiagmbeaaaW.PrintMore
attribute [local go_sem] max2_int min2_int max_two min_two max_three min_three max_four min_four   -- for this text's walks alone
set_option linter.unusedVariables false
set_option linter.unusedSimpArgs false

/-! #### pure: Least3 -/
theorem least3_loop (n s : Nat) (hn : n < 6) (hs : s < n + 1) (e : Int) : ∀ (ls : List (List Int)) (x : List Int) (k : Nat) (best : Int), isChain ((n - s : Nat) : Int) (x :: ls) = true → (∀ l ∈ x :: ls, (l.length ≤ 5 ∧ ∀ y ∈ l, 0 ≤ y ∧ y ≤ 5) ∧ (shiftL s l).length = n ∧ allDiff ((n : Int) - 1) (shiftL s l)) → ls.length + 200 ≤ k →
    spec_l03Least.l0 k x true s n e s n best = some ((s : Int), (n : Int), leastE e ((x :: ls).map (shiftL s)) best)
  | [], x, k, best, hc, hd, hk => by
    obtain ⟨k, rfl⟩ : ∃ q, k = q + 2 := ⟨k - 2, by omega⟩
    obtain ⟨y, hy⟩ := chain_one hc
    obtain ⟨⟨hx1, hx2⟩, hx3, hx4⟩ := hd x (List.mem_cons_self)
    rw [spec_l03Least.l0, if_pos rfl, l03Order_eq s (by omega) x hx1 hx2 _ (by omega)]
    simp only [Option.bind_some]
    rw [onS_diff (m := n) n e (by omega) (by omega) (by rw [show wrap64 ((n : Int) - 1) = (n : Int) - 1 from by unfold wrap64; omega]; exact hx4) _ (by omega), show wrap64 ((n : Int) - (s : Int)) = ((n - s : Nat) : Int) from by unfold wrap64; omega]
    simp only [Option.bind_some, leastE, List.map_cons, List.map_nil, List.foldl_cons, List.foldl_nil, hx3]
    by_cases hb : onI e (shiftL s x) < best
    · rw [if_pos hb, if_pos hb, hy _ (by omega)]
      simp only [Option.bind_some]
      rw [spec_l03Least.l0, if_neg (by simp)]
    · rw [if_neg hb, if_neg hb, hy _ (by omega)]
      simp only [Option.bind_some]
      rw [spec_l03Least.l0, if_neg (by simp)]
  | z :: ls, x, k, best, hc, hd, hk => by
    obtain ⟨k, rfl⟩ : ∃ q, k = q + 1 := ⟨k - 1, by omega⟩
    obtain ⟨h1, h2⟩ := chain_cons hc
    obtain ⟨⟨hx1, hx2⟩, hx3, hx4⟩ := hd x (List.mem_cons_self)
    have hl : (z :: ls).length = ls.length + 1 := rfl
    rw [spec_l03Least.l0, if_pos rfl, l03Order_eq s (by omega) x hx1 hx2 _ (by omega)]
    simp only [Option.bind_some]
    rw [onS_diff (m := n) n e (by omega) (by omega) (by rw [show wrap64 ((n : Int) - 1) = (n : Int) - 1 from by unfold wrap64; omega]; exact hx4) _ (by omega), show wrap64 ((n : Int) - (s : Int)) = ((n - s : Nat) : Int) from by unfold wrap64; omega]
    have ih := fun best => least3_loop n s hn hs e ls z k best h2 (fun l hl => hd l (List.mem_cons_of_mem _ hl)) (by omega)
    simp only [Option.bind_some, leastE, hx3]
    rw [List.map_cons, List.foldl_cons]
    by_cases hb : onI e (shiftL s x) < best
    · rw [if_pos hb, if_pos hb, h1 _ (by omega)]
      exact ih _
    · rw [if_neg hb, if_neg hb, h1 _ (by omega)]
      exact ih _
theorem l03Least_eq (n s : Nat) (hn : n < 6) (hs : s < n + 1) (e : Int) (k : Nat) (hk : 1000 ≤ k) : spec_l03Least.f k s n e = some ((s : Int), (n : Int), leastE e (leaves n (n - s) (firstI s)) e) := by
  unfold spec_l03Least.f
  rw [show wrap64 ((n : Int) - (s : Int)) = ((n - s : Nat) : Int) from by unfold wrap64; omega, firstS_eq ((n - s : Nat) : Int) (by omega) (by omega) k (by omega), leaves_shift n hn s hs]
  simp only [Option.bind_some, Int.toNat_natCast]
  obtain ⟨hh, hc⟩ := chains (n - s) (by omega) (n - s) (by omega)
  have hd := own_ok n s hn hs
  have hlen := leaves_short (n - s) (by omega) (n - s) (by omega)
  revert hh hc hd hlen
  generalize leaves (n - s) (n - s) [] = L
  intro hh hc hd hlen
  cases L with
  | nil => simp at hh
  | cons x ls =>
    obtain rfl : x = firstI (n - s) := by simpa using hh
    exact least3_loop n s hn hs e ls _ k e hc hd (by simp only [List.length_cons] at hlen; omega)

end Go.Proofs.Ytafkdkiagmbeaaa.Q
end

section
/- A contract of one Go function: what it returns for its arguments; printed by the kit's print program or written by hand. -/
namespace Go.Proofs.Ytafkdkiagmbeaaa.Q
open Go.RowKit Go.Proofs.YtafkdkiagmbeaaaW.PrintWords Go.Proofs.YtafkdkiagmbeaaaW.PrintLast Go.Proofs.YtafkdkiagmbeaaaW.PrintMore
attribute [local go_sem] max2_int min2_int max_two min_two max_three min_three max_four min_four   -- for this text's walks alone
set_option linter.unusedVariables false
set_option linter.unusedSimpArgs false

/-! #### pure: ValidNat -/
theorem validG_nat {n e : Int} (h0 : 0 ≤ e) (h : validG n e = true) : ∃ (m f : Nat), n = m ∧ e = f ∧ m < 6 ∧ f < 2 ^ prs m := by
  simp only [validG, decide_eq_true_eq] at h
  refine ⟨n.toNat, e.toNat, by omega, by omega, by omega, ?_⟩
  have := h.2.2
  unfold prs
  have h2 : ((e.toNat : Nat) : Int) < ((2 ^ (n.toNat * (n.toNat - 1) / 2) : Nat) : Int) := by rw [Int.toNat_of_nonneg h0]; exact_mod_cast this
  exact_mod_cast h2

end Go.Proofs.Ytafkdkiagmbeaaa.Q
end

section
/- A contract of one Go function: what it returns for its arguments; printed by the kit's print program or written by hand. -/
namespace Go.Proofs.Ytafkdkiagmbeaaa.Q
open Go.RowKit Go.Proofs.YtafkdkiagmbeaaaW.PrintWords Go.Proofs.YtafkdkiagmbeaaaW.PrintLast Go.Proofs.YtafkdkiagmbeaaaW.PrintMore
attribute [local go_sem] max2_int min2_int max_two min_two max_three min_three max_four min_four   -- for this text's walks alone
set_option linter.unusedVariables false
set_option linter.unusedSimpArgs false

/-! #### pure: ValidFNat -/
theorem validF_nat {l n e : Int} (h0 : 0 ≤ e) (h : validF l n e = true) : ∃ (s m f : Nat), l = s ∧ n = m ∧ e = f ∧ m < 6 ∧ s < m + 1 ∧ f < 2 ^ prs m := by
  simp only [validF, Bool.and_eq_true, decide_eq_true_eq] at h
  obtain ⟨m, f, rfl, rfl, hm, hf⟩ := validG_nat h0 h.1
  exact ⟨l.toNat, m, f, by omega, rfl, rfl, hm, by omega, hf⟩

end Go.Proofs.Ytafkdkiagmbeaaa.Q
end

section
/- A contract of one Go function: what it returns for its arguments; printed by the kit's print program or written by hand. -/
namespace Go.Proofs.Ytafkdkiagmbeaaa.Q
open Go.RowKit Go.Proofs.YtafkdkiagmbeaaaW.PrintWords Go.Proofs.YtafkdkiagmbeaaaW.PrintLast Go.Proofs.YtafkdkiagmbeaaaW.PrintMore
attribute [local go_sem] max2_int min2_int max_two min_two max_three min_three max_four min_four   -- for this text's walks alone
set_option linter.unusedVariables false
set_option linter.unusedSimpArgs false

/-! #### pure: LawAreAlikeFlags -/
theorem FnExactAreAlikeFlags_pure (l n e l' m h : Int) (_hl : (Lit.int .i64 l).wf = true) (_hn : (Lit.int .i64 n).wf = true) (he : (Lit.int .u32 e).wf = true) (_hl' : (Lit.int .i64 l').wf = true) (_hm : (Lit.int .i64 m).wf = true) (hh : (Lit.int .u32 h).wf = true) : ∃ k, laws_FnExactAreAlikeFlags.f k l n e l' m h = some true := by
  refine ⟨1001, ?_⟩
  have he' : 0 ≤ e ∧ e ≤ 4294967295 := by simpa [Lit.wf, IntKind.min, IntKind.max, IntKind.bits, IntKind.signed] using he
  have hh' : 0 ≤ h ∧ h ≤ 4294967295 := by simpa [Lit.wf, IntKind.min, IntKind.max, IntKind.bits, IntKind.signed] using hh
  simp only [laws_FnExactAreAlikeFlags.f, laws_toFlag.f, laws_toGraph.f, Option.bind_some, spec_AreAlikeFlags.f, spec_AreAlikeFlags.j0, impl_AreAlikeFlags.f, impl_Flag_alike.f, l03Ok_eq l n e he'.1 he'.2, ValidFlag_eq l n e he'.1 he'.2, l03Ok_eq l' m h hh'.1 hh'.2, ValidFlag_eq l' m h hh'.1 hh'.2]
  cases hv : validF l n e
  · rfl
  cases hw : validF l' m h
  · rfl
  obtain ⟨s, n, e, rfl, rfl, rfl, hn, hs, he2⟩ := validF_nat he'.1 hv
  obtain ⟨t, m, h, rfl, rfl, rfl, hm, ht, hh2⟩ := validF_nat hh'.1 hw
  simp only [if_true, Bool.not_true, Bool.false_eq_true, if_false, l03Least_eq n s hn hs e 1000 (by omega), l03Least_eq m t hm ht h 1000 (by omega), Option.bind_some]
  by_cases hst : s = t
  · subst hst
    by_cases hnm : n = m
    · subst hnm
      rw [if_pos rfl, alike_eq n s hn hs e h he2 hh2]
      simp
    · have ha : impl_Graph_alike.f n e m h s = some false := by unfold impl_Graph_alike.f; rw [if_neg (by omega)]
      have hne : ((n : Int) == (m : Int)) = false := by rw [beq_eq_false_iff_ne]; omega
      rw [if_pos rfl, ha]
      simp [hne]
  · have hne : ((s : Int) == (t : Int)) = false := by rw [beq_eq_false_iff_ne]; omega
    rw [if_neg (by omega)]
    simp [hne]

end Go.Proofs.Ytafkdkiagmbeaaa.Q
end

section
/- How the data of an argument open into plain values: whole numbers, structs of two fields, arrays of two, slices of such; of whatever program. -/
namespace Go.Proofs.YtafkdkiagmbeaaaW.PrintWords
open Go Go.RowKit Go.ChangeShapes Go.WideShapes Go.ChangeAt Go.Deep
set_option linter.unusedVariables false
section
variable {H : Type} (enc : TypeId × Value → H) (P : Program) (W : World)
/-- Whatever reads as data of type t stands for a plain value. -/
def Opens {α : Type} (t : TypeId) (k : Kd α) (wf : α → Prop) : Prop :=
  ∀ (fuel : Nat) (cs : List Value) (x : DataW H × List MemPlace), DataW.trod enc P W 0 (fun _ => true) true fuel t cs = some x → ∃ a, k.K W a cs ∧ wf a
end
section
variable {H : Type} {enc : TypeId × Value → H} {P : Program} {W : World}
theorem Opens.int {t : TypeId} {k : IntKind} (ht : P.underlying t = some (.int k)) : Opens enc P W t (Kd.int k) (fun n => (Lit.int k n).wf = true) := by
  intro fuel cs x h
  obtain ⟨n, rfl, _, hw⟩ := DataW.trod_int ht h
  exact ⟨n, rfl, hw⟩
theorem Opens.bool {t : TypeId} (ht : P.underlying t = some .bool) : Opens enc P W t Kd.bool (fun _ => True) := by
  intro fuel cs x h
  obtain ⟨n, rfl, _⟩ := DataW.trod_bool ht h
  exact ⟨n, rfl, trivial⟩
theorem Opens.struct2 {α β : Type} {t : TypeId} {f0 f1 : Field} {k0 : Kd α} {k1 : Kd β} {p0 : α → Prop} {p1 : β → Prop} (ht : P.underlying t = some (.struct #[f0, f1])) (o0 : f0.offset = 0) (o1 : f1.offset = P.cellsOf f0.type) (hc : P.cellsOf t = P.cellsOf f0.type + P.cellsOf f1.type)
    (h0 : Opens enc P W f0.type k0 p0) (h1 : Opens enc P W f1.type k1 p1) : Opens enc P W t (Kd.pair k0 k1) (fun p => p0 p.1 ∧ p1 p.2) := by
  intro fuel cs x h
  obtain ⟨y0, y1, n, _, hl, e0, e1⟩ := trod_struct2 ht h
  obtain ⟨a, ka, wa⟩ := h0 n _ _ e0
  obtain ⟨b, kb, wb⟩ := h1 n _ _ e1
  refine ⟨(a, b), ⟨_, _, ?_, ka, kb⟩, wa, wb⟩
  rw [o0, o1, List.drop_zero, List.take_of_length_le (l := List.drop _ cs) (by rw [List.length_drop, hl, hc]; omega), List.take_append_drop]
theorem Opens.iso {α β : Type} {t : TypeId} {k : Kd α} {p : α → Prop} (f : β → α) (g : α → β) (hfg : ∀ a, f (g a) = a) (h : Opens enc P W t k p) : Opens enc P W t (Kd.iso k f) (fun b => p (f b)) := by
  intro fuel cs x hx
  obtain ⟨a, ka, wa⟩ := h fuel cs x hx
  exact ⟨g a, by show k.K W (f (g a)) cs; rw [hfg]; exact ka, by show p (f (g a)); rw [hfg]; exact wa⟩
theorem Opens.slice {α : Type} (z : α) {t e : TypeId} {k : Kd α} {p : α → Prop} (ht : P.underlying t = some (.slice e)) (hs : k.sz = P.cellsOf e) (h : Opens enc P W e k p) : Opens enc P W t (Kd.slice e k) (fun l => l.length < 9223372036854775808 ∧ ∀ a ∈ l, p a) := by
  haveI : Inhabited α := ⟨z⟩
  intro fuel cs x hx
  rcases open_slice ht hx with ⟨rfl, _⟩ | ⟨ad, len, cap, m, n, D, Pl, rfl, _, hl, hm, hmm, _, hel⟩
  · exact ⟨[], ⟨none, 0, rfl, Nat.le_refl _, rfl, by simp, fun h0 => absurd h0 (Nat.lt_irrefl 0)⟩, by simp, fun a ha => by cases ha⟩
  · have hlm : len ≤ m := by
      rw [hmm]; split
      · exact hl
      · exact Nat.le_refl _
    obtain ⟨F, hF⟩ := choose_lt (α := α) (n := len) (p := fun i a => p a ∧ ∃ cs', k.K W a cs' ∧ W.cells? 0 (ad.add (i * P.cellsOf e)) (P.cellsOf e) = some cs') (fun i hi => by
      obtain ⟨cs', h1, h2⟩ := hel i (by omega)
      obtain ⟨a, ka, wa⟩ := h n _ _ h2
      exact ⟨a, wa, cs', ka, h1⟩)
    refine ⟨(List.range len).map F, ⟨some ad, cap, by simp, by simpa using hl, by simp, by simp; unfold maxLen at hm; omega, fun _ => ⟨ad, rfl, fun j q hq => ?_⟩⟩, by simp; unfold maxLen at hm; omega, fun a ha => ?_⟩
    · obtain ⟨hj, rfl⟩ : j < len ∧ F j = q := by
        rw [List.getElem?_map] at hq
        rcases Nat.lt_or_ge j len with hj | hj
        · rw [List.getElem?_range hj] at hq; exact ⟨hj, by simpa using hq⟩
        · rw [List.getElem?_eq_none (by simpa using hj)] at hq; simp at hq
      obtain ⟨_, cs', ka, h1⟩ := hF j hj
      obtain ⟨_, hlen, hcell⟩ := World.cells?_some h1
      refine ⟨cs', k.K_len ka, ka, fun i u hu => ?_⟩
      have hi : i < P.cellsOf e := by rw [← hlen]; exact (List.getElem?_eq_some_iff.1 hu).1
      rw [hs, ← add_add, hcell i hi]; exact hu
    · obtain ⟨i, hi, rfl⟩ := List.mem_map.1 ha
      exact (hF i (List.mem_range.1 hi)).1
end
end Go.Proofs.YtafkdkiagmbeaaaW.PrintWords
end
