/- A contract of one Go function: what it returns for its arguments; printed by the kit's print program or written by hand. -/
import Derived.Test.YtbojkjpfccjgeaaQ0
import Derived.Test.YtbojkjpfccjgeaaQF15
import Derived.Test.YtbojkjpfccjgeaaQF17
import Derived.Test.YtbojkjpfccjgeaaQF24
import Derived.Test.YtbojkjpfccjgeaaQF25
import Derived.Test.YtbojkjpfccjgeaaQF88
import Derived.Test.YtbojkjpfccjgeaaQF62
import Derived.Test.YtbojkjpfccjgeaaQF26
import Derived.Test.YtbojkjpfccjgeaaQF7
import Derived.Test.YtbojkjpfccjgeaaQZBase
import Derived.Test.YtbojkjpfccjgeaaQZBits
import Derived.Test.YtbojkjpfccjgeaaQZHasL
import Derived.Test.YtbojkjpfccjgeaaQZImplValid
import Derived.Test.YtbojkjpfccjgeaaQZMadeD
import Derived.Test.YtbojkjpfccjgeaaQZMadeL
import Derived.Test.YtbojkjpfccjgeaaQZValid
namespace Go.Proofs.Ytbojkjpfccjgeaa.Q
open Go.RowKit Go.Proofs.YtbojkjpfccjgeaaW.PrintWords Go.Proofs.YtbojkjpfccjgeaaW.PrintLast Go.Proofs.YtbojkjpfccjgeaaW.PrintMore
attribute [local go_sem] max2_int min2_int max_two min_two max_three min_three max_four min_four   -- for this text's walks alone
set_option linter.unusedVariables false
set_option linter.unusedSimpArgs false

/-! #### pure: LawOppositeGraph -/
theorem opp_all : ∀ n, n < 6 → ∀ e, e < 2 ^ prs n → madeI n (fun i j => !hasI (e : Nat) i j) = Go.bits .xor .u32 (2 ^ prs n - 1 : Int) (e : Nat) := by decide +kernel
theorem complete_edges (n : Int) (h0 : 0 ≤ n) (h5 : n ≤ 5) : spec_CompleteGraph.f n = some (n, (2 ^ prs n.toNat - 1 : Int), 0) := by
  rcases small5 h0 h5 with rfl | rfl | rfl | rfl | rfl | rfl <;> decide +kernel
theorem opposite_eq (n : Nat) (e : Nat) (hn : n < 6) (he : e < 2 ^ prs n) (k : Nat) (hk : 40 ≤ k) : impl_Graph_opposite.f k (n : Int) (e : Int) = some ((n : Int), Go.bits .xor .u32 (2 ^ prs n - 1 : Int) (e : Int)) := by
  unfold impl_Graph_opposite.f
  rw [made_eq (J := fun i j => !hasI (e : Int) i j) (by omega) (fun i j h1 h2 => ?_) k hk, opp_all n hn e he]
  · rfl
  · unfold impl_Graph_opposite_1.f
    rw [has_eq n e (by omega) (by omega) (by omega) (by omega)]; rfl
theorem validG_nat {n e : Int} (h0 : 0 ≤ e) (h : validG n e = true) : ∃ (m f : Nat), n = m ∧ e = f ∧ m < 6 ∧ f < 2 ^ prs m := by
  simp only [validG, decide_eq_true_eq] at h
  refine ⟨n.toNat, e.toNat, by omega, by omega, by omega, ?_⟩
  have := h.2.2
  unfold prs
  have h2 : ((e.toNat : Nat) : Int) < ((2 ^ (n.toNat * (n.toNat - 1) / 2) : Nat) : Int) := by rw [Int.toNat_of_nonneg h0]; exact_mod_cast this
  exact_mod_cast h2
theorem FnExactOppositeGraph_pure (n e : Int) (_hn : (Lit.int .i64 n).wf = true) (he : (Lit.int .u32 e).wf = true) : ∃ k, laws_FnExactOppositeGraph.f k n e = some true := by
  refine ⟨60, ?_⟩
  have he' : 0 ≤ e ∧ e ≤ 4294967295 := by simpa [Lit.wf, IntKind.min, IntKind.max, IntKind.bits, IntKind.signed] using he
  simp only [laws_FnExactOppositeGraph.f, laws_toGraph.f, Option.bind_some, spec_OppositeGraph.f, impl_OppositeGraph.f, l01Ok_eq n e he'.1 he'.2, ValidGraph_eq n e he'.1 he'.2, laws_eqGraph.f]
  cases hv : validG n e
  · rfl
  · obtain ⟨m, f, rfl, rfl, hm, hf⟩ := validG_nat he'.1 hv
    rw [complete_edges m (by omega) (by omega), opposite_eq m f hm hf 60 (by omega)]
    simp

end Go.Proofs.Ytbojkjpfccjgeaa.Q
