/- Contracts of Go functions and plain lemmas over what they compute; printed by the kit's print program or written by hand, joined. -/
import Derived.Test.YtbojkjpfccjgeaaBFnExactTypeOf1
import Derived.Test.YtbojkjpfccjgeaaBFnExactTypeOf7
import Derived.Test.YtbojkjpfccjgeaaBFnExactTypeOf2
import Derived.Test.YtbojkjpfccjgeaaBFnExactTypeOf11
import Derived.Test.YtbojkjpfccjgeaaBFnExactTypeOf8
import Derived.Test.YtbojkjpfccjgeaaBFnExactTypeOf10
import Derived.Test.YtbojkjpfccjgeaaBFnExactTypeOf3
import Derived.Test.YtbojkjpfccjgeaaBFnExactTypeOf4
import Derived.Test.YtbojkjpfccjgeaaBFnExactTypeOf6
import Derived.Test.YtbojkjpfccjgeaaBFnExactTypeOf5
import Derived.Test.YtbojkjpfccjgeaaBFnExactTypeOf12
import Derived.Test.YtbojkjpfccjgeaaBFnExactTypeOf13
import Derived.Test.YtbojkjpfccjgeaaWMore
import Derived.WalkKit
import Derived.ProofKit
import Derived.OpenShut
import Derived.ChangeOld
import Derived.Deep.Slices
section
/- A contract of one Go function: what it returns for its arguments; printed by the kit's print program or written by hand. -/
namespace Go.Proofs.Ytbojkjpfccjgeaa.Q
open Go.RowKit Go.Proofs.YtbojkjpfccjgeaaW.PrintWords Go.Proofs.YtbojkjpfccjgeaaW.PrintLast Go.Proofs.YtbojkjpfccjgeaaW.PrintMore
attribute [local go_sem] max2_int min2_int max_two min_two max_three min_three max_four min_four   -- for this text's walks alone
set_option linter.unusedVariables false
set_option linter.unusedSimpArgs false

/-! #### pure: In -/
theorem in_eq (a b c : Int) : impl_in.f a b c = some (decide (b ≤ a ∧ a ≤ c)) := by
  unfold impl_in.f
  by_cases h : a ≥ b
  · rw [if_pos h]; congr 1; rw [decide_eq_decide]; omega
  · rw [if_neg h]; congr 1; symm; rw [decide_eq_false_iff_not]; omega

end Go.Proofs.Ytbojkjpfccjgeaa.Q
end

section
/- A contract of one Go function: what it returns for its arguments; printed by the kit's print program or written by hand. -/
namespace Go.Proofs.Ytbojkjpfccjgeaa.Q
open Go.RowKit Go.Proofs.YtbojkjpfccjgeaaW.PrintWords Go.Proofs.YtbojkjpfccjgeaaW.PrintLast Go.Proofs.YtbojkjpfccjgeaaW.PrintMore
attribute [local go_sem] max2_int min2_int max_two min_two max_three min_three max_four min_four   -- for this text's walks alone
set_option linter.unusedVariables false
set_option linter.unusedSimpArgs false

/-! #### pure: Valid -/
def validG (n e : Int) : Bool := decide (0 ≤ n ∧ n ≤ 5 ∧ e < 2 ^ (n.toNat * (n.toNat - 1) / 2))
theorem l01Ok_eq (n e : Int) (h0 : 0 ≤ e) (h1 : e ≤ 4294967295) : spec_l01Ok.f n e = some (validG n e) := by
  have hw : wrap64 e = e := by unfold wrap64; omega
  unfold spec_l01Ok.f validG
  rw [l00In_eq, hw]; simp only [Option.bind_some]
  by_cases h : 0 ≤ n ∧ n ≤ 5
  · rw [if_pos (by simpa using h)]
    obtain ⟨ha, hb⟩ := h
    rcases small5 ha hb with rfl | rfl | rfl | rfl | rfl | rfl
    all_goals
      simp only [spec_l01Bits.f]
      simp [wrap64, IntKind.wrap_u64, shl, IntKind.wrap_i64, IntKind.bits]
  · rw [if_neg (by simpa using h)]; congr 1; symm; rw [decide_eq_false_iff_not]; omega

end Go.Proofs.Ytbojkjpfccjgeaa.Q
end

section
/- A contract of one Go function: what it returns for its arguments; printed by the kit's print program or written by hand. -/
namespace Go.Proofs.Ytbojkjpfccjgeaa.Q
open Go.RowKit Go.Proofs.YtbojkjpfccjgeaaW.PrintWords Go.Proofs.YtbojkjpfccjgeaaW.PrintLast Go.Proofs.YtbojkjpfccjgeaaW.PrintMore
attribute [local go_sem] max2_int min2_int max_two min_two max_three min_three max_four min_four   -- for this text's walks alone
set_option linter.unusedVariables false
set_option linter.unusedSimpArgs false

/-! #### pure: ImplValid -/
theorem ValidGraph_eq (n e : Int) (h0 : 0 ≤ e) (h1 : e ≤ 4294967295) : impl_ValidGraph.f n e = some (validG n e) := by
  unfold impl_ValidGraph.f validG
  rw [in_eq]; simp only [Option.bind_some]
  by_cases h : 0 ≤ n ∧ n ≤ 5
  · rw [if_pos (by simpa using h)]
    obtain ⟨ha, hb⟩ := h
    rcases small5 ha hb with rfl | rfl | rfl | rfl | rfl | rfl
    all_goals
      simp only [impl_pairs.f]
      simp [wrap64, shr, IntKind.bits]
    all_goals (first | done | (rw [Bool.eq_iff_iff]; simp; omega))
  · rw [if_neg (by simpa using h)]; congr 1; symm; rw [decide_eq_false_iff_not]; omega

end Go.Proofs.Ytbojkjpfccjgeaa.Q
end

section
/- A contract of one Go function: what it returns for its arguments; printed by the kit's print program or written by hand. -/
namespace Go.Proofs.Ytbojkjpfccjgeaa.Q
open Go.RowKit Go.Proofs.YtbojkjpfccjgeaaW.PrintWords Go.Proofs.YtbojkjpfccjgeaaW.PrintLast Go.Proofs.YtbojkjpfccjgeaaW.PrintMore
attribute [local go_sem] max2_int min2_int max_two min_two max_three min_three max_four min_four   -- for this text's walks alone
set_option linter.unusedVariables false
set_option linter.unusedSimpArgs false

/-! #### pure: ValidFlagP -/
def validF (l n e : Int) : Bool := validG n e && decide (0 ≤ l ∧ l ≤ 3 ∧ l ≤ n)
theorem l03Ok_eq (l n e : Int) (h0 : 0 ≤ e) (h1 : e ≤ 4294967295) : spec_l03Ok.f l n e = some (validF l n e) := by
  unfold spec_l03Ok.f validF
  rw [l01Ok_eq n e h0 h1, l00In_eq]; simp only [Option.bind_some]
  cases validG n e
  · rfl
  · by_cases h : 0 ≤ l ∧ l ≤ 3
    · rw [if_pos rfl, if_pos (by simpa using h)]; simp [h]
    · rw [if_pos rfl, if_neg (by simpa using h)]; congr 1; simp; omega

end Go.Proofs.Ytbojkjpfccjgeaa.Q
end

section
/- A contract of one Go function: what it returns for its arguments; printed by the kit's print program or written by hand. -/
namespace Go.Proofs.Ytbojkjpfccjgeaa.Q
open Go.RowKit Go.Proofs.YtbojkjpfccjgeaaW.PrintWords Go.Proofs.YtbojkjpfccjgeaaW.PrintLast Go.Proofs.YtbojkjpfccjgeaaW.PrintMore
attribute [local go_sem] max2_int min2_int max_two min_two max_three min_three max_four min_four   -- for this text's walks alone
set_option linter.unusedVariables false
set_option linter.unusedSimpArgs false

/-! #### pure: ImplValidFlag -/
theorem ValidFlag_eq (l n e : Int) (h0 : 0 ≤ e) (h1 : e ≤ 4294967295) : impl_ValidFlag.f l n e = some (validF l n e) := by
  unfold impl_ValidFlag.f validF
  rw [ValidGraph_eq n e h0 h1, in_eq]; simp only [Option.bind_some]
  cases validG n e
  · rfl
  · by_cases h : 0 ≤ l ∧ l ≤ 3
    · rw [if_pos rfl, if_pos (by simpa using h)]; simp [h]
    · rw [if_pos rfl, if_neg (by simpa using h)]; congr 1; simp; omega

end Go.Proofs.Ytbojkjpfccjgeaa.Q
end

section
/- A contract of one Go function: what it returns for its arguments; printed by the kit's print program or written by hand. -/
namespace Go.Proofs.Ytbojkjpfccjgeaa.Q
open Go.RowKit Go.Proofs.YtbojkjpfccjgeaaW.PrintWords Go.Proofs.YtbojkjpfccjgeaaW.PrintLast Go.Proofs.YtbojkjpfccjgeaaW.PrintMore
attribute [local go_sem] max2_int min2_int max_two min_two max_three min_three max_four min_four   -- for this text's walks alone
set_option linter.unusedVariables false
set_option linter.unusedSimpArgs false

/-! #### pure: BitsS -/
theorem l01Bit_eq (k : Nat) {i j : Int} (i0 : 0 ≤ i) (i4 : i ≤ 4) (j0 : 0 ≤ j) (j4 : j ≤ 4) : spec_l01Bit.f (k + 2) i j = some (bitI i j) := by
  rcases small4 i0 i4 with rfl | rfl | rfl | rfl | rfl <;> rcases small4 j0 j4 with rfl | rfl | rfl | rfl | rfl <;> kernel_rfl

end Go.Proofs.Ytbojkjpfccjgeaa.Q
end

section
/- A contract of one Go function: what it returns for its arguments; printed by the kit's print program or written by hand. -/
namespace Go.Proofs.Ytbojkjpfccjgeaa.Q
open Go.RowKit Go.Proofs.YtbojkjpfccjgeaaW.PrintWords Go.Proofs.YtbojkjpfccjgeaaW.PrintLast Go.Proofs.YtbojkjpfccjgeaaW.PrintMore
attribute [local go_sem] max2_int min2_int max_two min_two max_three min_three max_four min_four   -- for this text's walks alone
set_option linter.unusedVariables false
set_option linter.unusedSimpArgs false

/-! #### pure: OnS -/
theorem joined_eq (k : Nat) (n e : Int) {i j : Int} (i0 : 0 ≤ i) (i4 : i ≤ 4) (j0 : 0 ≤ j) (j4 : j ≤ 4) (hij : i ≠ j) : spec_l01Joined.f (k + 2) n e i j = some (hasI e i j) := by
  unfold spec_l01Joined.f hasI
  rw [if_neg hij, l01Bit_eq k i0 i4 j0 j4]; rfl
theorem l01Bit_ge {k : Nat} (hk : 2 ≤ k) {i j : Int} (i0 : 0 ≤ i) (i4 : i ≤ 4) (j0 : 0 ≤ j) (j4 : j ≤ 4) : spec_l01Bit.f k i j = some (bitI i j) := by
  obtain ⟨q, rfl⟩ : ∃ q, k = q + 2 := ⟨k - 2, by omega⟩
  exact l01Bit_eq q i0 i4 j0 j4
theorem joined_ge {k : Nat} (hk : 2 ≤ k) (n e : Int) {i j : Int} (i0 : 0 ≤ i) (i4 : i ≤ 4) (j0 : 0 ≤ j) (j4 : j ≤ 4) (hij : i ≠ j) : spec_l01Joined.f k n e i j = some (hasI e i j) := by
  obtain ⟨q, rfl⟩ : ∃ q, k = q + 2 := ⟨k - 2, by omega⟩
  exact joined_eq q n e i0 i4 j0 j4 hij
theorem onS_row {l : List Int} {j : Nat} (n e0 : Int) (h5 : l.length ≤ 5) (h : ∀ i : Nat, i < l.length → 0 ≤ rd l i ∧ rd l i ≤ 4) (hne : ∀ i j : Nat, i < j → j < l.length → rd l i ≠ rd l j) (hj : j < l.length) (N : Int) :
    ∀ (d i : Nat) (e : Int) (k : Nat), i + d = j → d + 3 ≤ k → spec_l01On.l1 k l j i n e0 N e = spec_l01On.l0 (k - (d + 1)) l ((j + 1 : Nat) : Int) n e0 N (loopRow (fun i j => hasI e0 (rd l i) (rd l j)) j d i e)
  | 0, i, e, k, hd, hk => by
    have : i = j := by omega
    subst this
    obtain ⟨k, rfl⟩ : ∃ m, k = m + 1 := ⟨k - 1, by omega⟩
    simp only [spec_l01On.l1, loopRow]
    rw [if_neg (by omega), show wrap64 ((i : Int) + 1) = ((i + 1 : Nat) : Int) from by unfold wrap64; omega]; rfl
  | d + 1, i, e, k, hd, hk => by
    have hw : wrap64 ((i : Int) + 1) = ((i + 1 : Nat) : Int) := by unfold wrap64; omega
    have hi := h i (by omega)
    have hj' := h j hj
    obtain ⟨k, rfl⟩ : ∃ m, k = m + 1 := ⟨k - 1, by omega⟩
    simp only [spec_l01On.l1, loopRow]
    rw [if_pos (by omega), if_pos (by omega), if_pos (by omega), if_pos (by omega), if_pos (by omega), joined_ge (by omega) n e0 hi.1 hi.2 hj'.1 hj'.2 (hne i j (by omega) hj), hw, show k + 1 - (d + 1 + 1) = k - (d + 1) from by omega]
    simp only [Option.bind_some]
    by_cases hb : hasI e0 (rd l i) (rd l j) = true
    rotate_left
    · rw [if_neg hb, if_neg hb]
      exact onS_row n e0 h5 h hne hj N d (i + 1) e k (by omega) (by omega)
    · rw [if_pos hb, if_pos hb, l01Bit_ge (by omega) (by omega) (by omega) (by omega) (by omega)]
      simp only [Option.bind_some]
      exact onS_row n e0 h5 h hne hj N d (i + 1) _ k (by omega) (by omega)
theorem onS_all {l : List Int} (n e0 : Int) (h5 : l.length ≤ 5) (h : ∀ i : Nat, i < l.length → 0 ≤ rd l i ∧ rd l i ≤ 4) (hne : ∀ i j : Nat, i < j → j < l.length → rd l i ≠ rd l j) :
    ∀ (d j : Nat) (e : Int) (k : Nat), j + d = l.length → 7 * d + 3 ≤ k → spec_l01On.l0 k l j n e0 (l.length : Int) e = some ((l.length : Int), loopMade (fun i j => hasI e0 (rd l i) (rd l j)) d j e)
  | 0, j, e, k, hd, hk => by
    obtain ⟨k, rfl⟩ : ∃ m, k = m + 1 := ⟨k - 1, by omega⟩
    simp only [spec_l01On.l0, loopMade]
    rw [if_neg (by omega)]
  | d + 1, j, e, k, hd, hk => by
    obtain ⟨k, rfl⟩ : ∃ m, k = m + 1 := ⟨k - 1, by omega⟩
    simp only [spec_l01On.l0, loopMade]
    rw [if_pos (by omega)]
    have := onS_row n e0 h5 h hne (show j < l.length by omega) (l.length : Int) j 0 e k (by omega) (by omega)
    rw [show ((0 : Nat) : Int) = 0 from rfl] at this
    rw [this]
    exact onS_all n e0 h5 h hne d (j + 1) _ (k - (j + 1)) (by omega) (by omega)
theorem onS_eq (n e : Int) {l : List Int} (h5 : l.length ≤ 5) (h : ∀ i : Nat, i < l.length → 0 ≤ rd l i ∧ rd l i ≤ 4) (hne : ∀ i j : Nat, i < j → j < l.length → rd l i ≠ rd l j) (k : Nat) (hk : 40 ≤ k) :
    spec_l01On.f k n e l = some ((l.length : Int), onI e l) := by
  unfold spec_l01On.f onI madeI
  cases hl : l.length with
  | zero =>
    obtain ⟨k, rfl⟩ : ∃ m, k = m + 1 := ⟨k - 1, by omega⟩
    simp [spec_l01On.l0, loopMade]
  | succ m =>
    have := onS_all n e h5 h hne m 1 0 k (by omega) (by omega)
    rw [hl] at this
    rw [show ((1 : Nat) : Int) = 1 from rfl] at this
    rw [this]
    simp [loopMade, loopRow]

end Go.Proofs.Ytbojkjpfccjgeaa.Q
end

section
/- A contract of one Go function: what it returns for its arguments; printed by the kit's print program or written by hand. -/
namespace Go.Proofs.Ytbojkjpfccjgeaa.Q
open Go.RowKit Go.Proofs.YtbojkjpfccjgeaaW.PrintWords Go.Proofs.YtbojkjpfccjgeaaW.PrintLast Go.Proofs.YtbojkjpfccjgeaaW.PrintMore
attribute [local go_sem] max2_int min2_int max_two min_two max_three min_three max_four min_four   -- for this text's walks alone
set_option linter.unusedVariables false
set_option linter.unusedSimpArgs false

/-! #### pure: LawTypeOf -/
theorem firstI_ok : ∀ n, n < 6 → (firstI n).length ≤ 5 ∧ (∀ i, i < (firstI n).length → 0 ≤ rd (firstI n) i ∧ rd (firstI n) i ≤ 4) ∧ ∀ i, i < (firstI n).length → ∀ j, j < (firstI n).length → i < j → rd (firstI n) i ≠ rd (firstI n) j := by decide +kernel
theorem firstI_okList : ∀ n, n < 6 → okList (firstI n) := by decide +kernel
theorem FnExactTypeOf_pure (l n e : Int) (_hl : (Lit.int .i64 l).wf = true) (_hn : (Lit.int .i64 n).wf = true) (he : (Lit.int .u32 e).wf = true) : ∃ k, laws_FnExactTypeOf.f k l n e = some true := by
  refine ⟨60, ?_⟩
  have he' : 0 ≤ e ∧ e ≤ 4294967295 := by simpa [Lit.wf, IntKind.min, IntKind.max, IntKind.bits, IntKind.signed] using he
  simp only [laws_FnExactTypeOf.f, laws_toFlag.f, laws_toGraph.f, Option.bind_some, spec_TypeOf.f, impl_TypeOf.f, l03Ok_eq l n e he'.1 he'.2, ValidFlag_eq l n e he'.1 he'.2, laws_eqGraph.f]
  cases hv : validF l n e
  · rfl
  · simp only [validF, Bool.and_eq_true, decide_eq_true_eq] at hv
    have h := firstI_ok l.toNat (by omega)
    rw [if_pos rfl, if_pos rfl]
    unfold spec_l03Type.f impl_Flag_typeOf.f
    rw [firstS_eq l hv.2.1 (by omega) 60 (by omega), impl_firstT.eq hv.2.1 (by omega)]
    simp only [Option.bind_some]
    rw [onS_eq n e h.1 h.2.1 (fun i j h1 h2 => h.2.2 i (by omega) j h2 h1) 60 (by omega), impl_onT.eq n e (firstI_okList _ (by omega))]
    simp

end Go.Proofs.Ytbojkjpfccjgeaa.Q
end

section
/- How the data of an argument open into plain values: whole numbers, structs of two fields, arrays of two, slices of such; of whatever program. -/
namespace Go.Proofs.YtbojkjpfccjgeaaW.PrintWords
open Go Go.RowKit Go.ChangeShapes Go.WideShapes Go.ChangeAt Go.Deep
set_option linter.unusedVariables false
section
variable {H : Type} (enc : TypeId × Value → H) (P : Program) (W : World)
/-- Whatever reads as data of type t stands for a plain value. -/
def Opens {α : Type} (t : TypeId) (k : Kd α) (wf : α → Prop) : Prop :=
  ∀ (fuel : Nat) (cs : List Value) (x : DataW H × List MemPlace), DataW.trod enc P W 0 (fun _ => true) true fuel t cs = some x → ∃ a, k.K W a cs ∧ wf a
end
section
variable {H : Type} {enc : TypeId × Value → H} {P : Program} {W : World}
theorem Opens.int {t : TypeId} {k : IntKind} (ht : P.underlying t = some (.int k)) : Opens enc P W t (Kd.int k) (fun n => (Lit.int k n).wf = true) := by
  intro fuel cs x h
  obtain ⟨n, rfl, _, hw⟩ := DataW.trod_int ht h
  exact ⟨n, rfl, hw⟩
theorem Opens.bool {t : TypeId} (ht : P.underlying t = some .bool) : Opens enc P W t Kd.bool (fun _ => True) := by
  intro fuel cs x h
  obtain ⟨n, rfl, _⟩ := DataW.trod_bool ht h
  exact ⟨n, rfl, trivial⟩
theorem Opens.struct2 {α β : Type} {t : TypeId} {f0 f1 : Field} {k0 : Kd α} {k1 : Kd β} {p0 : α → Prop} {p1 : β → Prop} (ht : P.underlying t = some (.struct #[f0, f1])) (o0 : f0.offset = 0) (o1 : f1.offset = P.cellsOf f0.type) (hc : P.cellsOf t = P.cellsOf f0.type + P.cellsOf f1.type)
    (h0 : Opens enc P W f0.type k0 p0) (h1 : Opens enc P W f1.type k1 p1) : Opens enc P W t (Kd.pair k0 k1) (fun p => p0 p.1 ∧ p1 p.2) := by
  intro fuel cs x h
  obtain ⟨y0, y1, n, _, hl, e0, e1⟩ := trod_struct2 ht h
  obtain ⟨a, ka, wa⟩ := h0 n _ _ e0
  obtain ⟨b, kb, wb⟩ := h1 n _ _ e1
  refine ⟨(a, b), ⟨_, _, ?_, ka, kb⟩, wa, wb⟩
  rw [o0, o1, List.drop_zero, List.take_of_length_le (l := List.drop _ cs) (by rw [List.length_drop, hl, hc]; omega), List.take_append_drop]
theorem Opens.iso {α β : Type} {t : TypeId} {k : Kd α} {p : α → Prop} (f : β → α) (g : α → β) (hfg : ∀ a, f (g a) = a) (h : Opens enc P W t k p) : Opens enc P W t (Kd.iso k f) (fun b => p (f b)) := by
  intro fuel cs x hx
  obtain ⟨a, ka, wa⟩ := h fuel cs x hx
  exact ⟨g a, by show k.K W (f (g a)) cs; rw [hfg]; exact ka, by show p (f (g a)); rw [hfg]; exact wa⟩
theorem Opens.slice {α : Type} (z : α) {t e : TypeId} {k : Kd α} {p : α → Prop} (ht : P.underlying t = some (.slice e)) (hs : k.sz = P.cellsOf e) (h : Opens enc P W e k p) : Opens enc P W t (Kd.slice e k) (fun l => ∀ a ∈ l, p a) := by
  haveI : Inhabited α := ⟨z⟩
  intro fuel cs x hx
  rcases open_slice ht hx with ⟨rfl, _⟩ | ⟨ad, len, cap, m, n, D, Pl, rfl, _, hl, hm, hmm, _, hel⟩
  · exact ⟨[], ⟨none, 0, rfl, Nat.le_refl _, rfl, by simp, fun h0 => absurd h0 (Nat.lt_irrefl 0)⟩, fun a ha => by cases ha⟩
  · have hlm : len ≤ m := by
      rw [hmm]; split
      · exact hl
      · exact Nat.le_refl _
    obtain ⟨F, hF⟩ := choose_lt (α := α) (n := len) (p := fun i a => p a ∧ ∃ cs', k.K W a cs' ∧ W.cells? 0 (ad.add (i * P.cellsOf e)) (P.cellsOf e) = some cs') (fun i hi => by
      obtain ⟨cs', h1, h2⟩ := hel i (by omega)
      obtain ⟨a, ka, wa⟩ := h n _ _ h2
      exact ⟨a, wa, cs', ka, h1⟩)
    refine ⟨(List.range len).map F, ⟨some ad, cap, by simp, by simpa using hl, by simp, by simp; unfold maxLen at hm; omega, fun _ => ⟨ad, rfl, fun j q hq => ?_⟩⟩, fun a ha => ?_⟩
    · obtain ⟨hj, rfl⟩ : j < len ∧ F j = q := by
        rw [List.getElem?_map] at hq
        rcases Nat.lt_or_ge j len with hj | hj
        · rw [List.getElem?_range hj] at hq; exact ⟨hj, by simpa using hq⟩
        · rw [List.getElem?_eq_none (by simpa using hj)] at hq; simp at hq
      obtain ⟨_, cs', ka, h1⟩ := hF j hj
      obtain ⟨_, hlen, hcell⟩ := World.cells?_some h1
      refine ⟨cs', k.K_len ka, ka, fun i u hu => ?_⟩
      have hi : i < P.cellsOf e := by rw [← hlen]; exact (List.getElem?_eq_some_iff.1 hu).1
      rw [hs, ← add_add, hcell i hi]; exact hu
    · obtain ⟨i, hi, rfl⟩ := List.mem_map.1 ha
      exact (hF i (List.mem_range.1 hi)).1
end
end Go.Proofs.YtbojkjpfccjgeaaW.PrintWords
end
