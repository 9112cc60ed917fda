/- A contract of one Go function: what it returns for its arguments; printed by the kit's print program or written by hand. -/
import Derived.Test.YtijbdgijagmbfaaQ0
import Derived.Test.YtijbdgijagmbfaaQF64
namespace Go.Proofs.Ytijbdgijagmbfaa.Q
open Go.RowKit Go.Proofs.YtijbdgijagmbfaaW.PrintWords Go.Proofs.YtijbdgijagmbfaaW.PrintLast Go.Proofs.YtijbdgijagmbfaaW.PrintMore
attribute [local go_sem] max2_int min2_int max_two min_two max_three min_three max_four min_four   -- for this text's walks alone
set_option linter.unusedVariables false
set_option linter.unusedSimpArgs false

/-! #### total: 64 -/
noncomputable def impl_Fraction_64T.f (l0 : List (S42)) (l1 : List (S42)) : Option (Bool) := tot (fun k => impl_Fraction_64.f k l0 l1)
theorem impl_Fraction_64T.of (l0 : List (S42)) (l1 : List (S42)) {k : Nat} {r_ : (Bool)} (h : impl_Fraction_64.f k l0 l1 = some r_) : impl_Fraction_64T.f l0 l1 = some r_ := tot_of (F := (fun k => impl_Fraction_64.f k l0 l1)) (fun k => impl_Fraction_64.mono  l0 l1 k) h
theorem impl_Fraction_64T.calls (A0 : Option Addr) (c0 : Nat) (l0 : List (S42)) (A1 : Option Addr) (c1 : Nat) (l1 : List (S42)) (r : Bool) (w : World) (hr0 : Kd.C k42 w A0 l0.length l0) (hc0 : l0.length ≤ c0) (hr1 : Kd.C k42 w A1 l1.length l1) (hc1 : l1.length ≤ c1) (h : impl_Fraction_64T.f l0 l1 = some r) :
    Calls Try.prog 64 #[.slice A0 l0.length c0, .slice A1 l1.length c1] w fun e w' => e = .returned (.bool r) ∧ Drawn0 w w' := by
  obtain ⟨k, hk⟩ := tot_get h
  exact impl_Fraction_64.calls k A0 c0 l0 A1 c1 l1 r w hr0 hc0 hr1 hc1 hk

end Go.Proofs.Ytijbdgijagmbfaa.Q
