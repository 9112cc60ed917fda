/- The row of FnExactJointDensity: for every input the law returns true, and each argument reads behind the call as before it. No condition. -/
import Derived.Test.YtcepbgffnneagaaRows
import Derived.Test.YtcepbgffnneagaaBFnExactJointDensity15
import Derived.Test.YtcepbgffnneagaaBFnExactJointDensity16
import Derived.WalkKit
import Derived.ProofKit
import Derived.OpenShut
import Derived.ShutString
import Derived.ChangeOld
import Derived.Below
import Derived.SizedLaws
import Derived.Carry
namespace Go.Proofs.Ytcepbgffnneagaa.fnExactJointDensity
open Go.ChangeShapes Go.WideShapes Go.ChangeAt Go.RowKit Go.Proofs.Ytcepbgffnneagaa.Q Go.Proofs.YtcepbgffnneagaaW.PrintWords
open Go.ChangeMaps (open_string shut_string)
set_option linter.unusedVariables false
theorem own : ownKnob Try.prog.godebug = none := by kernel_rfl
theorem laidOut : laidOutB Try.prog = true := by kernel_rfl
set_option maxHeartbeats 8000000 in
set_option maxRecDepth 100000 in
theorem lifted (os : Os) (started : os.Started) (H : Type) (enc : TypeId × Value → H) :
    ReturnsInHanded {} Try.checked os 8 .any (Rows.fnExactJointDensitySpec.pre6 enc Try.prog Try.f8 Rows.fnExactJointDensityRow.domain false) (Rows.fnExactJointDensitySpec.post enc Try.prog Try.f8 false true false false) := by
  refine returnsInHanded_of_change_sized (C := Try.checked) own started (by kernel_rfl) Try.func8
    (ChangeSpec.witness6 (enc := enc) (C := Try.checked) false ⟨#[], #[.agg #[.int .i64 0, .int .i64 0, .int .u32 0], .agg #[.int .i64 0, .int .i64 0, .int .u32 0], .agg #[.int .i64 0, .int .i64 0, .int .u32 0]], []⟩ 8 (by kernel_rfl) (by kernel_rfl) (by kernel_rfl) (by kernel_rfl)) ?_
  intro W base args ds gs before hval0 hW hcnd hsz0 _
  have hval : ∀ (j : Nat) t v, Try.f8.params[j]? = some t → args[j]? = some v → Value.okWide Try.prog W .any base t v := hval0
  have hW' := hW
  obtain ⟨p, q, hA0, hV, rfl, hfz, hnd⟩ := hW
  have hA : DataW.TrodAll enc Try.prog W 0 (fun _ => true) true Try.f8.params.toList args.toList ds p := hA0
  rw [Try.params8] at hA hval
  obtain ⟨v0, vs0, d0, ds0, p0, q0, hargs, rfl, rfl, h0, r0⟩ := trodAll_cons hA
  obtain ⟨v1, vs1, d1, ds1, p1, q1, rfl, rfl, rfl, h1, r1⟩ := trodAll_cons r0
  obtain ⟨v2, vs2, d2, ds2, p2, q2, rfl, rfl, rfl, h2, r2⟩ := trodAll_cons r1
  obtain ⟨rfl, rfl, rfl⟩ := trodAll_nil r2
  obtain rfl : args = #[v0, v1, v2] := by cases args; simp_all
  obtain ⟨rfl, rfl⟩ := trodVars_none hV
  have k0 := h0
  have lt0 : ∀ x ∈ p0, x.block < W.heap.size := by obtain ⟨m, hm⟩ := k0; exact DataW.trod_lt m _ _ _ hm
  obtain ⟨cs0, rfl, _⟩ := okWide_struct Try.underlying42 (hval 0 42 v0 rfl rfl)
  obtain ⟨fu0, hf0⟩ := h0
  obtain ⟨x0, kx0, w0⟩ := (show Opens enc Try.prog W 42 k42 _ from Opens.iso (fun x : S42 => (x.f0, x.f1)) (fun p => ⟨p.1, p.2⟩) (fun _ => rfl) (Opens.struct2 Try.underlying42 rfl (by kernel_rfl) (by kernel_rfl) (Opens.int Try.underlying2) (show Opens enc Try.prog W 24 k24 _ from Opens.iso (fun x : S24 => (x.f0, x.f1)) (fun p => ⟨p.1, p.2⟩) (fun _ => rfl) (Opens.struct2 Try.underlying24 rfl (by kernel_rfl) (by kernel_rfl) (Opens.int Try.underlying2) (Opens.int Try.underlying22))))) fu0 _ _ hf0
  obtain rfl : cs0 = #[.int .i64 x0.f0, .int .i64 x0.f1.f0, .int .u32 x0.f1.f1] := Array.toList_inj.1 (k42_open kx0)
  have k1 := h1
  have lt1 : ∀ x ∈ p1, x.block < W.heap.size := by obtain ⟨m, hm⟩ := k1; exact DataW.trod_lt m _ _ _ hm
  obtain ⟨cs1, rfl, _⟩ := okWide_struct Try.underlying42 (hval 1 42 v1 rfl rfl)
  obtain ⟨fu1, hf1⟩ := h1
  obtain ⟨x1, kx1, w1⟩ := (show Opens enc Try.prog W 42 k42 _ from Opens.iso (fun x : S42 => (x.f0, x.f1)) (fun p => ⟨p.1, p.2⟩) (fun _ => rfl) (Opens.struct2 Try.underlying42 rfl (by kernel_rfl) (by kernel_rfl) (Opens.int Try.underlying2) (show Opens enc Try.prog W 24 k24 _ from Opens.iso (fun x : S24 => (x.f0, x.f1)) (fun p => ⟨p.1, p.2⟩) (fun _ => rfl) (Opens.struct2 Try.underlying24 rfl (by kernel_rfl) (by kernel_rfl) (Opens.int Try.underlying2) (Opens.int Try.underlying22))))) fu1 _ _ hf1
  obtain rfl : cs1 = #[.int .i64 x1.f0, .int .i64 x1.f1.f0, .int .u32 x1.f1.f1] := Array.toList_inj.1 (k42_open kx1)
  have k2 := h2
  have lt2 : ∀ x ∈ p2, x.block < W.heap.size := by obtain ⟨m, hm⟩ := k2; exact DataW.trod_lt m _ _ _ hm
  obtain ⟨cs2, rfl, _⟩ := okWide_struct Try.underlying42 (hval 2 42 v2 rfl rfl)
  obtain ⟨fu2, hf2⟩ := h2
  obtain ⟨x2, kx2, w2⟩ := (show Opens enc Try.prog W 42 k42 _ from Opens.iso (fun x : S42 => (x.f0, x.f1)) (fun p => ⟨p.1, p.2⟩) (fun _ => rfl) (Opens.struct2 Try.underlying42 rfl (by kernel_rfl) (by kernel_rfl) (Opens.int Try.underlying2) (show Opens enc Try.prog W 24 k24 _ from Opens.iso (fun x : S24 => (x.f0, x.f1)) (fun p => ⟨p.1, p.2⟩) (fun _ => rfl) (Opens.struct2 Try.underlying24 rfl (by kernel_rfl) (by kernel_rfl) (Opens.int Try.underlying2) (Opens.int Try.underlying22))))) fu2 _ _ hf2
  obtain rfl : cs2 = #[.int .i64 x2.f0, .int .i64 x2.f1.f0, .int .u32 x2.f1.f1] := Array.toList_inj.1 (k42_open kx2)
  clear hA0 hval0 hsz0
  obtain ⟨K, hK⟩ := Q.FnExactJointDensity_pure x0.f0 x0.f1.f0 x0.f1.f1 x1.f0 x1.f1.f0 x1.f1.f1 x2.f0 x2.f1.f0 x2.f1.f1 w0.1 w0.2.1 w0.2.2 w1.1 w1.2.1 w1.2.2 w2.1 w2.2.1 w2.2.2
  refine (laws_FnExactJointDensity.calls K x0.f0 x0.f1.f0 x0.f1.f1 x1.f0 x1.f1.f0 x1.f1.f1 x2.f0 x2.f1.f0 x2.f1.f1 true W hK).mono fun e W' ⟨he, bel0⟩ => ?_
  have bel : Below W.heap.size W W' := by first | exact bel0 | exact bel0.below
  subst he
  exact ⟨_, rfl, _, _, _, [], _, [], hW', trodAll_mk1 (shut_bool Try.underlying4 _), (trodAll_cons_mk (Below.trod laidOut (by kernel_rfl) (of_decide_eq_true (by kernel_rfl)) k0 bel lt0) (trodAll_cons_mk (Below.trod laidOut (by kernel_rfl) (of_decide_eq_true (by kernel_rfl)) k1 bel lt1) (trodAll_cons_mk (Below.trod laidOut (by kernel_rfl) (of_decide_eq_true (by kernel_rfl)) k2 bel lt2) trodAll_mk0))), rfl, bel.frame _, fun h => by cases h⟩
theorem over : Rows.fnExactJointDensityRow.holds Try.pinned (OpenSpec.ofChange Rows.fnExactJointDensitySpec) :=
  OpenClaim.holds_of_wide 8 Try.f8 rfl rfl rfl rfl rfl rfl rfl ⟨rfl, rfl, rfl, rfl, rfl⟩ rfl rfl rfl rfl rfl (by kernel_rfl) Try.func8 (by kernel_rfl)
    (of_decide_eq_true (by kernel_rfl)) (by unfold Func.isWrapper; first | (rw [if_pos (by decide +kernel)]; kernel_rfl) | (rw [if_neg (by decide +kernel)]; exact ⟨rfl, rfl⟩))
    (fun os started H enc _ => lifted os started H enc)
end Go.Proofs.Ytcepbgffnneagaa.fnExactJointDensity
namespace Go.Proofs.Ytcepbgffnneagaa
/-- The row, under a short name, for the claim. -/
theorem fnExactJointDensity_holds : Rows.FnExactJointDensitySaid := fnExactJointDensity.over
#print axioms fnExactJointDensity_holds
end Go.Proofs.Ytcepbgffnneagaa
