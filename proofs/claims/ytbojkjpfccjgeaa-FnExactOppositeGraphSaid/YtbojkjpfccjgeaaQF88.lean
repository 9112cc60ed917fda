/- A contract of one Go function: what it returns for its arguments; printed by the kit's print program or written by hand. -/
import Derived.Test.YtbojkjpfccjgeaaQ0
import Derived.Test.YtbojkjpfccjgeaaQF89
namespace Go.Proofs.Ytbojkjpfccjgeaa.Q
open Go.RowKit Go.Proofs.YtbojkjpfccjgeaaW.PrintWords Go.Proofs.YtbojkjpfccjgeaaW.PrintLast Go.Proofs.YtbojkjpfccjgeaaW.PrintMore
attribute [local go_sem] max2_int min2_int max_two min_two max_three min_three max_four min_four   -- for this text's walks alone
set_option linter.unusedVariables false
set_option linter.unusedSimpArgs false

/-! ### impl_Graph_opposite_1: function 88 -/
def impl_Graph_opposite_1.f (a0 : Int) (a1 : Int) (s702_0 : Int) (s702_1 : Int) : Option (Bool) := (impl_Graph_has.f s702_0 s702_1 a0 a1).bind fun t203 => (some (!t203))
set_option maxHeartbeats 8000000 in
set_option maxRecDepth 100000 in
theorem impl_Graph_opposite_1.calls (a0 : Int) (a1 : Int) (r : Bool) (gb702 : Nat) (s702_0 : Int) (s702_1 : Int) (w : World) (hb702 : w.heap[gb702]? = some (.cells #[.int .i64 s702_0, .int .u32 s702_1] 24 (0, 0))) (h : impl_Graph_opposite_1.f a0 a1 s702_0 s702_1 = some r) :
    Calls Try.prog 88 #[.int .i64 a0, .int .i64 a1, .pointer (some ⟨gb702, 0, none⟩)] w fun e w' => e = .returned (.bool r) ∧ Below w.heap.size w w' := by
  have hu24 := Try.underlying24
  have BK702 := Aside0.mk hb702
  clear hb702
  have HB := Aside0.mk (Below.refl w.heap.size w)
  have H : ((impl_Graph_has.f s702_0 s702_1 a0 a1).bind fun t203 => (some (!t203))) = some r := h
  clear h
  replace H := Option.bind_eq_some_iff.mp H
  obtain ⟨t203, A30, H⟩ := H
  replace H : (some (!t203)) = some r := H
  have A3 := Aside0.mk A30
  clear A30
  obtain rfl := Option.some.inj H
  have hcz4_0 : w.cell? ⟨gb702, 0, none⟩ = some (.int .i64 s702_0) := (blk_cell BK702.out 0).trans rfl
  have hcz4_1 : w.cell? ⟨gb702, 1, none⟩ = some (.int .u32 s702_1) := (blk_cell BK702.out 1).trans rfl
  have hfz4_0 := blk_frozen BK702.out 0
  have hfz4_1 := blk_frozen BK702.out 1
  go_enter Try.func88, Try.ntmps88
  go_wp2_with (first | ((with_reducible refine gate_callee (f := 89) rfl ?_); refine goesL_ (some 9) rfl rfl Try.func89 (by kernel_rfl) rfl #[.agg #[.int .i64 s702_0, .int .u32 s702_1], .int .i64 a0, .int .i64 a1] rfl (by (try simp only [List.map_toArray, List.map_cons, List.map_nil]); first | done | rfl | (simp only [List.length_drop, List.length_take]; rfl)) ?_; (with_reducible refine (impl_Graph_has.calls s702_0 s702_1 a0 a1 t203 _ A3.out).mono ?_); rintro e w5 ⟨rfl, hb⟩; refine ⟨_, rfl, ?_⟩; have n0_ := Aside0.mk (blk_below (g := gb702) (o := .cells #[.int .i64 s702_0, .int .u32 s702_1] 24 (0, 0)) (by (with_reducible repeat (first | refine blk_drewN ?_ _ | refine blk_drew ?_ | refine blk_alloc ?_ _)); exact BK702.out) hb); have n1_ := Aside0.mk (below_step (by repeat (first | (with_reducible first | exact HB.out | apply below_alloc | apply pw_below_drewN | apply below_drew1 | refine below_set ?_ GE702.out) | exact HB.out)) hb); clear BK702; clear HB; have BK702 := n0_; have HB := n1_; clear n0_ n1_; (try clear hb); (try clear hb2); (try clear hk); (try clear hi)))
  go_ret
  exact ⟨by first | rfl | (simp [errW_none, errW_some] <;> rfl) | (simp [*, errW_none, errW_some] <;> rfl), by repeat (first | (with_reducible first | exact HB.out | apply below_alloc | apply pw_below_drewN | apply below_drew1 | refine below_set ?_ GE702.out) | exact HB.out)⟩

end Go.Proofs.Ytbojkjpfccjgeaa.Q
