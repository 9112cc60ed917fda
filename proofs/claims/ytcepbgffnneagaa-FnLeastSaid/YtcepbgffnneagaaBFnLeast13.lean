/- Contracts of Go functions and plain lemmas over what they compute; printed by the kit's print program or written by hand, joined. -/
import Derived.Test.YtcepbgffnneagaaBFnLeast3
import Derived.Test.YtcepbgffnneagaaBFnLeast7
import Derived.Test.YtcepbgffnneagaaBFnLeast6
import Derived.Test.YtcepbgffnneagaaBFnLeast8
import Derived.Test.YtcepbgffnneagaaBFnLeast12
import Derived.Test.YtcepbgffnneagaaBFnLeast5
import Derived.Test.YtcepbgffnneagaaBFnLeast4
section
namespace Go.Proofs.Ytcepbgffnneagaa.Q
open Go.RowKit Go.Proofs.YtcepbgffnneagaaW.PrintWords Go.Proofs.YtcepbgffnneagaaW.PrintLast Go.Proofs.YtcepbgffnneagaaW.PrintMore
attribute [local go_sem] max2_int min2_int max_two min_two max_three min_three max_four min_four   -- for this text's walks alone
set_option linter.unusedVariables false
set_option linter.unusedSimpArgs false

def impl_IndexOfGraph.f (k : Nat) (a0_0 : Int) (a0_1 : Int) : Option (Int × Int) := (impl_ValidGraph.f a0_0 a0_1).bind fun t909 => (if t909 = true then ((impl_AllGraphs.f k a0_0).bind fun bt910 => ((impl_Graph_least.f a0_0 a0_1 0).bind fun bt914 => ((impl_Graph_99.f k bt910.1 bt914.1 bt914.2).bind fun t916 => (some (t916, 0))))) else (some (0, 1)))
theorem impl_IndexOfGraph.mono : ∀ a0 a1 k, LeO (impl_IndexOfGraph.f k a0 a1) (impl_IndexOfGraph.f (k + 1) a0 a1) := by
  intro a0 a1 k
  unfold impl_IndexOfGraph.f
  repeat' first
      | (with_reducible exact impl_AllGraphs.mono _ _)
      | (with_reducible exact impl_Graph_99.mono _ _ _ _)
      | (with_reducible exact LeO.refl _)
      | (with_reducible exact LeO.none _)
      | (with_reducible refine LeO.ite ?_ ?_)
      | (with_reducible refine LeO.bind ?_ (fun _ => ?_))
      | exact impl_AllGraphs.mono _ _
      | exact impl_Graph_99.mono _ _ _ _
      | exact LeO.none _
      | refine LeO.ite ?_ ?_
      | refine LeO.bind ?_ (fun _ => ?_)
set_option maxHeartbeats 8000000 in
set_option maxRecDepth 100000 in
theorem impl_IndexOfGraph.calls (k : Nat) (a0_0 : Int) (a0_1 : Int) (r1 : Int) (r2 : Int) (w : World) (h : impl_IndexOfGraph.f k a0_0 a0_1 = some (r1, r2)) :
    Calls Try.prog 43 #[.agg #[.int .i64 a0_0, .int .u32 a0_1]] w fun e w' => e = .returned (.tuple #[.int .i64 r1, .int .i64 r2]) ∧ Below w.heap.size w w' := by
  have hu27 := Try.underlying27
  have HB := Aside0.mk (Below.refl w.heap.size w)
  have H : ((impl_ValidGraph.f a0_0 a0_1).bind fun t909 => (if t909 = true then ((impl_AllGraphs.f k a0_0).bind fun bt910 => ((impl_Graph_least.f a0_0 a0_1 0).bind fun bt914 => ((impl_Graph_99.f k bt910.1 bt914.1 bt914.2).bind fun t916 => (some (t916, 0))))) else (some (0, 1)))) = some (r1, r2) := h
  clear h
  replace H := Option.bind_eq_some_iff.mp H
  obtain ⟨t909, A20, H⟩ := H
  replace H : (if t909 = true then ((impl_AllGraphs.f k a0_0).bind fun bt910 => ((impl_Graph_least.f a0_0 a0_1 0).bind fun bt914 => ((impl_Graph_99.f k bt910.1 bt914.1 bt914.2).bind fun t916 => (some (t916, 0))))) else (some (0, 1))) = some (r1, r2) := H
  have A2 := Aside0.mk A20
  clear A20
  by_cases c3 : t909 = true
  · subst c3
    have H1 : ((impl_AllGraphs.f k a0_0).bind fun bt910 => ((impl_Graph_least.f a0_0 a0_1 0).bind fun bt914 => ((impl_Graph_99.f k bt910.1 bt914.1 bt914.2).bind fun t916 => (some (t916, 0))))) = some (r1, r2) := by rw [if_pos rfl] at H; exact H
    clear H
    have H := H1
    clear H1
    replace H := Option.bind_eq_some_iff.mp H
    obtain ⟨⟨t910, t911⟩, A40, H⟩ := H
    replace H : ((impl_Graph_least.f a0_0 a0_1 0).bind fun bt914 => ((impl_Graph_99.f k t910 bt914.1 bt914.2).bind fun t916 => (some (t916, 0)))) = some (r1, r2) := H
    have A4 := Aside0.mk A40
    clear A40
    replace H := Option.bind_eq_some_iff.mp H
    obtain ⟨⟨t914, t915⟩, A50, H⟩ := H
    replace H : ((impl_Graph_99.f k t910 t914 t915).bind fun t916 => (some (t916, 0))) = some (r1, r2) := H
    have A5 := Aside0.mk A50
    clear A50
    replace H := Option.bind_eq_some_iff.mp H
    obtain ⟨t916, A60, H⟩ := H
    replace H : (some (t916, 0)) = some (r1, r2) := H
    have A6 := Aside0.mk A60
    clear A60
    simp only [Option.some.injEq, Prod.mk.injEq] at H
    obtain ⟨rfl, rfl⟩ := H
    go_enter Try.func43, Try.ntmps43
    go_wp2_with (first | ((with_reducible refine gate_dst (N := 1) rfl ?_); refine box_event ?hg (N := 1) ?hd (cs := #[.int .i64 a0_0, .int .u32 a0_1]) (t := 27) ?hr ?_; (case hd => rfl); (case hg => rfl); (case hr => first | (go_simp; done) | (go_simp; rfl)); intro gb908 hg w7 hbox hb; have n0_ := Aside0.mk (below_step (by repeat (first | (with_reducible first | exact HB.out | apply below_alloc | apply pw_below_drewN | apply below_drew1) | exact HB.out)) hb); have n1_ := Aside0.mk (hbox); have n2_ := Aside0.mk ((by rw [hg]; exact (below_size (by repeat (first | (with_reducible first | exact HB.out | apply below_alloc | apply pw_below_drewN | apply below_drew1) | exact HB.out))) : w.heap.size ≤ gb908)); have n3_ := Aside0.mk ((by rw [hg]; exact (below_size (by repeat (first | (with_reducible first | exact HB.out | apply below_alloc | apply pw_below_drewN | apply below_drew1) | exact HB.out))) : w.heap.size ≤ gb908)); clear HB; have HB := n0_; have BK908 := n1_; have GW908 := n2_; have GE908 := n3_; clear n0_ n1_ n2_ n3_; clear hb hbox hg; have hcz8_0 : w7.cell? ⟨gb908, 0, none⟩ = some (.int .i64 a0_0) := (blk_cell BK908.out 0).trans rfl; have hcz8_1 : w7.cell? ⟨gb908, 1, none⟩ = some (.int .u32 a0_1) := (blk_cell BK908.out 1).trans rfl; have hfz8_0 := blk_frozen BK908.out 0; have hfz8_1 := blk_frozen BK908.out 1) | ((with_reducible refine gate_callee (f := 62) rfl ?_); refine goesL_ (some 7) rfl rfl Try.func62 (by kernel_rfl) rfl #[.agg #[.int .i64 a0_0, .int .u32 a0_1]] rfl (by (try simp only [List.map_toArray, List.map_cons, List.map_nil]); first | done | rfl | (simp only [List.length_drop, List.length_take]; rfl)) ?_; (with_reducible refine (impl_ValidGraph.calls a0_0 a0_1 true _ A2.out).mono ?_); rintro e w9 ⟨rfl, hb⟩; refine ⟨_, rfl, ?_⟩; have n0_ := Aside0.mk (blk_below (g := gb908) (o := .cells #[.int .i64 a0_0, .int .u32 a0_1] 27 (0, 0)) (by (with_reducible repeat (first | refine blk_drewN ?_ _ | refine blk_drew ?_ | refine blk_alloc ?_ _)); exact BK908.out) hb); have n1_ := Aside0.mk (below_step (by repeat (first | (with_reducible first | exact HB.out | apply below_alloc | apply pw_below_drewN | apply below_drew1 | refine below_set ?_ GE908.out) | exact HB.out)) hb); clear BK908; clear HB; have BK908 := n0_; have HB := n1_; clear n0_ n1_; (try clear hb); (try clear hb2); (try clear hk); (try clear hi); have hcz10_0 : w9.cell? ⟨gb908, 0, none⟩ = some (.int .i64 a0_0) := (blk_cell BK908.out 0).trans rfl; have hcz10_1 : w9.cell? ⟨gb908, 1, none⟩ = some (.int .u32 a0_1) := (blk_cell BK908.out 1).trans rfl; have hfz10_0 := blk_frozen BK908.out 0; have hfz10_1 := blk_frozen BK908.out 1) | ((with_reducible refine gate_callee (f := 34) rfl ?_); refine goesL_ (some 12) rfl rfl Try.func34 (by kernel_rfl) rfl #[.int .i64 a0_0] rfl (by (try simp only [List.map_toArray, List.map_cons, List.map_nil]); first | done | rfl | (simp only [List.length_drop, List.length_take]; rfl)) ?_; (with_reducible refine (impl_AllGraphs.calls k a0_0 t910 t911 _ A4.out).mono ?_); rintro e w11 ⟨v912, rfl, ho0, hb⟩; refine ⟨_, rfl, ?_⟩; have n0_ := Aside0.mk (Kd.R_lower (Kd.R_newB ho0 (g := gb908) (o := .cells #[.int .i64 a0_0, .int .u32 a0_1] 27 (0, 0)) (by (with_reducible repeat (first | refine blk_drewN ?_ _ | refine blk_drew ?_ | refine blk_alloc ?_ _)); exact BK908.out)) (below_size (by repeat (first | (with_reducible first | exact HB.out | apply below_alloc | apply pw_below_drewN | apply below_drew1 | refine below_set ?_ GE908.out) | exact HB.out)))); have n1_ := Aside0.mk (blk_below (g := gb908) (o := .cells #[.int .i64 a0_0, .int .u32 a0_1] 27 (0, 0)) (by (with_reducible repeat (first | refine blk_drewN ?_ _ | refine blk_drew ?_ | refine blk_alloc ?_ _)); exact BK908.out) hb); have n2_ := Aside0.mk (below_step (by repeat (first | (with_reducible first | exact HB.out | apply below_alloc | apply pw_below_drewN | apply below_drew1 | refine below_set ?_ GE908.out) | exact HB.out)) hb); clear BK908; clear HB; have HO913 := n0_; have BK908 := n1_; have HB := n2_; clear n0_ n1_ n2_; (try clear hb); (try clear hb2); (try clear hk); (try clear hi); (try clear ho0); have hcz12_0 : w11.cell? ⟨gb908, 0, none⟩ = some (.int .i64 a0_0) := (blk_cell BK908.out 0).trans rfl; have hcz12_1 : w11.cell? ⟨gb908, 1, none⟩ = some (.int .u32 a0_1) := (blk_cell BK908.out 1).trans rfl; have hfz12_0 := blk_frozen BK908.out 0; have hfz12_1 := blk_frozen BK908.out 1) | ((with_reducible refine gate_callee (f := 97) rfl ?_); refine goesL_ (some 17) rfl rfl Try.func97 (by kernel_rfl) rfl #[.agg #[.int .i64 a0_0, .int .u32 a0_1], .int .i64 0] rfl (by (try simp only [List.map_toArray, List.map_cons, List.map_nil]); first | done | rfl | (simp only [List.length_drop, List.length_take]; rfl)) ?_; (with_reducible refine (impl_Graph_least.calls a0_0 a0_1 0 t914 t915 _ A5.out).mono ?_); rintro e w13 ⟨rfl, hb⟩; refine ⟨_, rfl, ?_⟩; have n0_ := Aside0.mk (Kd.R_below (by (with_reducible repeat (first | apply Kd.R_alloc | apply Kd.R_drewN | apply Kd.R_drew)); exact HO913.out) hb); have n1_ := Aside0.mk (blk_below (g := gb908) (o := .cells #[.int .i64 a0_0, .int .u32 a0_1] 27 (0, 0)) (by (with_reducible repeat (first | refine blk_drewN ?_ _ | refine blk_drew ?_ | refine blk_alloc ?_ _)); exact BK908.out) hb); have n2_ := Aside0.mk (below_step (by repeat (first | (with_reducible first | exact HB.out | apply below_alloc | apply pw_below_drewN | apply below_drew1 | refine below_set ?_ GE908.out) | exact HB.out)) hb); clear HO913; clear BK908; clear HB; have HO913 := n0_; have BK908 := n1_; have HB := n2_; clear n0_ n1_ n2_; (try clear hb); (try clear hb2); (try clear hk); (try clear hi); obtain ⟨Ao14, co14, eo14⟩ := Kd.R_slice HO913.out; subst eo14) | ((with_reducible refine gate_callee (f := 99) rfl ?_); refine goesL_ (some 18) rfl rfl Try.func99 (by kernel_rfl) rfl #[.slice Ao14 t910.length co14, .agg #[.int .i64 t914, .int .u32 t915]] rfl (by (try simp only [List.map_toArray, List.map_cons, List.map_nil]); first | done | rfl | (simp only [List.length_drop, List.length_take]; rfl)) ?_; (with_reducible refine (impl_Graph_99.calls k _ _ t910 t914 t915 t916 _ ?side1 ?side2 A6.out).mono ?_); (case side1 => repeat (first | exact (Kd.R_reads' HO913.out).2.2 | (with_reducible refine Kd.C_alloc ?_ _) | (with_reducible refine Kd.C_drewN ?_ _) | (with_reducible refine Kd.C_drew ?_))); (case side2 => exact (Kd.R_reads' HO913.out).2.1); rintro e w15 ⟨rfl, hb⟩; refine ⟨_, rfl, ?_⟩; have n0_ := Aside0.mk (Kd.R_below (by (with_reducible repeat (first | apply Kd.R_alloc | apply Kd.R_drewN | apply Kd.R_drew)); exact HO913.out) hb); have n1_ := Aside0.mk (blk_below (g := gb908) (o := .cells #[.int .i64 a0_0, .int .u32 a0_1] 27 (0, 0)) (by (with_reducible repeat (first | refine blk_drewN ?_ _ | refine blk_drew ?_ | refine blk_alloc ?_ _)); exact BK908.out) hb); have n2_ := Aside0.mk (below_step (by repeat (first | (with_reducible first | exact HB.out | apply below_alloc | apply pw_below_drewN | apply below_drew1 | refine below_set ?_ GE908.out) | exact HB.out)) hb); clear HO913; clear BK908; clear HB; have HO913 := n0_; have BK908 := n1_; have HB := n2_; clear n0_ n1_ n2_; (try clear hb); (try clear hb2); (try clear hk); (try clear hi)))
    go_ret2
    exact ⟨by first | rfl | (simp [errW_none, errW_some] <;> rfl) | (simp [*, errW_none, errW_some] <;> rfl), by repeat (first | (with_reducible first | exact HB.out | apply below_alloc | apply pw_below_drewN | apply below_drew1 | refine below_set ?_ GE908.out) | exact HB.out)⟩
  · replace c3 := Bool.eq_false_iff.mpr c3
    subst c3
    have H1 : (some (0, 1)) = some (r1, r2) := by rw [if_neg (show ¬ (false = true) by decide)] at H; exact H
    clear H
    have H := H1
    clear H1
    simp only [Option.some.injEq, Prod.mk.injEq] at H
    obtain ⟨rfl, rfl⟩ := H
    go_enter Try.func43, Try.ntmps43
    go_wp2_with (first | ((with_reducible refine gate_dst (N := 1) rfl ?_); refine box_event ?hg (N := 1) ?hd (cs := #[.int .i64 a0_0, .int .u32 a0_1]) (t := 27) ?hr ?_; (case hd => rfl); (case hg => rfl); (case hr => first | (go_simp; done) | (go_simp; rfl)); intro gb908 hg w16 hbox hb; have n0_ := Aside0.mk (below_step (by repeat (first | (with_reducible first | exact HB.out | apply below_alloc | apply pw_below_drewN | apply below_drew1) | exact HB.out)) hb); have n1_ := Aside0.mk (hbox); have n2_ := Aside0.mk ((by rw [hg]; exact (below_size (by repeat (first | (with_reducible first | exact HB.out | apply below_alloc | apply pw_below_drewN | apply below_drew1) | exact HB.out))) : w.heap.size ≤ gb908)); have n3_ := Aside0.mk ((by rw [hg]; exact (below_size (by repeat (first | (with_reducible first | exact HB.out | apply below_alloc | apply pw_below_drewN | apply below_drew1) | exact HB.out))) : w.heap.size ≤ gb908)); clear HB; have HB := n0_; have BK908 := n1_; have GW908 := n2_; have GE908 := n3_; clear n0_ n1_ n2_ n3_; clear hb hbox hg; have hcz17_0 : w16.cell? ⟨gb908, 0, none⟩ = some (.int .i64 a0_0) := (blk_cell BK908.out 0).trans rfl; have hcz17_1 : w16.cell? ⟨gb908, 1, none⟩ = some (.int .u32 a0_1) := (blk_cell BK908.out 1).trans rfl; have hfz17_0 := blk_frozen BK908.out 0; have hfz17_1 := blk_frozen BK908.out 1) | ((with_reducible refine gate_callee (f := 62) rfl ?_); refine goesL_ (some 7) rfl rfl Try.func62 (by kernel_rfl) rfl #[.agg #[.int .i64 a0_0, .int .u32 a0_1]] rfl (by (try simp only [List.map_toArray, List.map_cons, List.map_nil]); first | done | rfl | (simp only [List.length_drop, List.length_take]; rfl)) ?_; (with_reducible refine (impl_ValidGraph.calls a0_0 a0_1 false _ A2.out).mono ?_); rintro e w18 ⟨rfl, hb⟩; refine ⟨_, rfl, ?_⟩; have n0_ := Aside0.mk (blk_below (g := gb908) (o := .cells #[.int .i64 a0_0, .int .u32 a0_1] 27 (0, 0)) (by (with_reducible repeat (first | refine blk_drewN ?_ _ | refine blk_drew ?_ | refine blk_alloc ?_ _)); exact BK908.out) hb); have n1_ := Aside0.mk (below_step (by repeat (first | (with_reducible first | exact HB.out | apply below_alloc | apply pw_below_drewN | apply below_drew1 | refine below_set ?_ GE908.out) | exact HB.out)) hb); clear BK908; clear HB; have BK908 := n0_; have HB := n1_; clear n0_ n1_; (try clear hb); (try clear hb2); (try clear hk); (try clear hi)))
    go_ret2
    exact ⟨by first | rfl | (simp [errW_none, errW_some] <;> rfl) | (simp [*, errW_none, errW_some] <;> rfl), by repeat (first | (with_reducible first | exact HB.out | apply below_alloc | apply pw_below_drewN | apply below_drew1 | refine below_set ?_ GE908.out) | exact HB.out)⟩

end Go.Proofs.Ytcepbgffnneagaa.Q
end

section
namespace Go.Proofs.Ytcepbgffnneagaa.Q
open Go.RowKit Go.Proofs.YtcepbgffnneagaaW.PrintWords Go.Proofs.YtcepbgffnneagaaW.PrintLast Go.Proofs.YtcepbgffnneagaaW.PrintMore
attribute [local go_sem] max2_int min2_int max_two min_two max_three min_three max_four min_four   -- for this text's walks alone
set_option linter.unusedVariables false
set_option linter.unusedSimpArgs false

attribute [local go_sem high] eqA27
set_option maxHeartbeats 8000000 in
set_option maxRecDepth 100000 in
theorem impl_Graph_selves_1.state (A0 : Option Addr) (c0 : Nat) (l0 : List Int) (gb701 : Nat) (s701_0 : Int) (s701_1 : Int) (gb702 : Nat) (s702_0 : Int) (w : World) (hne : gb701 ≠ gb702) (hb701 : w.heap[gb701]? = some (.cells #[.int .i64 s701_0, .int .u32 s701_1] 27 (0, 0))) (hb702 : w.heap[gb702]? = some (.cells #[.int .i64 s702_0] 2 (0, 0))) (hr0 : Kd.C (Kd.int .i64) w A0 l0.length l0) (hc0 : l0.length ≤ c0) (hok : okList l0) :
    Calls Try.prog 156 #[.slice A0 l0.length c0, .pointer (some ⟨gb701, 0, none⟩), .pointer (some ⟨gb702, 0, none⟩)] w fun e w' => e = .returned (.bool false) ∧ w'.heap[gb702]? = some (.cells #[.int .i64 (if ((l0.length : Int) == s701_0 && (onI s701_1 l0 == s701_1)) = true then wrap64 (s702_0 + 1) else s702_0)] 2 (0, 0)) ∧ But (fun k => k = gb702) w w' := by
  have huG := Try.underlying27
  have NB701_702 := Aside0.mk hne
  have NB702_701 := Aside0.mk hne.symm
  have BK701 := Aside0.mk hb701
  clear hb701 hne
  have BK702 := Aside0.mk hb702
  clear hb702
  have HR0 := Aside0.mk hr0
  have HC0 := Aside0.mk hc0
  clear hr0 hc0
  have HB := Aside0.mk (Below.refl w.heap.size w)
  have A2 := Aside0.mk (impl_onT.eq s701_0 s701_1 hok)
  clear hok
  generalize onI s701_1 l0 = t582 at A2 ⊢
  generalize (l0.length : Int) = t581 at A2 ⊢
  by_cases c3 : (t581 == s701_0 && (t582 == s701_1)) = true
  · rw [if_pos c3]
    have c3b0 : (t581 == s701_0 && (t582 == s701_1)) = true := c3
    (try (have c3b1 : decide (t581 = s701_0 && (t582 == s701_1)) = true := by simpa using c3))
    (try (have c3b2 : (t581 == s701_0 && (t582 == s701_1)) = true := by simpa using c3))
    clear c3
    go_enter Try.func156, Try.ntmps156
    try go_wp2
    have n0_ := Aside0.mk (blk_drew BK701.out)
    have n1_ := Aside0.mk (blk_drew BK702.out)
    have n2_ := Aside0.mk (below_drew1 HB.out)
    clear BK701
    clear BK702
    clear HB
    have BK701 := n0_
    have BK702 := n1_
    have HB := n2_
    clear n0_ n1_ n2_
    refine start_ (n := 5) (S := fun w' => w'.cell? ⟨gb701, 0, none⟩ = some (.int .i64 s701_0) ∧ w'.cell? ⟨gb701, 1, none⟩ = some (.int .u32 s701_1)) (ds := []) #[false, false, false, false, false] (by kernel_rfl) rfl rfl ⟨(blk_cell BK701.out 0).trans rfl, (blk_cell BK701.out 1).trans rfl⟩ (fun hHeld => ?_)
    generalize w.drew = w4 at BK701 BK702 HB hHeld ⊢
    refine pure_ (i := 1) (N := some 6) (v := ?_) (a' := ?_) #[false, true, false, false, false] rfl rfl (by kernel_rfl) (fun _ _ _ h => h) (Or.inl ⟨by rfl, ?_⟩) ?_ ?_
    rotate_left
    · intro w'
      go_simp
      with_reducible rfl
    rotate_left
    · simp only [Act.put, List.setIfInBounds_toArray, List.set_cons_zero, List.set_cons_succ, i64_w, i32_w]
      rfl
    refine take_ (i := 0) (N := some 5) (v := ?_) (a' := ?_) #[true, true, false, false, false] rfl rfl (by kernel_rfl) (fun _ _ _ h => h) (Or.inl ⟨by rfl, ?_⟩) hHeld ?_ ?_
    rotate_left
    · rintro w' ⟨s0, s1⟩
      go_simp
      with_reducible rfl
    rotate_left
    · simp only [Act.put, List.setIfInBounds_toArray, List.set_cons_zero, List.set_cons_succ, i64_w, i32_w]
      rfl
    refine take_ (i := 3) (N := some 8) (v := ?_) (a' := ?_) #[true, true, false, true, false] rfl rfl (by kernel_rfl) (fun _ _ _ h => h) (Or.inl ⟨by rfl, ?_⟩) hHeld ?_ ?_
    rotate_left
    · rintro w' ⟨s0, s1⟩
      go_simp
      with_reducible rfl
    rotate_left
    · simp only [Act.put, List.setIfInBounds_toArray, List.set_cons_zero, List.set_cons_succ, i64_w, i32_w]
      rfl
    refine one_ (i := 2) (N := some 7) #[true, true, true, true, false] rfl rfl (by kernel_rfl) (by decide) (fun K hK => ?_)
    refine goes_ Try.func96 (by kernel_rfl) rfl #[.agg #[.int .i64 s701_0, .int .u32 s701_1], .slice A0 l0.length c0] (by rfl) rfl rfl (by (try simp only [List.map_toArray, List.map_cons, List.map_nil]); first | done | rfl | (simp only [List.length_drop, List.length_take]; rfl)) ?_
    with_reducible refine (impl_onT.calls s701_0 s701_1 _ _ l0 t581 t582 _ ?side1 ?side2 A2.out).mono ?_
    (case side1 => repeat (first | exact (Kd.C_below HR0.out HB.out) | (with_reducible refine Kd.C_alloc ?_ _) | (with_reducible refine Kd.C_drewN ?_ _) | (with_reducible refine Kd.C_drew ?_)))
    (case side2 => exact HC0.out)
    rintro e w5 ⟨rfl, hb⟩
    refine ⟨_, rfl, ?_⟩
    have n0_ := Aside0.mk (blk_below (g := gb701) (o := .cells #[.int .i64 s701_0, .int .u32 s701_1] 27 (0, 0)) (by (with_reducible repeat (first | refine blk_drewN ?_ _ | refine blk_drew ?_ | refine blk_alloc ?_ _)); exact BK701.out) hb)
    have n1_ := Aside0.mk (blk_below (g := gb702) (o := .cells #[.int .i64 s702_0] 2 (0, 0)) (by (with_reducible repeat (first | refine blk_drewN ?_ _ | refine blk_drew ?_ | refine blk_alloc ?_ _)); exact BK702.out) hb)
    have n2_ := Aside0.mk (below_step (by repeat (first | (with_reducible first | exact HB.out | apply below_alloc | apply pw_below_drewN | apply below_drew1 | refine below_set ?_ GE701.out | refine below_set ?_ GE702.out) | exact HB.out)) hb)
    clear BK701
    clear BK702
    clear HB
    have BK701 := n0_
    have BK702 := n1_
    have HB := n2_
    clear n0_ n1_ n2_
    (try clear hb)
    (try clear hb2)
    (try clear hk)
    (try clear hi)
    refine hK.out _ _ ⟨(blk_cell BK701.out 0).trans rfl, (blk_cell BK701.out 1).trans rfl⟩ (fun hHeld => ?_)
    clear hK K
    refine norm_ (a' := ?_) ?_ ?_
    rotate_left
    · show Act.put _ (some 7) _ = _
      simp only [Act.put, List.setIfInBounds_toArray, List.set_cons_zero, List.set_cons_succ, i64_w, i32_w]
      rfl
    refine pure_ (i := 4) (N := some 9) (v := ?_) (a' := ?_) #[true, true, true, true, true] rfl rfl (by kernel_rfl) (fun _ _ _ h => h) (Or.inl ⟨by rfl, ?_⟩) ?_ ?_
    rotate_left
    · intro w'
      go_simp
      with_reducible rfl
    rotate_left
    · simp only [Act.put, List.setIfInBounds_toArray, List.set_cons_zero, List.set_cons_succ, i64_w, i32_w]
      rfl
    refine done_ (by kernel_rfl) ?_
    have hnb6 := NB702_701.out
    have hnc6 := NB701_702.out
    have hcz7_0 : w5.cell? ⟨gb702, 0, none⟩ = some (.int .i64 s702_0) := (blk_cell BK702.out 0).trans rfl
    have hfz7_0 := blk_frozen BK702.out 0
    try go_wp2
    go_ret
    exact ⟨rfl, blk_put (cs := #[.int .i64 s702_0]) BK702.out 0 _ rfl, But.set (M := fun k => k = gb702) (But.of_below HB.out) (Or.inl rfl) 0 _⟩
  · rw [if_neg c3]
    have c3b0 : (t581 == s701_0 && (t582 == s701_1)) = false := by simpa using c3
    (try (have c3b1 : decide (t581 = s701_0 && (t582 == s701_1)) = false := by simpa using c3))
    (try (have c3b2 : (t581 == s701_0 && (t582 == s701_1)) = false := by simpa using c3))
    (try (have c3b3 : ¬ (t581 = s701_0 && (t582 == s701_1)) := by simpa using c3))
    clear c3
    go_enter Try.func156, Try.ntmps156
    try go_wp2
    have n0_ := Aside0.mk (blk_drew BK701.out)
    have n1_ := Aside0.mk (blk_drew BK702.out)
    have n2_ := Aside0.mk (below_drew1 HB.out)
    clear BK701
    clear BK702
    clear HB
    have BK701 := n0_
    have BK702 := n1_
    have HB := n2_
    clear n0_ n1_ n2_
    refine start_ (n := 5) (S := fun w' => w'.cell? ⟨gb701, 0, none⟩ = some (.int .i64 s701_0) ∧ w'.cell? ⟨gb701, 1, none⟩ = some (.int .u32 s701_1)) (ds := []) #[false, false, false, false, false] (by kernel_rfl) rfl rfl ⟨(blk_cell BK701.out 0).trans rfl, (blk_cell BK701.out 1).trans rfl⟩ (fun hHeld => ?_)
    generalize w.drew = w8 at BK701 BK702 HB hHeld ⊢
    refine pure_ (i := 1) (N := some 6) (v := ?_) (a' := ?_) #[false, true, false, false, false] rfl rfl (by kernel_rfl) (fun _ _ _ h => h) (Or.inl ⟨by rfl, ?_⟩) ?_ ?_
    rotate_left
    · intro w'
      go_simp
      with_reducible rfl
    rotate_left
    · simp only [Act.put, List.setIfInBounds_toArray, List.set_cons_zero, List.set_cons_succ, i64_w, i32_w]
      rfl
    refine take_ (i := 0) (N := some 5) (v := ?_) (a' := ?_) #[true, true, false, false, false] rfl rfl (by kernel_rfl) (fun _ _ _ h => h) (Or.inl ⟨by rfl, ?_⟩) hHeld ?_ ?_
    rotate_left
    · rintro w' ⟨s0, s1⟩
      go_simp
      with_reducible rfl
    rotate_left
    · simp only [Act.put, List.setIfInBounds_toArray, List.set_cons_zero, List.set_cons_succ, i64_w, i32_w]
      rfl
    refine take_ (i := 3) (N := some 8) (v := ?_) (a' := ?_) #[true, true, false, true, false] rfl rfl (by kernel_rfl) (fun _ _ _ h => h) (Or.inl ⟨by rfl, ?_⟩) hHeld ?_ ?_
    rotate_left
    · rintro w' ⟨s0, s1⟩
      go_simp
      with_reducible rfl
    rotate_left
    · simp only [Act.put, List.setIfInBounds_toArray, List.set_cons_zero, List.set_cons_succ, i64_w, i32_w]
      rfl
    refine one_ (i := 2) (N := some 7) #[true, true, true, true, false] rfl rfl (by kernel_rfl) (by decide) (fun K hK => ?_)
    refine goes_ Try.func96 (by kernel_rfl) rfl #[.agg #[.int .i64 s701_0, .int .u32 s701_1], .slice A0 l0.length c0] (by rfl) rfl rfl (by (try simp only [List.map_toArray, List.map_cons, List.map_nil]); first | done | rfl | (simp only [List.length_drop, List.length_take]; rfl)) ?_
    with_reducible refine (impl_onT.calls s701_0 s701_1 _ _ l0 t581 t582 _ ?side1 ?side2 A2.out).mono ?_
    (case side1 => repeat (first | exact (Kd.C_below HR0.out HB.out) | (with_reducible refine Kd.C_alloc ?_ _) | (with_reducible refine Kd.C_drewN ?_ _) | (with_reducible refine Kd.C_drew ?_)))
    (case side2 => exact HC0.out)
    rintro e w9 ⟨rfl, hb⟩
    refine ⟨_, rfl, ?_⟩
    have n0_ := Aside0.mk (blk_below (g := gb701) (o := .cells #[.int .i64 s701_0, .int .u32 s701_1] 27 (0, 0)) (by (with_reducible repeat (first | refine blk_drewN ?_ _ | refine blk_drew ?_ | refine blk_alloc ?_ _)); exact BK701.out) hb)
    have n1_ := Aside0.mk (blk_below (g := gb702) (o := .cells #[.int .i64 s702_0] 2 (0, 0)) (by (with_reducible repeat (first | refine blk_drewN ?_ _ | refine blk_drew ?_ | refine blk_alloc ?_ _)); exact BK702.out) hb)
    have n2_ := Aside0.mk (below_step (by repeat (first | (with_reducible first | exact HB.out | apply below_alloc | apply pw_below_drewN | apply below_drew1 | refine below_set ?_ GE701.out | refine below_set ?_ GE702.out) | exact HB.out)) hb)
    clear BK701
    clear BK702
    clear HB
    have BK701 := n0_
    have BK702 := n1_
    have HB := n2_
    clear n0_ n1_ n2_
    (try clear hb)
    (try clear hb2)
    (try clear hk)
    (try clear hi)
    refine hK.out _ _ ⟨(blk_cell BK701.out 0).trans rfl, (blk_cell BK701.out 1).trans rfl⟩ (fun hHeld => ?_)
    clear hK K
    refine norm_ (a' := ?_) ?_ ?_
    rotate_left
    · show Act.put _ (some 7) _ = _
      simp only [Act.put, List.setIfInBounds_toArray, List.set_cons_zero, List.set_cons_succ, i64_w, i32_w]
      rfl
    refine pure_ (i := 4) (N := some 9) (v := ?_) (a' := ?_) #[true, true, true, true, true] rfl rfl (by kernel_rfl) (fun _ _ _ h => h) (Or.inl ⟨by rfl, ?_⟩) ?_ ?_
    rotate_left
    · intro w'
      go_simp
      with_reducible rfl
    rotate_left
    · simp only [Act.put, List.setIfInBounds_toArray, List.set_cons_zero, List.set_cons_succ, i64_w, i32_w]
      rfl
    refine done_ (by kernel_rfl) ?_
    try go_wp2
    go_ret
    exact ⟨rfl, BK702.out, But.of_below HB.out⟩


end Go.Proofs.Ytcepbgffnneagaa.Q
end

section
namespace Go.Proofs.Ytcepbgffnneagaa.Q
open Go.RowKit Go.Proofs.YtcepbgffnneagaaW.PrintWords Go.Proofs.YtcepbgffnneagaaW.PrintLast Go.Proofs.YtcepbgffnneagaaW.PrintMore
attribute [local go_sem] max2_int min2_int max_two min_two max_three min_three max_four min_four   -- for this text's walks alone
set_option linter.unusedVariables false
set_option linter.unusedSimpArgs false

/-- How many of the orders turn the graph into itself, counted on. -/
def selfCb (n e : Int) (l : List Int) (many : Int) : Option (Bool × Int) := if okList l then some (false, if ((l.length : Int) == n && (onI e l == e)) = true then wrap64 (many + 1) else many) else none
def impl_Graph_selves.f (a0_0 a0_1 a1 : Int) : Option Int :=
  if 0 ≤ a1 ∧ a1 ≤ a0_0 ∧ a0_0 ≤ 5 then (lstd (selfCb a0_0 a0_1) a0_0.toNat (a0_0 - a1).toNat (firstI a1.toNat) 0).map fun p => p.2 else none
theorem impl_Graph_selves.step (g1 g3 : Nat) (n e a1 : Int) (b : Bool) (many : Int) (W : World) (hne : g1 ≠ g3) (h1 : W.heap[g1]? = some (.cells #[.int .i64 n, .int .u32 e] 27 (0, 0))) (h3 : W.heap[g3]? = some (.cells #[.int .i64 0] 2 (0, 0)))
    (ok : 0 ≤ a1 ∧ a1 ≤ n ∧ n ≤ 5) (H : lstd (selfCb n e) n.toNat (n - a1).toNat (firstI a1.toNat) 0 = some (b, many)) :
    Calls Try.prog 152 #[.agg #[.int .i64 n, .int .u32 e], .int .i64 a1, .func (.func 156) #[] #[.pointer (some ⟨g1, 0, none⟩), .pointer (some ⟨g3, 0, none⟩)]] W fun r w' => r = .returned (.bool b) ∧ w'.heap[g3]? = some (.cells #[.int .i64 many] 2 (0, 0)) ∧ But (fun k => k = g3) W w' := by
  refine (impl_Graph_orders.state (selfCb n e) (fun many W' => W'.heap[g3]? = some (.cells #[.int .i64 many] 2 (0, 0)) ∧ W'.heap[g1]? = some (.cells #[.int .i64 n, .int .u32 e] 27 (0, 0))) (fun k => k = g3) 156 #[.pointer (some ⟨g1, 0, none⟩), .pointer (some ⟨g3, 0, none⟩)] (EnterF.of Try.func156 (by kernel_rfl) rfl) W (fun k hk => hk ▸ blk_lt h3)
    ⟨fun a W1 W2 h hb => ⟨blk_below h.1 hb, blk_below h.2 hb⟩⟩ ⟨fun l a b a' A c W1 hI hC hc hcb hB => ?_⟩ n e a1 0 b many W ok ⟨h3, h1⟩ (But.refl _ _) H).mono fun r w' h => ⟨h.1, h.2.1.1, h.2.2⟩
  unfold selfCb at hcb
  by_cases hok : okList l
  · rw [if_pos hok] at hcb
    obtain ⟨rfl, rfl⟩ : false = b ∧ (if ((l.length : Int) == n && (onI e l == e)) = true then wrap64 (a + 1) else a) = a' := by simpa only [Option.some.injEq, Prod.mk.injEq] using hcb
    exact (impl_Graph_selves_1.state A c l g1 n e g3 a W1 hne hI.2 hI.1 hC hc hok).mono fun r w' h => ⟨h.1, ⟨h.2.1, h.2.2.blk hI.2 hne⟩, h.2.2⟩
  · rw [if_neg hok] at hcb; cases hcb
set_option maxHeartbeats 8000000 in
set_option maxRecDepth 100000 in
theorem impl_Graph_selves.calls (a0_0 a0_1 a1 : Int) (r : Int) (w : World) (h : impl_Graph_selves.f a0_0 a0_1 a1 = some r) :
    Calls Try.prog 100 #[.agg #[.int .i64 a0_0, .int .u32 a0_1], .int .i64 a1] w fun e w' => e = .returned (.int .i64 r) ∧ Below w.heap.size w w' := by
  have huG := Try.underlying27
  have HB := Aside0.mk (Below.refl w.heap.size w)
  unfold impl_Graph_selves.f at h
  have ok : 0 ≤ a1 ∧ a1 ≤ a0_0 ∧ a0_0 ≤ 5 := by
    by_cases ok : 0 ≤ a1 ∧ a1 ≤ a0_0 ∧ a0_0 ≤ 5
    · exact ok
    · rw [if_neg ok] at h; cases h
  rw [if_pos ok] at h
  obtain ⟨⟨b, many⟩, h1, h2⟩ := Option.map_eq_some_iff.1 h
  obtain rfl : many = r := h2
  have H := Aside0.mk h1
  have OK := Aside0.mk ok
  clear h h1 ok
  go_enter Try.func100, Try.ntmps100
  go_wp2_with (first | ((with_reducible refine gate_dst (N := 2) rfl ?_); refine box_event ?hg (N := 2) ?hd (cs := #[.int .i64 a0_0, .int .u32 a0_1]) (t := 27) ?hr ?_; (case hd => rfl); (case hg => rfl); (case hr => first | (go_simp; done) | (go_simp; rfl)); intro gb583 hg w4 hbox hb; have n0_ := Aside0.mk (below_step (by repeat (first | (with_reducible first | exact HB.out | apply below_alloc | apply pw_below_drewN | apply below_drew1) | exact HB.out)) hb); have n1_ := Aside0.mk (hbox); have n2_ := Aside0.mk ((by rw [hg]; exact (below_size (by repeat (first | (with_reducible first | exact HB.out | apply below_alloc | apply pw_below_drewN | apply below_drew1) | exact HB.out))) : w.heap.size ≤ gb583)); have n3_ := Aside0.mk ((by rw [hg]; exact (below_size (by repeat (first | (with_reducible first | exact HB.out | apply below_alloc | apply pw_below_drewN | apply below_drew1) | exact HB.out))) : w.heap.size ≤ gb583)); clear HB; have HB := n0_; have BK583 := n1_; have GW583 := n2_; have GE583 := n3_; clear n0_ n1_ n2_ n3_; clear hb hbox hg) | ((with_reducible refine gate_dst (N := 5) rfl ?_); refine box_event ?hg (N := 5) ?hd (cs := #[.int .i64 0]) (t := 2) ?hr ?_; (case hd => rfl); (case hg => rfl); (case hr => first | (go_simp; done) | (go_simp; rfl)); intro gb584 hg w5 hbox hb; have n0_ := Aside0.mk (blk_below (g := gb583) (o := .cells #[.int .i64 a0_0, .int .u32 a0_1] 27 (0, 0)) (by (with_reducible repeat (first | refine blk_drewN ?_ _ | refine blk_drew ?_ | refine blk_alloc ?_ _)); exact BK583.out) hb); have n1_ := Aside0.mk (below_step (by repeat (first | (with_reducible first | exact HB.out | apply below_alloc | apply pw_below_drewN | apply below_drew1 | refine below_set ?_ GE583.out) | exact HB.out)) hb); have n2_ := Aside0.mk (hbox); have n3_ := Aside0.mk ((by rw [hg]; exact (below_size (by repeat (first | (with_reducible first | exact HB.out | apply below_alloc | apply pw_below_drewN | apply below_drew1 | refine below_set ?_ GE583.out) | exact HB.out))) : w.heap.size ≤ gb584)); have n4_ := Aside0.mk ((by rw [hg]; exact (below_size (by repeat (first | (with_reducible first | exact HB.out | apply below_alloc | apply pw_below_drewN | apply below_drew1 | refine below_set ?_ GE583.out) | exact HB.out))) : w.heap.size ≤ gb584)); have n5_ := Aside0.mk ((by rw [hg]; exact Nat.ne_of_lt (blk_lt (g := gb583) (o := .cells #[.int .i64 a0_0, .int .u32 a0_1] 27 (0, 0)) (by (with_reducible repeat (first | refine blk_drewN ?_ _ | refine blk_drew ?_ | refine blk_alloc ?_ _)); exact BK583.out)) : gb583 ≠ gb584)); have n6_ := Aside0.mk ((by rw [hg]; exact Nat.ne_of_gt (blk_lt (g := gb583) (o := .cells #[.int .i64 a0_0, .int .u32 a0_1] 27 (0, 0)) (by (with_reducible repeat (first | refine blk_drewN ?_ _ | refine blk_drew ?_ | refine blk_alloc ?_ _)); exact BK583.out)) : gb584 ≠ gb583)); clear BK583; clear HB; have BK583 := n0_; have HB := n1_; have BK584 := n2_; have GW584 := n3_; have GE584 := n4_; have NB583_584 := n5_; have NB584_583 := n6_; clear n0_ n1_ n2_ n3_ n4_ n5_ n6_; clear hb hbox hg; have hnb6 := NB584_583.out; have hnc6 := NB583_584.out; have hcz7_0 : w5.cell? ⟨gb584, 0, none⟩ = some (.int .i64 0) := (blk_cell BK584.out 0).trans rfl; have hfz7_0 := blk_frozen BK584.out 0; have hcz8_0 : w5.cell? ⟨gb583, 0, none⟩ = some (.int .i64 a0_0) := (blk_cell BK583.out 0).trans rfl; have hcz8_1 : w5.cell? ⟨gb583, 1, none⟩ = some (.int .u32 a0_1) := (blk_cell BK583.out 1).trans rfl; have hfz8_0 := blk_frozen BK583.out 0; have hfz8_1 := blk_frozen BK583.out 1) | ((with_reducible refine gate_callee (f := 152) rfl ?_); refine goesL_ (some 9) rfl rfl Try.func152 (by kernel_rfl) rfl #[.agg #[.int .i64 a0_0, .int .u32 a0_1], .int .i64 a1, .func (.func 156) #[] #[.pointer (some ⟨gb583, 0, none⟩), .pointer (some ⟨gb584, 0, none⟩)]] rfl (by (try simp only [List.map_toArray, List.map_cons, List.map_nil]); first | done | rfl | (simp only [List.length_drop, List.length_take]; rfl)) ?_; (refine (impl_Graph_selves.step gb583 gb584 a0_0 a0_1 a1 b many _ NB583_584.out (by (with_reducible repeat (first | refine blk_drewN ?_ _ | refine blk_drew ?_ | refine blk_alloc ?_ _)); refine blk_far ?_ NB583_584.out _; (with_reducible repeat (first | refine blk_drewN ?_ _ | refine blk_drew ?_ | refine blk_alloc ?_ _)); exact BK583.out) (by (with_reducible repeat (first | refine blk_drewN ?_ _ | refine blk_drew ?_ | refine blk_alloc ?_ _)); refine blk_put (cs := #[.int .i64 0]) ?_ 0 _ rfl; (with_reducible repeat (first | refine blk_drewN ?_ _ | refine blk_drew ?_ | refine blk_alloc ?_ _)); exact BK584.out) OK.out H.out).mono ?_); rintro e w9 ⟨rfl, hI_, hb⟩; refine ⟨_, rfl, ?_⟩; have n0_ := Aside0.mk (hb.blk (g := gb583) (o := .cells #[.int .i64 a0_0, .int .u32 a0_1] 27 (0, 0)) (by (with_reducible repeat (first | refine blk_drewN ?_ _ | refine blk_drew ?_ | refine blk_alloc ?_ _)); refine blk_far ?_ NB583_584.out _; (with_reducible repeat (first | refine blk_drewN ?_ _ | refine blk_drew ?_ | refine blk_alloc ?_ _)); exact BK583.out) NB583_584.out); have n1_ := Aside0.mk hI_; have n2_ := Aside0.mk (below_but (by repeat (first | (with_reducible first | exact HB.out | apply below_alloc | apply pw_below_drewN | apply below_drew1 | refine below_set ?_ GE583.out | refine below_set ?_ GE584.out) | exact HB.out)) hb GE584.out); clear BK583; clear BK584; clear HB; have BK583 := n0_; have BK584 := n1_; have HB := n2_; clear n0_ n1_ n2_; clear hb hI_; have hcz10_0 : w9.cell? ⟨gb584, 0, none⟩ = some (.int .i64 many) := (blk_cell BK584.out 0).trans rfl; have hfz10_0 := blk_frozen BK584.out 0))
  go_ret
  exact ⟨by first | rfl | (simp [errW_none, errW_some] <;> rfl) | (simp [*, errW_none, errW_some] <;> rfl), by repeat (first | (with_reducible first | exact HB.out | apply below_alloc | apply pw_below_drewN | apply below_drew1 | refine below_set ?_ GE583.out | refine below_set ?_ GE584.out) | exact HB.out)⟩


end Go.Proofs.Ytcepbgffnneagaa.Q
end

section
namespace Go.Proofs.Ytcepbgffnneagaa.Q
open Go.RowKit Go.Proofs.YtcepbgffnneagaaW.PrintWords Go.Proofs.YtcepbgffnneagaaW.PrintLast Go.Proofs.YtcepbgffnneagaaW.PrintMore
attribute [local go_sem] max2_int min2_int max_two min_two max_three min_three max_four min_four   -- for this text's walks alone
set_option linter.unusedVariables false
set_option linter.unusedSimpArgs false

def impl_CountSelf.f (a0_0 : Int) (a0_1 : Int) : Option (Int × Int) := (impl_ValidGraph.f a0_0 a0_1).bind fun t918 => (if t918 = true then ((impl_Graph_selves.f a0_0 a0_1 0).bind fun t919 => (some (t919, 0))) else (some (0, 1)))
set_option maxHeartbeats 8000000 in
set_option maxRecDepth 100000 in
theorem impl_CountSelf.calls (a0_0 : Int) (a0_1 : Int) (r1 : Int) (r2 : Int) (w : World) (h : impl_CountSelf.f a0_0 a0_1 = some (r1, r2)) :
    Calls Try.prog 44 #[.agg #[.int .i64 a0_0, .int .u32 a0_1]] w fun e w' => e = .returned (.tuple #[.int .i64 r1, .int .i64 r2]) ∧ Below w.heap.size w w' := by
  have hu27 := Try.underlying27
  have HB := Aside0.mk (Below.refl w.heap.size w)
  have H : ((impl_ValidGraph.f a0_0 a0_1).bind fun t918 => (if t918 = true then ((impl_Graph_selves.f a0_0 a0_1 0).bind fun t919 => (some (t919, 0))) else (some (0, 1)))) = some (r1, r2) := h
  clear h
  replace H := Option.bind_eq_some_iff.mp H
  obtain ⟨t918, A20, H⟩ := H
  replace H : (if t918 = true then ((impl_Graph_selves.f a0_0 a0_1 0).bind fun t919 => (some (t919, 0))) else (some (0, 1))) = some (r1, r2) := H
  have A2 := Aside0.mk A20
  clear A20
  by_cases c3 : t918 = true
  · subst c3
    have H1 : ((impl_Graph_selves.f a0_0 a0_1 0).bind fun t919 => (some (t919, 0))) = some (r1, r2) := by rw [if_pos rfl] at H; exact H
    clear H
    have H := H1
    clear H1
    replace H := Option.bind_eq_some_iff.mp H
    obtain ⟨t919, A40, H⟩ := H
    replace H : (some (t919, 0)) = some (r1, r2) := H
    have A4 := Aside0.mk A40
    clear A40
    simp only [Option.some.injEq, Prod.mk.injEq] at H
    obtain ⟨rfl, rfl⟩ := H
    go_enter Try.func44, Try.ntmps44
    go_wp2_with (first | ((with_reducible refine gate_dst (N := 1) rfl ?_); refine box_event ?hg (N := 1) ?hd (cs := #[.int .i64 a0_0, .int .u32 a0_1]) (t := 27) ?hr ?_; (case hd => rfl); (case hg => rfl); (case hr => first | (go_simp; done) | (go_simp; rfl)); intro gb917 hg w5 hbox hb; have n0_ := Aside0.mk (below_step (by repeat (first | (with_reducible first | exact HB.out | apply below_alloc | apply pw_below_drewN | apply below_drew1) | exact HB.out)) hb); have n1_ := Aside0.mk (hbox); have n2_ := Aside0.mk ((by rw [hg]; exact (below_size (by repeat (first | (with_reducible first | exact HB.out | apply below_alloc | apply pw_below_drewN | apply below_drew1) | exact HB.out))) : w.heap.size ≤ gb917)); have n3_ := Aside0.mk ((by rw [hg]; exact (below_size (by repeat (first | (with_reducible first | exact HB.out | apply below_alloc | apply pw_below_drewN | apply below_drew1) | exact HB.out))) : w.heap.size ≤ gb917)); clear HB; have HB := n0_; have BK917 := n1_; have GW917 := n2_; have GE917 := n3_; clear n0_ n1_ n2_ n3_; clear hb hbox hg; have hcz6_0 : w5.cell? ⟨gb917, 0, none⟩ = some (.int .i64 a0_0) := (blk_cell BK917.out 0).trans rfl; have hcz6_1 : w5.cell? ⟨gb917, 1, none⟩ = some (.int .u32 a0_1) := (blk_cell BK917.out 1).trans rfl; have hfz6_0 := blk_frozen BK917.out 0; have hfz6_1 := blk_frozen BK917.out 1) | ((with_reducible refine gate_callee (f := 62) rfl ?_); refine goesL_ (some 5) rfl rfl Try.func62 (by kernel_rfl) rfl #[.agg #[.int .i64 a0_0, .int .u32 a0_1]] rfl (by (try simp only [List.map_toArray, List.map_cons, List.map_nil]); first | done | rfl | (simp only [List.length_drop, List.length_take]; rfl)) ?_; (with_reducible refine (impl_ValidGraph.calls a0_0 a0_1 true _ A2.out).mono ?_); rintro e w7 ⟨rfl, hb⟩; refine ⟨_, rfl, ?_⟩; have n0_ := Aside0.mk (blk_below (g := gb917) (o := .cells #[.int .i64 a0_0, .int .u32 a0_1] 27 (0, 0)) (by (with_reducible repeat (first | refine blk_drewN ?_ _ | refine blk_drew ?_ | refine blk_alloc ?_ _)); exact BK917.out) hb); have n1_ := Aside0.mk (below_step (by repeat (first | (with_reducible first | exact HB.out | apply below_alloc | apply pw_below_drewN | apply below_drew1 | refine below_set ?_ GE917.out) | exact HB.out)) hb); clear BK917; clear HB; have BK917 := n0_; have HB := n1_; clear n0_ n1_; (try clear hb); (try clear hb2); (try clear hk); (try clear hi); have hcz8_0 : w7.cell? ⟨gb917, 0, none⟩ = some (.int .i64 a0_0) := (blk_cell BK917.out 0).trans rfl; have hcz8_1 : w7.cell? ⟨gb917, 1, none⟩ = some (.int .u32 a0_1) := (blk_cell BK917.out 1).trans rfl; have hfz8_0 := blk_frozen BK917.out 0; have hfz8_1 := blk_frozen BK917.out 1) | ((with_reducible refine gate_callee (f := 100) rfl ?_); refine goesL_ (some 8) rfl rfl Try.func100 (by kernel_rfl) rfl #[.agg #[.int .i64 a0_0, .int .u32 a0_1], .int .i64 0] rfl (by (try simp only [List.map_toArray, List.map_cons, List.map_nil]); first | done | rfl | (simp only [List.length_drop, List.length_take]; rfl)) ?_; (with_reducible refine (impl_Graph_selves.calls a0_0 a0_1 0 t919 _ A4.out).mono ?_); rintro e w9 ⟨rfl, hb⟩; refine ⟨_, rfl, ?_⟩; have n0_ := Aside0.mk (blk_below (g := gb917) (o := .cells #[.int .i64 a0_0, .int .u32 a0_1] 27 (0, 0)) (by (with_reducible repeat (first | refine blk_drewN ?_ _ | refine blk_drew ?_ | refine blk_alloc ?_ _)); exact BK917.out) hb); have n1_ := Aside0.mk (below_step (by repeat (first | (with_reducible first | exact HB.out | apply below_alloc | apply pw_below_drewN | apply below_drew1 | refine below_set ?_ GE917.out) | exact HB.out)) hb); clear BK917; clear HB; have BK917 := n0_; have HB := n1_; clear n0_ n1_; (try clear hb); (try clear hb2); (try clear hk); (try clear hi)))
    go_ret2
    exact ⟨by first | rfl | (simp [errW_none, errW_some] <;> rfl) | (simp [*, errW_none, errW_some] <;> rfl), by repeat (first | (with_reducible first | exact HB.out | apply below_alloc | apply pw_below_drewN | apply below_drew1 | refine below_set ?_ GE917.out) | exact HB.out)⟩
  · replace c3 := Bool.eq_false_iff.mpr c3
    subst c3
    have H1 : (some (0, 1)) = some (r1, r2) := by rw [if_neg (show ¬ (false = true) by decide)] at H; exact H
    clear H
    have H := H1
    clear H1
    simp only [Option.some.injEq, Prod.mk.injEq] at H
    obtain ⟨rfl, rfl⟩ := H
    go_enter Try.func44, Try.ntmps44
    go_wp2_with (first | ((with_reducible refine gate_dst (N := 1) rfl ?_); refine box_event ?hg (N := 1) ?hd (cs := #[.int .i64 a0_0, .int .u32 a0_1]) (t := 27) ?hr ?_; (case hd => rfl); (case hg => rfl); (case hr => first | (go_simp; done) | (go_simp; rfl)); intro gb917 hg w10 hbox hb; have n0_ := Aside0.mk (below_step (by repeat (first | (with_reducible first | exact HB.out | apply below_alloc | apply pw_below_drewN | apply below_drew1) | exact HB.out)) hb); have n1_ := Aside0.mk (hbox); have n2_ := Aside0.mk ((by rw [hg]; exact (below_size (by repeat (first | (with_reducible first | exact HB.out | apply below_alloc | apply pw_below_drewN | apply below_drew1) | exact HB.out))) : w.heap.size ≤ gb917)); have n3_ := Aside0.mk ((by rw [hg]; exact (below_size (by repeat (first | (with_reducible first | exact HB.out | apply below_alloc | apply pw_below_drewN | apply below_drew1) | exact HB.out))) : w.heap.size ≤ gb917)); clear HB; have HB := n0_; have BK917 := n1_; have GW917 := n2_; have GE917 := n3_; clear n0_ n1_ n2_ n3_; clear hb hbox hg; have hcz11_0 : w10.cell? ⟨gb917, 0, none⟩ = some (.int .i64 a0_0) := (blk_cell BK917.out 0).trans rfl; have hcz11_1 : w10.cell? ⟨gb917, 1, none⟩ = some (.int .u32 a0_1) := (blk_cell BK917.out 1).trans rfl; have hfz11_0 := blk_frozen BK917.out 0; have hfz11_1 := blk_frozen BK917.out 1) | ((with_reducible refine gate_callee (f := 62) rfl ?_); refine goesL_ (some 5) rfl rfl Try.func62 (by kernel_rfl) rfl #[.agg #[.int .i64 a0_0, .int .u32 a0_1]] rfl (by (try simp only [List.map_toArray, List.map_cons, List.map_nil]); first | done | rfl | (simp only [List.length_drop, List.length_take]; rfl)) ?_; (with_reducible refine (impl_ValidGraph.calls a0_0 a0_1 false _ A2.out).mono ?_); rintro e w12 ⟨rfl, hb⟩; refine ⟨_, rfl, ?_⟩; have n0_ := Aside0.mk (blk_below (g := gb917) (o := .cells #[.int .i64 a0_0, .int .u32 a0_1] 27 (0, 0)) (by (with_reducible repeat (first | refine blk_drewN ?_ _ | refine blk_drew ?_ | refine blk_alloc ?_ _)); exact BK917.out) hb); have n1_ := Aside0.mk (below_step (by repeat (first | (with_reducible first | exact HB.out | apply below_alloc | apply pw_below_drewN | apply below_drew1 | refine below_set ?_ GE917.out) | exact HB.out)) hb); clear BK917; clear HB; have BK917 := n0_; have HB := n1_; clear n0_ n1_; (try clear hb); (try clear hb2); (try clear hk); (try clear hi)))
    go_ret2
    exact ⟨by first | rfl | (simp [errW_none, errW_some] <;> rfl) | (simp [*, errW_none, errW_some] <;> rfl), by repeat (first | (with_reducible first | exact HB.out | apply below_alloc | apply pw_below_drewN | apply below_drew1 | refine below_set ?_ GE917.out) | exact HB.out)⟩

end Go.Proofs.Ytcepbgffnneagaa.Q
end
