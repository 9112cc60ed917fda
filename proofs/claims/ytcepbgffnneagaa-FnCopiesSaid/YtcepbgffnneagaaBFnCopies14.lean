/- Contracts of Go functions and plain lemmas over what they compute; printed by the kit's print program or written by hand, joined. -/
import Derived.Test.YtcepbgffnneagaaBFnCopies3
import Derived.Test.YtcepbgffnneagaaBFnCopies8
import Derived.Test.YtcepbgffnneagaaBFnCopies9
import Derived.Test.YtcepbgffnneagaaBFnCopies10
import Derived.Test.YtcepbgffnneagaaBFnCopies11
import Derived.Test.YtcepbgffnneagaaBFnCopies12
import Derived.Test.YtcepbgffnneagaaBFnCopies13
section
namespace Go.Proofs.Ytcepbgffnneagaa.Q
open Go.RowKit Go.Proofs.YtcepbgffnneagaaW.PrintWords Go.Proofs.YtcepbgffnneagaaW.PrintLast Go.Proofs.YtcepbgffnneagaaW.PrintMore
attribute [local go_sem] max2_int min2_int max_two min_two max_three min_three max_four min_four   -- for this text's walks alone
set_option linter.unusedVariables false
set_option linter.unusedSimpArgs false

mutual
noncomputable def laws_FnCopies.j0 : Nat → List Int → Int → Int → Int → Int → Option (Bool)
  | 0, _, _, _, _, _ => none
  | k + 1, x1, x5, x7, x850000, x850001 => (impl_AllGraphs.f k x7).bind fun bt851 => ((impl_OppositeGraph.f k x850000 x850001).bind fun bt855 => (if bt851.2 = 0 then (laws_FnCopies.j1 k x1 x5 x7 bt851.1 (bt855.2.2 != 0) x850000 x850001 bt855.1 bt855.2.1) else (laws_FnCopies.j1 k x1 x5 x7 bt851.1 true x850000 x850001 bt855.1 bt855.2.1)))
noncomputable def laws_FnCopies.j1 : Nat → List Int → Int → Int → List (S27) → Bool → Int → Int → Int → Int → Option (Bool)
  | 0, _, _, _, _, _, _, _, _, _ => none
  | k + 1, x1, x5, x7, x8, x58, x850000, x850001, x859000, x859001 => if x58 = true then (some false) else (laws_FnCopies.l0 k x1 x5 x7 x8 0 0 x850000 x850001 x859000 x859001)
noncomputable def laws_FnCopies.l0 : Nat → List Int → Int → Int → List (S27) → Int → Int → Int → Int → Int → Int → Option (Bool)
  | 0, _, _, _, _, _, _, _, _, _, _ => none
  | k + 1, x1, x5, x7, x8, x12, x13, x850000, x850001, x859000, x859001 => if x13 < (x8.length : Int) then (if 0 ≤ x13 then ((impl_CountCopies.f ((rd_T27 x8 x13).f0) ((rd_T27 x8 x13).f1) x850000 x850001).bind fun bt860 => ((impl_OppositeGraph.f k ((rd_T27 x8 x13).f0) ((rd_T27 x8 x13).f1)).bind fun bt863 => ((impl_CountCopies.f bt863.1 bt863.2.1 x859000 x859001).bind fun bt867 => ((impl_HasPart.f x850000 x850001 ((rd_T27 x8 x13).f0) ((rd_T27 x8 x13).f1)).bind fun bt870 => (if bt860.2 = 0 then (if bt863.2.2 = 0 then (if bt867.2 = 0 then (if bt860.1 = bt867.1 then (if bt870.2 = 0 then (if bt860.1 > 0 then (if bt870.1 = true then (laws_FnCopies.l0 k x1 x5 x7 x8 (wrap64 (x12 + bt860.1)) (wrap64 (x13 + 1)) x850000 x850001 x859000 x859001) else (some false)) else (laws_FnCopies.l0 k x1 x5 x7 x8 (wrap64 (x12 + bt860.1)) (wrap64 (x13 + 1)) x850000 x850001 x859000 x859001)) else (some false)) else (some false)) else (some false)) else (some false)) else (some false)))))) else (none)) else (laws_FnCopies.l1 k x1 x5 x7 x12 1 0 x850000 x850001)
noncomputable def laws_FnCopies.l1 : Nat → List Int → Int → Int → Int → Int → Int → Int → Int → Option (Bool)
  | 0, _, _, _, _, _, _, _, _ => none
  | k + 1, x1, x5, x7, x12, x22, x23, x850000, x850001 => if x23 < x7 then (if (wrap64 (x23 + 1)) = 0 then (none) else (laws_FnCopies.l1 k x1 x5 x7 x12 (wrap64 (Int.tdiv (wrap64 (x22 * (wrap64 (x5 - x23)))) (wrap64 (x23 + 1)))) (wrap64 (x23 + 1)) x850000 x850001)) else ((spec_A2Order.f k x1 x5).bind fun t872 => (if 0 ≤ x7 then (if x7 ≤ (t872.length : Int) then ((impl_InducedOn.f x850000 x850001 (t872.take (x7 : Int).toNat)).bind fun bt879 => ((impl_CountCopies.f bt879.1 bt879.2.1 x850000 x850001).bind fun bt883 => (if x12 = x22 then (if bt879.2.2 = 0 then (if bt883.2 = 0 then (some (decide (bt883.1 ≥ 1))) else (some false)) else (some false)) else (some false)))) else (none)) else (none)))
end
noncomputable def laws_FnCopies.f (k : Nat) (l0 : List Int) (l1 : List Int) : Option (Bool) := (laws_a2Long.f l0 l1).bind fun t845 => (if t845 = true then (some true) else ((laws_a2At.f l1 0 6).bind fun t846 => ((spec_A2Graph.f l0 t846).bind fun bt847 => ((laws_a2At.f l1 1 5).bind fun t850 => (if t850 > t846 then (laws_FnCopies.j0 k l1 t846 t846 bt847.1 bt847.2) else (laws_FnCopies.j0 k l1 t846 t850 bt847.1 bt847.2))))))
noncomputable def laws_FnCopies.T16 : Bool × List (List Nat × List Nat) := (true, [([], []), ([], []), ([0, 1], [0, 1]), ([2], [2]), ([], []), ([3, 4], [3, 4]), ([5], [5]), ([6], [6]), ([6], [6]), ([7, 5, 0, 1, 2, 3, 4, 5, 6, 7], [7]), ([8, 9, 0, 1, 2, 3, 4, 5, 6, 7, 8, 9], [8])])
noncomputable def laws_FnCopies.B16 : List Nat := [0, 0, 3, 7, 0, 31, 63, 127, 127, 255, 1023]
theorem laws_FnCopies.tab16 : rtab .any (opsOf Try.f9 16) = laws_FnCopies.T16 := by kernel_rfl
theorem laws_FnCopies.bits16 : waitsOk laws_FnCopies.T16.2 laws_FnCopies.B16 = true := by kernel_rfl
noncomputable def laws_FnCopies.T19 : Bool × List (List Nat × List Nat) := (true, [([], []), ([], []), ([], []), ([1, 2], [1, 2]), ([3], [3]), ([0, 4], [0, 4]), ([5], [5]), ([6], [6]), ([6], [6]), ([7, 5, 0, 1, 2, 3, 4, 5, 6, 7], [7]), ([8, 9, 0, 1, 2, 3, 4, 5, 6, 7, 8, 9], [8])])
noncomputable def laws_FnCopies.B19 : List Nat := [0, 0, 0, 6, 14, 31, 63, 127, 127, 255, 1023]
theorem laws_FnCopies.tab19 : rtab .any (opsOf Try.f9 19) = laws_FnCopies.T19 := by kernel_rfl
theorem laws_FnCopies.bits19 : waitsOk laws_FnCopies.T19.2 laws_FnCopies.B19 = true := by kernel_rfl
noncomputable def laws_FnCopies.T29 : Bool × List (List Nat × List Nat) := (true, [([], []), ([], []), ([], []), ([1, 2], [1, 2]), ([0, 3], [0, 3]), ([4], [4]), ([5], [5]), ([5], [5]), ([], []), ([8, 6, 4, 0, 1, 2, 3, 4, 5, 6, 8], [6, 8]), ([7, 9, 0, 1, 2, 3, 4, 5, 6, 7, 8, 9], [7])])
noncomputable def laws_FnCopies.B29 : List Nat := [0, 0, 0, 6, 15, 31, 63, 63, 0, 383, 1023]
theorem laws_FnCopies.tab29 : rtab .any (opsOf Try.f9 29) = laws_FnCopies.T29 := by kernel_rfl
theorem laws_FnCopies.bits29 : waitsOk laws_FnCopies.T29.2 laws_FnCopies.B29 = true := by kernel_rfl
theorem laws_FnCopies.j1_no (k : Nat) (x1 : List Int) (x5 : Int) (x7 : Int) (x8 : List (S27)) (x850000 : Int) (x850001 : Int) (x859000 : Int) (x859001 : Int) : laws_FnCopies.j1 k x1 x5 x7 x8 true x850000 x850001 x859000 x859001 ≠ some true := by cases k <;> simp [laws_FnCopies.j1]
set_option maxHeartbeats 8000000 in
set_option maxRecDepth 100000 in
theorem laws_FnCopies.calls (k : Nat) (A0 : Option Addr) (c0 : Nat) (l0 : List Int) (A1 : Option Addr) (c1 : Nat) (l1 : List Int) (r : Bool) (w : World) (hr0 : Kd.C (Kd.int .u8) w A0 l0.length l0) (hc0 : l0.length ≤ c0) (hr1 : Kd.C (Kd.int .u8) w A1 l1.length l1) (hc1 : l1.length ≤ c1) (h : laws_FnCopies.f k l0 l1 = some true) :
    Calls Try.prog 9 #[.slice A0 l0.length c0, .slice A1 l1.length c1] w fun e w' => e = .returned (.bool true) ∧ Below w.heap.size w w' := by
  have hu27 := Try.underlying27
  have HR0 := Aside0.mk hr0
  have HC0 := Aside0.mk hc0
  clear hr0 hc0
  have HR1 := Aside0.mk hr1
  have HC1 := Aside0.mk hc1
  clear hr1 hc1
  have HB := Aside0.mk (Below.refl w.heap.size w)
  have H : ((laws_a2Long.f l0 l1).bind fun t845 => (if t845 = true then (some true) else ((laws_a2At.f l1 0 6).bind fun t846 => ((spec_A2Graph.f l0 t846).bind fun bt847 => ((laws_a2At.f l1 1 5).bind fun t850 => (if t850 > t846 then (laws_FnCopies.j0 k l1 t846 t846 bt847.1 bt847.2) else (laws_FnCopies.j0 k l1 t846 t850 bt847.1 bt847.2))))))) = some true := h
  clear h
  replace H := Option.bind_eq_some_iff.mp H
  obtain ⟨t845, A30, H⟩ := H
  replace H : (if t845 = true then (some true) else ((laws_a2At.f l1 0 6).bind fun t846 => ((spec_A2Graph.f l0 t846).bind fun bt847 => ((laws_a2At.f l1 1 5).bind fun t850 => (if t850 > t846 then (laws_FnCopies.j0 k l1 t846 t846 bt847.1 bt847.2) else (laws_FnCopies.j0 k l1 t846 t850 bt847.1 bt847.2)))))) = some true := H
  have A3 := Aside0.mk A30
  clear A30
  by_cases c4 : t845 = true
  · subst c4
    have H1 : (some true) = some true := rfl
    clear H
    have H := H1
    clear H1
    clear H
    go_enter Try.func9, Try.ntmps9
    go_wp2_with (first | ((with_reducible refine gate_callee (f := 31) rfl ?_); refine goesL_ (some 31) rfl rfl Try.func31 (by kernel_rfl) rfl #[.slice A0 l0.length c0, .slice A1 l1.length c1] rfl (by (try simp only [List.map_toArray, List.map_cons, List.map_nil]); first | done | rfl | (simp only [List.length_drop, List.length_take]; rfl)) ?_; (with_reducible refine (laws_a2Long.calls _ _ l0 _ _ l1 true _ ?side1 ?side2 ?side3 ?side4 A3.out).mono ?_); (case side1 => repeat (first | exact HR0.out | (with_reducible refine Kd.C_alloc ?_ _) | (with_reducible refine Kd.C_drewN ?_ _) | (with_reducible refine Kd.C_drew ?_))); (case side2 => exact HC0.out); (case side3 => repeat (first | exact HR1.out | (with_reducible refine Kd.C_alloc ?_ _) | (with_reducible refine Kd.C_drewN ?_ _) | (with_reducible refine Kd.C_drew ?_))); (case side4 => exact HC1.out); rintro e w' ⟨rfl, ⟨nd, rfl⟩⟩; refine ⟨_, rfl, ?_⟩))
    go_ret
    exact ⟨by first | rfl | (simp [errW_none, errW_some] <;> rfl) | (simp [*, errW_none, errW_some] <;> rfl), by repeat (first | (with_reducible first | exact HB.out | apply below_alloc | apply pw_below_drewN | apply below_drew1) | exact HB.out)⟩
  · replace c4 := Bool.eq_false_iff.mpr c4
    subst c4
    have H1 : ((laws_a2At.f l1 0 6).bind fun t846 => ((spec_A2Graph.f l0 t846).bind fun bt847 => ((laws_a2At.f l1 1 5).bind fun t850 => (if t850 > t846 then (laws_FnCopies.j0 k l1 t846 t846 bt847.1 bt847.2) else (laws_FnCopies.j0 k l1 t846 t850 bt847.1 bt847.2))))) = some true := by rw [if_neg (show ¬ (false = true) by decide)] at H; exact H
    clear H
    have H := H1
    clear H1
    replace H := Option.bind_eq_some_iff.mp H
    obtain ⟨t846, A50, H⟩ := H
    replace H : ((spec_A2Graph.f l0 t846).bind fun bt847 => ((laws_a2At.f l1 1 5).bind fun t850 => (if t850 > t846 then (laws_FnCopies.j0 k l1 t846 t846 bt847.1 bt847.2) else (laws_FnCopies.j0 k l1 t846 t850 bt847.1 bt847.2)))) = some true := H
    have A5 := Aside0.mk A50
    clear A50
    replace H := Option.bind_eq_some_iff.mp H
    obtain ⟨⟨t847, t848⟩, A60, H⟩ := H
    replace H : ((laws_a2At.f l1 1 5).bind fun t850 => (if t850 > t846 then (laws_FnCopies.j0 k l1 t846 t846 t847 t848) else (laws_FnCopies.j0 k l1 t846 t850 t847 t848))) = some true := H
    have A6 := Aside0.mk A60
    clear A60
    replace H := Option.bind_eq_some_iff.mp H
    obtain ⟨t850, A70, H⟩ := H
    replace H : (if t850 > t846 then (laws_FnCopies.j0 k l1 t846 t846 t847 t848) else (laws_FnCopies.j0 k l1 t846 t850 t847 t848)) = some true := H
    have A7 := Aside0.mk A70
    clear A70
    have HC8 := Aside0.mk H
    clear H
    go_enter Try.func9, Try.ntmps9
    go_upto_if 41 with (first | ((with_reducible refine gate_callee (f := 31) rfl ?_); refine goesL_ (some 31) rfl rfl Try.func31 (by kernel_rfl) rfl #[.slice A0 l0.length c0, .slice A1 l1.length c1] rfl (by (try simp only [List.map_toArray, List.map_cons, List.map_nil]); first | done | rfl | (simp only [List.length_drop, List.length_take]; rfl)) ?_; (with_reducible refine (laws_a2Long.calls _ _ l0 _ _ l1 false _ ?side1 ?side2 ?side3 ?side4 A3.out).mono ?_); (case side1 => repeat (first | exact HR0.out | (with_reducible refine Kd.C_alloc ?_ _) | (with_reducible refine Kd.C_drewN ?_ _) | (with_reducible refine Kd.C_drew ?_))); (case side2 => exact HC0.out); (case side3 => repeat (first | exact HR1.out | (with_reducible refine Kd.C_alloc ?_ _) | (with_reducible refine Kd.C_drewN ?_ _) | (with_reducible refine Kd.C_drew ?_))); (case side4 => exact HC1.out); rintro e w' ⟨rfl, ⟨nd, rfl⟩⟩; refine ⟨_, rfl, ?_⟩) | ((with_reducible refine gate_callee (f := 32) rfl ?_); refine goesL_ (some 33) rfl rfl Try.func32 (by kernel_rfl) rfl #[.slice A1 l1.length c1, .int .i64 0, .int .i64 6] rfl (by (try simp only [List.map_toArray, List.map_cons, List.map_nil]); first | done | rfl | (simp only [List.length_drop, List.length_take]; rfl)) ?_; (with_reducible refine (laws_a2At.calls _ _ l1 0 6 t846 _ ?side1 ?side2 A5.out).mono ?_); (case side1 => repeat (first | exact HR1.out | (with_reducible refine Kd.C_alloc ?_ _) | (with_reducible refine Kd.C_drewN ?_ _) | (with_reducible refine Kd.C_drew ?_))); (case side2 => exact HC1.out); rintro e w' ⟨rfl, ⟨nd, rfl⟩⟩; refine ⟨_, rfl, ?_⟩) | ((with_reducible refine gate_callee (f := 33) rfl ?_); refine goesL_ (some 36) rfl rfl Try.func33 (by kernel_rfl) rfl #[.slice A0 l0.length c0, .int .i64 t846] rfl (by (try simp only [List.map_toArray, List.map_cons, List.map_nil]); first | done | rfl | (simp only [List.length_drop, List.length_take]; rfl)) ?_; (with_reducible refine (spec_A2Graph.calls _ _ l0 t846 t847 t848 _ ?side1 ?side2 A6.out).mono ?_); (case side1 => repeat (first | exact HR0.out | (with_reducible refine Kd.C_alloc ?_ _) | (with_reducible refine Kd.C_drewN ?_ _) | (with_reducible refine Kd.C_drew ?_))); (case side2 => exact HC0.out); rintro e w9 ⟨rfl, hb⟩; refine ⟨_, rfl, ?_⟩; have n0_ := Aside0.mk (below_step (by repeat (first | (with_reducible first | exact HB.out | apply below_alloc | apply pw_below_drewN | apply below_drew1) | exact HB.out)) hb); clear HB; have HB := n0_; clear n0_; (try clear hb); (try clear hb2); (try clear hk); (try clear hi)) | ((with_reducible refine gate_dst (N := 6) rfl ?_); refine box_event ?hg (N := 6) ?hd (cs := #[.int .i64 0, .int .u32 0]) (t := 27) ?hr ?_; (case hd => rfl); (case hg => rfl); (case hr => first | (go_simp; done) | (go_simp; rfl)); intro gb849 hg w10 hbox hb; have n0_ := Aside0.mk (below_step (by repeat (first | (with_reducible first | exact HB.out | apply below_alloc | apply pw_below_drewN | apply below_drew1) | exact HB.out)) hb); have n1_ := Aside0.mk (hbox); have n2_ := Aside0.mk ((by rw [hg]; exact (below_size (by repeat (first | (with_reducible first | exact HB.out | apply below_alloc | apply pw_below_drewN | apply below_drew1) | exact HB.out))) : w.heap.size ≤ gb849)); have n3_ := Aside0.mk ((by rw [hg]; exact (below_size (by repeat (first | (with_reducible first | exact HB.out | apply below_alloc | apply pw_below_drewN | apply below_drew1) | exact HB.out))) : w.heap.size ≤ gb849)); clear HB; have HB := n0_; have BK849 := n1_; have GW849 := n2_; have GE849 := n3_; clear n0_ n1_ n2_ n3_; clear hb hbox hg; have hcz11_0 : w10.cell? ⟨gb849, 0, none⟩ = some (.int .i64 0) := (blk_cell BK849.out 0).trans rfl; have hcz11_1 : w10.cell? ⟨gb849, 1, none⟩ = some (.int .u32 0) := (blk_cell BK849.out 1).trans rfl; have hfz11_0 := blk_frozen BK849.out 0; have hfz11_1 := blk_frozen BK849.out 1) | ((with_reducible refine gate_callee (f := 32) rfl ?_); refine goesL_ (some 38) rfl rfl Try.func32 (by kernel_rfl) rfl #[.slice A1 l1.length c1, .int .i64 1, .int .i64 5] rfl (by (try simp only [List.map_toArray, List.map_cons, List.map_nil]); first | done | rfl | (simp only [List.length_drop, List.length_take]; rfl)) ?_; (with_reducible refine (laws_a2At.calls _ _ l1 1 5 t850 _ ?side1 ?side2 A7.out).mono ?_); (case side1 => exact Kd.C_below HR1.out (by repeat (first | (with_reducible first | exact HB.out | apply below_alloc | apply pw_below_drewN | apply below_drew1 | refine below_set ?_ GE849.out) | exact HB.out))); (case side2 => exact HC1.out); rintro e w' ⟨rfl, ⟨nd, rfl⟩⟩; refine ⟨_, rfl, ?_⟩))
    (try simp only [Act.put, List.setIfInBounds_toArray, List.set_cons_zero, List.set_cons_succ])
    go_cut [7] (fun v7 wc => ∃ (kq : Nat) (x7_7 : Int), v7 = .int .i64 x7_7 ∧ Aside0 (laws_FnCopies.j0 kq l1 t846 x7_7 t847 t848 = some true) ∧ Aside0 (kq ≤ k) ∧ Aside0 (wc.heap[gb849]? = some (.cells #[.int .i64 t847, .int .u32 t848] 27 (0, 0))) ∧ Aside0 (Below w.heap.size w wc))
    case first =>
      have H := HC8.out
      clear HC8
      by_cases c12 : t850 > t846
      · rw [if_pos c12] at H
        have c12b0 : decide (t846 < t850) = true := decide_eq_true c12
        clear c12
        (first | rw [c12b0] | (simp only [i64_w, i32_w]; rw [c12b0]) | skip)
        have H' := Aside0.mk H
        clear H
        go_wp2
        go_meet
        case rel => exact ⟨_, (t846), (by first | rfl | (simp; done) | (simp [*]; done)), H', ⟨by first | omega | exact Nat.le_refl _⟩, ⟨by (with_reducible repeat (first | refine blk_drewN ?_ _ | refine blk_drew ?_ | refine blk_alloc ?_ _)); refine blk_put (cs := #[.int .i64 t847, .int .u32 0]) ?_ 1 _ rfl; (with_reducible repeat (first | refine blk_drewN ?_ _ | refine blk_drew ?_ | refine blk_alloc ?_ _)); refine blk_put (cs := #[.int .i64 0, .int .u32 0]) ?_ 0 _ rfl; (with_reducible repeat (first | refine blk_drewN ?_ _ | refine blk_drew ?_ | refine blk_alloc ?_ _)); exact BK849.out⟩, ⟨by repeat (first | (with_reducible first | exact HB.out | apply below_alloc | apply pw_below_drewN | apply below_drew1 | refine below_set ?_ GE849.out) | exact HB.out)⟩⟩
      · rw [if_neg c12] at H
        have c12b0 : decide (t846 < t850) = false := decide_eq_false c12
        clear c12
        (first | rw [c12b0] | (simp only [i64_w, i32_w]; rw [c12b0]) | skip)
        have H' := Aside0.mk H
        clear H
        go_wp2
        go_meet
        case rel => exact ⟨_, (t850), (by first | rfl | (simp; done) | (simp [*]; done)), H', ⟨by first | omega | exact Nat.le_refl _⟩, ⟨by (with_reducible repeat (first | refine blk_drewN ?_ _ | refine blk_drew ?_ | refine blk_alloc ?_ _)); refine blk_put (cs := #[.int .i64 t847, .int .u32 0]) ?_ 1 _ rfl; (with_reducible repeat (first | refine blk_drewN ?_ _ | refine blk_drew ?_ | refine blk_alloc ?_ _)); refine blk_put (cs := #[.int .i64 0, .int .u32 0]) ?_ 0 _ rfl; (with_reducible repeat (first | refine blk_drewN ?_ _ | refine blk_drew ?_ | refine blk_alloc ?_ _)); exact BK849.out⟩, ⟨by repeat (first | (with_reducible first | exact HB.out | apply below_alloc | apply pw_below_drewN | apply below_drew1 | refine below_set ?_ GE849.out) | exact HB.out)⟩⟩
    case rest =>
      clear HC8
      try clear c1
      try clear p2
      try clear c3
      try clear c4
      try clear c9
      try clear c12
      try clear c12b0
      try clear hcz11_0
      try clear hcz11_1
      try clear hfz11_0
      try clear hfz11_1
      obtain ⟨kq, x7_7, rfl, HA, HJ7, BK849, HB⟩ := hcut
      cases kq with
      | zero => exact absurd HA.out (by simp [laws_FnCopies.j0])
      | succ kj7 =>
        have H := HA.out
        clear HA
        simp only [laws_FnCopies.j0] at H
        replace H := Option.bind_eq_some_iff.mp H
        obtain ⟨⟨t851, t852⟩, A130, H⟩ := H
        replace H : ((impl_OppositeGraph.f kj7 t847 t848).bind fun bt855 => (if t852 = 0 then (laws_FnCopies.j1 kj7 l1 t846 x7_7 t851 (bt855.2.2 != 0) t847 t848 bt855.1 bt855.2.1) else (laws_FnCopies.j1 kj7 l1 t846 x7_7 t851 true t847 t848 bt855.1 bt855.2.1))) = some true := H
        have A13 := Aside0.mk A130
        clear A130
        replace H := Option.bind_eq_some_iff.mp H
        obtain ⟨⟨t855, t856, t857⟩, A140, H⟩ := H
        replace H : (if t852 = 0 then (laws_FnCopies.j1 kj7 l1 t846 x7_7 t851 (t857 != 0) t847 t848 t855 t856) else (laws_FnCopies.j1 kj7 l1 t846 x7_7 t851 true t847 t848 t855 t856)) = some true := H
        have A14 := Aside0.mk A140
        clear A140
        have HC15 := Aside0.mk H
        clear H
        go_upto_region 10 with (first | ((with_reducible refine gate_callee (f := 34) rfl ?_); refine goesL_ (some 45) rfl rfl Try.func34 (by kernel_rfl) rfl #[.int .i64 x7_7] rfl (by (try simp only [List.map_toArray, List.map_cons, List.map_nil]); first | done | rfl | (simp only [List.length_drop, List.length_take]; rfl)) ?_; (with_reducible refine (impl_AllGraphs.calls kj7 x7_7 t851 t852 _ A13.out).mono ?_); rintro e w16 ⟨v853, rfl, ho0, hb⟩; refine ⟨_, rfl, ?_⟩; have n0_ := Aside0.mk (Kd.R_lower (Kd.R_newB ho0 (g := gb849) (o := .cells #[.int .i64 t847, .int .u32 t848] 27 (0, 0)) (by (with_reducible repeat (first | refine blk_drewN ?_ _ | refine blk_drew ?_ | refine blk_alloc ?_ _)); exact BK849.out)) (below_size (by repeat (first | (with_reducible first | exact HB.out | apply below_alloc | apply pw_below_drewN | apply below_drew1 | refine below_set ?_ GE849.out) | exact HB.out)))); have n1_ := Aside0.mk (blk_below (g := gb849) (o := .cells #[.int .i64 t847, .int .u32 t848] 27 (0, 0)) (by (with_reducible repeat (first | refine blk_drewN ?_ _ | refine blk_drew ?_ | refine blk_alloc ?_ _)); exact BK849.out) hb); have n2_ := Aside0.mk (below_step (by repeat (first | (with_reducible first | exact HB.out | apply below_alloc | apply pw_below_drewN | apply below_drew1 | refine below_set ?_ GE849.out) | exact HB.out)) hb); clear BK849; clear HB; have HO854 := n0_; have BK849 := n1_; have HB := n2_; clear n0_ n1_ n2_; (try clear hb); (try clear hb2); (try clear hk); (try clear hi); (try clear ho0); have hcz17_0 : w16.cell? ⟨gb849, 0, none⟩ = some (.int .i64 t847) := (blk_cell BK849.out 0).trans rfl; have hcz17_1 : w16.cell? ⟨gb849, 1, none⟩ = some (.int .u32 t848) := (blk_cell BK849.out 1).trans rfl; have hfz17_0 := blk_frozen BK849.out 0; have hfz17_1 := blk_frozen BK849.out 1) | ((with_reducible refine gate_callee (f := 35) rfl ?_); refine goesL_ (some 50) rfl rfl Try.func35 (by kernel_rfl) rfl #[.agg #[.int .i64 t847, .int .u32 t848]] rfl (by (try simp only [List.map_toArray, List.map_cons, List.map_nil]); first | done | rfl | (simp only [List.length_drop, List.length_take]; rfl)) ?_; (with_reducible refine (impl_OppositeGraph.calls kj7 t847 t848 t855 t856 t857 _ A14.out).mono ?_); rintro e w18 ⟨rfl, hb⟩; refine ⟨_, rfl, ?_⟩; have n0_ := Aside0.mk (Kd.R_below (by (with_reducible repeat (first | apply Kd.R_alloc | apply Kd.R_drewN | apply Kd.R_drew)); exact HO854.out) hb); have n1_ := Aside0.mk (blk_below (g := gb849) (o := .cells #[.int .i64 t847, .int .u32 t848] 27 (0, 0)) (by (with_reducible repeat (first | refine blk_drewN ?_ _ | refine blk_drew ?_ | refine blk_alloc ?_ _)); exact BK849.out) hb); have n2_ := Aside0.mk (below_step (by repeat (first | (with_reducible first | exact HB.out | apply below_alloc | apply pw_below_drewN | apply below_drew1 | refine below_set ?_ GE849.out) | exact HB.out)) hb); clear HO854; clear BK849; clear HB; have HO854 := n0_; have BK849 := n1_; have HB := n2_; clear n0_ n1_ n2_; (try clear hb); (try clear hb2); (try clear hk); (try clear hi)) | ((with_reducible refine gate_dst (N := 10) rfl ?_); refine box_event ?hg (N := 10) ?hd (cs := #[.int .i64 0, .int .u32 0]) (t := 27) ?hr ?_; (case hd => rfl); (case hg => rfl); (case hr => first | (go_simp; done) | (go_simp; rfl)); intro gb858 hg w19 hbox hb; have n0_ := Aside0.mk (Kd.R_below (Kd.R_elderB (by (with_reducible repeat (first | apply Kd.R_alloc | apply Kd.R_drewN | apply Kd.R_drew)); exact HO854.out) gb858 (Nat.le_of_eq hg.symm)) hb); have n1_ := Aside0.mk (blk_below (g := gb849) (o := .cells #[.int .i64 t847, .int .u32 t848] 27 (0, 0)) (by (with_reducible repeat (first | refine blk_drewN ?_ _ | refine blk_drew ?_ | refine blk_alloc ?_ _)); exact BK849.out) hb); have n2_ := Aside0.mk (below_step (by repeat (first | (with_reducible first | exact HB.out | apply below_alloc | apply pw_below_drewN | apply below_drew1 | refine below_set ?_ GE849.out) | exact HB.out)) hb); have n3_ := Aside0.mk (hbox); have n4_ := Aside0.mk ((by rw [hg]; exact (below_size (by repeat (first | (with_reducible first | exact HB.out | apply below_alloc | apply pw_below_drewN | apply below_drew1 | refine below_set ?_ GE849.out) | exact HB.out))) : w.heap.size ≤ gb858)); have n5_ := Aside0.mk ((by rw [hg]; exact (below_size (by repeat (first | (with_reducible first | exact HB.out | apply below_alloc | apply pw_below_drewN | apply below_drew1 | refine below_set ?_ GE849.out) | exact HB.out))) : w.heap.size ≤ gb858)); have n6_ := Aside0.mk ((by rw [hg]; exact Nat.ne_of_lt (blk_lt (g := gb849) (o := .cells #[.int .i64 t847, .int .u32 t848] 27 (0, 0)) (by (with_reducible repeat (first | refine blk_drewN ?_ _ | refine blk_drew ?_ | refine blk_alloc ?_ _)); exact BK849.out)) : gb849 ≠ gb858)); have n7_ := Aside0.mk ((by rw [hg]; exact Nat.ne_of_gt (blk_lt (g := gb849) (o := .cells #[.int .i64 t847, .int .u32 t848] 27 (0, 0)) (by (with_reducible repeat (first | refine blk_drewN ?_ _ | refine blk_drew ?_ | refine blk_alloc ?_ _)); exact BK849.out)) : gb858 ≠ gb849)); clear HO854; clear BK849; clear HB; have HO854 := n0_; have BK849 := n1_; have HB := n2_; have BK858 := n3_; have GW858 := n4_; have GE858 := n5_; have NB849_858 := n6_; have NB858_849 := n7_; clear n0_ n1_ n2_ n3_ n4_ n5_ n6_ n7_; clear hb hbox hg; have hnb20 := NB858_849.out; have hnc20 := NB849_858.out; have hcz21_0 : w19.cell? ⟨gb858, 0, none⟩ = some (.int .i64 0) := (blk_cell BK858.out 0).trans rfl; have hcz21_1 : w19.cell? ⟨gb858, 1, none⟩ = some (.int .u32 0) := (blk_cell BK858.out 1).trans rfl; have hfz21_0 := blk_frozen BK858.out 0; have hfz21_1 := blk_frozen BK858.out 1))
        (try simp only [Act.put, List.setIfInBounds_toArray, List.set_cons_zero, List.set_cons_succ])
        go_cut [58] (fun v58 wc => ∃ (kq : Nat) (x58_14 : Bool), v58 = .bool x58_14 ∧ Aside0 (laws_FnCopies.j1 kq l1 t846 x7_7 t851 x58_14 t847 t848 t855 t856 = some true) ∧ Aside0 (kq ≤ kj7) ∧ Aside0 (Kd.R k27 27 wc w.heap.size (fun k_ => k_ ≠ gb849 ∧ k_ ≠ gb858) v853 t851) ∧ Aside0 (wc.heap[gb849]? = some (.cells #[.int .i64 t847, .int .u32 t848] 27 (0, 0))) ∧ Aside0 (wc.heap[gb858]? = some (.cells #[.int .i64 t855, .int .u32 t856] 27 (0, 0))) ∧ Aside0 (Below w.heap.size w wc))
        case first =>
          have H := HC15.out
          clear HC15
          by_cases c22 : t852 = 0
          · rw [if_pos c22] at H
            have c22b0 : (t852 == 0) = true := beq_iff_eq.mpr c22
            have c22b1 : (t852 != 0) = false := bne_eq_false_iff_eq.mpr c22
            clear c22
            (first | rw [c22b0] | (simp only [i64_w, i32_w]; rw [c22b0]) | skip)
            have H' := Aside0.mk H
            clear H
            go_wp2
            go_meet
            case rel => exact ⟨_, ((t857 != 0)), (by first | rfl | (simp; done) | (simp [*]; done)), H', ⟨by have := HJ7.out; first | omega | exact Nat.le_refl _⟩, ⟨by (with_reducible repeat (first | apply Kd.R_alloc | apply Kd.R_drewN | apply Kd.R_drew)); exact Kd.R_mono (Kd.R_far (p := ⟨gb858, 1, none⟩) (Kd.R_far (p := ⟨gb858, 0, none⟩) (Kd.R_mono HO854.out (fun k_ hk => (⟨hk, hk.2⟩ : _ ∧ k_ ≠ gb858))) (fun _ hk => hk.2) (.int .i64 t855)) (fun _ hk => hk.2) (.int .u32 t856)) (fun _ hk => ⟨hk.1.1.2, hk.1.2⟩)⟩, ⟨by (with_reducible repeat (first | refine blk_drewN ?_ _ | refine blk_drew ?_ | refine blk_alloc ?_ _)); refine blk_far ?_ NB849_858.out _; (with_reducible repeat (first | refine blk_drewN ?_ _ | refine blk_drew ?_ | refine blk_alloc ?_ _)); refine blk_far ?_ NB849_858.out _; (with_reducible repeat (first | refine blk_drewN ?_ _ | refine blk_drew ?_ | refine blk_alloc ?_ _)); exact BK849.out⟩, ⟨by (with_reducible repeat (first | refine blk_drewN ?_ _ | refine blk_drew ?_ | refine blk_alloc ?_ _)); refine blk_put (cs := #[.int .i64 t855, .int .u32 0]) ?_ 1 _ rfl; (with_reducible repeat (first | refine blk_drewN ?_ _ | refine blk_drew ?_ | refine blk_alloc ?_ _)); refine blk_put (cs := #[.int .i64 0, .int .u32 0]) ?_ 0 _ rfl; (with_reducible repeat (first | refine blk_drewN ?_ _ | refine blk_drew ?_ | refine blk_alloc ?_ _)); exact BK858.out⟩, ⟨by repeat (first | (with_reducible first | exact HB.out | apply below_alloc | apply pw_below_drewN | apply below_drew1 | refine below_set ?_ GE849.out | refine below_set ?_ GE858.out) | exact HB.out)⟩⟩
          · rw [if_neg c22] at H
            exact absurd H (by apply laws_FnCopies.j1_no)
        case rest =>
          clear HC15
          try clear c1
          try clear c2
          try clear p2
          try clear c3
          try clear c4
          try clear c9
          try clear c12
          try clear c12b0
          try clear c20
          try clear c22
          try clear c22b0
          try clear c22b1
          try clear hcz11_0
          try clear hcz11_1
          try clear hcz17_0
          try clear hcz17_1
          try clear hcz21_0
          try clear hcz21_1
          try clear hfz11_0
          try clear hfz11_1
          try clear hfz17_0
          try clear hfz17_1
          try clear hfz21_0
          try clear hfz21_1
          try clear p2
          obtain ⟨kq, x58_14, rfl, HA, HJ14, HO_8, BK849, BK858, HB⟩ := hcut
          cases kq with
          | zero => exact absurd HA.out (by simp [laws_FnCopies.j1])
          | succ kj14 =>
            have H := HA.out
            clear HA
            simp only [laws_FnCopies.j1] at H
            by_cases c23 : x58_14 = true
            · subst c23
              have H1 : (some false) = some true := by rw [if_pos rfl] at H; exact H
              clear H
              have H := H1
              clear H1
              exact absurd H (by simp)
            · replace c23 := Bool.eq_false_iff.mpr c23
              subst c23
              have H1 : (laws_FnCopies.l0 kj14 l1 t846 x7_7 t851 0 0 t847 t848 t855 t856) = some true := by rw [if_neg (show ¬ (false = true) by decide)] at H; exact H
              clear H
              have H := H1
              clear H1
              have H' := Aside0.mk H
              clear H
              go_wp2
              go_loopg [12, 13] kj14 (fun kq v12 v13 w' => ∃ (x12_3 : Int) (x13_3 : Int), v12 = .int .i64 x12_3 ∧ v13 = .int .i64 x13_3 ∧ Aside0 (laws_FnCopies.l0 kq l1 t846 x7_7 t851 x12_3 x13_3 t847 t848 t855 t856 = some true) ∧ Aside0 (kq ≤ kj14) ∧ Aside0 (Kd.R k27 27 w' w.heap.size (fun k_ => k_ ≠ gb849 ∧ k_ ≠ gb858) v853 t851) ∧ Aside0 (w'.heap[gb849]? = some (.cells #[.int .i64 t847, .int .u32 t848] 27 (0, 0))) ∧ Aside0 (w'.heap[gb858]? = some (.cells #[.int .i64 t855, .int .u32 t856] 27 (0, 0))) ∧ Aside0 (Below w.heap.size w w'))
              case atStart => exact ⟨(0), (0), (by first | rfl | (simp; done) | (simp [*]; done)), (by first | rfl | (simp; done) | (simp [*]; done)), H', ⟨Nat.le_refl _⟩, ⟨by (with_reducible repeat (first | apply Kd.R_alloc | apply Kd.R_drewN | apply Kd.R_drew)); exact HO_8.out⟩, ⟨by (with_reducible repeat (first | refine blk_drewN ?_ _ | refine blk_drew ?_ | refine blk_alloc ?_ _)); exact BK849.out⟩, ⟨by (with_reducible repeat (first | refine blk_drewN ?_ _ | refine blk_drew ?_ | refine blk_alloc ?_ _)); exact BK858.out⟩, ⟨by repeat (first | (with_reducible first | exact HB.out | apply below_alloc | apply pw_below_drewN | apply below_drew1 | refine below_set ?_ GE849.out | refine below_set ?_ GE858.out) | exact HB.out)⟩⟩
              case round =>
                clear H'
                try clear c1
                try clear c2
                try clear p2
                try clear c3
                try clear c4
                try clear c9
                try clear c12
                try clear c12b0
                try clear c20
                try clear c22
                try clear c22b0
                try clear c22b1
                try clear c23
                try clear hcz11_0
                try clear hcz11_1
                try clear hcz17_0
                try clear hcz17_1
                try clear hcz21_0
                try clear hcz21_1
                try clear hfz11_0
                try clear hfz11_1
                try clear hfz17_0
                try clear hfz17_1
                try clear hfz21_0
                try clear hfz21_1
                try clear p2
                obtain ⟨x12_3, x13_3, rfl, rfl, HA, HK3, HO_8, BK849, BK858, HB⟩ := hrel
                cases gk with
                | zero => exact absurd HA.out (by simp [laws_FnCopies.l0])
                | succ k3 =>
                  have H := HA.out
                  clear HA
                  simp only [laws_FnCopies.l0] at H
                  by_cases c24 : x13_3 < (t851.length : Int)
                  · rw [if_pos c24] at H
                    have c24b0 : decide (x13_3 < (t851.length : Int)) = true := decide_eq_true c24
                    clear c24
                    by_cases c25 : 0 ≤ x13_3
                    · rw [if_pos c25] at H
                      have c25b0 : decide (0 ≤ x13_3) = true := decide_eq_true c25
                      clear c25
                      replace H := Option.bind_eq_some_iff.mp H
                      obtain ⟨⟨t860, t861⟩, A260, H⟩ := H
                      replace H : ((impl_OppositeGraph.f k3 ((rd_T27 t851 x13_3).f0) ((rd_T27 t851 x13_3).f1)).bind fun bt863 => ((impl_CountCopies.f bt863.1 bt863.2.1 t855 t856).bind fun bt867 => ((impl_HasPart.f t847 t848 ((rd_T27 t851 x13_3).f0) ((rd_T27 t851 x13_3).f1)).bind fun bt870 => (if t861 = 0 then (if bt863.2.2 = 0 then (if bt867.2 = 0 then (if t860 = bt867.1 then (if bt870.2 = 0 then (if t860 > 0 then (if bt870.1 = true then (laws_FnCopies.l0 k3 l1 t846 x7_7 t851 (wrap64 (x12_3 + t860)) (wrap64 (x13_3 + 1)) t847 t848 t855 t856) else (some false)) else (laws_FnCopies.l0 k3 l1 t846 x7_7 t851 (wrap64 (x12_3 + t860)) (wrap64 (x13_3 + 1)) t847 t848 t855 t856)) else (some false)) else (some false)) else (some false)) else (some false)) else (some false))))) = some true := H
                      have A26 := Aside0.mk A260
                      clear A260
                      replace H := Option.bind_eq_some_iff.mp H
                      obtain ⟨⟨t863, t864, t865⟩, A270, H⟩ := H
                      replace H : ((impl_CountCopies.f t863 t864 t855 t856).bind fun bt867 => ((impl_HasPart.f t847 t848 ((rd_T27 t851 x13_3).f0) ((rd_T27 t851 x13_3).f1)).bind fun bt870 => (if t861 = 0 then (if t865 = 0 then (if bt867.2 = 0 then (if t860 = bt867.1 then (if bt870.2 = 0 then (if t860 > 0 then (if bt870.1 = true then (laws_FnCopies.l0 k3 l1 t846 x7_7 t851 (wrap64 (x12_3 + t860)) (wrap64 (x13_3 + 1)) t847 t848 t855 t856) else (some false)) else (laws_FnCopies.l0 k3 l1 t846 x7_7 t851 (wrap64 (x12_3 + t860)) (wrap64 (x13_3 + 1)) t847 t848 t855 t856)) else (some false)) else (some false)) else (some false)) else (some false)) else (some false)))) = some true := H
                      have A27 := Aside0.mk A270
                      clear A270
                      replace H := Option.bind_eq_some_iff.mp H
                      obtain ⟨⟨t867, t868⟩, A280, H⟩ := H
                      replace H : ((impl_HasPart.f t847 t848 ((rd_T27 t851 x13_3).f0) ((rd_T27 t851 x13_3).f1)).bind fun bt870 => (if t861 = 0 then (if t865 = 0 then (if t868 = 0 then (if t860 = t867 then (if bt870.2 = 0 then (if t860 > 0 then (if bt870.1 = true then (laws_FnCopies.l0 k3 l1 t846 x7_7 t851 (wrap64 (x12_3 + t860)) (wrap64 (x13_3 + 1)) t847 t848 t855 t856) else (some false)) else (laws_FnCopies.l0 k3 l1 t846 x7_7 t851 (wrap64 (x12_3 + t860)) (wrap64 (x13_3 + 1)) t847 t848 t855 t856)) else (some false)) else (some false)) else (some false)) else (some false)) else (some false))) = some true := H
                      have A28 := Aside0.mk A280
                      clear A280
                      replace H := Option.bind_eq_some_iff.mp H
                      obtain ⟨⟨t870, t871⟩, A290, H⟩ := H
                      replace H : (if t861 = 0 then (if t865 = 0 then (if t868 = 0 then (if t860 = t867 then (if t871 = 0 then (if t860 > 0 then (if t870 = true then (laws_FnCopies.l0 k3 l1 t846 x7_7 t851 (wrap64 (x12_3 + t860)) (wrap64 (x13_3 + 1)) t847 t848 t855 t856) else (some false)) else (laws_FnCopies.l0 k3 l1 t846 x7_7 t851 (wrap64 (x12_3 + t860)) (wrap64 (x13_3 + 1)) t847 t848 t855 t856)) else (some false)) else (some false)) else (some false)) else (some false)) else (some false)) = some true := H
                      have A29 := Aside0.mk A290
                      clear A290
                      by_cases c30 : t861 = 0
                      · rw [if_pos c30] at H
                        have c30b0 : (t861 == 0) = true := beq_iff_eq.mpr c30
                        have c30b1 : (t861 != 0) = false := bne_eq_false_iff_eq.mpr c30
                        clear c30
                        by_cases c31 : t865 = 0
                        · rw [if_pos c31] at H
                          have c31b0 : (t865 == 0) = true := beq_iff_eq.mpr c31
                          have c31b1 : (t865 != 0) = false := bne_eq_false_iff_eq.mpr c31
                          clear c31
                          by_cases c32 : t868 = 0
                          · rw [if_pos c32] at H
                            have c32b0 : (t868 == 0) = true := beq_iff_eq.mpr c32
                            have c32b1 : (t868 != 0) = false := bne_eq_false_iff_eq.mpr c32
                            clear c32
                            by_cases c33 : t860 = t867
                            · rw [if_pos c33] at H
                              have c33b0 : (t860 == t867) = true := beq_iff_eq.mpr c33
                              have c33b1 : (t860 != t867) = false := bne_eq_false_iff_eq.mpr c33
                              clear c33
                              by_cases c34 : t871 = 0
                              · rw [if_pos c34] at H
                                have c34b0 : (t871 == 0) = true := beq_iff_eq.mpr c34
                                have c34b1 : (t871 != 0) = false := bne_eq_false_iff_eq.mpr c34
                                clear c34
                                by_cases c35 : t860 > 0
                                · rw [if_pos c35] at H
                                  have c35b0 : decide (0 < t860) = true := decide_eq_true c35
                                  clear c35
                                  by_cases c36 : t870 = true
                                  · subst c36
                                    have H1 : (laws_FnCopies.l0 k3 l1 t846 x7_7 t851 (wrap64 (x12_3 + t860)) (wrap64 (x13_3 + 1)) t847 t848 t855 t856) = some true := by rw [if_pos rfl] at H; exact H
                                    clear H
                                    have H := H1
                                    clear H1
                                    have H' := Aside0.mk H
                                    clear H
                                    obtain ⟨Ao37, co37, eo37⟩ := Kd.R_slice HO_8.out
                                    subst eo37
                                    try go_wp2
                                    have n0_ := Aside0.mk (Kd.R_drew HO_8.out)
                                    have n1_ := Aside0.mk (blk_drew BK849.out)
                                    have n2_ := Aside0.mk (blk_drew BK858.out)
                                    have n3_ := Aside0.mk (below_drew1 HB.out)
                                    clear HO_8
                                    clear BK849
                                    clear BK858
                                    clear HB
                                    have HO_8 := n0_
                                    have BK849 := n1_
                                    have BK858 := n2_
                                    have HB := n3_
                                    clear n0_ n1_ n2_ n3_
                                    have p859 : 0 ≤ (x13_3 : Int) := of_decide_eq_true (by first | (with_reducible assumption) | assumption)
                                    have q859 : x13_3 < (t851.length : Int) := of_decide_eq_true (by first | (with_reducible assumption) | assumption)
                                    obtain ⟨ad859, e859, hx859_0, hx859_1⟩ := at_T27 (Kd.R_reads' HO_8.out).2.2 x13_3 p859 q859
                                    cases e859
                                    replace p859 := eq_true p859
                                    replace q859 := eq_true q859
                                    refine start_ (n := 11) (S := fun w' => w'.cell? ⟨gb849, 0, none⟩ = some (.int .i64 t847) ∧ w'.cell? ⟨gb849, 1, none⟩ = some (.int .u32 t848) ∧ w'.cell? (ad859.add ((x13_3).toNat * 2)) = some (.int .i64 ((rd_T27 t851 x13_3).f0)) ∧ w'.cell? ⟨(ad859.add ((x13_3).toNat * 2)).block, (ad859.add ((x13_3).toNat * 2)).off + 1, none⟩ = some (.int .u32 ((rd_T27 t851 x13_3).f1))) (ds := []) #[false, false, false, false, false, false, false, false, false, false, false] (by kernel_rfl) rfl rfl ⟨(blk_cell BK849.out 0).trans rfl, (blk_cell BK849.out 1).trans rfl, hx859_0, hx859_1⟩ (fun hHeld => ?_); refine with_tabW laws_FnCopies.tab16 laws_FnCopies.bits16 (fun HT_ HW_ => ?_)
                                    generalize wr.drew = w38 at HO_8 BK849 BK858 HB hx859_0 hx859_1 hHeld ⊢
                                    refine pure_ (i := 0) (N := some 66) (v := ?_) (a' := ?_) #[true, false, false, false, false, false, false, false, false, false, false] rfl rfl (any_of HT_.out (by kernel_rfl)) (fun _ _ _ h => h) (Or.inl ⟨by rfl, ?_⟩) ?_ ?_
                                    rotate_left
                                    · intro w'
                                      go_simp
                                      with_reducible rfl
                                    rotate_left
                                    · simp only [Act.put, List.setIfInBounds_toArray, List.set_cons_zero, List.set_cons_succ, i64_w, i32_w]
                                      rfl
                                    refine pure_ (i := 1) (N := some 67) (v := ?_) (a' := ?_) #[true, true, false, false, false, false, false, false, false, false, false] rfl rfl (any_of HT_.out (by kernel_rfl)) (fun _ _ _ h => h) (Or.inl ⟨by rfl, ?_⟩) ?_ ?_
                                    rotate_left
                                    · intro w'
                                      go_simp
                                      with_reducible rfl
                                    rotate_left
                                    · simp only [Act.put, List.setIfInBounds_toArray, List.set_cons_zero, List.set_cons_succ, i64_w, i32_w]
                                      rfl
                                    refine pure_ (i := 2) (N := some 68) (v := ?_) (a' := ?_) #[true, true, true, false, false, false, false, false, false, false, false] rfl rfl (any_of HT_.out (by kernel_rfl)) (fun _ _ _ h => h) (Or.inl ⟨by rfl, ?_⟩) ?_ ?_
                                    rotate_left
                                    · intro w'
                                      go_simp
                                      with_reducible rfl
                                    rotate_left
                                    · simp only [Act.put, List.setIfInBounds_toArray, List.set_cons_zero, List.set_cons_succ, i64_w, i32_w]
                                      rfl
                                    refine take_ (i := 3) (N := some 69) (v := ?_) (a' := ?_) #[true, true, true, true, false, false, false, false, false, false, false] rfl rfl (take_ofW HT_.out HW_.out (by kernel_rfl)) (fun _ _ _ h => h) (Or.inl ⟨by rfl, ?_⟩) hHeld ?_ ?_
                                    rotate_left
                                    · rintro w' ⟨s0, s1, s2, s3⟩
                                      go_simp
                                      with_reducible rfl
                                    rotate_left
                                    · simp only [Act.put, List.setIfInBounds_toArray, List.set_cons_zero, List.set_cons_succ, i64_w, i32_w]
                                      rfl
                                    refine take_ (i := 4) (N := some 70) (v := ?_) (a' := ?_) #[true, true, true, true, true, false, false, false, false, false, false] rfl rfl (take_ofW HT_.out HW_.out (by kernel_rfl)) (fun _ _ _ h => h) (Or.inl ⟨by rfl, ?_⟩) hHeld ?_ ?_
                                    rotate_left
                                    · rintro w' ⟨s0, s1, s2, s3⟩
                                      go_simp
                                      with_reducible rfl
                                    rotate_left
                                    · simp only [Act.put, List.setIfInBounds_toArray, List.set_cons_zero, List.set_cons_succ, i64_w, i32_w]
                                      rfl
                                    refine one_ (i := 5) (N := some 71) #[true, true, true, true, true, true, false, false, false, false, false] rfl rfl (one_of HT_.out (by kernel_rfl)) (by decide) (fun K hK => ?_)
                                    refine goes_ Try.func15 (by kernel_rfl) rfl #[.agg #[.int .i64 ((rd_T27 t851 x13_3).f0), .int .u32 ((rd_T27 t851 x13_3).f1)], .agg #[.int .i64 t847, .int .u32 t848]] (by rfl) rfl rfl (by (try simp only [List.map_toArray, List.map_cons, List.map_nil]); first | done | rfl | (simp only [List.length_drop, List.length_take]; rfl)) ?_
                                    with_reducible refine (impl_CountCopies.calls ((rd_T27 t851 x13_3).f0) ((rd_T27 t851 x13_3).f1) t847 t848 t860 t861 _ A26.out).mono ?_
                                    rintro e w39 ⟨rfl, hb⟩
                                    have HS2_ := (hb.cell (World.block_lt_of_cell? _ _ (hHeld.2.2.1))).trans (hHeld.2.2.1)
                                    have HS3_ := (hb.cell (World.block_lt_of_cell? _ _ (hHeld.2.2.2))).trans (hHeld.2.2.2)
                                    refine ⟨_, rfl, ?_⟩
                                    have n0_ := Aside0.mk (Kd.R_below (by (with_reducible repeat (first | apply Kd.R_alloc | apply Kd.R_drewN | apply Kd.R_drew)); exact HO_8.out) hb)
                                    have n1_ := Aside0.mk (blk_below (g := gb849) (o := .cells #[.int .i64 t847, .int .u32 t848] 27 (0, 0)) (by (with_reducible repeat (first | refine blk_drewN ?_ _ | refine blk_drew ?_ | refine blk_alloc ?_ _)); exact BK849.out) hb)
                                    have n2_ := Aside0.mk (blk_below (g := gb858) (o := .cells #[.int .i64 t855, .int .u32 t856] 27 (0, 0)) (by (with_reducible repeat (first | refine blk_drewN ?_ _ | refine blk_drew ?_ | refine blk_alloc ?_ _)); exact BK858.out) hb)
                                    have n3_ := Aside0.mk (below_step (by repeat (first | (with_reducible first | exact HB.out | apply below_alloc | apply pw_below_drewN | apply below_drew1 | refine below_set ?_ GE849.out | refine below_set ?_ GE858.out) | exact HB.out)) hb)
                                    clear HO_8
                                    clear BK849
                                    clear BK858
                                    clear HB
                                    have HO_8 := n0_
                                    have BK849 := n1_
                                    have BK858 := n2_
                                    have HB := n3_
                                    clear n0_ n1_ n2_ n3_
                                    (try clear hb)
                                    (try clear hb2)
                                    (try clear hk)
                                    (try clear hi)
                                    refine hK.out _ _ ⟨(blk_cell BK849.out 0).trans rfl, (blk_cell BK849.out 1).trans rfl, HS2_, HS3_⟩ (fun hHeld => ?_)
                                    clear hK K
                                    refine norm_ (a' := ?_) ?_ ?_
                                    rotate_left
                                    · show Act.put _ (some 71) _ = _
                                      simp only [Act.put, List.setIfInBounds_toArray, List.set_cons_zero, List.set_cons_succ, i64_w, i32_w]
                                      rfl
                                    refine pure_ (i := 6) (N := some 65) (v := ?_) (a' := ?_) #[true, true, true, true, true, true, true, false, false, false, false] rfl rfl (any_of HT_.out (by kernel_rfl)) (fun _ _ _ h => h) (Or.inl ⟨by rfl, ?_⟩) ?_ ?_
                                    rotate_left
                                    · intro w'
                                      go_simp
                                      with_reducible rfl
                                    rotate_left
                                    · simp only [Act.put, List.setIfInBounds_toArray, List.set_cons_zero, List.set_cons_succ, i64_w, i32_w]
                                      rfl
                                    refine pure_ (i := 7) (N := some 72) (v := ?_) (a' := ?_) #[true, true, true, true, true, true, true, true, false, false, false] rfl rfl (any_of HT_.out (by kernel_rfl)) (fun _ _ _ h => h) (Or.inl ⟨by rfl, ?_⟩) ?_ ?_
                                    rotate_left
                                    · intro w'
                                      go_simp
                                      with_reducible rfl
                                    rotate_left
                                    · simp only [Act.put, List.setIfInBounds_toArray, List.set_cons_zero, List.set_cons_succ, i64_w, i32_w]
                                      rfl
                                    refine pure_ (i := 8) (N := some 73) (v := ?_) (a' := ?_) #[true, true, true, true, true, true, true, true, true, false, false] rfl rfl (any_of HT_.out (by kernel_rfl)) (fun _ _ _ h => h) (Or.inl ⟨by rfl, ?_⟩) ?_ ?_
                                    rotate_left
                                    · intro w'
                                      go_simp
                                      with_reducible rfl
                                    rotate_left
                                    · simp only [Act.put, List.setIfInBounds_toArray, List.set_cons_zero, List.set_cons_succ, i64_w, i32_w]
                                      rfl
                                    refine pure_ (i := 9) (N := some 14) (v := ?_) (a' := ?_) #[true, true, true, true, true, true, true, true, true, true, false] rfl rfl (any_of HT_.out (by kernel_rfl)) (fun _ _ _ h => h) (Or.inl ⟨by rfl, ?_⟩) ?_ ?_
                                    rotate_left
                                    · intro w'
                                      go_simp
                                      with_reducible rfl
                                    rotate_left
                                    · simp only [Act.put, List.setIfInBounds_toArray, List.set_cons_zero, List.set_cons_succ, i64_w, i32_w]
                                      rfl
                                    refine pure_ (i := 10) (N := some 15) (v := ?_) (a' := ?_) #[true, true, true, true, true, true, true, true, true, true, true] rfl rfl (any_of HT_.out (by kernel_rfl)) (fun _ _ _ h => h) (Or.inl ⟨by rfl, ?_⟩) ?_ ?_
                                    rotate_left
                                    · intro w'
                                      go_simp
                                      with_reducible rfl
                                    rotate_left
                                    · simp only [Act.put, List.setIfInBounds_toArray, List.set_cons_zero, List.set_cons_succ, i64_w, i32_w]
                                      rfl
                                    refine done_ (done_of HT_.out (by kernel_rfl)) ?_
                                    have p862 : 0 ≤ (x13_3 : Int) := of_decide_eq_true (by first | (with_reducible assumption) | assumption)
                                    have q862 : x13_3 < (t851.length : Int) := of_decide_eq_true (by first | (with_reducible assumption) | assumption)
                                    obtain ⟨ad862, e862, hx862_0, hx862_1⟩ := at_T27 (Kd.R_reads' HO_8.out).2.2 x13_3 p862 q862
                                    obtain rfl : ad859 = ad862 := (by injection e862)
                                    replace p862 := eq_true p862
                                    replace q862 := eq_true q862
                                    try go_wp2_with (first | ((with_reducible refine gate_callee (f := 35) rfl ?_); refine goesL_ (some 79) rfl rfl Try.func35 (by kernel_rfl) rfl #[.agg #[.int .i64 ((rd_T27 t851 x13_3).f0), .int .u32 ((rd_T27 t851 x13_3).f1)]] rfl (by (try simp only [List.map_toArray, List.map_cons, List.map_nil]); first | done | rfl | (simp only [List.length_drop, List.length_take]; rfl)) ?_; (with_reducible refine (impl_OppositeGraph.calls k3 ((rd_T27 t851 x13_3).f0) ((rd_T27 t851 x13_3).f1) t863 t864 t865 _ A27.out).mono ?_); rintro e w40 ⟨rfl, hb⟩; refine ⟨_, rfl, ?_⟩; have n0_ := Aside0.mk (Kd.R_below (by (with_reducible repeat (first | apply Kd.R_alloc | apply Kd.R_drewN | apply Kd.R_drew)); exact HO_8.out) hb); have n1_ := Aside0.mk (blk_below (g := gb849) (o := .cells #[.int .i64 t847, .int .u32 t848] 27 (0, 0)) (by (with_reducible repeat (first | refine blk_drewN ?_ _ | refine blk_drew ?_ | refine blk_alloc ?_ _)); exact BK849.out) hb); have n2_ := Aside0.mk (blk_below (g := gb858) (o := .cells #[.int .i64 t855, .int .u32 t856] 27 (0, 0)) (by (with_reducible repeat (first | refine blk_drewN ?_ _ | refine blk_drew ?_ | refine blk_alloc ?_ _)); exact BK858.out) hb); have n3_ := Aside0.mk (below_step (by repeat (first | (with_reducible first | exact HB.out | apply below_alloc | apply pw_below_drewN | apply below_drew1 | refine below_set ?_ GE849.out | refine below_set ?_ GE858.out) | exact HB.out)) hb); clear HO_8; clear BK849; clear BK858; clear HB; have HO_8 := n0_; have BK849 := n1_; have BK858 := n2_; have HB := n3_; clear n0_ n1_ n2_ n3_; (try clear hb); (try clear hb2); (try clear hk); (try clear hi)) | ((with_reducible refine gate_dst (N := 16) rfl ?_); refine box_event ?hg (N := 16) ?hd (cs := #[.int .i64 0, .int .u32 0]) (t := 27) ?hr ?_; (case hd => rfl); (case hg => rfl); (case hr => first | (go_simp; done) | (go_simp; rfl)); intro gb866 hg w41 hbox hb; have n0_ := Aside0.mk (Kd.R_below (Kd.R_elderB (by (with_reducible repeat (first | apply Kd.R_alloc | apply Kd.R_drewN | apply Kd.R_drew)); exact HO_8.out) gb866 (Nat.le_of_eq hg.symm)) hb); have n1_ := Aside0.mk (blk_below (g := gb849) (o := .cells #[.int .i64 t847, .int .u32 t848] 27 (0, 0)) (by (with_reducible repeat (first | refine blk_drewN ?_ _ | refine blk_drew ?_ | refine blk_alloc ?_ _)); exact BK849.out) hb); have n2_ := Aside0.mk (blk_below (g := gb858) (o := .cells #[.int .i64 t855, .int .u32 t856] 27 (0, 0)) (by (with_reducible repeat (first | refine blk_drewN ?_ _ | refine blk_drew ?_ | refine blk_alloc ?_ _)); exact BK858.out) hb); have n3_ := Aside0.mk (below_step (by repeat (first | (with_reducible first | exact HB.out | apply below_alloc | apply pw_below_drewN | apply below_drew1 | refine below_set ?_ GE849.out | refine below_set ?_ GE858.out) | exact HB.out)) hb); have n4_ := Aside0.mk (hbox); have n5_ := Aside0.mk ((by rw [hg]; exact (below_size (by repeat (first | (with_reducible first | exact HB.out | apply below_alloc | apply pw_below_drewN | apply below_drew1 | refine below_set ?_ GE849.out | refine below_set ?_ GE858.out) | exact HB.out))) : w.heap.size ≤ gb866)); have n6_ := Aside0.mk ((by rw [hg]; exact (below_size (by repeat (first | (with_reducible first | exact HB.out | apply below_alloc | apply pw_below_drewN | apply below_drew1 | refine below_set ?_ GE849.out | refine below_set ?_ GE858.out) | exact HB.out))) : w.heap.size ≤ gb866)); have n7_ := Aside0.mk ((by rw [hg]; exact Nat.ne_of_lt (blk_lt (g := gb849) (o := .cells #[.int .i64 t847, .int .u32 t848] 27 (0, 0)) (by (with_reducible repeat (first | refine blk_drewN ?_ _ | refine blk_drew ?_ | refine blk_alloc ?_ _)); exact BK849.out)) : gb849 ≠ gb866)); have n8_ := Aside0.mk ((by rw [hg]; exact Nat.ne_of_gt (blk_lt (g := gb849) (o := .cells #[.int .i64 t847, .int .u32 t848] 27 (0, 0)) (by (with_reducible repeat (first | refine blk_drewN ?_ _ | refine blk_drew ?_ | refine blk_alloc ?_ _)); exact BK849.out)) : gb866 ≠ gb849)); have n9_ := Aside0.mk ((by rw [hg]; exact Nat.ne_of_lt (blk_lt (g := gb858) (o := .cells #[.int .i64 t855, .int .u32 t856] 27 (0, 0)) (by (with_reducible repeat (first | refine blk_drewN ?_ _ | refine blk_drew ?_ | refine blk_alloc ?_ _)); exact BK858.out)) : gb858 ≠ gb866)); have n10_ := Aside0.mk ((by rw [hg]; exact Nat.ne_of_gt (blk_lt (g := gb858) (o := .cells #[.int .i64 t855, .int .u32 t856] 27 (0, 0)) (by (with_reducible repeat (first | refine blk_drewN ?_ _ | refine blk_drew ?_ | refine blk_alloc ?_ _)); exact BK858.out)) : gb866 ≠ gb858)); clear HO_8; clear BK849; clear BK858; clear HB; have HO_8 := n0_; have BK849 := n1_; have BK858 := n2_; have HB := n3_; have BK866 := n4_; have GW866 := n5_; have GE866 := n6_; have NB849_866 := n7_; have NB866_849 := n8_; have NB858_866 := n9_; have NB866_858 := n10_; clear n0_ n1_ n2_ n3_ n4_ n5_ n6_ n7_ n8_ n9_ n10_; clear hb hbox hg; have hnb42 := NB866_849.out; have hnc42 := NB849_866.out; have hnb43 := NB866_858.out; have hnc43 := NB858_866.out; have hcz44_0 : w41.cell? ⟨gb866, 0, none⟩ = some (.int .i64 0) := (blk_cell BK866.out 0).trans rfl; have hcz44_1 : w41.cell? ⟨gb866, 1, none⟩ = some (.int .u32 0) := (blk_cell BK866.out 1).trans rfl; have hfz44_0 := blk_frozen BK866.out 0; have hfz44_1 := blk_frozen BK866.out 1; have hnb45 := NB858_849.out; have hnc45 := NB849_858.out; have hcz46_0 : w41.cell? ⟨gb858, 0, none⟩ = some (.int .i64 t855) := (blk_cell BK858.out 0).trans rfl; have hcz46_1 : w41.cell? ⟨gb858, 1, none⟩ = some (.int .u32 t856) := (blk_cell BK858.out 1).trans rfl; have hfz46_0 := blk_frozen BK858.out 0; have hfz46_1 := blk_frozen BK858.out 1) | ((with_reducible refine gate_callee (f := 15) rfl ?_); refine goesL_ (some 85) rfl rfl Try.func15 (by kernel_rfl) rfl #[.agg #[.int .i64 t863, .int .u32 t864], .agg #[.int .i64 t855, .int .u32 t856]] rfl (by (try simp only [List.map_toArray, List.map_cons, List.map_nil]); first | done | rfl | (simp only [List.length_drop, List.length_take]; rfl)) ?_; (with_reducible refine (impl_CountCopies.calls t863 t864 t855 t856 t867 t868 _ A28.out).mono ?_); rintro e w47 ⟨rfl, hb⟩; refine ⟨_, rfl, ?_⟩; have n0_ := Aside0.mk (Kd.R_below (by (with_reducible repeat (first | apply Kd.R_alloc | apply Kd.R_drewN | apply Kd.R_drew)); exact (Kd.R_mono (Kd.R_far (p := ⟨gb866, 1, none⟩) (Kd.R_far (p := ⟨gb866, 0, none⟩) (Kd.R_mono HO_8.out (fun k_ hk => (⟨hk, hk.2⟩ : _ ∧ k_ ≠ gb866))) (fun _ hk => hk.2) (.int .i64 t863)) (fun _ hk => hk.2) (.int .u32 t864)) (fun _ h_ => h_.1))) hb); have n1_ := Aside0.mk (blk_below (g := gb849) (o := .cells #[.int .i64 t847, .int .u32 t848] 27 (0, 0)) (by (with_reducible repeat (first | refine blk_drewN ?_ _ | refine blk_drew ?_ | refine blk_alloc ?_ _)); refine blk_far ?_ NB849_866.out _; (with_reducible repeat (first | refine blk_drewN ?_ _ | refine blk_drew ?_ | refine blk_alloc ?_ _)); refine blk_far ?_ NB849_866.out _; (with_reducible repeat (first | refine blk_drewN ?_ _ | refine blk_drew ?_ | refine blk_alloc ?_ _)); exact BK849.out) hb); have n2_ := Aside0.mk (blk_below (g := gb858) (o := .cells #[.int .i64 t855, .int .u32 t856] 27 (0, 0)) (by (with_reducible repeat (first | refine blk_drewN ?_ _ | refine blk_drew ?_ | refine blk_alloc ?_ _)); refine blk_far ?_ NB858_866.out _; (with_reducible repeat (first | refine blk_drewN ?_ _ | refine blk_drew ?_ | refine blk_alloc ?_ _)); refine blk_far ?_ NB858_866.out _; (with_reducible repeat (first | refine blk_drewN ?_ _ | refine blk_drew ?_ | refine blk_alloc ?_ _)); exact BK858.out) hb); have n3_ := Aside0.mk (blk_below (g := gb866) (o := .cells #[.int .i64 t863, .int .u32 t864] 27 (0, 0)) (by (with_reducible repeat (first | refine blk_drewN ?_ _ | refine blk_drew ?_ | refine blk_alloc ?_ _)); refine blk_put (cs := #[.int .i64 t863, .int .u32 0]) ?_ 1 _ rfl; (with_reducible repeat (first | refine blk_drewN ?_ _ | refine blk_drew ?_ | refine blk_alloc ?_ _)); refine blk_put (cs := #[.int .i64 0, .int .u32 0]) ?_ 0 _ rfl; (with_reducible repeat (first | refine blk_drewN ?_ _ | refine blk_drew ?_ | refine blk_alloc ?_ _)); exact BK866.out) hb); have n4_ := Aside0.mk (below_step (by repeat (first | (with_reducible first | exact HB.out | apply below_alloc | apply pw_below_drewN | apply below_drew1 | refine below_set ?_ GE849.out | refine below_set ?_ GE858.out | refine below_set ?_ GE866.out) | exact HB.out)) hb); clear HO_8; clear BK849; clear BK858; clear BK866; clear HB; have HO_8 := n0_; have BK849 := n1_; have BK858 := n2_; have BK866 := n3_; have HB := n4_; clear n0_ n1_ n2_ n3_ n4_; (try clear hb); (try clear hb2); (try clear hk); (try clear hi)))
                                    have n0_ := Aside0.mk (Kd.R_drew HO_8.out)
                                    have n1_ := Aside0.mk (blk_drew BK849.out)
                                    have n2_ := Aside0.mk (blk_drew BK858.out)
                                    have n3_ := Aside0.mk (blk_drew BK866.out)
                                    have n4_ := Aside0.mk (below_drew1 HB.out)
                                    clear HO_8
                                    clear BK849
                                    clear BK858
                                    clear BK866
                                    clear HB
                                    have HO_8 := n0_
                                    have BK849 := n1_
                                    have BK858 := n2_
                                    have BK866 := n3_
                                    have HB := n4_
                                    clear n0_ n1_ n2_ n3_ n4_
                                    have p869 : 0 ≤ (x13_3 : Int) := of_decide_eq_true (by first | (with_reducible assumption) | assumption)
                                    have q869 : x13_3 < (t851.length : Int) := of_decide_eq_true (by first | (with_reducible assumption) | assumption)
                                    obtain ⟨ad869, e869, hx869_0, hx869_1⟩ := at_T27 (Kd.R_reads' HO_8.out).2.2 x13_3 p869 q869
                                    obtain rfl : ad859 = ad869 := (by injection e869)
                                    replace p869 := eq_true p869
                                    replace q869 := eq_true q869
                                    refine start_ (n := 11) (S := fun w' => w'.cell? ⟨gb849, 0, none⟩ = some (.int .i64 t847) ∧ w'.cell? ⟨gb849, 1, none⟩ = some (.int .u32 t848) ∧ w'.cell? (ad859.add ((x13_3).toNat * 2)) = some (.int .i64 ((rd_T27 t851 x13_3).f0)) ∧ w'.cell? ⟨(ad859.add ((x13_3).toNat * 2)).block, (ad859.add ((x13_3).toNat * 2)).off + 1, none⟩ = some (.int .u32 ((rd_T27 t851 x13_3).f1))) (ds := []) #[false, false, false, false, false, false, false, false, false, false, false] (by kernel_rfl) rfl rfl ⟨(blk_cell BK849.out 0).trans rfl, (blk_cell BK849.out 1).trans rfl, hx869_0, hx869_1⟩ (fun hHeld => ?_); refine with_tabW laws_FnCopies.tab19 laws_FnCopies.bits19 (fun HT_ HW_ => ?_)
                                    generalize w47.drew = w48 at HO_8 BK849 BK858 BK866 HB hx869_0 hx869_1 hHeld ⊢
                                    refine pure_ (i := 1) (N := some 90) (v := ?_) (a' := ?_) #[false, true, false, false, false, false, false, false, false, false, false] rfl rfl (any_of HT_.out (by kernel_rfl)) (fun _ _ _ h => h) (Or.inl ⟨by rfl, ?_⟩) ?_ ?_
                                    rotate_left
                                    · intro w'
                                      go_simp
                                      with_reducible rfl
                                    rotate_left
                                    · simp only [Act.put, List.setIfInBounds_toArray, List.set_cons_zero, List.set_cons_succ, i64_w, i32_w]
                                      rfl
                                    refine pure_ (i := 2) (N := some 91) (v := ?_) (a' := ?_) #[false, true, true, false, false, false, false, false, false, false, false] rfl rfl (any_of HT_.out (by kernel_rfl)) (fun _ _ _ h => h) (Or.inl ⟨by rfl, ?_⟩) ?_ ?_
                                    rotate_left
                                    · intro w'
                                      go_simp
                                      with_reducible rfl
                                    rotate_left
                                    · simp only [Act.put, List.setIfInBounds_toArray, List.set_cons_zero, List.set_cons_succ, i64_w, i32_w]
                                      rfl
                                    refine pure_ (i := 3) (N := some 92) (v := ?_) (a' := ?_) #[false, true, true, true, false, false, false, false, false, false, false] rfl rfl (any_of HT_.out (by kernel_rfl)) (fun _ _ _ h => h) (Or.inl ⟨by rfl, ?_⟩) ?_ ?_
                                    rotate_left
                                    · intro w'
                                      go_simp
                                      with_reducible rfl
                                    rotate_left
                                    · simp only [Act.put, List.setIfInBounds_toArray, List.set_cons_zero, List.set_cons_succ, i64_w, i32_w]
                                      rfl
                                    refine take_ (i := 0) (N := some 89) (v := ?_) (a' := ?_) #[true, true, true, true, false, false, false, false, false, false, false] rfl rfl (take_ofW HT_.out HW_.out (by kernel_rfl)) (fun _ _ _ h => h) (Or.inl ⟨by rfl, ?_⟩) hHeld ?_ ?_
                                    rotate_left
                                    · rintro w' ⟨s0, s1, s2, s3⟩
                                      go_simp
                                      with_reducible rfl
                                    rotate_left
                                    · simp only [Act.put, List.setIfInBounds_toArray, List.set_cons_zero, List.set_cons_succ, i64_w, i32_w]
                                      rfl
                                    refine take_ (i := 4) (N := some 93) (v := ?_) (a' := ?_) #[true, true, true, true, true, false, false, false, false, false, false] rfl rfl (take_ofW HT_.out HW_.out (by kernel_rfl)) (fun _ _ _ h => h) (Or.inl ⟨by rfl, ?_⟩) hHeld ?_ ?_
                                    rotate_left
                                    · rintro w' ⟨s0, s1, s2, s3⟩
                                      go_simp
                                      with_reducible rfl
                                    rotate_left
                                    · simp only [Act.put, List.setIfInBounds_toArray, List.set_cons_zero, List.set_cons_succ, i64_w, i32_w]
                                      rfl
                                    refine one_ (i := 5) (N := some 94) #[true, true, true, true, true, true, false, false, false, false, false] rfl rfl (one_of HT_.out (by kernel_rfl)) (by decide) (fun K hK => ?_)
                                    refine goes_ Try.func36 (by kernel_rfl) rfl #[.agg #[.int .i64 t847, .int .u32 t848], .agg #[.int .i64 ((rd_T27 t851 x13_3).f0), .int .u32 ((rd_T27 t851 x13_3).f1)]] (by rfl) rfl rfl (by (try simp only [List.map_toArray, List.map_cons, List.map_nil]); first | done | rfl | (simp only [List.length_drop, List.length_take]; rfl)) ?_
                                    with_reducible refine (impl_HasPart.calls t847 t848 ((rd_T27 t851 x13_3).f0) ((rd_T27 t851 x13_3).f1) true t871 _ A29.out).mono ?_
                                    rintro e w49 ⟨rfl, hb⟩
                                    have HS2_ := (hb.cell (World.block_lt_of_cell? _ _ (hHeld.2.2.1))).trans (hHeld.2.2.1)
                                    have HS3_ := (hb.cell (World.block_lt_of_cell? _ _ (hHeld.2.2.2))).trans (hHeld.2.2.2)
                                    refine ⟨_, rfl, ?_⟩
                                    have n0_ := Aside0.mk (Kd.R_below (by (with_reducible repeat (first | apply Kd.R_alloc | apply Kd.R_drewN | apply Kd.R_drew)); exact HO_8.out) hb)
                                    have n1_ := Aside0.mk (blk_below (g := gb849) (o := .cells #[.int .i64 t847, .int .u32 t848] 27 (0, 0)) (by (with_reducible repeat (first | refine blk_drewN ?_ _ | refine blk_drew ?_ | refine blk_alloc ?_ _)); exact BK849.out) hb)
                                    have n2_ := Aside0.mk (blk_below (g := gb858) (o := .cells #[.int .i64 t855, .int .u32 t856] 27 (0, 0)) (by (with_reducible repeat (first | refine blk_drewN ?_ _ | refine blk_drew ?_ | refine blk_alloc ?_ _)); exact BK858.out) hb)
                                    have n3_ := Aside0.mk (blk_below (g := gb866) (o := .cells #[.int .i64 t863, .int .u32 t864] 27 (0, 0)) (by (with_reducible repeat (first | refine blk_drewN ?_ _ | refine blk_drew ?_ | refine blk_alloc ?_ _)); exact BK866.out) hb)
                                    have n4_ := Aside0.mk (below_step (by repeat (first | (with_reducible first | exact HB.out | apply below_alloc | apply pw_below_drewN | apply below_drew1 | refine below_set ?_ GE849.out | refine below_set ?_ GE858.out | refine below_set ?_ GE866.out) | exact HB.out)) hb)
                                    clear HO_8
                                    clear BK849
                                    clear BK858
                                    clear BK866
                                    clear HB
                                    have HO_8 := n0_
                                    have BK849 := n1_
                                    have BK858 := n2_
                                    have BK866 := n3_
                                    have HB := n4_
                                    clear n0_ n1_ n2_ n3_ n4_
                                    (try clear hb)
                                    (try clear hb2)
                                    (try clear hk)
                                    (try clear hi)
                                    refine hK.out _ _ ⟨(blk_cell BK849.out 0).trans rfl, (blk_cell BK849.out 1).trans rfl, HS2_, HS3_⟩ (fun hHeld => ?_)
                                    clear hK K
                                    refine norm_ (a' := ?_) ?_ ?_
                                    rotate_left
                                    · show Act.put _ (some 94) _ = _
                                      simp only [Act.put, List.setIfInBounds_toArray, List.set_cons_zero, List.set_cons_succ, i64_w, i32_w]
                                      rfl
                                    refine pure_ (i := 6) (N := some 88) (v := ?_) (a' := ?_) #[true, true, true, true, true, true, true, false, false, false, false] rfl rfl (any_of HT_.out (by kernel_rfl)) (fun _ _ _ h => h) (Or.inl ⟨by rfl, ?_⟩) ?_ ?_
                                    rotate_left
                                    · intro w'
                                      go_simp
                                      with_reducible rfl
                                    rotate_left
                                    · simp only [Act.put, List.setIfInBounds_toArray, List.set_cons_zero, List.set_cons_succ, i64_w, i32_w]
                                      rfl
                                    refine pure_ (i := 7) (N := some 95) (v := ?_) (a' := ?_) #[true, true, true, true, true, true, true, true, false, false, false] rfl rfl (any_of HT_.out (by kernel_rfl)) (fun _ _ _ h => h) (Or.inl ⟨by rfl, ?_⟩) ?_ ?_
                                    rotate_left
                                    · intro w'
                                      go_simp
                                      with_reducible rfl
                                    rotate_left
                                    · simp only [Act.put, List.setIfInBounds_toArray, List.set_cons_zero, List.set_cons_succ, i64_w, i32_w]
                                      rfl
                                    refine pure_ (i := 8) (N := some 96) (v := ?_) (a' := ?_) #[true, true, true, true, true, true, true, true, true, false, false] rfl rfl (any_of HT_.out (by kernel_rfl)) (fun _ _ _ h => h) (Or.inl ⟨by rfl, ?_⟩) ?_ ?_
                                    rotate_left
                                    · intro w'
                                      go_simp
                                      with_reducible rfl
                                    rotate_left
                                    · simp only [Act.put, List.setIfInBounds_toArray, List.set_cons_zero, List.set_cons_succ, i64_w, i32_w]
                                      rfl
                                    refine pure_ (i := 9) (N := some 20) (v := ?_) (a' := ?_) #[true, true, true, true, true, true, true, true, true, true, false] rfl rfl (any_of HT_.out (by kernel_rfl)) (fun _ _ _ h => h) (Or.inl ⟨by rfl, ?_⟩) ?_ ?_
                                    rotate_left
                                    · intro w'
                                      go_simp
                                      with_reducible rfl
                                    rotate_left
                                    · simp only [Act.put, List.setIfInBounds_toArray, List.set_cons_zero, List.set_cons_succ, i64_w, i32_w]
                                      rfl
                                    refine pure_ (i := 10) (N := some 21) (v := ?_) (a' := ?_) #[true, true, true, true, true, true, true, true, true, true, true] rfl rfl (any_of HT_.out (by kernel_rfl)) (fun _ _ _ h => h) (Or.inl ⟨by rfl, ?_⟩) ?_ ?_
                                    rotate_left
                                    · intro w'
                                      go_simp
                                      with_reducible rfl
                                    rotate_left
                                    · simp only [Act.put, List.setIfInBounds_toArray, List.set_cons_zero, List.set_cons_succ, i64_w, i32_w]
                                      rfl
                                    refine done_ (done_of HT_.out (by kernel_rfl)) ?_
                                    try go_wp2
                                    go_roundg k3
                                    case measure => have := HJ7.out; have := HJ14.out; have := HK3.out; omega
                                    case rel => exact ⟨(wrap64 (x12_3 + t860)), (wrap64 (x13_3 + 1)), (by first | rfl | (simp; done) | (simp [*]; done)), (by first | rfl | (simp; done) | (simp [*]; done)), H', ⟨by have := HJ7.out; have := HJ14.out; have := HK3.out; omega⟩, ⟨by (with_reducible repeat (first | apply Kd.R_alloc | apply Kd.R_drewN | apply Kd.R_drew)); exact Kd.R_mono HO_8.out (fun _ hk => ⟨hk.1.1, hk.1.2⟩)⟩, ⟨by (with_reducible repeat (first | refine blk_drewN ?_ _ | refine blk_drew ?_ | refine blk_alloc ?_ _)); exact BK849.out⟩, ⟨by (with_reducible repeat (first | refine blk_drewN ?_ _ | refine blk_drew ?_ | refine blk_alloc ?_ _)); exact BK858.out⟩, ⟨by repeat (first | (with_reducible first | exact HB.out | apply below_alloc | apply pw_below_drewN | apply below_drew1 | refine below_set ?_ GE849.out | refine below_set ?_ GE858.out | refine below_set ?_ GE866.out) | exact HB.out)⟩⟩
                                  · replace c36 := Bool.eq_false_iff.mpr c36
                                    subst c36
                                    have H1 : (some false) = some true := by rw [if_neg (show ¬ (false = true) by decide)] at H; exact H
                                    clear H
                                    have H := H1
                                    clear H1
                                    exact absurd H (by simp)
                                · rw [if_neg c35] at H
                                  have c35b0 : decide (0 < t860) = false := decide_eq_false c35
                                  clear c35
                                  have H' := Aside0.mk H
                                  clear H
                                  obtain ⟨Ao63, co63, eo63⟩ := Kd.R_slice HO_8.out
                                  subst eo63
                                  try go_wp2
                                  have n0_ := Aside0.mk (Kd.R_drew HO_8.out)
                                  have n1_ := Aside0.mk (blk_drew BK849.out)
                                  have n2_ := Aside0.mk (blk_drew BK858.out)
                                  have n3_ := Aside0.mk (below_drew1 HB.out)
                                  clear HO_8
                                  clear BK849
                                  clear BK858
                                  clear HB
                                  have HO_8 := n0_
                                  have BK849 := n1_
                                  have BK858 := n2_
                                  have HB := n3_
                                  clear n0_ n1_ n2_ n3_
                                  have p859 : 0 ≤ (x13_3 : Int) := of_decide_eq_true (by first | (with_reducible assumption) | assumption)
                                  have q859 : x13_3 < (t851.length : Int) := of_decide_eq_true (by first | (with_reducible assumption) | assumption)
                                  obtain ⟨ad859, e859, hx859_0, hx859_1⟩ := at_T27 (Kd.R_reads' HO_8.out).2.2 x13_3 p859 q859
                                  cases e859
                                  replace p859 := eq_true p859
                                  replace q859 := eq_true q859
                                  refine start_ (n := 11) (S := fun w' => w'.cell? ⟨gb849, 0, none⟩ = some (.int .i64 t847) ∧ w'.cell? ⟨gb849, 1, none⟩ = some (.int .u32 t848) ∧ w'.cell? (ad859.add ((x13_3).toNat * 2)) = some (.int .i64 ((rd_T27 t851 x13_3).f0)) ∧ w'.cell? ⟨(ad859.add ((x13_3).toNat * 2)).block, (ad859.add ((x13_3).toNat * 2)).off + 1, none⟩ = some (.int .u32 ((rd_T27 t851 x13_3).f1))) (ds := []) #[false, false, false, false, false, false, false, false, false, false, false] (by kernel_rfl) rfl rfl ⟨(blk_cell BK849.out 0).trans rfl, (blk_cell BK849.out 1).trans rfl, hx859_0, hx859_1⟩ (fun hHeld => ?_); refine with_tabW laws_FnCopies.tab16 laws_FnCopies.bits16 (fun HT_ HW_ => ?_)
                                  generalize wr.drew = w64 at HO_8 BK849 BK858 HB hx859_0 hx859_1 hHeld ⊢
                                  refine pure_ (i := 0) (N := some 66) (v := ?_) (a' := ?_) #[true, false, false, false, false, false, false, false, false, false, false] rfl rfl (any_of HT_.out (by kernel_rfl)) (fun _ _ _ h => h) (Or.inl ⟨by rfl, ?_⟩) ?_ ?_
                                  rotate_left
                                  · intro w'
                                    go_simp
                                    with_reducible rfl
                                  rotate_left
                                  · simp only [Act.put, List.setIfInBounds_toArray, List.set_cons_zero, List.set_cons_succ, i64_w, i32_w]
                                    rfl
                                  refine pure_ (i := 1) (N := some 67) (v := ?_) (a' := ?_) #[true, true, false, false, false, false, false, false, false, false, false] rfl rfl (any_of HT_.out (by kernel_rfl)) (fun _ _ _ h => h) (Or.inl ⟨by rfl, ?_⟩) ?_ ?_
                                  rotate_left
                                  · intro w'
                                    go_simp
                                    with_reducible rfl
                                  rotate_left
                                  · simp only [Act.put, List.setIfInBounds_toArray, List.set_cons_zero, List.set_cons_succ, i64_w, i32_w]
                                    rfl
                                  refine pure_ (i := 2) (N := some 68) (v := ?_) (a' := ?_) #[true, true, true, false, false, false, false, false, false, false, false] rfl rfl (any_of HT_.out (by kernel_rfl)) (fun _ _ _ h => h) (Or.inl ⟨by rfl, ?_⟩) ?_ ?_
                                  rotate_left
                                  · intro w'
                                    go_simp
                                    with_reducible rfl
                                  rotate_left
                                  · simp only [Act.put, List.setIfInBounds_toArray, List.set_cons_zero, List.set_cons_succ, i64_w, i32_w]
                                    rfl
                                  refine take_ (i := 3) (N := some 69) (v := ?_) (a' := ?_) #[true, true, true, true, false, false, false, false, false, false, false] rfl rfl (take_ofW HT_.out HW_.out (by kernel_rfl)) (fun _ _ _ h => h) (Or.inl ⟨by rfl, ?_⟩) hHeld ?_ ?_
                                  rotate_left
                                  · rintro w' ⟨s0, s1, s2, s3⟩
                                    go_simp
                                    with_reducible rfl
                                  rotate_left
                                  · simp only [Act.put, List.setIfInBounds_toArray, List.set_cons_zero, List.set_cons_succ, i64_w, i32_w]
                                    rfl
                                  refine take_ (i := 4) (N := some 70) (v := ?_) (a' := ?_) #[true, true, true, true, true, false, false, false, false, false, false] rfl rfl (take_ofW HT_.out HW_.out (by kernel_rfl)) (fun _ _ _ h => h) (Or.inl ⟨by rfl, ?_⟩) hHeld ?_ ?_
                                  rotate_left
                                  · rintro w' ⟨s0, s1, s2, s3⟩
                                    go_simp
                                    with_reducible rfl
                                  rotate_left
                                  · simp only [Act.put, List.setIfInBounds_toArray, List.set_cons_zero, List.set_cons_succ, i64_w, i32_w]
                                    rfl
                                  refine one_ (i := 5) (N := some 71) #[true, true, true, true, true, true, false, false, false, false, false] rfl rfl (one_of HT_.out (by kernel_rfl)) (by decide) (fun K hK => ?_)
                                  refine goes_ Try.func15 (by kernel_rfl) rfl #[.agg #[.int .i64 ((rd_T27 t851 x13_3).f0), .int .u32 ((rd_T27 t851 x13_3).f1)], .agg #[.int .i64 t847, .int .u32 t848]] (by rfl) rfl rfl (by (try simp only [List.map_toArray, List.map_cons, List.map_nil]); first | done | rfl | (simp only [List.length_drop, List.length_take]; rfl)) ?_
                                  with_reducible refine (impl_CountCopies.calls ((rd_T27 t851 x13_3).f0) ((rd_T27 t851 x13_3).f1) t847 t848 t860 t861 _ A26.out).mono ?_
                                  rintro e w65 ⟨rfl, hb⟩
                                  have HS2_ := (hb.cell (World.block_lt_of_cell? _ _ (hHeld.2.2.1))).trans (hHeld.2.2.1)
                                  have HS3_ := (hb.cell (World.block_lt_of_cell? _ _ (hHeld.2.2.2))).trans (hHeld.2.2.2)
                                  refine ⟨_, rfl, ?_⟩
                                  have n0_ := Aside0.mk (Kd.R_below (by (with_reducible repeat (first | apply Kd.R_alloc | apply Kd.R_drewN | apply Kd.R_drew)); exact HO_8.out) hb)
                                  have n1_ := Aside0.mk (blk_below (g := gb849) (o := .cells #[.int .i64 t847, .int .u32 t848] 27 (0, 0)) (by (with_reducible repeat (first | refine blk_drewN ?_ _ | refine blk_drew ?_ | refine blk_alloc ?_ _)); exact BK849.out) hb)
                                  have n2_ := Aside0.mk (blk_below (g := gb858) (o := .cells #[.int .i64 t855, .int .u32 t856] 27 (0, 0)) (by (with_reducible repeat (first | refine blk_drewN ?_ _ | refine blk_drew ?_ | refine blk_alloc ?_ _)); exact BK858.out) hb)
                                  have n3_ := Aside0.mk (below_step (by repeat (first | (with_reducible first | exact HB.out | apply below_alloc | apply pw_below_drewN | apply below_drew1 | refine below_set ?_ GE849.out | refine below_set ?_ GE858.out) | exact HB.out)) hb)
                                  clear HO_8
                                  clear BK849
                                  clear BK858
                                  clear HB
                                  have HO_8 := n0_
                                  have BK849 := n1_
                                  have BK858 := n2_
                                  have HB := n3_
                                  clear n0_ n1_ n2_ n3_
                                  (try clear hb)
                                  (try clear hb2)
                                  (try clear hk)
                                  (try clear hi)
                                  refine hK.out _ _ ⟨(blk_cell BK849.out 0).trans rfl, (blk_cell BK849.out 1).trans rfl, HS2_, HS3_⟩ (fun hHeld => ?_)
                                  clear hK K
                                  refine norm_ (a' := ?_) ?_ ?_
                                  rotate_left
                                  · show Act.put _ (some 71) _ = _
                                    simp only [Act.put, List.setIfInBounds_toArray, List.set_cons_zero, List.set_cons_succ, i64_w, i32_w]
                                    rfl
                                  refine pure_ (i := 6) (N := some 65) (v := ?_) (a' := ?_) #[true, true, true, true, true, true, true, false, false, false, false] rfl rfl (any_of HT_.out (by kernel_rfl)) (fun _ _ _ h => h) (Or.inl ⟨by rfl, ?_⟩) ?_ ?_
                                  rotate_left
                                  · intro w'
                                    go_simp
                                    with_reducible rfl
                                  rotate_left
                                  · simp only [Act.put, List.setIfInBounds_toArray, List.set_cons_zero, List.set_cons_succ, i64_w, i32_w]
                                    rfl
                                  refine pure_ (i := 7) (N := some 72) (v := ?_) (a' := ?_) #[true, true, true, true, true, true, true, true, false, false, false] rfl rfl (any_of HT_.out (by kernel_rfl)) (fun _ _ _ h => h) (Or.inl ⟨by rfl, ?_⟩) ?_ ?_
                                  rotate_left
                                  · intro w'
                                    go_simp
                                    with_reducible rfl
                                  rotate_left
                                  · simp only [Act.put, List.setIfInBounds_toArray, List.set_cons_zero, List.set_cons_succ, i64_w, i32_w]
                                    rfl
                                  refine pure_ (i := 8) (N := some 73) (v := ?_) (a' := ?_) #[true, true, true, true, true, true, true, true, true, false, false] rfl rfl (any_of HT_.out (by kernel_rfl)) (fun _ _ _ h => h) (Or.inl ⟨by rfl, ?_⟩) ?_ ?_
                                  rotate_left
                                  · intro w'
                                    go_simp
                                    with_reducible rfl
                                  rotate_left
                                  · simp only [Act.put, List.setIfInBounds_toArray, List.set_cons_zero, List.set_cons_succ, i64_w, i32_w]
                                    rfl
                                  refine pure_ (i := 9) (N := some 14) (v := ?_) (a' := ?_) #[true, true, true, true, true, true, true, true, true, true, false] rfl rfl (any_of HT_.out (by kernel_rfl)) (fun _ _ _ h => h) (Or.inl ⟨by rfl, ?_⟩) ?_ ?_
                                  rotate_left
                                  · intro w'
                                    go_simp
                                    with_reducible rfl
                                  rotate_left
                                  · simp only [Act.put, List.setIfInBounds_toArray, List.set_cons_zero, List.set_cons_succ, i64_w, i32_w]
                                    rfl
                                  refine pure_ (i := 10) (N := some 15) (v := ?_) (a' := ?_) #[true, true, true, true, true, true, true, true, true, true, true] rfl rfl (any_of HT_.out (by kernel_rfl)) (fun _ _ _ h => h) (Or.inl ⟨by rfl, ?_⟩) ?_ ?_
                                  rotate_left
                                  · intro w'
                                    go_simp
                                    with_reducible rfl
                                  rotate_left
                                  · simp only [Act.put, List.setIfInBounds_toArray, List.set_cons_zero, List.set_cons_succ, i64_w, i32_w]
                                    rfl
                                  refine done_ (done_of HT_.out (by kernel_rfl)) ?_
                                  have p862 : 0 ≤ (x13_3 : Int) := of_decide_eq_true (by first | (with_reducible assumption) | assumption)
                                  have q862 : x13_3 < (t851.length : Int) := of_decide_eq_true (by first | (with_reducible assumption) | assumption)
                                  obtain ⟨ad862, e862, hx862_0, hx862_1⟩ := at_T27 (Kd.R_reads' HO_8.out).2.2 x13_3 p862 q862
                                  obtain rfl : ad859 = ad862 := (by injection e862)
                                  replace p862 := eq_true p862
                                  replace q862 := eq_true q862
                                  try go_wp2_with (first | ((with_reducible refine gate_callee (f := 35) rfl ?_); refine goesL_ (some 79) rfl rfl Try.func35 (by kernel_rfl) rfl #[.agg #[.int .i64 ((rd_T27 t851 x13_3).f0), .int .u32 ((rd_T27 t851 x13_3).f1)]] rfl (by (try simp only [List.map_toArray, List.map_cons, List.map_nil]); first | done | rfl | (simp only [List.length_drop, List.length_take]; rfl)) ?_; (with_reducible refine (impl_OppositeGraph.calls k3 ((rd_T27 t851 x13_3).f0) ((rd_T27 t851 x13_3).f1) t863 t864 t865 _ A27.out).mono ?_); rintro e w66 ⟨rfl, hb⟩; refine ⟨_, rfl, ?_⟩; have n0_ := Aside0.mk (Kd.R_below (by (with_reducible repeat (first | apply Kd.R_alloc | apply Kd.R_drewN | apply Kd.R_drew)); exact HO_8.out) hb); have n1_ := Aside0.mk (blk_below (g := gb849) (o := .cells #[.int .i64 t847, .int .u32 t848] 27 (0, 0)) (by (with_reducible repeat (first | refine blk_drewN ?_ _ | refine blk_drew ?_ | refine blk_alloc ?_ _)); exact BK849.out) hb); have n2_ := Aside0.mk (blk_below (g := gb858) (o := .cells #[.int .i64 t855, .int .u32 t856] 27 (0, 0)) (by (with_reducible repeat (first | refine blk_drewN ?_ _ | refine blk_drew ?_ | refine blk_alloc ?_ _)); exact BK858.out) hb); have n3_ := Aside0.mk (below_step (by repeat (first | (with_reducible first | exact HB.out | apply below_alloc | apply pw_below_drewN | apply below_drew1 | refine below_set ?_ GE849.out | refine below_set ?_ GE858.out) | exact HB.out)) hb); clear HO_8; clear BK849; clear BK858; clear HB; have HO_8 := n0_; have BK849 := n1_; have BK858 := n2_; have HB := n3_; clear n0_ n1_ n2_ n3_; (try clear hb); (try clear hb2); (try clear hk); (try clear hi)) | ((with_reducible refine gate_dst (N := 16) rfl ?_); refine box_event ?hg (N := 16) ?hd (cs := #[.int .i64 0, .int .u32 0]) (t := 27) ?hr ?_; (case hd => rfl); (case hg => rfl); (case hr => first | (go_simp; done) | (go_simp; rfl)); intro gb866 hg w67 hbox hb; have n0_ := Aside0.mk (Kd.R_below (Kd.R_elderB (by (with_reducible repeat (first | apply Kd.R_alloc | apply Kd.R_drewN | apply Kd.R_drew)); exact HO_8.out) gb866 (Nat.le_of_eq hg.symm)) hb); have n1_ := Aside0.mk (blk_below (g := gb849) (o := .cells #[.int .i64 t847, .int .u32 t848] 27 (0, 0)) (by (with_reducible repeat (first | refine blk_drewN ?_ _ | refine blk_drew ?_ | refine blk_alloc ?_ _)); exact BK849.out) hb); have n2_ := Aside0.mk (blk_below (g := gb858) (o := .cells #[.int .i64 t855, .int .u32 t856] 27 (0, 0)) (by (with_reducible repeat (first | refine blk_drewN ?_ _ | refine blk_drew ?_ | refine blk_alloc ?_ _)); exact BK858.out) hb); have n3_ := Aside0.mk (below_step (by repeat (first | (with_reducible first | exact HB.out | apply below_alloc | apply pw_below_drewN | apply below_drew1 | refine below_set ?_ GE849.out | refine below_set ?_ GE858.out) | exact HB.out)) hb); have n4_ := Aside0.mk (hbox); have n5_ := Aside0.mk ((by rw [hg]; exact (below_size (by repeat (first | (with_reducible first | exact HB.out | apply below_alloc | apply pw_below_drewN | apply below_drew1 | refine below_set ?_ GE849.out | refine below_set ?_ GE858.out) | exact HB.out))) : w.heap.size ≤ gb866)); have n6_ := Aside0.mk ((by rw [hg]; exact (below_size (by repeat (first | (with_reducible first | exact HB.out | apply below_alloc | apply pw_below_drewN | apply below_drew1 | refine below_set ?_ GE849.out | refine below_set ?_ GE858.out) | exact HB.out))) : w.heap.size ≤ gb866)); have n7_ := Aside0.mk ((by rw [hg]; exact Nat.ne_of_lt (blk_lt (g := gb849) (o := .cells #[.int .i64 t847, .int .u32 t848] 27 (0, 0)) (by (with_reducible repeat (first | refine blk_drewN ?_ _ | refine blk_drew ?_ | refine blk_alloc ?_ _)); exact BK849.out)) : gb849 ≠ gb866)); have n8_ := Aside0.mk ((by rw [hg]; exact Nat.ne_of_gt (blk_lt (g := gb849) (o := .cells #[.int .i64 t847, .int .u32 t848] 27 (0, 0)) (by (with_reducible repeat (first | refine blk_drewN ?_ _ | refine blk_drew ?_ | refine blk_alloc ?_ _)); exact BK849.out)) : gb866 ≠ gb849)); have n9_ := Aside0.mk ((by rw [hg]; exact Nat.ne_of_lt (blk_lt (g := gb858) (o := .cells #[.int .i64 t855, .int .u32 t856] 27 (0, 0)) (by (with_reducible repeat (first | refine blk_drewN ?_ _ | refine blk_drew ?_ | refine blk_alloc ?_ _)); exact BK858.out)) : gb858 ≠ gb866)); have n10_ := Aside0.mk ((by rw [hg]; exact Nat.ne_of_gt (blk_lt (g := gb858) (o := .cells #[.int .i64 t855, .int .u32 t856] 27 (0, 0)) (by (with_reducible repeat (first | refine blk_drewN ?_ _ | refine blk_drew ?_ | refine blk_alloc ?_ _)); exact BK858.out)) : gb866 ≠ gb858)); clear HO_8; clear BK849; clear BK858; clear HB; have HO_8 := n0_; have BK849 := n1_; have BK858 := n2_; have HB := n3_; have BK866 := n4_; have GW866 := n5_; have GE866 := n6_; have NB849_866 := n7_; have NB866_849 := n8_; have NB858_866 := n9_; have NB866_858 := n10_; clear n0_ n1_ n2_ n3_ n4_ n5_ n6_ n7_ n8_ n9_ n10_; clear hb hbox hg; have hnb68 := NB866_849.out; have hnc68 := NB849_866.out; have hnb69 := NB866_858.out; have hnc69 := NB858_866.out; have hcz70_0 : w67.cell? ⟨gb866, 0, none⟩ = some (.int .i64 0) := (blk_cell BK866.out 0).trans rfl; have hcz70_1 : w67.cell? ⟨gb866, 1, none⟩ = some (.int .u32 0) := (blk_cell BK866.out 1).trans rfl; have hfz70_0 := blk_frozen BK866.out 0; have hfz70_1 := blk_frozen BK866.out 1; have hnb71 := NB858_849.out; have hnc71 := NB849_858.out; have hcz72_0 : w67.cell? ⟨gb858, 0, none⟩ = some (.int .i64 t855) := (blk_cell BK858.out 0).trans rfl; have hcz72_1 : w67.cell? ⟨gb858, 1, none⟩ = some (.int .u32 t856) := (blk_cell BK858.out 1).trans rfl; have hfz72_0 := blk_frozen BK858.out 0; have hfz72_1 := blk_frozen BK858.out 1) | ((with_reducible refine gate_callee (f := 15) rfl ?_); refine goesL_ (some 85) rfl rfl Try.func15 (by kernel_rfl) rfl #[.agg #[.int .i64 t863, .int .u32 t864], .agg #[.int .i64 t855, .int .u32 t856]] rfl (by (try simp only [List.map_toArray, List.map_cons, List.map_nil]); first | done | rfl | (simp only [List.length_drop, List.length_take]; rfl)) ?_; (with_reducible refine (impl_CountCopies.calls t863 t864 t855 t856 t867 t868 _ A28.out).mono ?_); rintro e w73 ⟨rfl, hb⟩; refine ⟨_, rfl, ?_⟩; have n0_ := Aside0.mk (Kd.R_below (by (with_reducible repeat (first | apply Kd.R_alloc | apply Kd.R_drewN | apply Kd.R_drew)); exact (Kd.R_mono (Kd.R_far (p := ⟨gb866, 1, none⟩) (Kd.R_far (p := ⟨gb866, 0, none⟩) (Kd.R_mono HO_8.out (fun k_ hk => (⟨hk, hk.2⟩ : _ ∧ k_ ≠ gb866))) (fun _ hk => hk.2) (.int .i64 t863)) (fun _ hk => hk.2) (.int .u32 t864)) (fun _ h_ => h_.1))) hb); have n1_ := Aside0.mk (blk_below (g := gb849) (o := .cells #[.int .i64 t847, .int .u32 t848] 27 (0, 0)) (by (with_reducible repeat (first | refine blk_drewN ?_ _ | refine blk_drew ?_ | refine blk_alloc ?_ _)); refine blk_far ?_ NB849_866.out _; (with_reducible repeat (first | refine blk_drewN ?_ _ | refine blk_drew ?_ | refine blk_alloc ?_ _)); refine blk_far ?_ NB849_866.out _; (with_reducible repeat (first | refine blk_drewN ?_ _ | refine blk_drew ?_ | refine blk_alloc ?_ _)); exact BK849.out) hb); have n2_ := Aside0.mk (blk_below (g := gb858) (o := .cells #[.int .i64 t855, .int .u32 t856] 27 (0, 0)) (by (with_reducible repeat (first | refine blk_drewN ?_ _ | refine blk_drew ?_ | refine blk_alloc ?_ _)); refine blk_far ?_ NB858_866.out _; (with_reducible repeat (first | refine blk_drewN ?_ _ | refine blk_drew ?_ | refine blk_alloc ?_ _)); refine blk_far ?_ NB858_866.out _; (with_reducible repeat (first | refine blk_drewN ?_ _ | refine blk_drew ?_ | refine blk_alloc ?_ _)); exact BK858.out) hb); have n3_ := Aside0.mk (blk_below (g := gb866) (o := .cells #[.int .i64 t863, .int .u32 t864] 27 (0, 0)) (by (with_reducible repeat (first | refine blk_drewN ?_ _ | refine blk_drew ?_ | refine blk_alloc ?_ _)); refine blk_put (cs := #[.int .i64 t863, .int .u32 0]) ?_ 1 _ rfl; (with_reducible repeat (first | refine blk_drewN ?_ _ | refine blk_drew ?_ | refine blk_alloc ?_ _)); refine blk_put (cs := #[.int .i64 0, .int .u32 0]) ?_ 0 _ rfl; (with_reducible repeat (first | refine blk_drewN ?_ _ | refine blk_drew ?_ | refine blk_alloc ?_ _)); exact BK866.out) hb); have n4_ := Aside0.mk (below_step (by repeat (first | (with_reducible first | exact HB.out | apply below_alloc | apply pw_below_drewN | apply below_drew1 | refine below_set ?_ GE849.out | refine below_set ?_ GE858.out | refine below_set ?_ GE866.out) | exact HB.out)) hb); clear HO_8; clear BK849; clear BK858; clear BK866; clear HB; have HO_8 := n0_; have BK849 := n1_; have BK858 := n2_; have BK866 := n3_; have HB := n4_; clear n0_ n1_ n2_ n3_ n4_; (try clear hb); (try clear hb2); (try clear hk); (try clear hi)))
                                  have n0_ := Aside0.mk (Kd.R_drew HO_8.out)
                                  have n1_ := Aside0.mk (blk_drew BK849.out)
                                  have n2_ := Aside0.mk (blk_drew BK858.out)
                                  have n3_ := Aside0.mk (blk_drew BK866.out)
                                  have n4_ := Aside0.mk (below_drew1 HB.out)
                                  clear HO_8
                                  clear BK849
                                  clear BK858
                                  clear BK866
                                  clear HB
                                  have HO_8 := n0_
                                  have BK849 := n1_
                                  have BK858 := n2_
                                  have BK866 := n3_
                                  have HB := n4_
                                  clear n0_ n1_ n2_ n3_ n4_
                                  have p869 : 0 ≤ (x13_3 : Int) := of_decide_eq_true (by first | (with_reducible assumption) | assumption)
                                  have q869 : x13_3 < (t851.length : Int) := of_decide_eq_true (by first | (with_reducible assumption) | assumption)
                                  obtain ⟨ad869, e869, hx869_0, hx869_1⟩ := at_T27 (Kd.R_reads' HO_8.out).2.2 x13_3 p869 q869
                                  obtain rfl : ad859 = ad869 := (by injection e869)
                                  replace p869 := eq_true p869
                                  replace q869 := eq_true q869
                                  refine start_ (n := 11) (S := fun w' => w'.cell? ⟨gb849, 0, none⟩ = some (.int .i64 t847) ∧ w'.cell? ⟨gb849, 1, none⟩ = some (.int .u32 t848) ∧ w'.cell? (ad859.add ((x13_3).toNat * 2)) = some (.int .i64 ((rd_T27 t851 x13_3).f0)) ∧ w'.cell? ⟨(ad859.add ((x13_3).toNat * 2)).block, (ad859.add ((x13_3).toNat * 2)).off + 1, none⟩ = some (.int .u32 ((rd_T27 t851 x13_3).f1))) (ds := []) #[false, false, false, false, false, false, false, false, false, false, false] (by kernel_rfl) rfl rfl ⟨(blk_cell BK849.out 0).trans rfl, (blk_cell BK849.out 1).trans rfl, hx869_0, hx869_1⟩ (fun hHeld => ?_); refine with_tabW laws_FnCopies.tab19 laws_FnCopies.bits19 (fun HT_ HW_ => ?_)
                                  generalize w73.drew = w74 at HO_8 BK849 BK858 BK866 HB hx869_0 hx869_1 hHeld ⊢
                                  refine pure_ (i := 1) (N := some 90) (v := ?_) (a' := ?_) #[false, true, false, false, false, false, false, false, false, false, false] rfl rfl (any_of HT_.out (by kernel_rfl)) (fun _ _ _ h => h) (Or.inl ⟨by rfl, ?_⟩) ?_ ?_
                                  rotate_left
                                  · intro w'
                                    go_simp
                                    with_reducible rfl
                                  rotate_left
                                  · simp only [Act.put, List.setIfInBounds_toArray, List.set_cons_zero, List.set_cons_succ, i64_w, i32_w]
                                    rfl
                                  refine pure_ (i := 2) (N := some 91) (v := ?_) (a' := ?_) #[false, true, true, false, false, false, false, false, false, false, false] rfl rfl (any_of HT_.out (by kernel_rfl)) (fun _ _ _ h => h) (Or.inl ⟨by rfl, ?_⟩) ?_ ?_
                                  rotate_left
                                  · intro w'
                                    go_simp
                                    with_reducible rfl
                                  rotate_left
                                  · simp only [Act.put, List.setIfInBounds_toArray, List.set_cons_zero, List.set_cons_succ, i64_w, i32_w]
                                    rfl
                                  refine pure_ (i := 3) (N := some 92) (v := ?_) (a' := ?_) #[false, true, true, true, false, false, false, false, false, false, false] rfl rfl (any_of HT_.out (by kernel_rfl)) (fun _ _ _ h => h) (Or.inl ⟨by rfl, ?_⟩) ?_ ?_
                                  rotate_left
                                  · intro w'
                                    go_simp
                                    with_reducible rfl
                                  rotate_left
                                  · simp only [Act.put, List.setIfInBounds_toArray, List.set_cons_zero, List.set_cons_succ, i64_w, i32_w]
                                    rfl
                                  refine take_ (i := 0) (N := some 89) (v := ?_) (a' := ?_) #[true, true, true, true, false, false, false, false, false, false, false] rfl rfl (take_ofW HT_.out HW_.out (by kernel_rfl)) (fun _ _ _ h => h) (Or.inl ⟨by rfl, ?_⟩) hHeld ?_ ?_
                                  rotate_left
                                  · rintro w' ⟨s0, s1, s2, s3⟩
                                    go_simp
                                    with_reducible rfl
                                  rotate_left
                                  · simp only [Act.put, List.setIfInBounds_toArray, List.set_cons_zero, List.set_cons_succ, i64_w, i32_w]
                                    rfl
                                  refine take_ (i := 4) (N := some 93) (v := ?_) (a' := ?_) #[true, true, true, true, true, false, false, false, false, false, false] rfl rfl (take_ofW HT_.out HW_.out (by kernel_rfl)) (fun _ _ _ h => h) (Or.inl ⟨by rfl, ?_⟩) hHeld ?_ ?_
                                  rotate_left
                                  · rintro w' ⟨s0, s1, s2, s3⟩
                                    go_simp
                                    with_reducible rfl
                                  rotate_left
                                  · simp only [Act.put, List.setIfInBounds_toArray, List.set_cons_zero, List.set_cons_succ, i64_w, i32_w]
                                    rfl
                                  refine one_ (i := 5) (N := some 94) #[true, true, true, true, true, true, false, false, false, false, false] rfl rfl (one_of HT_.out (by kernel_rfl)) (by decide) (fun K hK => ?_)
                                  refine goes_ Try.func36 (by kernel_rfl) rfl #[.agg #[.int .i64 t847, .int .u32 t848], .agg #[.int .i64 ((rd_T27 t851 x13_3).f0), .int .u32 ((rd_T27 t851 x13_3).f1)]] (by rfl) rfl rfl (by (try simp only [List.map_toArray, List.map_cons, List.map_nil]); first | done | rfl | (simp only [List.length_drop, List.length_take]; rfl)) ?_
                                  with_reducible refine (impl_HasPart.calls t847 t848 ((rd_T27 t851 x13_3).f0) ((rd_T27 t851 x13_3).f1) t870 t871 _ A29.out).mono ?_
                                  rintro e w75 ⟨rfl, hb⟩
                                  have HS2_ := (hb.cell (World.block_lt_of_cell? _ _ (hHeld.2.2.1))).trans (hHeld.2.2.1)
                                  have HS3_ := (hb.cell (World.block_lt_of_cell? _ _ (hHeld.2.2.2))).trans (hHeld.2.2.2)
                                  refine ⟨_, rfl, ?_⟩
                                  have n0_ := Aside0.mk (Kd.R_below (by (with_reducible repeat (first | apply Kd.R_alloc | apply Kd.R_drewN | apply Kd.R_drew)); exact HO_8.out) hb)
                                  have n1_ := Aside0.mk (blk_below (g := gb849) (o := .cells #[.int .i64 t847, .int .u32 t848] 27 (0, 0)) (by (with_reducible repeat (first | refine blk_drewN ?_ _ | refine blk_drew ?_ | refine blk_alloc ?_ _)); exact BK849.out) hb)
                                  have n2_ := Aside0.mk (blk_below (g := gb858) (o := .cells #[.int .i64 t855, .int .u32 t856] 27 (0, 0)) (by (with_reducible repeat (first | refine blk_drewN ?_ _ | refine blk_drew ?_ | refine blk_alloc ?_ _)); exact BK858.out) hb)
                                  have n3_ := Aside0.mk (blk_below (g := gb866) (o := .cells #[.int .i64 t863, .int .u32 t864] 27 (0, 0)) (by (with_reducible repeat (first | refine blk_drewN ?_ _ | refine blk_drew ?_ | refine blk_alloc ?_ _)); exact BK866.out) hb)
                                  have n4_ := Aside0.mk (below_step (by repeat (first | (with_reducible first | exact HB.out | apply below_alloc | apply pw_below_drewN | apply below_drew1 | refine below_set ?_ GE849.out | refine below_set ?_ GE858.out | refine below_set ?_ GE866.out) | exact HB.out)) hb)
                                  clear HO_8
                                  clear BK849
                                  clear BK858
                                  clear BK866
                                  clear HB
                                  have HO_8 := n0_
                                  have BK849 := n1_
                                  have BK858 := n2_
                                  have BK866 := n3_
                                  have HB := n4_
                                  clear n0_ n1_ n2_ n3_ n4_
                                  (try clear hb)
                                  (try clear hb2)
                                  (try clear hk)
                                  (try clear hi)
                                  refine hK.out _ _ ⟨(blk_cell BK849.out 0).trans rfl, (blk_cell BK849.out 1).trans rfl, HS2_, HS3_⟩ (fun hHeld => ?_)
                                  clear hK K
                                  refine norm_ (a' := ?_) ?_ ?_
                                  rotate_left
                                  · show Act.put _ (some 94) _ = _
                                    simp only [Act.put, List.setIfInBounds_toArray, List.set_cons_zero, List.set_cons_succ, i64_w, i32_w]
                                    rfl
                                  refine pure_ (i := 6) (N := some 88) (v := ?_) (a' := ?_) #[true, true, true, true, true, true, true, false, false, false, false] rfl rfl (any_of HT_.out (by kernel_rfl)) (fun _ _ _ h => h) (Or.inl ⟨by rfl, ?_⟩) ?_ ?_
                                  rotate_left
                                  · intro w'
                                    go_simp
                                    with_reducible rfl
                                  rotate_left
                                  · simp only [Act.put, List.setIfInBounds_toArray, List.set_cons_zero, List.set_cons_succ, i64_w, i32_w]
                                    rfl
                                  refine pure_ (i := 7) (N := some 95) (v := ?_) (a' := ?_) #[true, true, true, true, true, true, true, true, false, false, false] rfl rfl (any_of HT_.out (by kernel_rfl)) (fun _ _ _ h => h) (Or.inl ⟨by rfl, ?_⟩) ?_ ?_
                                  rotate_left
                                  · intro w'
                                    go_simp
                                    with_reducible rfl
                                  rotate_left
                                  · simp only [Act.put, List.setIfInBounds_toArray, List.set_cons_zero, List.set_cons_succ, i64_w, i32_w]
                                    rfl
                                  refine pure_ (i := 8) (N := some 96) (v := ?_) (a' := ?_) #[true, true, true, true, true, true, true, true, true, false, false] rfl rfl (any_of HT_.out (by kernel_rfl)) (fun _ _ _ h => h) (Or.inl ⟨by rfl, ?_⟩) ?_ ?_
                                  rotate_left
                                  · intro w'
                                    go_simp
                                    with_reducible rfl
                                  rotate_left
                                  · simp only [Act.put, List.setIfInBounds_toArray, List.set_cons_zero, List.set_cons_succ, i64_w, i32_w]
                                    rfl
                                  refine pure_ (i := 9) (N := some 20) (v := ?_) (a' := ?_) #[true, true, true, true, true, true, true, true, true, true, false] rfl rfl (any_of HT_.out (by kernel_rfl)) (fun _ _ _ h => h) (Or.inl ⟨by rfl, ?_⟩) ?_ ?_
                                  rotate_left
                                  · intro w'
                                    go_simp
                                    with_reducible rfl
                                  rotate_left
                                  · simp only [Act.put, List.setIfInBounds_toArray, List.set_cons_zero, List.set_cons_succ, i64_w, i32_w]
                                    rfl
                                  refine pure_ (i := 10) (N := some 21) (v := ?_) (a' := ?_) #[true, true, true, true, true, true, true, true, true, true, true] rfl rfl (any_of HT_.out (by kernel_rfl)) (fun _ _ _ h => h) (Or.inl ⟨by rfl, ?_⟩) ?_ ?_
                                  rotate_left
                                  · intro w'
                                    go_simp
                                    with_reducible rfl
                                  rotate_left
                                  · simp only [Act.put, List.setIfInBounds_toArray, List.set_cons_zero, List.set_cons_succ, i64_w, i32_w]
                                    rfl
                                  refine done_ (done_of HT_.out (by kernel_rfl)) ?_
                                  try go_wp2
                                  go_roundg k3
                                  case measure => have := HJ7.out; have := HJ14.out; have := HK3.out; omega
                                  case rel => exact ⟨(wrap64 (x12_3 + t860)), (wrap64 (x13_3 + 1)), (by first | rfl | (simp; done) | (simp [*]; done)), (by first | rfl | (simp; done) | (simp [*]; done)), H', ⟨by have := HJ7.out; have := HJ14.out; have := HK3.out; omega⟩, ⟨by (with_reducible repeat (first | apply Kd.R_alloc | apply Kd.R_drewN | apply Kd.R_drew)); exact Kd.R_mono HO_8.out (fun _ hk => ⟨hk.1.1, hk.1.2⟩)⟩, ⟨by (with_reducible repeat (first | refine blk_drewN ?_ _ | refine blk_drew ?_ | refine blk_alloc ?_ _)); exact BK849.out⟩, ⟨by (with_reducible repeat (first | refine blk_drewN ?_ _ | refine blk_drew ?_ | refine blk_alloc ?_ _)); exact BK858.out⟩, ⟨by repeat (first | (with_reducible first | exact HB.out | apply below_alloc | apply pw_below_drewN | apply below_drew1 | refine below_set ?_ GE849.out | refine below_set ?_ GE858.out | refine below_set ?_ GE866.out) | exact HB.out)⟩⟩
                              · rw [if_neg c34] at H
                                have c34b0 : (t871 == 0) = false := beq_eq_false_iff_ne.mpr c34
                                have c34b1 : (t871 != 0) = true := bne_iff_ne.mpr c34
                                exact absurd H (by simp)
                            · rw [if_neg c33] at H
                              have c33b0 : (t860 == t867) = false := beq_eq_false_iff_ne.mpr c33
                              have c33b1 : (t860 != t867) = true := bne_iff_ne.mpr c33
                              exact absurd H (by simp)
                          · rw [if_neg c32] at H
                            have c32b0 : (t868 == 0) = false := beq_eq_false_iff_ne.mpr c32
                            have c32b1 : (t868 != 0) = true := bne_iff_ne.mpr c32
                            exact absurd H (by simp)
                        · rw [if_neg c31] at H
                          have c31b0 : (t865 == 0) = false := beq_eq_false_iff_ne.mpr c31
                          have c31b1 : (t865 != 0) = true := bne_iff_ne.mpr c31
                          exact absurd H (by simp)
                      · rw [if_neg c30] at H
                        have c30b0 : (t861 == 0) = false := beq_eq_false_iff_ne.mpr c30
                        have c30b1 : (t861 != 0) = true := bne_iff_ne.mpr c30
                        exact absurd H (by simp)
                    · rw [if_neg c25] at H
                      exact absurd H (by simp)
                  · rw [if_neg c24] at H
                    have c24b0 : decide (x13_3 < (t851.length : Int)) = false := decide_eq_false c24
                    clear c24
                    have H' := Aside0.mk H
                    clear H
                    obtain ⟨Ao141, co141, eo141⟩ := Kd.R_slice HO_8.out
                    subst eo141
                    go_wp2
                    go_loopg [22, 23] k3 (fun kq v22 v23 w' => ∃ (x22_4 : Int) (x23_4 : Int), v22 = .int .i64 x22_4 ∧ v23 = .int .i64 x23_4 ∧ Aside0 (laws_FnCopies.l1 kq l1 t846 x7_7 x12_3 x22_4 x23_4 t847 t848 = some true) ∧ Aside0 (kq ≤ k3) ∧ Aside0 (w'.heap[gb849]? = some (.cells #[.int .i64 t847, .int .u32 t848] 27 (0, 0))) ∧ Aside0 (w'.heap[gb858]? = some (.cells #[.int .i64 t855, .int .u32 t856] 27 (0, 0))) ∧ Aside0 (Below w.heap.size w w'))
                    case atStart => exact ⟨(1), (0), (by first | rfl | (simp; done) | (simp [*]; done)), (by first | rfl | (simp; done) | (simp [*]; done)), H', ⟨Nat.le_refl _⟩, ⟨by (with_reducible repeat (first | refine blk_drewN ?_ _ | refine blk_drew ?_ | refine blk_alloc ?_ _)); exact BK849.out⟩, ⟨by (with_reducible repeat (first | refine blk_drewN ?_ _ | refine blk_drew ?_ | refine blk_alloc ?_ _)); exact BK858.out⟩, ⟨by repeat (first | (with_reducible first | exact HB.out | apply below_alloc | apply pw_below_drewN | apply below_drew1 | refine below_set ?_ GE849.out | refine below_set ?_ GE858.out) | exact HB.out)⟩⟩
                    case round =>
                      clear H'
                      try clear c1
                      try clear c2
                      try clear p2
                      try clear c3
                      try clear p8
                      try clear q8
                      try clear hx8
                      try clear c12
                      try clear c13
                      try clear c15
                      try clear c24
                      try clear c24b0
                      try clear c25
                      try clear c30
                      try clear c30b0
                      try clear c30b1
                      try clear c31
                      try clear c31b0
                      try clear c31b1
                      try clear c35
                      try clear c36
                      try clear p85
                      try clear q85
                      try clear hx85
                      try clear p86
                      try clear q86
                      try clear hx86
                      try clear c120
                      try clear c121
                      try clear c123
                      try clear c133
                      try clear c134
                      try clear c136
                      try clear hcz122_0
                      try clear hcz122_1
                      try clear hcz124_0
                      try clear hcz124_1
                      try clear hcz135_0
                      try clear hcz135_1
                      try clear hcz137_0
                      try clear hcz137_1
                      try clear hfz122_0
                      try clear hfz122_1
                      try clear hfz124_0
                      try clear hfz124_1
                      try clear hfz135_0
                      try clear hfz135_1
                      try clear hfz137_0
                      try clear hfz137_1
                      try clear hx859_0
                      try clear hx859_1
                      try clear hx862_0
                      try clear hx862_1
                      try clear hx869_0
                      try clear hx869_1
                      try clear p859
                      try clear p862
                      try clear p869
                      try clear q859
                      try clear q862
                      try clear q869
                      obtain ⟨x22_4, x23_4, rfl, rfl, HA, HK4, BK849, BK858, HB⟩ := hrel
                      cases gk with
                      | zero => exact absurd HA.out (by simp [laws_FnCopies.l1])
                      | succ k4 =>
                        have H := HA.out
                        clear HA
                        simp only [laws_FnCopies.l1] at H
                        by_cases c142 : x23_4 < x7_7
                        · rw [if_pos c142] at H
                          have c142b0 : decide (x23_4 < x7_7) = true := decide_eq_true c142
                          clear c142
                          by_cases c143 : (wrap64 (x23_4 + 1)) = 0
                          · rw [if_pos c143] at H
                            exact absurd H (by simp)
                          · rw [if_neg c143] at H
                            have c143b0 : ((wrap64 (x23_4 + 1)) == 0) = false := beq_eq_false_iff_ne.mpr c143
                            have c143b1 : ((wrap64 (x23_4 + 1)) != 0) = true := bne_iff_ne.mpr c143
                            have H' := Aside0.mk H
                            clear H
                            go_wp2
                            go_roundg k4
                            case measure => have := HJ7.out; have := HJ14.out; have := HK3.out; have := HK4.out; omega
                            case rel => exact ⟨(wrap64 (Int.tdiv (wrap64 (x22_4 * (wrap64 (t846 - x23_4)))) (wrap64 (x23_4 + 1)))), (wrap64 (x23_4 + 1)), (by first | rfl | (simp; done) | (simp [*]; done)), (by first | rfl | (simp; done) | (simp [*]; done)), H', ⟨by have := HJ7.out; have := HJ14.out; have := HK3.out; have := HK4.out; omega⟩, ⟨by (with_reducible repeat (first | refine blk_drewN ?_ _ | refine blk_drew ?_ | refine blk_alloc ?_ _)); exact BK849.out⟩, ⟨by (with_reducible repeat (first | refine blk_drewN ?_ _ | refine blk_drew ?_ | refine blk_alloc ?_ _)); exact BK858.out⟩, ⟨by repeat (first | (with_reducible first | exact HB.out | apply below_alloc | apply pw_below_drewN | apply below_drew1 | refine below_set ?_ GE849.out | refine below_set ?_ GE858.out) | exact HB.out)⟩⟩
                        · rw [if_neg c142] at H
                          have c142b0 : decide (x23_4 < x7_7) = false := decide_eq_false c142
                          clear c142
                          replace H := Option.bind_eq_some_iff.mp H
                          obtain ⟨t872, A1440, H⟩ := H
                          replace H : (if 0 ≤ x7_7 then (if x7_7 ≤ (t872.length : Int) then ((impl_InducedOn.f t847 t848 (t872.take (x7_7 : Int).toNat)).bind fun bt879 => ((impl_CountCopies.f bt879.1 bt879.2.1 t847 t848).bind fun bt883 => (if x12_3 = x22_4 then (if bt879.2.2 = 0 then (if bt883.2 = 0 then (some (decide (bt883.1 ≥ 1))) else (some false)) else (some false)) else (some false)))) else (none)) else (none)) = some true := H
                          have A144 := Aside0.mk A1440
                          clear A1440
                          by_cases c145 : 0 ≤ x7_7
                          · rw [if_pos c145] at H
                            have c145b0 := eq_true c145
                            have c145b1 : decide (0 ≤ x7_7) = true := decide_eq_true c145
                            clear c145
                            by_cases c146 : x7_7 ≤ (t872.length : Int)
                            · rw [if_pos c146] at H
                              have c146b0 := eq_true c146
                              have c146b1 : decide (x7_7 ≤ (t872.length : Int)) = true := decide_eq_true c146
                              clear c146
                              obtain ⟨y875, hy875⟩ : ∃ y_ : List Int, y_ = (t872.take (x7_7 : Int).toNat) := ⟨_, rfl⟩
                              replace H : ((impl_InducedOn.f t847 t848 y875).bind fun bt879 => ((impl_CountCopies.f bt879.1 bt879.2.1 t847 t848).bind fun bt883 => (if x12_3 = x22_4 then (if bt879.2.2 = 0 then (if bt883.2 = 0 then (some (decide (bt883.1 ≥ 1))) else (some false)) else (some false)) else (some false)))) = some true := by first | (rw [hy875]; with_reducible exact H) | (have H2_ := (Option.bind_some _ _).symm.trans H; rw [hy875]; with_reducible exact H2_) | (have H2_ := (Option.bind_some _ _).symm.trans H; with_reducible exact H2_) | with_reducible exact H | (rw [hy875]; exact H) | exact H
                              have Ny875 := Aside0.mk hy875
                              clear hy875
                              replace H := Option.bind_eq_some_iff.mp H
                              obtain ⟨⟨t879, t880, t881⟩, A1470, H⟩ := H
                              replace H : ((impl_CountCopies.f t879 t880 t847 t848).bind fun bt883 => (if x12_3 = x22_4 then (if t881 = 0 then (if bt883.2 = 0 then (some (decide (bt883.1 ≥ 1))) else (some false)) else (some false)) else (some false))) = some true := H
                              have A147 := Aside0.mk A1470
                              clear A1470
                              replace H := Option.bind_eq_some_iff.mp H
                              obtain ⟨⟨t883, t884⟩, A1480, H⟩ := H
                              replace H : (if x12_3 = x22_4 then (if t881 = 0 then (if t884 = 0 then (some (decide (t883 ≥ 1))) else (some false)) else (some false)) else (some false)) = some true := H
                              have A148 := Aside0.mk A1480
                              clear A1480
                              by_cases c149 : x12_3 = x22_4
                              · rw [if_pos c149] at H
                                have c149b0 : (x12_3 == x22_4) = true := beq_iff_eq.mpr c149
                                have c149b1 : (x12_3 != x22_4) = false := bne_eq_false_iff_eq.mpr c149
                                clear c149
                                by_cases c150 : t881 = 0
                                · rw [if_pos c150] at H
                                  have c150b0 : (t881 == 0) = true := beq_iff_eq.mpr c150
                                  have c150b1 : (t881 != 0) = false := bne_eq_false_iff_eq.mpr c150
                                  clear c150
                                  by_cases c151 : t884 = 0
                                  · rw [if_pos c151] at H
                                    have c151b0 : (t884 == 0) = true := beq_iff_eq.mpr c151
                                    have c151b1 : (t884 != 0) = false := bne_eq_false_iff_eq.mpr c151
                                    clear c151
                                    replace H := Option.some.inj H
                                    try go_wp2_with (first | ((with_reducible refine gate_callee (f := 37) rfl ?_); refine goesL_ (some 142) rfl rfl Try.func37 (by kernel_rfl) rfl #[.slice A1 l1.length c1, .int .i64 t846] rfl (by (try simp only [List.map_toArray, List.map_cons, List.map_nil]); first | done | rfl | (simp only [List.length_drop, List.length_take]; rfl)) ?_; (with_reducible refine (spec_A2Order.calls k4 _ _ l1 t846 t872 _ ?side1 ?side2 A144.out).mono ?_); (case side1 => repeat (first | exact (Kd.C_below HR1.out HB.out) | (with_reducible refine Kd.C_alloc ?_ _) | (with_reducible refine Kd.C_drewN ?_ _) | (with_reducible refine Kd.C_drew ?_))); (case side2 => exact HC1.out); rintro e w152 ⟨v873, rfl, ho0, hb⟩; refine ⟨_, rfl, ?_⟩; have n0_ := Aside0.mk (Kd.R_lower ho0 (below_size (by repeat (first | (with_reducible first | exact HB.out | apply below_alloc | apply pw_below_drewN | apply below_drew1 | refine below_set ?_ GE849.out | refine below_set ?_ GE858.out) | exact HB.out)))); have n1_ := Aside0.mk (blk_below (g := gb849) (o := .cells #[.int .i64 t847, .int .u32 t848] 27 (0, 0)) (by (with_reducible repeat (first | refine blk_drewN ?_ _ | refine blk_drew ?_ | refine blk_alloc ?_ _)); exact BK849.out) hb); have n2_ := Aside0.mk (blk_below (g := gb858) (o := .cells #[.int .i64 t855, .int .u32 t856] 27 (0, 0)) (by (with_reducible repeat (first | refine blk_drewN ?_ _ | refine blk_drew ?_ | refine blk_alloc ?_ _)); exact BK858.out) hb); have n3_ := Aside0.mk (below_step (by repeat (first | (with_reducible first | exact HB.out | apply below_alloc | apply pw_below_drewN | apply below_drew1 | refine below_set ?_ GE849.out | refine below_set ?_ GE858.out) | exact HB.out)) hb); clear BK849; clear BK858; clear HB; have HO874 := n0_; have BK849 := n1_; have BK858 := n2_; have HB := n3_; clear n0_ n1_ n2_ n3_; (try clear hb); (try clear hb2); (try clear hk); (try clear hi); (try clear ho0)))
                                    have n0_ := Aside0.mk (Kd.R_drew HO874.out)
                                    have n1_ := Aside0.mk (blk_drew BK849.out)
                                    have n2_ := Aside0.mk (blk_drew BK858.out)
                                    have n3_ := Aside0.mk (below_drew1 HB.out)
                                    clear HO874
                                    clear BK849
                                    clear BK858
                                    clear HB
                                    have HO874 := n0_
                                    have BK849 := n1_
                                    have BK858 := n2_
                                    have HB := n3_
                                    clear n0_ n1_ n2_ n3_
                                    obtain ⟨Ao155, co155, eo155⟩ := Kd.R_slice HO874.out
                                    (first | subst eo155 | (injection eo155 with f1_ f2_ f3_; have f4_ := f1_.symm; have f5_ := f3_.symm; clear f1_ f2_ f3_; subst f4_; subst f5_))
                                    have q154 : (x7_7 : Int) ≤ ((t872.length : Int) : Int) := of_decide_eq_true (by first | (with_reducible assumption) | assumption)
                                    obtain ⟨i0154, hi0154, _, hsz154, _⟩ := info_parts info2
                                    have hroom154 : t872.length ≤ co155 := (Kd.R_reads' HO874.out).2.1
                                    have hC154 : Kd.C (Kd.int .i64) _ Ao155 t872.length t872 := (Kd.R_reads' HO874.out).2.2
                                    have hcut154 := cut_to (P := Try.prog) 62 2 .i64 Try.underlying62 hi0154 Ao155 t872.length co155 x7_7 (of_decide_eq_true (by first | (with_reducible assumption) | assumption)) q154 hroom154
                                    have hr154 := Kd.C_take (m := (x7_7 : Int).toNat) hC154 (by omega)
                                    have hy154 : y875.length = (x7_7 : Int).toNat := (by rw [Ny875.out, List.length_take]; omega)
                                    rw [← Ny875.out] at hr154
                                    rw [← hy154] at hcut154
                                    have HR878 := Aside0.mk hr154
                                    have HC878 := Aside0.mk (show y875.length ≤ co155 from by omega)
                                    clear hr154 hC154 hroom154 hi0154 hsz154
                                    have KY154 := Aside0.mk hy154
                                    clear hy154
                                    have KL154 := Aside0.mk (show (x7_7 : Int).toNat ≤ t872.length from by omega)
                                    replace q154 := eq_true q154
                                    refine start_ (n := 11) (S := fun w' => w'.cell? ⟨gb849, 0, none⟩ = some (.int .i64 t847) ∧ w'.cell? ⟨gb849, 1, none⟩ = some (.int .u32 t848)) (ds := []) #[false, false, false, false, false, false, false, false, false, false, false] (by kernel_rfl) rfl rfl ⟨(blk_cell BK849.out 0).trans rfl, (blk_cell BK849.out 1).trans rfl⟩ (fun hHeld => ?_); refine with_tabW laws_FnCopies.tab29 laws_FnCopies.bits29 (fun HT_ HW_ => ?_)
                                    generalize w152.drew = w153 at HO874 BK849 BK858 HB HR878 hHeld ⊢
                                    refine pure_ (i := 1) (N := some 145) (v := ?_) (a' := ?_) #[false, true, false, false, false, false, false, false, false, false, false] rfl rfl (any_of HT_.out (by kernel_rfl)) (fun _ _ _ h => h) (Or.inl ⟨by rfl, ?_⟩) ?_ ?_
                                    rotate_left
                                    · intro w'
                                      go_simp
                                      with_reducible rfl
                                    rotate_left
                                    · simp only [Act.put, List.setIfInBounds_toArray, List.set_cons_zero, List.set_cons_succ, i64_w, i32_w]
                                      rfl
                                    refine pure_ (i := 2) (N := some 146) (v := ?_) (a' := ?_) #[false, true, true, false, false, false, false, false, false, false, false] rfl rfl (any_of HT_.out (by kernel_rfl)) (fun _ _ _ h => h) (Or.inl ⟨by rfl, ?_⟩) ?_ ?_
                                    rotate_left
                                    · intro w'
                                      go_simp
                                      with_reducible rfl
                                    rotate_left
                                    · simp only [Act.put, List.setIfInBounds_toArray, List.set_cons_zero, List.set_cons_succ, i64_w, i32_w]
                                      rfl
                                    refine pure_ (i := 3) (N := some 147) (v := ?_) (a' := ?_) #[false, true, true, true, false, false, false, false, false, false, false] rfl rfl (any_of HT_.out (by kernel_rfl)) (fun _ _ _ h => h) (Or.inl ⟨by rfl, ?_⟩) ?_ ?_
                                    rotate_left
                                    · intro w'
                                      go_simp
                                      with_reducible rfl
                                    rotate_left
                                    · simp only [Act.put, List.setIfInBounds_toArray, List.set_cons_zero, List.set_cons_succ, i64_w, i32_w]
                                      rfl
                                    refine take_ (i := 0) (N := some 144) (v := ?_) (a' := ?_) #[true, true, true, true, false, false, false, false, false, false, false] rfl rfl (take_ofW HT_.out HW_.out (by kernel_rfl)) (fun _ _ _ h => h) (Or.inl ⟨by rfl, ?_⟩) hHeld ?_ ?_
                                    rotate_left
                                    · rintro w' ⟨s0, s1⟩
                                      go_simp
                                      with_reducible rfl
                                    rotate_left
                                    · simp only [Act.put, List.setIfInBounds_toArray, List.set_cons_zero, List.set_cons_succ, i64_w, i32_w]
                                      rfl
                                    refine join_ (σ := Nat) 2 #[true, true, true, true, true, true, true, true, true, false, false] (fun s_ => [(148, .tuple #[.agg #[.int .i64 t879, .int .u32 t880], .int .i64 t881]), (25, .pointer (some ⟨s_, 0, none⟩)), (143, .tuple #[.agg #[.int .i64 t879, .int .u32 t880], .int .i64 t881]), (149, .agg #[.int .i64 t879, .int .u32 t880]), (150, .int .i64 t881)]) (fun s_ w' => (w'.cell? ⟨gb849, 0, none⟩ = some (.int .i64 t847) ∧ w'.cell? ⟨gb849, 1, none⟩ = some (.int .u32 t848)) ∧ (Kd.R (Kd.int .i64) 2 w' w.heap.size (fun _ => True) (.slice Ao155 t872.length co155) t872) ∧ (w'.heap[gb849]? = some (.cells #[.int .i64 t847, .int .u32 t848] 27 (0, 0))) ∧ (w'.heap[gb858]? = some (.cells #[.int .i64 t855, .int .u32 t856] 27 (0, 0))) ∧ (w'.heap[s_]? = some (.cells #[.int .i64 0, .int .u32 0] 27 (0, 0))) ∧ (w.heap.size ≤ s_) ∧ (w.heap.size ≤ s_) ∧ (gb849 ≠ s_) ∧ (s_ ≠ gb849) ∧ (gb858 ≠ s_) ∧ (s_ ≠ gb858) ∧ (Below w.heap.size w w')) ?_ ?_
                                    rotate_left
                                    · intro hCont
                                      refine two_ (i := 4) (j := 8) (Ni := some 148) (Nj := some 25) #[true, true, true, true, true, false, false, false, false, false, false] #[true, true, true, true, false, false, false, false, true, false, false] rfl rfl rfl rfl (two_of HT_.out (by kernel_rfl)) (by decide) (by decide) (fun K hK => ?_) (fun K hK => ?_)
                                      · skip
                                        refine goes_ Try.func38 (by kernel_rfl) rfl #[.agg #[.int .i64 t847, .int .u32 t848], .slice Ao155 y875.length co155] (by rfl) rfl rfl (by (try simp only [List.map_toArray, List.map_cons, List.map_nil]); first | done | rfl | (simp only [List.length_drop, List.length_take]; rfl)) ?_
                                        with_reducible refine (impl_InducedOn.calls t847 t848 _ _ y875 t879 t880 t881 _ ?side1 ?side2 A147.out).mono ?_
                                        (case side1 => repeat (first | exact (by repeat (first | (with_reducible exact HR878.out) | (with_reducible refine Kd.C_alloc ?_ _) | (with_reducible refine Kd.C_drewN ?_ _) | (with_reducible refine Kd.C_drew ?_) | exact HR878.out)) | (with_reducible refine Kd.C_alloc ?_ _) | (with_reducible refine Kd.C_drewN ?_ _) | (with_reducible refine Kd.C_drew ?_)))
                                        (case side2 => exact HC878.out)
                                        rintro e w156 ⟨rfl, hb⟩
                                        refine ⟨_, rfl, ?_⟩
                                        have n0_ := Aside0.mk (Kd.R_below (by (with_reducible repeat (first | apply Kd.R_alloc | apply Kd.R_drewN | apply Kd.R_drew)); exact HO874.out) hb)
                                        have n1_ := Aside0.mk (blk_below (g := gb849) (o := .cells #[.int .i64 t847, .int .u32 t848] 27 (0, 0)) (by (with_reducible repeat (first | refine blk_drewN ?_ _ | refine blk_drew ?_ | refine blk_alloc ?_ _)); exact BK849.out) hb)
                                        have n2_ := Aside0.mk (blk_below (g := gb858) (o := .cells #[.int .i64 t855, .int .u32 t856] 27 (0, 0)) (by (with_reducible repeat (first | refine blk_drewN ?_ _ | refine blk_drew ?_ | refine blk_alloc ?_ _)); exact BK858.out) hb)
                                        have n3_ := Aside0.mk (Kd.C_below (by repeat (first | (with_reducible exact HR878.out) | (with_reducible refine Kd.C_alloc ?_ _) | (with_reducible refine Kd.C_drewN ?_ _) | (with_reducible refine Kd.C_drew ?_) | exact HR878.out)) hb)
                                        have n4_ := Aside0.mk (below_step (by repeat (first | (with_reducible first | exact HB.out | apply below_alloc | apply pw_below_drewN | apply below_drew1 | refine below_set ?_ GE849.out | refine below_set ?_ GE858.out) | exact HB.out)) hb)
                                        clear HO874
                                        clear BK849
                                        clear BK858
                                        clear HR878
                                        clear HB
                                        have HO874 := n0_
                                        have BK849 := n1_
                                        have BK858 := n2_
                                        have HR878 := n3_
                                        have HB := n4_
                                        clear n0_ n1_ n2_ n3_ n4_
                                        (try clear hb)
                                        (try clear hb2)
                                        (try clear hk)
                                        (try clear hi)
                                        refine hK.out _ _ ⟨(blk_cell BK849.out 0).trans rfl, (blk_cell BK849.out 1).trans rfl⟩ (fun hHeld => ?_)
                                        clear hK K
                                        refine norm_ (a' := ?_) ?_ ?_
                                        rotate_left
                                        · show Act.put _ (some 148) _ = _
                                          simp only [Act.put, List.setIfInBounds_toArray, List.set_cons_zero, List.set_cons_succ, i64_w, i32_w]
                                          rfl
                                        refine pure_ (i := 5) (N := some 143) (v := ?_) (a' := ?_) #[true, true, true, true, true, true, false, false, false, false, false] rfl rfl (any_of HT_.out (by kernel_rfl)) (fun _ _ _ h => h) (Or.inl ⟨by rfl, ?_⟩) ?_ ?_
                                        rotate_left
                                        · intro w'
                                          go_simp
                                          with_reducible rfl
                                        rotate_left
                                        · simp only [Act.put, List.setIfInBounds_toArray, List.set_cons_zero, List.set_cons_succ, i64_w, i32_w]
                                          rfl
                                        refine pure_ (i := 6) (N := some 149) (v := ?_) (a' := ?_) #[true, true, true, true, true, true, true, false, false, false, false] rfl rfl (any_of HT_.out (by kernel_rfl)) (fun _ _ _ h => h) (Or.inl ⟨by rfl, ?_⟩) ?_ ?_
                                        rotate_left
                                        · intro w'
                                          go_simp
                                          with_reducible rfl
                                        rotate_left
                                        · simp only [Act.put, List.setIfInBounds_toArray, List.set_cons_zero, List.set_cons_succ, i64_w, i32_w]
                                          rfl
                                        refine pure_ (i := 7) (N := some 150) (v := ?_) (a' := ?_) #[true, true, true, true, true, true, true, true, false, false, false] rfl rfl (any_of HT_.out (by kernel_rfl)) (fun _ _ _ h => h) (Or.inl ⟨by rfl, ?_⟩) ?_ ?_
                                        rotate_left
                                        · intro w'
                                          go_simp
                                          with_reducible rfl
                                        rotate_left
                                        · simp only [Act.put, List.setIfInBounds_toArray, List.set_cons_zero, List.set_cons_succ, i64_w, i32_w]
                                          rfl
                                        refine one_ (i := 8) (N := some 25) #[true, true, true, true, true, true, true, true, true, false, false] rfl rfl (one_of HT_.out (by kernel_rfl)) (by decide) (fun K hK => ?_)
                                        refine box_step ?hg (N := 25) ?hd (cs := #[.int .i64 0, .int .u32 0]) (t := 27) ?hr ?_; (case hd => rfl); (case hg => rfl); (case hr => first | (go_simp; done) | (go_simp; rfl))
                                        intro gb882 hg w157 hbox hb
                                        have n0_ := Aside0.mk (Kd.R_below (by (with_reducible repeat (first | apply Kd.R_alloc | apply Kd.R_drewN | apply Kd.R_drew)); exact HO874.out) hb)
                                        have n1_ := Aside0.mk (blk_below (g := gb849) (o := .cells #[.int .i64 t847, .int .u32 t848] 27 (0, 0)) (by (with_reducible repeat (first | refine blk_drewN ?_ _ | refine blk_drew ?_ | refine blk_alloc ?_ _)); exact BK849.out) hb)
                                        have n2_ := Aside0.mk (blk_below (g := gb858) (o := .cells #[.int .i64 t855, .int .u32 t856] 27 (0, 0)) (by (with_reducible repeat (first | refine blk_drewN ?_ _ | refine blk_drew ?_ | refine blk_alloc ?_ _)); exact BK858.out) hb)
                                        have n3_ := Aside0.mk (Kd.C_below (by repeat (first | (with_reducible exact HR878.out) | (with_reducible refine Kd.C_alloc ?_ _) | (with_reducible refine Kd.C_drewN ?_ _) | (with_reducible refine Kd.C_drew ?_) | exact HR878.out)) hb)
                                        have n4_ := Aside0.mk (below_step (by repeat (first | (with_reducible first | exact HB.out | apply below_alloc | apply pw_below_drewN | apply below_drew1 | refine below_set ?_ GE849.out | refine below_set ?_ GE858.out) | exact HB.out)) hb)
                                        have n5_ := Aside0.mk (hbox)
                                        have n6_ := Aside0.mk ((by rw [hg]; exact (below_size (by repeat (first | (with_reducible first | exact HB.out | apply below_alloc | apply pw_below_drewN | apply below_drew1 | refine below_set ?_ GE849.out | refine below_set ?_ GE858.out) | exact HB.out))) : w.heap.size ≤ gb882))
                                        have n7_ := Aside0.mk ((by rw [hg]; exact (below_size (by repeat (first | (with_reducible first | exact HB.out | apply below_alloc | apply pw_below_drewN | apply below_drew1 | refine below_set ?_ GE849.out | refine below_set ?_ GE858.out) | exact HB.out))) : w.heap.size ≤ gb882))
                                        have n8_ := Aside0.mk ((by rw [hg]; exact Nat.ne_of_lt (blk_lt (g := gb849) (o := .cells #[.int .i64 t847, .int .u32 t848] 27 (0, 0)) (by (with_reducible repeat (first | refine blk_drewN ?_ _ | refine blk_drew ?_ | refine blk_alloc ?_ _)); exact BK849.out)) : gb849 ≠ gb882))
                                        have n9_ := Aside0.mk ((by rw [hg]; exact Nat.ne_of_gt (blk_lt (g := gb849) (o := .cells #[.int .i64 t847, .int .u32 t848] 27 (0, 0)) (by (with_reducible repeat (first | refine blk_drewN ?_ _ | refine blk_drew ?_ | refine blk_alloc ?_ _)); exact BK849.out)) : gb882 ≠ gb849))
                                        have n10_ := Aside0.mk ((by rw [hg]; exact Nat.ne_of_lt (blk_lt (g := gb858) (o := .cells #[.int .i64 t855, .int .u32 t856] 27 (0, 0)) (by (with_reducible repeat (first | refine blk_drewN ?_ _ | refine blk_drew ?_ | refine blk_alloc ?_ _)); exact BK858.out)) : gb858 ≠ gb882))
                                        have n11_ := Aside0.mk ((by rw [hg]; exact Nat.ne_of_gt (blk_lt (g := gb858) (o := .cells #[.int .i64 t855, .int .u32 t856] 27 (0, 0)) (by (with_reducible repeat (first | refine blk_drewN ?_ _ | refine blk_drew ?_ | refine blk_alloc ?_ _)); exact BK858.out)) : gb882 ≠ gb858))
                                        clear HO874
                                        clear BK849
                                        clear BK858
                                        clear HR878
                                        clear HB
                                        have HO874 := n0_
                                        have BK849 := n1_
                                        have BK858 := n2_
                                        have HR878 := n3_
                                        have HB := n4_
                                        have BK882 := n5_
                                        have GW882 := n6_
                                        have GE882 := n7_
                                        have NB849_882 := n8_
                                        have NB882_849 := n9_
                                        have NB858_882 := n10_
                                        have NB882_858 := n11_
                                        clear n0_ n1_ n2_ n3_ n4_ n5_ n6_ n7_ n8_ n9_ n10_ n11_
                                        clear hb hbox hg
                                        refine hK.out _ _ ⟨(blk_cell BK849.out 0).trans rfl, (blk_cell BK849.out 1).trans rfl⟩ (fun hHeld => ?_)
                                        clear hK K
                                        refine norm_ (a' := ?_) ?_ ?_
                                        rotate_left
                                        · show Act.put _ (some 25) _ = _
                                          simp only [Act.put, List.setIfInBounds_toArray, List.set_cons_zero, List.set_cons_succ, i64_w, i32_w]
                                          rfl
                                        exact norm_ (by simp only [putAll, Act.put, List.setIfInBounds_toArray, List.set_cons_zero, List.set_cons_succ]) (hCont (gb882) _ ⟨hHeld, (by (with_reducible repeat (first | apply Kd.R_alloc | apply Kd.R_drewN | apply Kd.R_drew)); exact HO874.out), (by (with_reducible repeat (first | refine blk_drewN ?_ _ | refine blk_drew ?_ | refine blk_alloc ?_ _)); exact BK849.out), (by (with_reducible repeat (first | refine blk_drewN ?_ _ | refine blk_drew ?_ | refine blk_alloc ?_ _)); exact BK858.out), (by (with_reducible repeat (first | refine blk_drewN ?_ _ | refine blk_drew ?_ | refine blk_alloc ?_ _)); exact BK882.out), GW882.out, GE882.out, NB849_882.out, NB882_849.out, NB858_882.out, NB882_858.out, (by repeat (first | (with_reducible first | exact HB.out | apply below_alloc | apply pw_below_drewN | apply below_drew1 | refine below_set ?_ GE849.out | refine below_set ?_ GE858.out | refine below_set ?_ GE882.out) | exact HB.out))⟩)
                                      · skip
                                        refine box_step ?hg (N := 25) ?hd (cs := #[.int .i64 0, .int .u32 0]) (t := 27) ?hr ?_; (case hd => rfl); (case hg => rfl); (case hr => first | (go_simp; done) | (go_simp; rfl))
                                        intro gb882 hg w156 hbox hb
                                        have n0_ := Aside0.mk (Kd.R_below (by (with_reducible repeat (first | apply Kd.R_alloc | apply Kd.R_drewN | apply Kd.R_drew)); exact HO874.out) hb)
                                        have n1_ := Aside0.mk (blk_below (g := gb849) (o := .cells #[.int .i64 t847, .int .u32 t848] 27 (0, 0)) (by (with_reducible repeat (first | refine blk_drewN ?_ _ | refine blk_drew ?_ | refine blk_alloc ?_ _)); exact BK849.out) hb)
                                        have n2_ := Aside0.mk (blk_below (g := gb858) (o := .cells #[.int .i64 t855, .int .u32 t856] 27 (0, 0)) (by (with_reducible repeat (first | refine blk_drewN ?_ _ | refine blk_drew ?_ | refine blk_alloc ?_ _)); exact BK858.out) hb)
                                        have n3_ := Aside0.mk (Kd.C_below (by repeat (first | (with_reducible exact HR878.out) | (with_reducible refine Kd.C_alloc ?_ _) | (with_reducible refine Kd.C_drewN ?_ _) | (with_reducible refine Kd.C_drew ?_) | exact HR878.out)) hb)
                                        have n4_ := Aside0.mk (below_step (by repeat (first | (with_reducible first | exact HB.out | apply below_alloc | apply pw_below_drewN | apply below_drew1 | refine below_set ?_ GE849.out | refine below_set ?_ GE858.out) | exact HB.out)) hb)
                                        have n5_ := Aside0.mk (hbox)
                                        have n6_ := Aside0.mk ((by rw [hg]; exact (below_size (by repeat (first | (with_reducible first | exact HB.out | apply below_alloc | apply pw_below_drewN | apply below_drew1 | refine below_set ?_ GE849.out | refine below_set ?_ GE858.out) | exact HB.out))) : w.heap.size ≤ gb882))
                                        have n7_ := Aside0.mk ((by rw [hg]; exact (below_size (by repeat (first | (with_reducible first | exact HB.out | apply below_alloc | apply pw_below_drewN | apply below_drew1 | refine below_set ?_ GE849.out | refine below_set ?_ GE858.out) | exact HB.out))) : w.heap.size ≤ gb882))
                                        have n8_ := Aside0.mk ((by rw [hg]; exact Nat.ne_of_lt (blk_lt (g := gb849) (o := .cells #[.int .i64 t847, .int .u32 t848] 27 (0, 0)) (by (with_reducible repeat (first | refine blk_drewN ?_ _ | refine blk_drew ?_ | refine blk_alloc ?_ _)); exact BK849.out)) : gb849 ≠ gb882))
                                        have n9_ := Aside0.mk ((by rw [hg]; exact Nat.ne_of_gt (blk_lt (g := gb849) (o := .cells #[.int .i64 t847, .int .u32 t848] 27 (0, 0)) (by (with_reducible repeat (first | refine blk_drewN ?_ _ | refine blk_drew ?_ | refine blk_alloc ?_ _)); exact BK849.out)) : gb882 ≠ gb849))
                                        have n10_ := Aside0.mk ((by rw [hg]; exact Nat.ne_of_lt (blk_lt (g := gb858) (o := .cells #[.int .i64 t855, .int .u32 t856] 27 (0, 0)) (by (with_reducible repeat (first | refine blk_drewN ?_ _ | refine blk_drew ?_ | refine blk_alloc ?_ _)); exact BK858.out)) : gb858 ≠ gb882))
                                        have n11_ := Aside0.mk ((by rw [hg]; exact Nat.ne_of_gt (blk_lt (g := gb858) (o := .cells #[.int .i64 t855, .int .u32 t856] 27 (0, 0)) (by (with_reducible repeat (first | refine blk_drewN ?_ _ | refine blk_drew ?_ | refine blk_alloc ?_ _)); exact BK858.out)) : gb882 ≠ gb858))
                                        clear HO874
                                        clear BK849
                                        clear BK858
                                        clear HR878
                                        clear HB
                                        have HO874 := n0_
                                        have BK849 := n1_
                                        have BK858 := n2_
                                        have HR878 := n3_
                                        have HB := n4_
                                        have BK882 := n5_
                                        have GW882 := n6_
                                        have GE882 := n7_
                                        have NB849_882 := n8_
                                        have NB882_849 := n9_
                                        have NB858_882 := n10_
                                        have NB882_858 := n11_
                                        clear n0_ n1_ n2_ n3_ n4_ n5_ n6_ n7_ n8_ n9_ n10_ n11_
                                        clear hb hbox hg
                                        refine hK.out _ _ ⟨(blk_cell BK849.out 0).trans rfl, (blk_cell BK849.out 1).trans rfl⟩ (fun hHeld => ?_)
                                        clear hK K
                                        refine norm_ (a' := ?_) ?_ ?_
                                        rotate_left
                                        · show Act.put _ (some 25) _ = _
                                          simp only [Act.put, List.setIfInBounds_toArray, List.set_cons_zero, List.set_cons_succ, i64_w, i32_w]
                                          rfl
                                        refine one_ (i := 4) (N := some 148) #[true, true, true, true, true, false, false, false, true, false, false] rfl rfl (one_of HT_.out (by kernel_rfl)) (by decide) (fun K hK => ?_)
                                        refine goes_ Try.func38 (by kernel_rfl) rfl #[.agg #[.int .i64 t847, .int .u32 t848], .slice Ao155 y875.length co155] (by rfl) rfl rfl (by (try simp only [List.map_toArray, List.map_cons, List.map_nil]); first | done | rfl | (simp only [List.length_drop, List.length_take]; rfl)) ?_
                                        with_reducible refine (impl_InducedOn.calls t847 t848 _ _ y875 t879 t880 t881 _ ?side1 ?side2 A147.out).mono ?_
                                        (case side1 => repeat (first | exact (by repeat (first | (with_reducible exact HR878.out) | (with_reducible refine Kd.C_alloc ?_ _) | (with_reducible refine Kd.C_drewN ?_ _) | (with_reducible refine Kd.C_drew ?_) | exact HR878.out)) | (with_reducible refine Kd.C_alloc ?_ _) | (with_reducible refine Kd.C_drewN ?_ _) | (with_reducible refine Kd.C_drew ?_)))
                                        (case side2 => exact HC878.out)
                                        rintro e w157 ⟨rfl, hb⟩
                                        refine ⟨_, rfl, ?_⟩
                                        have n0_ := Aside0.mk (Kd.R_below (by (with_reducible repeat (first | apply Kd.R_alloc | apply Kd.R_drewN | apply Kd.R_drew)); exact HO874.out) hb)
                                        have n1_ := Aside0.mk (blk_below (g := gb849) (o := .cells #[.int .i64 t847, .int .u32 t848] 27 (0, 0)) (by (with_reducible repeat (first | refine blk_drewN ?_ _ | refine blk_drew ?_ | refine blk_alloc ?_ _)); exact BK849.out) hb)
                                        have n2_ := Aside0.mk (blk_below (g := gb858) (o := .cells #[.int .i64 t855, .int .u32 t856] 27 (0, 0)) (by (with_reducible repeat (first | refine blk_drewN ?_ _ | refine blk_drew ?_ | refine blk_alloc ?_ _)); exact BK858.out) hb)
                                        have n3_ := Aside0.mk (Kd.C_below (by repeat (first | (with_reducible exact HR878.out) | (with_reducible refine Kd.C_alloc ?_ _) | (with_reducible refine Kd.C_drewN ?_ _) | (with_reducible refine Kd.C_drew ?_) | exact HR878.out)) hb)
                                        have n4_ := Aside0.mk (blk_below (g := gb882) (o := .cells #[.int .i64 0, .int .u32 0] 27 (0, 0)) (by (with_reducible repeat (first | refine blk_drewN ?_ _ | refine blk_drew ?_ | refine blk_alloc ?_ _)); exact BK882.out) hb)
                                        have n5_ := Aside0.mk (below_step (by repeat (first | (with_reducible first | exact HB.out | apply below_alloc | apply pw_below_drewN | apply below_drew1 | refine below_set ?_ GE849.out | refine below_set ?_ GE858.out | refine below_set ?_ GE882.out) | exact HB.out)) hb)
                                        clear HO874
                                        clear BK849
                                        clear BK858
                                        clear HR878
                                        clear BK882
                                        clear HB
                                        have HO874 := n0_
                                        have BK849 := n1_
                                        have BK858 := n2_
                                        have HR878 := n3_
                                        have BK882 := n4_
                                        have HB := n5_
                                        clear n0_ n1_ n2_ n3_ n4_ n5_
                                        (try clear hb)
                                        (try clear hb2)
                                        (try clear hk)
                                        (try clear hi)
                                        refine hK.out _ _ ⟨(blk_cell BK849.out 0).trans rfl, (blk_cell BK849.out 1).trans rfl⟩ (fun hHeld => ?_)
                                        clear hK K
                                        refine norm_ (a' := ?_) ?_ ?_
                                        rotate_left
                                        · show Act.put _ (some 148) _ = _
                                          simp only [Act.put, List.setIfInBounds_toArray, List.set_cons_zero, List.set_cons_succ, i64_w, i32_w]
                                          rfl
                                        refine pure_ (i := 5) (N := some 143) (v := ?_) (a' := ?_) #[true, true, true, true, true, true, false, false, true, false, false] rfl rfl (any_of HT_.out (by kernel_rfl)) (fun _ _ _ h => h) (Or.inl ⟨by rfl, ?_⟩) ?_ ?_
                                        rotate_left
                                        · intro w'
                                          go_simp
                                          with_reducible rfl
                                        rotate_left
                                        · simp only [Act.put, List.setIfInBounds_toArray, List.set_cons_zero, List.set_cons_succ, i64_w, i32_w]
                                          rfl
                                        refine pure_ (i := 6) (N := some 149) (v := ?_) (a' := ?_) #[true, true, true, true, true, true, true, false, true, false, false] rfl rfl (any_of HT_.out (by kernel_rfl)) (fun _ _ _ h => h) (Or.inl ⟨by rfl, ?_⟩) ?_ ?_
                                        rotate_left
                                        · intro w'
                                          go_simp
                                          with_reducible rfl
                                        rotate_left
                                        · simp only [Act.put, List.setIfInBounds_toArray, List.set_cons_zero, List.set_cons_succ, i64_w, i32_w]
                                          rfl
                                        refine pure_ (i := 7) (N := some 150) (v := ?_) (a' := ?_) #[true, true, true, true, true, true, true, true, true, false, false] rfl rfl (any_of HT_.out (by kernel_rfl)) (fun _ _ _ h => h) (Or.inl ⟨by rfl, ?_⟩) ?_ ?_
                                        rotate_left
                                        · intro w'
                                          go_simp
                                          with_reducible rfl
                                        rotate_left
                                        · simp only [Act.put, List.setIfInBounds_toArray, List.set_cons_zero, List.set_cons_succ, i64_w, i32_w]
                                          rfl
                                        exact norm_ (by simp only [putAll, Act.put, List.setIfInBounds_toArray, List.set_cons_zero, List.set_cons_succ]) (hCont (gb882) _ ⟨hHeld, (by (with_reducible repeat (first | apply Kd.R_alloc | apply Kd.R_drewN | apply Kd.R_drew)); exact HO874.out), (by (with_reducible repeat (first | refine blk_drewN ?_ _ | refine blk_drew ?_ | refine blk_alloc ?_ _)); exact BK849.out), (by (with_reducible repeat (first | refine blk_drewN ?_ _ | refine blk_drew ?_ | refine blk_alloc ?_ _)); exact BK858.out), (by (with_reducible repeat (first | refine blk_drewN ?_ _ | refine blk_drew ?_ | refine blk_alloc ?_ _)); exact BK882.out), GW882.out, GE882.out, NB849_882.out, NB882_849.out, NB858_882.out, NB882_858.out, (by repeat (first | (with_reducible first | exact HB.out | apply below_alloc | apply pw_below_drewN | apply below_drew1 | refine below_set ?_ GE849.out | refine below_set ?_ GE858.out | refine below_set ?_ GE882.out) | exact HB.out))⟩)
                                    rintro gb882 w158 ⟨hS_, h0_, h1_, h2_, h3_, h4_, h5_, h6_, h7_, h8_, h9_, h10_⟩
                                    have n0_ : Aside0 (Kd.R (Kd.int .i64) 2 w158 w.heap.size (fun _ => True) (.slice Ao155 t872.length co155) t872) := ⟨h0_⟩
                                    have n1_ : Aside0 (w158.heap[gb849]? = some (.cells #[.int .i64 t847, .int .u32 t848] 27 (0, 0))) := ⟨h1_⟩
                                    have n2_ : Aside0 (w158.heap[gb858]? = some (.cells #[.int .i64 t855, .int .u32 t856] 27 (0, 0))) := ⟨h2_⟩
                                    have n3_ : Aside0 (w158.heap[gb882]? = some (.cells #[.int .i64 0, .int .u32 0] 27 (0, 0))) := ⟨h3_⟩
                                    have n4_ : Aside0 (w.heap.size ≤ gb882) := ⟨h4_⟩
                                    have n5_ : Aside0 (w.heap.size ≤ gb882) := ⟨h5_⟩
                                    have n6_ : Aside0 (gb849 ≠ gb882) := ⟨h6_⟩
                                    have n7_ : Aside0 (gb882 ≠ gb849) := ⟨h7_⟩
                                    have n8_ : Aside0 (gb858 ≠ gb882) := ⟨h8_⟩
                                    have n9_ : Aside0 (gb882 ≠ gb858) := ⟨h9_⟩
                                    have n10_ : Aside0 (Below w.heap.size w w158) := ⟨h10_⟩
                                    clear HO874
                                    clear BK849
                                    clear BK858
                                    clear HB
                                    clear h0_ h1_ h2_ h3_ h4_ h5_ h6_ h7_ h8_ h9_ h10_
                                    have HO874 := n0_
                                    have BK849 := n1_
                                    have BK858 := n2_
                                    have BK882 := n3_
                                    have GW882 := n4_
                                    have GE882 := n5_
                                    have NB849_882 := n6_
                                    have NB882_849 := n7_
                                    have NB858_882 := n8_
                                    have NB882_858 := n9_
                                    have HB := n10_
                                    clear n0_ n1_ n2_ n3_ n4_ n5_ n6_ n7_ n8_ n9_ n10_
                                    have hHeld : w158.cell? ⟨gb849, 0, none⟩ = some (.int .i64 t847) ∧ w158.cell? ⟨gb849, 1, none⟩ = some (.int .u32 t848) := hS_
                                    refine norm_ (a' := ?_) ?_ ?_
                                    rotate_left
                                    · simp only [putAll, Act.put, List.setIfInBounds_toArray, List.set_cons_zero, List.set_cons_succ]
                                      rfl
                                    refine one_ (i := 9) (N := none) #[true, true, true, true, true, true, true, true, true, true, false] rfl rfl (one_of HT_.out (by kernel_rfl)) (by decide) (fun K hK => ?_)
                                    have hs159 : w158.cell? ⟨gb882, 0, none⟩ = some (.int .i64 0) := (blk_cell BK882.out 0).trans rfl
                                    have hfs159 := blk_frozen BK882.out 0
                                    have hns159_0 := NB849_882.out
                                    have hns159_1 := NB858_882.out
                                    have hms159_0 := NB882_849.out
                                    have hms159_1 := NB882_858.out
                                    have hs160 : w158.cell? ⟨gb882, 1, none⟩ = some (.int .u32 0) := (blk_cell BK882.out 1).trans rfl
                                    have hfs160 := blk_frozen BK882.out 1
                                    have hns160_0 := NB849_882.out
                                    have hns160_1 := NB858_882.out
                                    have hms160_0 := NB882_849.out
                                    have hms160_1 := NB882_858.out
                                    refine skip_ (w1 := ?_) (by rfl) rfl ?_ ?_
                                    rotate_left
                                    · go_simp
                                      rfl
                                    refine hK.out _ _ ⟨((cell_far (p := ⟨gb882, _, none⟩) NB849_882.out _).trans (((cell_far (p := ⟨gb882, _, none⟩) NB849_882.out _).trans (hHeld.1)))), ((cell_far (p := ⟨gb882, _, none⟩) NB849_882.out _).trans (((cell_far (p := ⟨gb882, _, none⟩) NB849_882.out _).trans (hHeld.2))))⟩ (fun hHeld => ?_)
                                    clear hK K
                                    refine pure_ (i := 10) (N := some 26) (v := ?_) (a' := ?_) #[true, true, true, true, true, true, true, true, true, true, true] rfl rfl (any_of HT_.out (by kernel_rfl)) (fun _ _ _ h => h) (Or.inl ⟨by rfl, ?_⟩) ?_ ?_
                                    rotate_left
                                    · intro w'
                                      go_simp
                                      with_reducible rfl
                                    rotate_left
                                    · simp only [Act.put, List.setIfInBounds_toArray, List.set_cons_zero, List.set_cons_succ, i64_w, i32_w]
                                      rfl
                                    refine done_ (done_of HT_.out (by kernel_rfl)) ?_
                                    have hnb161 := NB882_849.out
                                    have hnc161 := NB849_882.out
                                    have hnb162 := NB882_858.out
                                    have hnc162 := NB858_882.out
                                    have hcz163_0 : w158.cell? ⟨gb882, 0, none⟩ = some (.int .i64 0) := (blk_cell BK882.out 0).trans rfl
                                    have hcz163_1 : w158.cell? ⟨gb882, 1, none⟩ = some (.int .u32 0) := (blk_cell BK882.out 1).trans rfl
                                    have hfz163_0 := blk_frozen BK882.out 0
                                    have hfz163_1 := blk_frozen BK882.out 1
                                    have hnb164 := NB849_858.out
                                    have hnc164 := NB858_849.out
                                    have hcz165_0 : w158.cell? ⟨gb849, 0, none⟩ = some (.int .i64 t847) := (blk_cell BK849.out 0).trans rfl
                                    have hcz165_1 : w158.cell? ⟨gb849, 1, none⟩ = some (.int .u32 t848) := (blk_cell BK849.out 1).trans rfl
                                    have hfz165_0 := blk_frozen BK849.out 0
                                    have hfz165_1 := blk_frozen BK849.out 1
                                    try go_wp2_with (first | ((with_reducible refine gate_callee (f := 15) rfl ?_); refine goesL_ (some 154) rfl rfl Try.func15 (by kernel_rfl) rfl #[.agg #[.int .i64 t879, .int .u32 t880], .agg #[.int .i64 t847, .int .u32 t848]] rfl (by (try simp only [List.map_toArray, List.map_cons, List.map_nil]); first | done | rfl | (simp only [List.length_drop, List.length_take]; rfl)) ?_; (with_reducible refine (impl_CountCopies.calls t879 t880 t847 t848 t883 t884 _ A148.out).mono ?_); rintro e w166 ⟨rfl, hb⟩; refine ⟨_, rfl, ?_⟩; have n0_ := Aside0.mk (Kd.R_below (by (with_reducible repeat (first | apply Kd.R_alloc | apply Kd.R_drewN | apply Kd.R_drew)); exact (Kd.R_mono (Kd.R_far (p := ⟨gb882, 1, none⟩) (Kd.R_far (p := ⟨gb882, 0, none⟩) (Kd.R_types HO874.out BK882.out (by decide)) (fun _ hk => hk.2) (.int .i64 t879)) (fun _ hk => hk.2) (.int .u32 t880)) (fun _ h_ => h_.1))) hb); have n1_ := Aside0.mk (blk_below (g := gb849) (o := .cells #[.int .i64 t847, .int .u32 t848] 27 (0, 0)) (by (with_reducible repeat (first | refine blk_drewN ?_ _ | refine blk_drew ?_ | refine blk_alloc ?_ _)); refine blk_far ?_ NB849_882.out _; (with_reducible repeat (first | refine blk_drewN ?_ _ | refine blk_drew ?_ | refine blk_alloc ?_ _)); refine blk_far ?_ NB849_882.out _; (with_reducible repeat (first | refine blk_drewN ?_ _ | refine blk_drew ?_ | refine blk_alloc ?_ _)); exact BK849.out) hb); have n2_ := Aside0.mk (blk_below (g := gb858) (o := .cells #[.int .i64 t855, .int .u32 t856] 27 (0, 0)) (by (with_reducible repeat (first | refine blk_drewN ?_ _ | refine blk_drew ?_ | refine blk_alloc ?_ _)); refine blk_far ?_ NB858_882.out _; (with_reducible repeat (first | refine blk_drewN ?_ _ | refine blk_drew ?_ | refine blk_alloc ?_ _)); refine blk_far ?_ NB858_882.out _; (with_reducible repeat (first | refine blk_drewN ?_ _ | refine blk_drew ?_ | refine blk_alloc ?_ _)); exact BK858.out) hb); have n3_ := Aside0.mk (blk_below (g := gb882) (o := .cells #[.int .i64 t879, .int .u32 t880] 27 (0, 0)) (by (with_reducible repeat (first | refine blk_drewN ?_ _ | refine blk_drew ?_ | refine blk_alloc ?_ _)); refine blk_put (cs := #[.int .i64 t879, .int .u32 0]) ?_ 1 _ rfl; (with_reducible repeat (first | refine blk_drewN ?_ _ | refine blk_drew ?_ | refine blk_alloc ?_ _)); refine blk_put (cs := #[.int .i64 0, .int .u32 0]) ?_ 0 _ rfl; (with_reducible repeat (first | refine blk_drewN ?_ _ | refine blk_drew ?_ | refine blk_alloc ?_ _)); exact BK882.out) hb); have n4_ := Aside0.mk (below_step (by repeat (first | (with_reducible first | exact HB.out | apply below_alloc | apply pw_below_drewN | apply below_drew1 | refine below_set ?_ GE849.out | refine below_set ?_ GE858.out | refine below_set ?_ GE882.out) | exact HB.out)) hb); clear HO874; clear BK849; clear BK858; clear BK882; clear HB; have HO874 := n0_; have BK849 := n1_; have BK858 := n2_; have BK882 := n3_; have HB := n4_; clear n0_ n1_ n2_ n3_ n4_; (try clear hb); (try clear hb2); (try clear hk); (try clear hi)))
                                    go_ret
                                    exact ⟨by first | rfl | (simp [errW_none, errW_some] <;> rfl) | (simp [*, errW_none, errW_some] <;> rfl), by repeat (first | (with_reducible first | exact HB.out | apply below_alloc | apply pw_below_drewN | apply below_drew1 | refine below_set ?_ GE849.out | refine below_set ?_ GE858.out | refine below_set ?_ GE882.out) | exact HB.out)⟩
                                  · rw [if_neg c151] at H
                                    have c151b0 : (t884 == 0) = false := beq_eq_false_iff_ne.mpr c151
                                    have c151b1 : (t884 != 0) = true := bne_iff_ne.mpr c151
                                    exact absurd H (by simp)
                                · rw [if_neg c150] at H
                                  have c150b0 : (t881 == 0) = false := beq_eq_false_iff_ne.mpr c150
                                  have c150b1 : (t881 != 0) = true := bne_iff_ne.mpr c150
                                  exact absurd H (by simp)
                              · rw [if_neg c149] at H
                                have c149b0 : (x12_3 == x22_4) = false := beq_eq_false_iff_ne.mpr c149
                                have c149b1 : (x12_3 != x22_4) = true := bne_iff_ne.mpr c149
                                exact absurd H (by simp)
                            · rw [if_neg c146] at H
                              exact absurd H (by simp)
                          · rw [if_neg c145] at H
                            exact absurd H (by simp)

end Go.Proofs.Ytcepbgffnneagaa.Q
end
