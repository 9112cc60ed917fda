/- Contracts of Go functions and plain lemmas over what they compute; printed by the kit's print program or written by hand, joined. -/
import Derived.Test.YtcepbgffnneagaaBFnExactJointDensity3
import Derived.Test.YtcepbgffnneagaaBFnExactJointDensity4
import Derived.Test.YtcepbgffnneagaaBFnExactJointDensity6
import Derived.Test.YtcepbgffnneagaaBFnExactJointDensity7
section
namespace Go.Proofs.Ytcepbgffnneagaa.Q
open Go.RowKit Go.Proofs.YtcepbgffnneagaaW.PrintWords Go.Proofs.YtcepbgffnneagaaW.PrintLast Go.Proofs.YtcepbgffnneagaaW.PrintMore
attribute [local go_sem] max2_int min2_int max_two min_two max_three min_three max_four min_four
set_option linter.unusedVariables false
set_option linter.unusedSimpArgs false
attribute [local go_sem high] eqA45
section
mutual
def spec_l04Joint.l0 : Nat → List (List Int) → List (List Int) → Int → Int → Int → Int → Int → Int → Int → Int → Int → Int → Int → Int → Option (Int × Int)
 | 0, _, _, _, _, _, _, _, _, _, _, _, _, _, _ => none
 | k + 1, x9, x10, x11, x12, x13, x665000, x665001, x665002, x670000, x670001, x670002, x674000, x674001, x674002 => if x13 < (x9.length : Int) then (if 0 ≤ x13 then ((spec_l03Part.f k x665000 x665001 x665002 (rd_L1 x9 x13)).bind fun bt685 => (spec_l04Joint.l1 k x9 x10 x11 x12 x13 (bt685.1 == x670000 && ((bt685.2.1 == x670001 && (bt685.2.2 == x670002)))) 0 x665000 x665001 x665002 x670000 x670001 x670002 x674000 x674001 x674002)) else (none)) else ((spec_l04Ratio.f k x11 x12).bind fun bt682 => (some (bt682.1, bt682.2)))
def spec_l04Joint.l1 : Nat → List (List Int) → List (List Int) → Int → Int → Int → Bool → Int → Int → Int → Int → Int → Int → Int → Int → Int → Int → Option (Int × Int)
 | 0, _, _, _, _, _, _, _, _, _, _, _, _, _, _, _, _ => none
 | k + 1, x9, x10, x11, x12, x13, x14, x15, x665000, x665001, x665002, x670000, x670001, x670002, x674000, x674001, x674002 => if x15 < (x10.length : Int) then (if 0 ≤ x13 then (if x13 < (x9.length : Int) then (if 0 ≤ x15 then ((spec_l04Meet.f k (rd_L1 x9 x13) (rd_L1 x10 x15)).bind fun t690 => (if t690 = true then (spec_l04Joint.l1 k x9 x10 x11 x12 x13 x14 (wrap64 (x15 + 1)) x665000 x665001 x665002 x670000 x670001 x670002 x674000 x674001 x674002) else (if x14 = true then ((spec_l03Part.f k x665000 x665001 x665002 (rd_L1 x10 x15)).bind fun bt692 => (if (bt692.1 == x674000 && ((bt692.2.1 == x674001 && (bt692.2.2 == x674002)))) = true then (spec_l04Joint.l1 k x9 x10 (wrap64 (x11 + 1)) (wrap64 (x12 + 1)) x13 x14 (wrap64 (x15 + 1)) x665000 x665001 x665002 x670000 x670001 x670002 x674000 x674001 x674002) else (spec_l04Joint.l1 k x9 x10 x11 (wrap64 (x12 + 1)) x13 x14 (wrap64 (x15 + 1)) x665000 x665001 x665002 x670000 x670001 x670002 x674000 x674001 x674002))) else (spec_l04Joint.l1 k x9 x10 x11 (wrap64 (x12 + 1)) x13 x14 (wrap64 (x15 + 1)) x665000 x665001 x665002 x670000 x670001 x670002 x674000 x674001 x674002)))) else (none)) else (none)) else (none)) else (spec_l04Joint.l0 k x9 x10 x11 x12 (wrap64 (x13 + 1)) x665000 x665001 x665002 x670000 x670001 x670002 x674000 x674001 x674002)
end
def spec_l04Joint.f (k : Nat) (a0_0 : Int) (a0_1 : Int) (a0_2 : Int) (a1_0 : Int) (a1_1 : Int) (a1_2 : Int) (a2_0 : Int) (a2_1 : Int) (a2_2 : Int) : Option (Int × Int) := (spec_l03Least.f k a0_0 a0_1 a0_2).bind fun bt666 => ((spec_l03Least.f k a1_0 a1_1 a1_2).bind fun bt670 => ((spec_l04Free.f a0_0 a0_1 a0_2).bind fun t674 => ((spec_l04Sets.f k t674 a2_0 a2_1 a2_2).bind fun t675 => ((spec_l04Free.f a1_0 a1_1 a1_2).bind fun t678 => ((spec_l04Sets.f k t678 a2_0 a2_1 a2_2).bind fun t679 => (spec_l04Joint.l0 k t675 t679 0 0 0 a2_0 a2_1 a2_2 bt666.1 bt666.2.1 bt666.2.2 bt670.1 bt670.2.1 bt670.2.2))))))
def spec_l04Joint.T10 : Bool × List (List Nat × List Nat) := (true, [([], []), ([], []), ([], []), ([1, 2], [1, 2]), ([3], [3]), ([0, 4], [0, 4]), ([], []), ([5, 6], [5, 6]), ([7, 5, 0, 1, 2, 3, 4, 5, 6, 7], [7])])
def spec_l04Joint.B10 : List Nat := [0, 0, 0, 6, 14, 31, 0, 127, 255]
theorem spec_l04Joint.tab10 : rtab .any (opsOf Try.f80 10) = spec_l04Joint.T10 := by kernel_rfl
theorem spec_l04Joint.bits10 : waitsOk spec_l04Joint.T10.2 spec_l04Joint.B10 = true := by kernel_rfl
def spec_l04Joint.T14 : Bool × List (List Nat × List Nat) := (true, [([], []), ([], []), ([0, 1], [0, 1]), ([2], [2]), ([], []), ([], []), ([4, 5], [4, 5]), ([6], [6]), ([3, 7], [3, 7])])
def spec_l04Joint.B14 : List Nat := [0, 0, 3, 7, 0, 0, 48, 112, 255]
theorem spec_l04Joint.tab14 : rtab .any (opsOf Try.f80 14) = spec_l04Joint.T14 := by kernel_rfl
theorem spec_l04Joint.bits14 : waitsOk spec_l04Joint.T14.2 spec_l04Joint.B14 = true := by kernel_rfl
def spec_l04Joint.T16 : Bool × List (List Nat × List Nat) := (true, [([], []), ([0], [0]), ([1], [1]), ([1], [1]), ([1], [1]), ([3, 4, 1], [1, 3, 4]), ([5, 1], [1, 5]), ([2, 6, 1, 1], [1, 2, 6]), ([1], [1]), ([7, 8, 1], [1, 7, 8]), ([1, 9], [1, 9])])
def spec_l04Joint.B16 : List Nat := [0, 1, 3, 3, 3, 27, 59, 127, 3, 511, 1023]
theorem spec_l04Joint.tab16 : rtab .any (opsOf Try.f80 16) = spec_l04Joint.T16 := by kernel_rfl
theorem spec_l04Joint.bits16 : waitsOk spec_l04Joint.T16.2 spec_l04Joint.B16 = true := by kernel_rfl
set_option maxHeartbeats 8000000 in
set_option maxRecDepth 100000 in
theorem spec_l04Joint.calls (k : Nat) (a0_0 : Int) (a0_1 : Int) (a0_2 : Int) (a1_0 : Int) (a1_1 : Int) (a1_2 : Int) (a2_0 : Int) (a2_1 : Int) (a2_2 : Int) (r1 : Int) (r2 : Int) (w : World) (h : spec_l04Joint.f k a0_0 a0_1 a0_2 a1_0 a1_1 a1_2 a2_0 a2_1 a2_2 = some (r1, r2)) :
  Calls Try.prog 80 #[.agg #[.int .i64 a0_0, .int .i64 a0_1, .int .u32 a0_2], .agg #[.int .i64 a1_0, .int .i64 a1_1, .int .u32 a1_2], .agg #[.int .i64 a2_0, .int .i64 a2_1, .int .u32 a2_2]] w fun e w' => e = .returned (.agg #[.int .i64 r1, .int .i64 r2]) ∧ Below w.heap.size w w' := by
 have hu45 := Try.underlying45
 have hu31 := Try.underlying31
 have HB := Aside0.mk (Below.refl w.heap.size w)
 unfold spec_l04Joint.f at h
 have H := h
 clear h
 replace H := Option.bind_eq_some_iff.mp H
 obtain ⟨⟨t666, t667, t668⟩, A40, H⟩ := H
 (try dsimp only at H)
 have A4 := Aside0.mk A40
 clear A40
 replace H := Option.bind_eq_some_iff.mp H
 obtain ⟨⟨t670, t671, t672⟩, A50, H⟩ := H
 (try dsimp only at H)
 have A5 := Aside0.mk A50
 clear A50
 replace H := Option.bind_eq_some_iff.mp H
 obtain ⟨t674, A60, H⟩ := H
 (try dsimp only at H)
 have A6 := Aside0.mk A60
 clear A60
 replace H := Option.bind_eq_some_iff.mp H
 obtain ⟨t675, A70, H⟩ := H
 (try dsimp only at H)
 have A7 := Aside0.mk A70
 clear A70
 replace H := Option.bind_eq_some_iff.mp H
 obtain ⟨t678, A80, H⟩ := H
 (try dsimp only at H)
 have A8 := Aside0.mk A80
 clear A80
 replace H := Option.bind_eq_some_iff.mp H
 obtain ⟨t679, A90, H⟩ := H
 (try dsimp only at H)
 have A9 := Aside0.mk A90
 clear A90
 have H' := Aside0.mk H
 clear H
 go_enter Try.func80, Try.ntmps80
 try go_wp2_with (first | ((with_reducible refine gate_dst (N := 3) rfl ?_); refine box_event rfl (N := 3) rfl (cs := #[.int .i64 a0_0, .int .i64 a0_1, .int .u32 a0_2]) (t := 45) ?hr ?_; (case hr => first | (go_simp; done) | (go_simp; rfl)); intro gb662 hg w10 hbox hb; have BK662 := Aside0.mk (hbox); have GW662 := geA HB hg; replace HB := hbB HB hb; have GE662 := GW662; clear hb hbox hg) | ((with_reducible refine gate_dst (N := 4) rfl ?_); refine box_event rfl (N := 4) rfl (cs := #[.int .i64 a1_0, .int .i64 a1_1, .int .u32 a1_2]) (t := 45) ?hr ?_; (case hr => first | (go_simp; done) | (go_simp; rfl)); intro gb663 hg w11 hbox hb; have BK663 := Aside0.mk (hbox); have GW663 := geA HB hg; replace HB := hbB HB hb; have GE663 := GW663; have NB662_663 := nbA hg BK662; replace BK662 := bkB BK662 hb; have NB663_662 := neA NB662_663; clear hb hbox hg) | ((with_reducible refine gate_dst (N := 5) rfl ?_); refine box_event rfl (N := 5) rfl (cs := #[.int .i64 a2_0, .int .i64 a2_1, .int .u32 a2_2]) (t := 45) ?hr ?_; (case hr => first | (go_simp; done) | (go_simp; rfl)); intro gb664 hg w12 hbox hb; have BK664 := Aside0.mk (hbox); have GW664 := geA HB hg; replace HB := hbB HB hb; have GE664 := GW664; have NB662_664 := nbA hg BK662; replace BK662 := bkB BK662 hb; have NB664_662 := neA NB662_664; have NB663_664 := nbA hg BK663; replace BK663 := bkB BK663 hb; have NB664_663 := neA NB663_664; clear hb hbox hg) | ((with_reducible refine gate_dst (N := 6) rfl ?_); refine box_event rfl (N := 6) rfl (cs := #[.int .i64 0, .int .i64 0]) (t := 31) ?hr ?_; (case hr => first | (go_simp; done) | (go_simp; rfl)); intro gb665 hg w13 hbox hb; have BK665 := Aside0.mk (hbox); have GW665 := geA HB hg; replace HB := hbB HB hb; have GE665 := GW665; have NB662_665 := nbA hg BK662; replace BK662 := bkB BK662 hb; have NB665_662 := neA NB662_665; have NB663_665 := nbA hg BK663; replace BK663 := bkB BK663 hb; have NB665_663 := neA NB663_665; have NB664_665 := nbA hg BK664; replace BK664 := bkB BK664 hb; have NB665_664 := neA NB664_665; clear hb hbox hg; have hnb14 := NB662_663.out; have hnc14 := NB663_662.out; have hnb15 := NB662_664.out; have hnc15 := NB664_662.out; have hnb16 := NB662_665.out; have hnc16 := NB665_662.out; have hcz17_0 : w13.cell? ⟨gb662, 0, none⟩ = some (.int .i64 a0_0) := bcA BK662 0 rfl; have hcz17_1 : w13.cell? ⟨gb662, 1, none⟩ = some (.int .i64 a0_1) := bcA BK662 1 rfl; have hcz17_2 : w13.cell? ⟨gb662, 2, none⟩ = some (.int .u32 a0_2) := bcA BK662 2 rfl; have hfz17_0 := blk_frozen BK662.out 0; have hfz17_1 := blk_frozen BK662.out 1; have hfz17_2 := blk_frozen BK662.out 2) | ((with_reducible refine gate_callee (f := 126) rfl ?_); refine goesL_ (some 17) rfl rfl Try.func126 (by kernel_rfl) rfl #[.agg #[.int .i64 a0_0, .int .i64 a0_1, .int .u32 a0_2]] rfl (by (try simp only [maA, mbA, mcA]); first | done | rfl | (simp only [List.length_drop, List.length_take]; rfl)) ?_; (with_reducible refine (spec_l03Least.calls k a0_0 a0_1 a0_2 t666 t667 t668 _ A4.out).mono ?_); rintro e w18 ⟨rfl, hb⟩; refine ⟨_, rfl, ?_⟩; replace BK662 := bkB BK662 hb; replace BK663 := bkB BK663 hb; replace BK664 := bkB BK664 hb; replace BK665 := bkB BK665 hb; replace HB := hbB HB hb; (try clear hb); (try clear hk)) | ((with_reducible refine gate_dst (N := 7) rfl ?_); refine box_event rfl (N := 7) rfl (cs := #[.int .i64 0, .int .i64 0, .int .u32 0]) (t := 45) ?hr ?_; (case hr => first | (go_simp; done) | (go_simp; rfl)); intro gb669 hg w19 hbox hb; have BK669 := Aside0.mk (hbox); have GW669 := geA HB hg; replace HB := hbB HB hb; have GE669 := GW669; have NB662_669 := nbA hg BK662; replace BK662 := bkB BK662 hb; have NB669_662 := neA NB662_669; have NB663_669 := nbA hg BK663; replace BK663 := bkB BK663 hb; have NB669_663 := neA NB663_669; have NB664_669 := nbA hg BK664; replace BK664 := bkB BK664 hb; have NB669_664 := neA NB664_669; have NB665_669 := nbA hg BK665; replace BK665 := bkB BK665 hb; have NB669_665 := neA NB665_669; clear hb hbox hg; have hnb20 := NB669_662.out; have hnc20 := NB662_669.out; have hnb21 := NB669_663.out; have hnc21 := NB663_669.out; have hnb22 := NB669_664.out; have hnc22 := NB664_669.out; have hnb23 := NB669_665.out; have hnc23 := NB665_669.out; have hcz24_0 : w19.cell? ⟨gb669, 0, none⟩ = some (.int .i64 0) := bcA BK669 0 rfl; have hcz24_1 : w19.cell? ⟨gb669, 1, none⟩ = some (.int .i64 0) := bcA BK669 1 rfl; have hcz24_2 : w19.cell? ⟨gb669, 2, none⟩ = some (.int .u32 0) := bcA BK669 2 rfl; have hfz24_0 := blk_frozen BK669.out 0; have hfz24_1 := blk_frozen BK669.out 1; have hfz24_2 := blk_frozen BK669.out 2; have hnb25 := NB663_664.out; have hnc25 := NB664_663.out; have hnb26 := NB663_665.out; have hnc26 := NB665_663.out; have hcz27_0 : w19.cell? ⟨gb663, 0, none⟩ = some (.int .i64 a1_0) := bcA BK663 0 rfl; have hcz27_1 : w19.cell? ⟨gb663, 1, none⟩ = some (.int .i64 a1_1) := bcA BK663 1 rfl; have hcz27_2 : w19.cell? ⟨gb663, 2, none⟩ = some (.int .u32 a1_2) := bcA BK663 2 rfl; have hfz27_0 := blk_frozen BK663.out 0; have hfz27_1 := blk_frozen BK663.out 1; have hfz27_2 := blk_frozen BK663.out 2) | ((with_reducible refine gate_callee (f := 126) rfl ?_); refine goesL_ (some 19) rfl rfl Try.func126 (by kernel_rfl) rfl #[.agg #[.int .i64 a1_0, .int .i64 a1_1, .int .u32 a1_2]] rfl (by (try simp only [maA, mbA, mcA]); first | done | rfl | (simp only [List.length_drop, List.length_take]; rfl)) ?_; (with_reducible refine (spec_l03Least.calls k a1_0 a1_1 a1_2 t670 t671 t672 _ A5.out).mono ?_); rintro e w28 ⟨rfl, hb⟩; refine ⟨_, rfl, ?_⟩; replace BK662 := Aside0.mk (blk_below (g := gb662) (o := .cells #[.int .i64 a0_0, .int .i64 a0_1, .int .u32 a0_2] 45 (0, 0)) (by (with_reducible repeat (first | refine blk_drewN ?_ _ | refine blk_drew ?_ | refine blk_alloc ?_ _)); refine blk_far ?_ NB662_669.out _; (with_reducible repeat (first | refine blk_drewN ?_ _ | refine blk_drew ?_ | refine blk_alloc ?_ _)); refine blk_far ?_ NB662_669.out _; (with_reducible repeat (first | refine blk_drewN ?_ _ | refine blk_drew ?_ | refine blk_alloc ?_ _)); refine blk_far ?_ NB662_669.out _; (with_reducible repeat (first | refine blk_drewN ?_ _ | refine blk_drew ?_ | refine blk_alloc ?_ _)); exact BK662.out) hb); replace BK663 := Aside0.mk (blk_below (g := gb663) (o := .cells #[.int .i64 a1_0, .int .i64 a1_1, .int .u32 a1_2] 45 (0, 0)) (by (with_reducible repeat (first | refine blk_drewN ?_ _ | refine blk_drew ?_ | refine blk_alloc ?_ _)); refine blk_far ?_ NB663_669.out _; (with_reducible repeat (first | refine blk_drewN ?_ _ | refine blk_drew ?_ | refine blk_alloc ?_ _)); refine blk_far ?_ NB663_669.out _; (with_reducible repeat (first | refine blk_drewN ?_ _ | refine blk_drew ?_ | refine blk_alloc ?_ _)); refine blk_far ?_ NB663_669.out _; (with_reducible repeat (first | refine blk_drewN ?_ _ | refine blk_drew ?_ | refine blk_alloc ?_ _)); exact BK663.out) hb); replace BK664 := Aside0.mk (blk_below (g := gb664) (o := .cells #[.int .i64 a2_0, .int .i64 a2_1, .int .u32 a2_2] 45 (0, 0)) (by (with_reducible repeat (first | refine blk_drewN ?_ _ | refine blk_drew ?_ | refine blk_alloc ?_ _)); refine blk_far ?_ NB664_669.out _; (with_reducible repeat (first | refine blk_drewN ?_ _ | refine blk_drew ?_ | refine blk_alloc ?_ _)); refine blk_far ?_ NB664_669.out _; (with_reducible repeat (first | refine blk_drewN ?_ _ | refine blk_drew ?_ | refine blk_alloc ?_ _)); refine blk_far ?_ NB664_669.out _; (with_reducible repeat (first | refine blk_drewN ?_ _ | refine blk_drew ?_ | refine blk_alloc ?_ _)); exact BK664.out) hb); replace BK665 := Aside0.mk (blk_below (g := gb665) (o := .cells #[.int .i64 0, .int .i64 0] 31 (0, 0)) (by (with_reducible repeat (first | refine blk_drewN ?_ _ | refine blk_drew ?_ | refine blk_alloc ?_ _)); refine blk_far ?_ NB665_669.out _; (with_reducible repeat (first | refine blk_drewN ?_ _ | refine blk_drew ?_ | refine blk_alloc ?_ _)); refine blk_far ?_ NB665_669.out _; (with_reducible repeat (first | refine blk_drewN ?_ _ | refine blk_drew ?_ | refine blk_alloc ?_ _)); refine blk_far ?_ NB665_669.out _; (with_reducible repeat (first | refine blk_drewN ?_ _ | refine blk_drew ?_ | refine blk_alloc ?_ _)); exact BK665.out) hb); replace BK669 := Aside0.mk (blk_below (g := gb669) (o := .cells #[.int .i64 t666, .int .i64 t667, .int .u32 t668] 45 (0, 0)) (by (with_reducible repeat (first | refine blk_drewN ?_ _ | refine blk_drew ?_ | refine blk_alloc ?_ _)); refine blk_put (cs := #[.int .i64 t666, .int .i64 t667, .int .u32 0]) ?_ 2 _ rfl; (with_reducible repeat (first | refine blk_drewN ?_ _ | refine blk_drew ?_ | refine blk_alloc ?_ _)); refine blk_put (cs := #[.int .i64 t666, .int .i64 0, .int .u32 0]) ?_ 1 _ rfl; (with_reducible repeat (first | refine blk_drewN ?_ _ | refine blk_drew ?_ | refine blk_alloc ?_ _)); refine blk_put (cs := #[.int .i64 0, .int .i64 0, .int .u32 0]) ?_ 0 _ rfl; (with_reducible repeat (first | refine blk_drewN ?_ _ | refine blk_drew ?_ | refine blk_alloc ?_ _)); exact BK669.out) hb); replace HB := Aside0.mk (below_step (by repeat (first | (with_reducible first | exact HB.out | apply below_alloc | apply pw_below_drewN | apply below_drew1 | refine below_set ?_ (Aside0.out (by assumption))) | exact HB.out)) hb); (try clear hb); (try clear hk)) | ((with_reducible refine gate_dst (N := 8) rfl ?_); refine box_event rfl (N := 8) rfl (cs := #[.int .i64 0, .int .i64 0, .int .u32 0]) (t := 45) ?hr ?_; (case hr => first | (go_simp; done) | (go_simp; rfl)); intro gb673 hg w29 hbox hb; have BK673 := Aside0.mk (hbox); have GW673 := geA HB hg; replace HB := hbB HB hb; have GE673 := GW673; have NB662_673 := nbA hg BK662; replace BK662 := bkB BK662 hb; have NB673_662 := neA NB662_673; have NB663_673 := nbA hg BK663; replace BK663 := bkB BK663 hb; have NB673_663 := neA NB663_673; have NB664_673 := nbA hg BK664; replace BK664 := bkB BK664 hb; have NB673_664 := neA NB664_673; have NB665_673 := nbA hg BK665; replace BK665 := bkB BK665 hb; have NB673_665 := neA NB665_673; have NB669_673 := nbA hg BK669; replace BK669 := bkB BK669 hb; have NB673_669 := neA NB669_673; clear hb hbox hg; have hnb30 := NB673_662.out; have hnc30 := NB662_673.out; have hnb31 := NB673_663.out; have hnc31 := NB663_673.out; have hnb32 := NB673_664.out; have hnc32 := NB664_673.out; have hnb33 := NB673_665.out; have hnc33 := NB665_673.out; have hnb34 := NB673_669.out; have hnc34 := NB669_673.out; have hcz35_0 : w29.cell? ⟨gb673, 0, none⟩ = some (.int .i64 0) := bcA BK673 0 rfl; have hcz35_1 : w29.cell? ⟨gb673, 1, none⟩ = some (.int .i64 0) := bcA BK673 1 rfl; have hcz35_2 : w29.cell? ⟨gb673, 2, none⟩ = some (.int .u32 0) := bcA BK673 2 rfl; have hfz35_0 := blk_frozen BK673.out 0; have hfz35_1 := blk_frozen BK673.out 1; have hfz35_2 := blk_frozen BK673.out 2))
 have n0_ : Aside0 ((((w29.setCell ⟨gb673, 0, none⟩ (.int .i64 t670)).setCell ⟨gb673, 1, none⟩ (.int .i64 t671)).setCell ⟨gb673, 2, none⟩ (.int .u32 t672)).heap[gb662]? = some (.cells #[.int .i64 a0_0, .int .i64 a0_1, .int .u32 a0_2] 45 (0, 0))) := ⟨by (with_reducible repeat (first | refine blk_drewN ?_ _ | refine blk_drew ?_ | refine blk_alloc ?_ _)); refine blk_far ?_ NB662_673.out _; (with_reducible repeat (first | refine blk_drewN ?_ _ | refine blk_drew ?_ | refine blk_alloc ?_ _)); refine blk_far ?_ NB662_673.out _; (with_reducible repeat (first | refine blk_drewN ?_ _ | refine blk_drew ?_ | refine blk_alloc ?_ _)); refine blk_far ?_ NB662_673.out _; (with_reducible repeat (first | refine blk_drewN ?_ _ | refine blk_drew ?_ | refine blk_alloc ?_ _)); exact BK662.out⟩
 have n1_ : Aside0 ((((w29.setCell ⟨gb673, 0, none⟩ (.int .i64 t670)).setCell ⟨gb673, 1, none⟩ (.int .i64 t671)).setCell ⟨gb673, 2, none⟩ (.int .u32 t672)).heap[gb663]? = some (.cells #[.int .i64 a1_0, .int .i64 a1_1, .int .u32 a1_2] 45 (0, 0))) := ⟨by (with_reducible repeat (first | refine blk_drewN ?_ _ | refine blk_drew ?_ | refine blk_alloc ?_ _)); refine blk_far ?_ NB663_673.out _; (with_reducible repeat (first | refine blk_drewN ?_ _ | refine blk_drew ?_ | refine blk_alloc ?_ _)); refine blk_far ?_ NB663_673.out _; (with_reducible repeat (first | refine blk_drewN ?_ _ | refine blk_drew ?_ | refine blk_alloc ?_ _)); refine blk_far ?_ NB663_673.out _; (with_reducible repeat (first | refine blk_drewN ?_ _ | refine blk_drew ?_ | refine blk_alloc ?_ _)); exact BK663.out⟩
 have n2_ : Aside0 ((((w29.setCell ⟨gb673, 0, none⟩ (.int .i64 t670)).setCell ⟨gb673, 1, none⟩ (.int .i64 t671)).setCell ⟨gb673, 2, none⟩ (.int .u32 t672)).heap[gb664]? = some (.cells #[.int .i64 a2_0, .int .i64 a2_1, .int .u32 a2_2] 45 (0, 0))) := ⟨by (with_reducible repeat (first | refine blk_drewN ?_ _ | refine blk_drew ?_ | refine blk_alloc ?_ _)); refine blk_far ?_ NB664_673.out _; (with_reducible repeat (first | refine blk_drewN ?_ _ | refine blk_drew ?_ | refine blk_alloc ?_ _)); refine blk_far ?_ NB664_673.out _; (with_reducible repeat (first | refine blk_drewN ?_ _ | refine blk_drew ?_ | refine blk_alloc ?_ _)); refine blk_far ?_ NB664_673.out _; (with_reducible repeat (first | refine blk_drewN ?_ _ | refine blk_drew ?_ | refine blk_alloc ?_ _)); exact BK664.out⟩
 have n3_ : Aside0 ((((w29.setCell ⟨gb673, 0, none⟩ (.int .i64 t670)).setCell ⟨gb673, 1, none⟩ (.int .i64 t671)).setCell ⟨gb673, 2, none⟩ (.int .u32 t672)).heap[gb665]? = some (.cells #[.int .i64 0, .int .i64 0] 31 (0, 0))) := ⟨by (with_reducible repeat (first | refine blk_drewN ?_ _ | refine blk_drew ?_ | refine blk_alloc ?_ _)); refine blk_far ?_ NB665_673.out _; (with_reducible repeat (first | refine blk_drewN ?_ _ | refine blk_drew ?_ | refine blk_alloc ?_ _)); refine blk_far ?_ NB665_673.out _; (with_reducible repeat (first | refine blk_drewN ?_ _ | refine blk_drew ?_ | refine blk_alloc ?_ _)); refine blk_far ?_ NB665_673.out _; (with_reducible repeat (first | refine blk_drewN ?_ _ | refine blk_drew ?_ | refine blk_alloc ?_ _)); exact BK665.out⟩
 have n4_ : Aside0 ((((w29.setCell ⟨gb673, 0, none⟩ (.int .i64 t670)).setCell ⟨gb673, 1, none⟩ (.int .i64 t671)).setCell ⟨gb673, 2, none⟩ (.int .u32 t672)).heap[gb669]? = some (.cells #[.int .i64 t666, .int .i64 t667, .int .u32 t668] 45 (0, 0))) := ⟨by (with_reducible repeat (first | refine blk_drewN ?_ _ | refine blk_drew ?_ | refine blk_alloc ?_ _)); refine blk_far ?_ NB669_673.out _; (with_reducible repeat (first | refine blk_drewN ?_ _ | refine blk_drew ?_ | refine blk_alloc ?_ _)); refine blk_far ?_ NB669_673.out _; (with_reducible repeat (first | refine blk_drewN ?_ _ | refine blk_drew ?_ | refine blk_alloc ?_ _)); refine blk_far ?_ NB669_673.out _; (with_reducible repeat (first | refine blk_drewN ?_ _ | refine blk_drew ?_ | refine blk_alloc ?_ _)); exact BK669.out⟩
 have n5_ : Aside0 ((((w29.setCell ⟨gb673, 0, none⟩ (.int .i64 t670)).setCell ⟨gb673, 1, none⟩ (.int .i64 t671)).setCell ⟨gb673, 2, none⟩ (.int .u32 t672)).heap[gb673]? = some (.cells #[.int .i64 t670, .int .i64 t671, .int .u32 t672] 45 (0, 0))) := ⟨by (with_reducible repeat (first | refine blk_drewN ?_ _ | refine blk_drew ?_ | refine blk_alloc ?_ _)); refine blk_put (cs := #[.int .i64 t670, .int .i64 t671, .int .u32 0]) ?_ 2 _ rfl; (with_reducible repeat (first | refine blk_drewN ?_ _ | refine blk_drew ?_ | refine blk_alloc ?_ _)); refine blk_put (cs := #[.int .i64 t670, .int .i64 0, .int .u32 0]) ?_ 1 _ rfl; (with_reducible repeat (first | refine blk_drewN ?_ _ | refine blk_drew ?_ | refine blk_alloc ?_ _)); refine blk_put (cs := #[.int .i64 0, .int .i64 0, .int .u32 0]) ?_ 0 _ rfl; (with_reducible repeat (first | refine blk_drewN ?_ _ | refine blk_drew ?_ | refine blk_alloc ?_ _)); exact BK673.out⟩
 have n6_ : Aside0 (Below w.heap.size w (((w29.setCell ⟨gb673, 0, none⟩ (.int .i64 t670)).setCell ⟨gb673, 1, none⟩ (.int .i64 t671)).setCell ⟨gb673, 2, none⟩ (.int .u32 t672))) := ⟨by repeat (first | (with_reducible first | exact HB.out | apply below_alloc | apply pw_below_drewN | apply below_drew1 | refine below_set ?_ (Aside0.out (by assumption))) | exact HB.out)⟩
 (try clear BK662)
 (try clear BK663)
 (try clear BK664)
 (try clear BK665)
 (try clear BK669)
 (try clear BK673)
 (try clear HB)
 generalize (((w29.setCell ⟨gb673, 0, none⟩ (.int .i64 t670)).setCell ⟨gb673, 1, none⟩ (.int .i64 t671)).setCell ⟨gb673, 2, none⟩ (.int .u32 t672)) = w36 at n0_ n1_ n2_ n3_ n4_ n5_ n6_ ⊢
 have BK662 := n0_
 have BK663 := n1_
 have BK664 := n2_
 have BK665 := n3_
 have BK669 := n4_
 have BK673 := n5_
 have HB := n6_
 clear n0_ n1_ n2_ n3_ n4_ n5_ n6_
 replace BK662 := Aside0.mk (blk_drew BK662.out)
 replace BK663 := Aside0.mk (blk_drew BK663.out)
 replace BK664 := Aside0.mk (blk_drew BK664.out)
 replace BK665 := Aside0.mk (blk_drew BK665.out)
 replace BK669 := Aside0.mk (blk_drew BK669.out)
 replace BK673 := Aside0.mk (blk_drew BK673.out)
 replace HB := Aside0.mk (below_drew1 HB.out)
 refine start_ (n := 5) (S := fun w' => w'.cell? ⟨gb662, 0, none⟩ = some (.int .i64 a0_0) ∧ w'.cell? ⟨gb662, 1, none⟩ = some (.int .i64 a0_1) ∧ w'.cell? ⟨gb662, 2, none⟩ = some (.int .u32 a0_2) ∧ w'.cell? ⟨gb664, 0, none⟩ = some (.int .i64 a2_0) ∧ w'.cell? ⟨gb664, 1, none⟩ = some (.int .i64 a2_1) ∧ w'.cell? ⟨gb664, 2, none⟩ = some (.int .u32 a2_2)) (ds := []) #[false, false, false, false, false] (by kernel_rfl) rfl rfl ⟨bcA BK662 0 rfl, bcA BK662 1 rfl, bcA BK662 2 rfl, bcA BK664 0 rfl, bcA BK664 1 rfl, bcA BK664 2 rfl⟩ (fun hHeld => ?_)
 generalize w36.drew = w37 at BK662 BK663 BK664 BK665 BK669 BK673 HB hHeld ⊢
 refine take_ (i := 0) (N := some 20) (v := ?_) (a' := ?_) #[true, false, false, false, false] rfl rfl (by kernel_rfl) (fun _ _ _ h => h) (Or.inl ⟨by rfl, ?_⟩) hHeld ?_ ?_
 rotate_left;(rintro w' ⟨s0, s1, s2, s3, s4, s5⟩;go_simp;with_reducible rfl);rotate_left;(simp only [Act.put, psA, pzA, pnA, i64_w, i32_w];rfl)
 refine take_ (i := 2) (N := some 22) (v := ?_) (a' := ?_) #[true, false, true, false, false] rfl rfl (by kernel_rfl) (fun _ _ _ h => h) (Or.inl ⟨by rfl, ?_⟩) hHeld ?_ ?_
 rotate_left;(rintro w' ⟨s0, s1, s2, s3, s4, s5⟩;go_simp;with_reducible rfl);rotate_left;(simp only [Act.put, psA, pzA, pnA, i64_w, i32_w];rfl)
 refine one_ (i := 1) (N := some 21) #[true, true, true, false, false] rfl rfl (by kernel_rfl) (by decide) (fun K hK => ?_)
 refine goes_ Try.func79 (by kernel_rfl) rfl #[.agg #[.int .i64 a0_0, .int .i64 a0_1, .int .u32 a0_2]] (by rfl) rfl rfl (by first | rfl | (simp only [List.map_toArray, List.map_cons, List.map_nil, List.length_drop, List.length_take]; rfl)) ?_
 with_reducible refine (spec_l04Free.calls a0_0 a0_1 a0_2 t674 _ A6.out).mono ?_
 rintro e w38 ⟨rfl, hb⟩
 refine ⟨_, rfl, ?_⟩
 replace BK662 := bkB BK662 hb
 replace BK663 := bkB BK663 hb
 replace BK664 := bkB BK664 hb
 replace BK665 := bkB BK665 hb
 replace BK669 := bkB BK669 hb
 replace BK673 := bkB BK673 hb
 replace HB := hbB HB hb
 (try clear hb)
 (try clear hk)
 refine hK.out _ _ ⟨bcA BK662 0 rfl, bcA BK662 1 rfl, bcA BK662 2 rfl, bcA BK664 0 rfl, bcA BK664 1 rfl, bcA BK664 2 rfl⟩ (fun hHeld => ?_)
 clear hK K
 refine norm_ (a' := ?_) ?_ ?_
 rotate_left;(show Act.put _ (some 21) _ = _;simp only [Act.put, psA, pzA, pnA, i64_w, i32_w];rfl)
 refine one_ (i := 3) (N := some 23) #[true, true, true, true, false] rfl rfl (by kernel_rfl) (by decide) (fun K hK => ?_)
 refine goes_ Try.func119 (by kernel_rfl) rfl #[.int .i64 t674, .agg #[.int .i64 a2_0, .int .i64 a2_1, .int .u32 a2_2]] (by rfl) rfl rfl (by first | rfl | (simp only [List.map_toArray, List.map_cons, List.map_nil, List.length_drop, List.length_take]; rfl)) ?_
 with_reducible refine (spec_l04Sets.calls k t674 a2_0 a2_1 a2_2 t675 _ A7.out).mono ?_
 rintro e w39 ⟨v676, rfl, ho0, hb⟩
 refine ⟨_, rfl, ?_⟩
 have HO677 := Aside0.mk (Kd.S_lower ho0 (below_size HB.out))
 replace BK662 := bkB BK662 hb
 replace BK663 := bkB BK663 hb
 replace BK664 := bkB BK664 hb
 replace BK665 := bkB BK665 hb
 replace BK669 := bkB BK669 hb
 replace BK673 := bkB BK673 hb
 replace HB := hbB HB hb
 (try clear hb)
 (try clear hk)
 (try clear ho0)
 refine hK.out _ _ ⟨bcA BK662 0 rfl, bcA BK662 1 rfl, bcA BK662 2 rfl, bcA BK664 0 rfl, bcA BK664 1 rfl, bcA BK664 2 rfl⟩ (fun hHeld => ?_)
 clear hK K
 refine norm_ (a' := ?_) ?_ ?_
 rotate_left;(show Act.put _ (some 23) _ = _;simp only [Act.put, psA, pzA, pnA, i64_w, i32_w];rfl)
 refine pure_ (i := 4) (N := some 9) (v := ?_) (a' := ?_) #[true, true, true, true, true] rfl rfl (by kernel_rfl) (fun _ _ _ h => h) (Or.inl ⟨by rfl, ?_⟩) ?_ ?_
 rotate_left;(intro w';go_simp;with_reducible rfl);rotate_left;(simp only [Act.put, psA, pzA, pnA, i64_w, i32_w];rfl)
 refine done_ (by kernel_rfl) ?_
 try go_wp2
 replace HO677 := Aside0.mk (Kd.S_drew HO677.out)
 replace BK662 := Aside0.mk (blk_drew BK662.out)
 replace BK663 := Aside0.mk (blk_drew BK663.out)
 replace BK664 := Aside0.mk (blk_drew BK664.out)
 replace BK665 := Aside0.mk (blk_drew BK665.out)
 replace BK669 := Aside0.mk (blk_drew BK669.out)
 replace BK673 := Aside0.mk (blk_drew BK673.out)
 replace HB := Aside0.mk (below_drew1 HB.out)
 refine start_ (n := 5) (S := fun w' => w'.cell? ⟨gb663, 0, none⟩ = some (.int .i64 a1_0) ∧ w'.cell? ⟨gb663, 1, none⟩ = some (.int .i64 a1_1) ∧ w'.cell? ⟨gb663, 2, none⟩ = some (.int .u32 a1_2) ∧ w'.cell? ⟨gb664, 0, none⟩ = some (.int .i64 a2_0) ∧ w'.cell? ⟨gb664, 1, none⟩ = some (.int .i64 a2_1) ∧ w'.cell? ⟨gb664, 2, none⟩ = some (.int .u32 a2_2)) (ds := []) #[false, false, false, false, false] (by kernel_rfl) rfl rfl ⟨bcA BK663 0 rfl, bcA BK663 1 rfl, bcA BK663 2 rfl, bcA BK664 0 rfl, bcA BK664 1 rfl, bcA BK664 2 rfl⟩ (fun hHeld => ?_)
 generalize w39.drew = w40 at HO677 BK662 BK663 BK664 BK665 BK669 BK673 HB hHeld ⊢
 refine take_ (i := 0) (N := some 24) (v := ?_) (a' := ?_) #[true, false, false, false, false] rfl rfl (by kernel_rfl) (fun _ _ _ h => h) (Or.inl ⟨by rfl, ?_⟩) hHeld ?_ ?_
 rotate_left;(rintro w' ⟨s0, s1, s2, s3, s4, s5⟩;go_simp;with_reducible rfl);rotate_left;(simp only [Act.put, psA, pzA, pnA, i64_w, i32_w];rfl)
 refine take_ (i := 2) (N := some 26) (v := ?_) (a' := ?_) #[true, false, true, false, false] rfl rfl (by kernel_rfl) (fun _ _ _ h => h) (Or.inl ⟨by rfl, ?_⟩) hHeld ?_ ?_
 rotate_left;(rintro w' ⟨s0, s1, s2, s3, s4, s5⟩;go_simp;with_reducible rfl);rotate_left;(simp only [Act.put, psA, pzA, pnA, i64_w, i32_w];rfl)
 refine one_ (i := 1) (N := some 25) #[true, true, true, false, false] rfl rfl (by kernel_rfl) (by decide) (fun K hK => ?_)
 refine goes_ Try.func79 (by kernel_rfl) rfl #[.agg #[.int .i64 a1_0, .int .i64 a1_1, .int .u32 a1_2]] (by rfl) rfl rfl (by first | rfl | (simp only [List.map_toArray, List.map_cons, List.map_nil, List.length_drop, List.length_take]; rfl)) ?_
 with_reducible refine (spec_l04Free.calls a1_0 a1_1 a1_2 t678 _ A8.out).mono ?_
 rintro e w41 ⟨rfl, hb⟩
 refine ⟨_, rfl, ?_⟩
 replace HO677 := Kd.S_b HO677 hb
 replace BK662 := bkB BK662 hb
 replace BK663 := bkB BK663 hb
 replace BK664 := bkB BK664 hb
 replace BK665 := bkB BK665 hb
 replace BK669 := bkB BK669 hb
 replace BK673 := bkB BK673 hb
 replace HB := hbB HB hb
 (try clear hb)
 (try clear hk)
 refine hK.out _ _ ⟨bcA BK663 0 rfl, bcA BK663 1 rfl, bcA BK663 2 rfl, bcA BK664 0 rfl, bcA BK664 1 rfl, bcA BK664 2 rfl⟩ (fun hHeld => ?_)
 clear hK K
 refine norm_ (a' := ?_) ?_ ?_
 rotate_left;(show Act.put _ (some 25) _ = _;simp only [Act.put, psA, pzA, pnA, i64_w, i32_w];rfl)
 refine one_ (i := 3) (N := some 27) #[true, true, true, true, false] rfl rfl (by kernel_rfl) (by decide) (fun K hK => ?_)
 refine goes_ Try.func119 (by kernel_rfl) rfl #[.int .i64 t678, .agg #[.int .i64 a2_0, .int .i64 a2_1, .int .u32 a2_2]] (by rfl) rfl rfl (by first | rfl | (simp only [List.map_toArray, List.map_cons, List.map_nil, List.length_drop, List.length_take]; rfl)) ?_
 with_reducible refine (spec_l04Sets.calls k t678 a2_0 a2_1 a2_2 t679 _ A9.out).mono ?_
 rintro e w42 ⟨v680, rfl, ho0, hb⟩
 refine ⟨_, rfl, ?_⟩
 have HO681 := Aside0.mk (Kd.S_lower (Kd.S_new' ho0 (Kd.S_lt (by (with_reducible repeat (first | apply Kd.S_alloc | apply Kd.S_drewN | apply Kd.S_drew)); exact HO677.out))) (below_size HB.out))
 replace HO677 := Aside0.mk (Kd.S_elder' (by (with_reducible repeat (first | apply Kd.S_alloc | apply Kd.S_drewN | apply Kd.S_drew)); exact HO677.out) (Kd.S_base ho0) hb)
 replace BK662 := bkB BK662 hb
 replace BK663 := bkB BK663 hb
 replace BK664 := bkB BK664 hb
 replace BK665 := bkB BK665 hb
 replace BK669 := bkB BK669 hb
 replace BK673 := bkB BK673 hb
 replace HB := hbB HB hb
 (try clear hb)
 (try clear hk)
 (try clear ho0)
 refine hK.out _ _ ⟨bcA BK663 0 rfl, bcA BK663 1 rfl, bcA BK663 2 rfl, bcA BK664 0 rfl, bcA BK664 1 rfl, bcA BK664 2 rfl⟩ (fun hHeld => ?_)
 clear hK K
 refine norm_ (a' := ?_) ?_ ?_
 rotate_left;(show Act.put _ (some 27) _ = _;simp only [Act.put, psA, pzA, pnA, i64_w, i32_w];rfl)
 refine pure_ (i := 4) (N := some 10) (v := ?_) (a' := ?_) #[true, true, true, true, true] rfl rfl (by kernel_rfl) (fun _ _ _ h => h) (Or.inl ⟨by rfl, ?_⟩) ?_ ?_
 rotate_left;(intro w';go_simp;with_reducible rfl);rotate_left;(simp only [Act.put, psA, pzA, pnA, i64_w, i32_w];rfl)
 refine done_ (by kernel_rfl) ?_
 try go_wp2
 go_loopg [11, 12, 13] k (fun kq v11 v12 v13 w' => ∃ (x11_1 : Int) (x12_1 : Int) (x13_1 : Int), v11 = .int .i64 x11_1 ∧ v12 = .int .i64 x12_1 ∧ v13 = .int .i64 x13_1 ∧ Aside0 (spec_l04Joint.l0 kq t675 t679 x11_1 x12_1 x13_1 a2_0 a2_1 a2_2 t666 t667 t668 t670 t671 t672 = some (r1, r2)) ∧ Aside0 (kq ≤ k) ∧ Aside0 (Kd.S (Kd.slice 2 (Kd.int .i64)) 62 w' w.heap.size (fun k_ => some k_ ≠ (v680 : Value).ownBlock) v676 t675) ∧ Aside0 (Kd.S (Kd.slice 2 (Kd.int .i64)) 62 w' w.heap.size (fun k_ => some k_ ≠ (v676 : Value).ownBlock) v680 t679) ∧ Aside0 (w'.heap[gb662]? = some (.cells #[.int .i64 a0_0, .int .i64 a0_1, .int .u32 a0_2] 45 (0, 0))) ∧ Aside0 (w'.heap[gb663]? = some (.cells #[.int .i64 a1_0, .int .i64 a1_1, .int .u32 a1_2] 45 (0, 0))) ∧ Aside0 (w'.heap[gb664]? = some (.cells #[.int .i64 a2_0, .int .i64 a2_1, .int .u32 a2_2] 45 (0, 0))) ∧ Aside0 (w'.heap[gb665]? = some (.cells #[.int .i64 0, .int .i64 0] 31 (0, 0))) ∧ Aside0 (w'.heap[gb669]? = some (.cells #[.int .i64 t666, .int .i64 t667, .int .u32 t668] 45 (0, 0))) ∧ Aside0 (w'.heap[gb673]? = some (.cells #[.int .i64 t670, .int .i64 t671, .int .u32 t672] 45 (0, 0))) ∧ Aside0 (Below w.heap.size w w'))
 case atStart => exact ⟨(0), (0), (0), (by first | rfl | (simp; done) | (simp [*]; done)), (by first | rfl | (simp; done) | (simp [*]; done)), (by first | rfl | (simp; done) | (simp [*]; done)), H', ⟨Nat.le_refl _⟩, ⟨by (with_reducible repeat (first | apply Kd.S_alloc | apply Kd.S_drewN | apply Kd.S_drew)); exact Kd.S_mono HO677.out (fun _ hk => hk.2)⟩, ⟨by (with_reducible repeat (first | apply Kd.S_alloc | apply Kd.S_drewN | apply Kd.S_drew)); exact Kd.S_mono HO681.out (fun _ hk => hk.2)⟩, ⟨by (with_reducible repeat (first | refine blk_drewN ?_ _ | refine blk_drew ?_ | refine blk_alloc ?_ _)); exact BK662.out⟩, ⟨by (with_reducible repeat (first | refine blk_drewN ?_ _ | refine blk_drew ?_ | refine blk_alloc ?_ _)); exact BK663.out⟩, ⟨by (with_reducible repeat (first | refine blk_drewN ?_ _ | refine blk_drew ?_ | refine blk_alloc ?_ _)); exact BK664.out⟩, ⟨by (with_reducible repeat (first | refine blk_drewN ?_ _ | refine blk_drew ?_ | refine blk_alloc ?_ _)); exact BK665.out⟩, ⟨by (with_reducible repeat (first | refine blk_drewN ?_ _ | refine blk_drew ?_ | refine blk_alloc ?_ _)); exact BK669.out⟩, ⟨by (with_reducible repeat (first | refine blk_drewN ?_ _ | refine blk_drew ?_ | refine blk_alloc ?_ _)); exact BK673.out⟩, ⟨by repeat (first | (with_reducible first | exact HB.out | apply below_alloc | apply pw_below_drewN | apply below_drew1 | refine below_set ?_ (Aside0.out (by assumption))) | exact HB.out)⟩⟩
 case round =>
  clear H'
  try clear c1
  try clear c2
  try clear p2
  try clear c3
  try clear c7
  try clear c8
  try clear c11
  try clear c12
  try clear c14
  try clear c15
  try clear c16
  try clear c20
  try clear c21
  try clear c22
  try clear c23
  try clear c25
  try clear c26
  try clear c30
  try clear c31
  try clear c32
  try clear c33
  try clear c34
  try clear hcz17_0
  try clear hcz17_1
  try clear hcz17_2
  try clear hcz24_0
  try clear hcz24_1
  try clear hcz24_2
  try clear hcz27_0
  try clear hcz27_1
  try clear hcz27_2
  try clear hcz35_0
  try clear hcz35_1
  try clear hcz35_2
  try clear hfz17_0
  try clear hfz17_1
  try clear hfz17_2
  try clear hfz24_0
  try clear hfz24_1
  try clear hfz24_2
  try clear hfz27_0
  try clear hfz27_1
  try clear hfz27_2
  try clear hfz35_0
  try clear hfz35_1
  try clear hfz35_2
  obtain ⟨x11_1, x12_1, x13_1, rfl, rfl, rfl, HA, HK1, HO_9, HO_10, BK662, BK663, BK664, BK665, BK669, BK673, HB⟩ := hrel
  cases gk with
  | zero => exact absurd HA.out (by simp [spec_l04Joint.l0])
  | succ k1 =>
   have H := HA.out
   clear HA
   simp only [spec_l04Joint.l0] at H
   by_cases c43 : x13_1 < (t675.length : Int)
   ·rw [if_pos c43] at H
    have c43b0 : decide (x13_1 < (t675.length : Int)) = true := decide_eq_true c43
    clear c43
    by_cases c44 : 0 ≤ x13_1
    ·rw [if_pos c44] at H
     have c44b0 : decide (0 ≤ x13_1) = true := decide_eq_true c44
     clear c44
     replace H := Option.bind_eq_some_iff.mp H
     obtain ⟨⟨t685, t686, t687⟩, A450, H⟩ := H
     (try dsimp only at H)
     have A45 := Aside0.mk A450
     clear A450
     have H' := Aside0.mk H
     clear H
     obtain ⟨Ao46, co46, eo46⟩ := Kd.S_slice HO_9.out
     subst eo46
     try go_wp2
     replace HO_9 := Aside0.mk (Kd.S_drew HO_9.out)
     replace HO_10 := Aside0.mk (Kd.S_drew HO_10.out)
     replace BK662 := Aside0.mk (blk_drew BK662.out)
     replace BK663 := Aside0.mk (blk_drew BK663.out)
     replace BK664 := Aside0.mk (blk_drew BK664.out)
     replace BK665 := Aside0.mk (blk_drew BK665.out)
     replace BK669 := Aside0.mk (blk_drew BK669.out)
     replace BK673 := Aside0.mk (blk_drew BK673.out)
     replace HB := Aside0.mk (below_drew1 HB.out)
     have p684 : 0 ≤ (x13_1 : Int) := of_decide_eq_true (by first | (with_reducible assumption) | assumption)
     have q684 : x13_1 < (t675.length : Int) := of_decide_eq_true (by first | (with_reducible assumption) | assumption)
     obtain ⟨ad684, A684_0, c684_0, e684, hx684_0, hl684_0, hi684_0⟩ := at_L1 (Kd.S_reads' HO_9.out).2.2 x13_1 p684 q684
     cases e684
     obtain ⟨ce684, hce684, hMe684, hcc684⟩ := Kd.S_get HO_9.out [] x13_1 p684 (by first | exact q684 | exact of_decide_eq_true (by first | (with_reducible assumption) | assumption) | (have e_ := (Kd.S_reads' HO_9.out).1; omega))
     obtain ⟨ve684_0, rfl, ge684_0⟩ := hMe684
     have hv684_0 := hcc684 0 _ rfl
     rw [Nat.add_zero, show ((Kd.slice 2 (Kd.int .i64))).sz = 1 from rfl, Nat.mul_one] at hv684_0
     replace hv684_0 := Option.some.inj (hv684_0.symm.trans hx684_0)
     rw [hv684_0] at ge684_0
     have HL684_0 := Aside0.mk (show Kd.R (Kd.int .i64) 2 _ _ _ _ (rd_L1 t675 x13_1) from ge684_0)
     clear hv684_0 ge684_0
     clear hcc684 hce684
     have HR684_0 := Aside0.mk hi684_0
     have HC684_0 := Aside0.mk hl684_0
     clear hi684_0 hl684_0
     replace p684 := eq_true p684
     replace q684 := eq_true q684
     refine start_ (n := 9) (S := fun w' => w'.cell? ⟨gb664, 0, none⟩ = some (.int .i64 a2_0) ∧ w'.cell? ⟨gb664, 1, none⟩ = some (.int .i64 a2_1) ∧ w'.cell? ⟨gb664, 2, none⟩ = some (.int .u32 a2_2) ∧ w'.cell? ⟨gb669, 0, none⟩ = some (.int .i64 t666) ∧ w'.cell? ⟨gb669, 1, none⟩ = some (.int .i64 t667) ∧ w'.cell? ⟨gb669, 2, none⟩ = some (.int .u32 t668) ∧ w'.cell? (ad684.add (x13_1).toNat) = some (.slice A684_0 (rd_L1 t675 x13_1).length c684_0)) (ds := []) #[false, false, false, false, false, false, false, false, false] (by kernel_rfl) rfl rfl ⟨bcA BK664 0 rfl, bcA BK664 1 rfl, bcA BK664 2 rfl, bcA BK669 0 rfl, bcA BK669 1 rfl, bcA BK669 2 rfl, hx684_0⟩ (fun hHeld => ?_); refine with_tabW spec_l04Joint.tab10 spec_l04Joint.bits10 (fun HT_ HW_ => ?_)
     generalize wr.drew = w47 at HO_9 HO_10 BK662 BK663 BK664 BK665 BK669 BK673 HB HL684_0 HR684_0 hx684_0 hHeld ⊢
     refine pure_ (i := 1) (N := some 35) (v := ?_) (a' := ?_) #[false, true, false, false, false, false, false, false, false] rfl rfl (any_of HT_.out (by kernel_rfl)) (fun _ _ _ h => h) (Or.inl ⟨by rfl, ?_⟩) ?_ ?_
     rotate_left;(intro w';go_simp;with_reducible rfl);rotate_left;(simp only [Act.put, psA, pzA, pnA, i64_w, i32_w];rfl)
     refine pure_ (i := 2) (N := some 36) (v := ?_) (a' := ?_) #[false, true, true, false, false, false, false, false, false] rfl rfl (any_of HT_.out (by kernel_rfl)) (fun _ _ _ h => h) (Or.inl ⟨by rfl, ?_⟩) ?_ ?_
     rotate_left;(intro w';go_simp;with_reducible rfl);rotate_left;(simp only [Act.put, psA, pzA, pnA, i64_w, i32_w];rfl)
     refine pure_ (i := 3) (N := some 37) (v := ?_) (a' := ?_) #[false, true, true, true, false, false, false, false, false] rfl rfl (any_of HT_.out (by kernel_rfl)) (fun _ _ _ h => h) (Or.inl ⟨by rfl, ?_⟩) ?_ ?_
     rotate_left;(intro w';go_simp;with_reducible rfl);rotate_left;(simp only [Act.put, psA, pzA, pnA, i64_w, i32_w];rfl)
     refine take_ (i := 0) (N := some 34) (v := ?_) (a' := ?_) #[true, true, true, true, false, false, false, false, false] rfl rfl (take_ofW HT_.out HW_.out (by kernel_rfl)) (fun _ _ _ h => h) (Or.inl ⟨by rfl, ?_⟩) hHeld ?_ ?_
     rotate_left;(rintro w' ⟨s0, s1, s2, s3, s4, s5, s6⟩;go_simp;with_reducible rfl);rotate_left;(simp only [Act.put, psA, pzA, pnA, i64_w, i32_w];rfl)
     refine take_ (i := 4) (N := some 38) (v := ?_) (a' := ?_) #[true, true, true, true, true, false, false, false, false] rfl rfl (take_ofW HT_.out HW_.out (by kernel_rfl)) (fun _ _ _ h => h) (Or.inl ⟨by rfl, ?_⟩) hHeld ?_ ?_
     rotate_left;(rintro w' ⟨s0, s1, s2, s3, s4, s5, s6⟩;go_simp;with_reducible rfl);rotate_left;(simp only [Act.put, psA, pzA, pnA, i64_w, i32_w];rfl)
     refine take_ (i := 6) (N := some 40) (v := ?_) (a' := ?_) #[true, true, true, true, true, false, true, false, false] rfl rfl (take_ofW HT_.out HW_.out (by kernel_rfl)) (fun _ _ _ h => h) (Or.inl ⟨by rfl, ?_⟩) hHeld ?_ ?_
     rotate_left;(rintro w' ⟨s0, s1, s2, s3, s4, s5, s6⟩;go_simp;with_reducible rfl);rotate_left;(simp only [Act.put, psA, pzA, pnA, i64_w, i32_w];rfl)
     refine one_ (i := 5) (N := some 39) #[true, true, true, true, true, true, true, false, false] rfl rfl (one_of HT_.out (by kernel_rfl)) (by decide) (fun K hK => ?_)
     refine goes_ Try.func127 (by kernel_rfl) rfl #[.agg #[.int .i64 a2_0, .int .i64 a2_1, .int .u32 a2_2], .slice A684_0 (rd_L1 t675 x13_1).length c684_0] (by rfl) rfl rfl (by first | rfl | (simp only [List.map_toArray, List.map_cons, List.map_nil, List.length_drop, List.length_take]; rfl)) ?_
     with_reducible refine (spec_l03Part.calls k1 a2_0 a2_1 a2_2 _ _ (rd_L1 t675 x13_1) t685 t686 t687 _ ?side1 ?side2 A45.out).mono ?_
     (case side1 => repeat (first | exact (by repeat (first | (with_reducible exact HR684_0.out) | (with_reducible refine Kd.C_alloc ?_ _) | (with_reducible refine Kd.C_drewN ?_ _) | (with_reducible refine Kd.C_drew ?_) | exact HR684_0.out)) | (with_reducible refine Kd.C_alloc ?_ _) | (with_reducible refine Kd.C_drewN ?_ _) | (with_reducible refine Kd.C_drew ?_)))
     (case side2 => exact HC684_0.out)
     rintro e w48 ⟨rfl, hb⟩
     have HS6_ := (hb.cell (World.block_lt_of_cell? _ _ (hHeld.2.2.2.2.2.2))).trans (hHeld.2.2.2.2.2.2)
     refine ⟨_, rfl, ?_⟩
     replace HO_9 := Kd.S_b HO_9 hb
     replace HO_10 := Kd.S_b HO_10 hb
     replace HL684_0 := Kd.R_b HL684_0 hb
     replace BK662 := bkB BK662 hb
     replace BK663 := bkB BK663 hb
     replace BK664 := bkB BK664 hb
     replace BK665 := bkB BK665 hb
     replace BK669 := bkB BK669 hb
     replace BK673 := bkB BK673 hb
     replace HR684_0 := Aside0.mk (Kd.C_below (by repeat (first | (with_reducible exact HR684_0.out) | (with_reducible refine Kd.C_alloc ?_ _) | (with_reducible refine Kd.C_drewN ?_ _) | (with_reducible refine Kd.C_drew ?_) | exact HR684_0.out)) hb)
     replace HB := hbB HB hb
     (try clear hb)
     (try clear hk)
     refine hK.out _ _ ⟨bcA BK664 0 rfl, bcA BK664 1 rfl, bcA BK664 2 rfl, bcA BK669 0 rfl, bcA BK669 1 rfl, bcA BK669 2 rfl, HS6_⟩ (fun hHeld => ?_)
     clear hK K
     refine norm_ (a' := ?_) ?_ ?_
     rotate_left;(show Act.put _ (some 39) _ = _;simp only [Act.put, psA, pzA, pnA, i64_w, i32_w];rfl)
     refine pure_ (i := 7) (N := some 41) (v := ?_) (a' := ?_) #[true, true, true, true, true, true, true, true, false] rfl rfl (any_of HT_.out (by kernel_rfl)) (fun _ _ _ h => h) (Or.inl ⟨by rfl, ?_⟩) ?_ ?_
     rotate_left;(intro w';go_simp;with_reducible rfl);rotate_left;(simp only [Act.put, psA, pzA, pnA, i64_w, i32_w];rfl)
     refine pure_ (i := 8) (N := some 14) (v := ?_) (a' := ?_) #[true, true, true, true, true, true, true, true, true] rfl rfl (any_of HT_.out (by kernel_rfl)) (fun _ _ _ h => h) (Or.inl ⟨by rfl, ?_⟩) ?_ ?_
     rotate_left;(intro w';go_simp;with_reducible rfl);rotate_left;(simp only [Act.put, psA, pzA, pnA, i64_w, i32_w];rfl)
     refine done_ (done_of HT_.out (by kernel_rfl)) ?_
     try go_wp2
     generalize (t685 == t666 && ((t686 == t667 && (t687 == t668)))) = bf at H' ⊢
     go_loopg [11, 12, 15] k1 (fun kq v11 v12 v15 w' => ∃ (x11_2 : Int) (x12_2 : Int) (x15_2 : Int), v11 = .int .i64 x11_2 ∧ v12 = .int .i64 x12_2 ∧ v15 = .int .i64 x15_2 ∧ Aside0 (spec_l04Joint.l1 kq t675 t679 x11_2 x12_2 x13_1 bf x15_2 a2_0 a2_1 a2_2 t666 t667 t668 t670 t671 t672 = some (r1, r2)) ∧ Aside0 (kq ≤ k1) ∧ Aside0 (Kd.S (Kd.slice 2 (Kd.int .i64)) 62 w' w.heap.size (fun k_ => some k_ ≠ (v680 : Value).ownBlock) (.slice (some ad684) t675.length co46) t675) ∧ Aside0 (Kd.S (Kd.slice 2 (Kd.int .i64)) 62 w' w.heap.size (fun k_ => some k_ ≠ ((.slice (some ad684) t675.length co46) : Value).ownBlock) v680 t679) ∧ Aside0 (w'.heap[gb662]? = some (.cells #[.int .i64 a0_0, .int .i64 a0_1, .int .u32 a0_2] 45 (0, 0))) ∧ Aside0 (w'.heap[gb663]? = some (.cells #[.int .i64 a1_0, .int .i64 a1_1, .int .u32 a1_2] 45 (0, 0))) ∧ Aside0 (w'.heap[gb664]? = some (.cells #[.int .i64 a2_0, .int .i64 a2_1, .int .u32 a2_2] 45 (0, 0))) ∧ Aside0 (w'.heap[gb665]? = some (.cells #[.int .i64 0, .int .i64 0] 31 (0, 0))) ∧ Aside0 (w'.heap[gb669]? = some (.cells #[.int .i64 t666, .int .i64 t667, .int .u32 t668] 45 (0, 0))) ∧ Aside0 (w'.heap[gb673]? = some (.cells #[.int .i64 t670, .int .i64 t671, .int .u32 t672] 45 (0, 0))) ∧ Aside0 (Kd.C (Kd.int .i64) w' A684_0 (rd_L1 t675 x13_1).length (rd_L1 t675 x13_1)) ∧ Aside0 (Below w.heap.size w w'))
     case atStart => exact ⟨(x11_1), (x12_1), (0), (by first | rfl | (simp; done) | (simp [*]; done)), (by first | rfl | (simp; done) | (simp [*]; done)), (by first | rfl | (simp; done) | (simp [*]; done)), H', ⟨Nat.le_refl _⟩, ⟨by (with_reducible repeat (first | apply Kd.S_alloc | apply Kd.S_drewN | apply Kd.S_drew)); exact HO_9.out⟩, ⟨by (with_reducible repeat (first | apply Kd.S_alloc | apply Kd.S_drewN | apply Kd.S_drew)); exact HO_10.out⟩, ⟨by (with_reducible repeat (first | refine blk_drewN ?_ _ | refine blk_drew ?_ | refine blk_alloc ?_ _)); exact BK662.out⟩, ⟨by (with_reducible repeat (first | refine blk_drewN ?_ _ | refine blk_drew ?_ | refine blk_alloc ?_ _)); exact BK663.out⟩, ⟨by (with_reducible repeat (first | refine blk_drewN ?_ _ | refine blk_drew ?_ | refine blk_alloc ?_ _)); exact BK664.out⟩, ⟨by (with_reducible repeat (first | refine blk_drewN ?_ _ | refine blk_drew ?_ | refine blk_alloc ?_ _)); exact BK665.out⟩, ⟨by (with_reducible repeat (first | refine blk_drewN ?_ _ | refine blk_drew ?_ | refine blk_alloc ?_ _)); exact BK669.out⟩, ⟨by (with_reducible repeat (first | refine blk_drewN ?_ _ | refine blk_drew ?_ | refine blk_alloc ?_ _)); exact BK673.out⟩, ⟨by repeat (first | (with_reducible exact HR684_0.out) | (with_reducible refine Kd.C_alloc ?_ _) | (with_reducible refine Kd.C_drewN ?_ _) | (with_reducible refine Kd.C_drew ?_) | exact HR684_0.out)⟩, ⟨by repeat (first | (with_reducible first | exact HB.out | apply below_alloc | apply pw_below_drewN | apply below_drew1 | refine below_set ?_ (Aside0.out (by assumption))) | exact HB.out)⟩⟩
     case round =>
      clear H'
      try clear c1
      try clear c2
      try clear p2
      try clear c3
      try clear c4
      try clear c6
      try clear p6
      try clear q6
      try clear hx6
      try clear c7
      try clear c8
      try clear c11
      try clear c12
      try clear c14
      try clear c15
      try clear c16
      try clear c20
      try clear c21
      try clear c22
      try clear c23
      try clear c25
      try clear c26
      try clear c30
      try clear c31
      try clear c32
      try clear c33
      try clear c34
      try clear c43
      try clear c43b0
      try clear c44
      try clear c44b0
      try clear hcz17_0
      try clear hcz17_1
      try clear hcz17_2
      try clear hcz24_0
      try clear hcz24_1
      try clear hcz24_2
      try clear hcz27_0
      try clear hcz27_1
      try clear hcz27_2
      try clear hcz35_0
      try clear hcz35_1
      try clear hcz35_2
      try clear hfz17_0
      try clear hfz17_1
      try clear hfz17_2
      try clear hfz24_0
      try clear hfz24_1
      try clear hfz24_2
      try clear hfz27_0
      try clear hfz27_1
      try clear hfz27_2
      try clear hfz35_0
      try clear hfz35_1
      try clear hfz35_2
      try clear hx684_0
      try clear p2
      try clear p684
      try clear q684
      obtain ⟨x11_2, x12_2, x15_2, rfl, rfl, rfl, HA, HK2, HO_9, HO_10, BK662, BK663, BK664, BK665, BK669, BK673, HR684_0, HB⟩ := hrel
      cases gk with
      | zero => exact absurd HA.out (by simp [spec_l04Joint.l1])
      | succ k2 =>
       have H := HA.out
       clear HA
       simp only [spec_l04Joint.l1] at H
       by_cases c49 : x15_2 < (t679.length : Int)
       ·rw [if_pos c49] at H
        have c49b0 : decide (x15_2 < (t679.length : Int)) = true := decide_eq_true c49
        clear c49
        by_cases c50 : 0 ≤ x13_1
        ·rw [if_pos c50] at H
         have c50b0 : decide (0 ≤ x13_1) = true := decide_eq_true c50
         clear c50
         by_cases c51 : x13_1 < (t675.length : Int)
         ·rw [if_pos c51] at H
          have c51b0 : decide (x13_1 < (t675.length : Int)) = true := decide_eq_true c51
          clear c51
          by_cases c52 : 0 ≤ x15_2
          ·rw [if_pos c52] at H
           have c52b0 : decide (0 ≤ x15_2) = true := decide_eq_true c52
           clear c52
           replace H := Option.bind_eq_some_iff.mp H
           obtain ⟨t690, A530, H⟩ := H
           (try dsimp only at H)
           have A53 := Aside0.mk A530
           clear A530
           by_cases c54 : t690 = true
           ·subst c54
            rw [if_pos rfl] at H
            have H' := Aside0.mk H
            clear H
            obtain ⟨Ao55, co55, eo55⟩ := Kd.S_slice HO_10.out
            subst eo55
            try go_wp2
            replace HO_9 := Aside0.mk (Kd.S_drew HO_9.out)
            replace HO_10 := Aside0.mk (Kd.S_drew HO_10.out)
            replace BK662 := Aside0.mk (blk_drew BK662.out)
            replace BK663 := Aside0.mk (blk_drew BK663.out)
            replace BK664 := Aside0.mk (blk_drew BK664.out)
            replace BK665 := Aside0.mk (blk_drew BK665.out)
            replace BK669 := Aside0.mk (blk_drew BK669.out)
            replace BK673 := Aside0.mk (blk_drew BK673.out)
            replace HR684_0 := Aside0.mk (Kd.C_drew HR684_0.out)
            replace HB := Aside0.mk (below_drew1 HB.out)
            have p688 : 0 ≤ (x13_1 : Int) := of_decide_eq_true (by first | (with_reducible assumption) | assumption)
            have q688 : x13_1 < (t675.length : Int) := of_decide_eq_true (by first | (with_reducible assumption) | assumption)
            obtain ⟨ad688, A688_0, c688_0, e688, hx688_0, hl688_0, hi688_0⟩ := at_L1 (Kd.S_reads' HO_9.out).2.2 x13_1 p688 q688
            obtain rfl : ad684 = ad688 := (by injection e688)
            obtain ⟨ce688, hce688, hMe688, hcc688⟩ := Kd.S_get HO_9.out [] x13_1 p688 (by first | exact q688 | exact of_decide_eq_true (by first | (with_reducible assumption) | assumption) | (have e_ := (Kd.S_reads' HO_9.out).1; omega))
            obtain ⟨ve688_0, rfl, ge688_0⟩ := hMe688
            have hv688_0 := hcc688 0 _ rfl
            rw [Nat.add_zero, show ((Kd.slice 2 (Kd.int .i64))).sz = 1 from rfl, Nat.mul_one] at hv688_0
            replace hv688_0 := Option.some.inj (hv688_0.symm.trans hx688_0)
            rw [hv688_0] at ge688_0
            have HL688_0 := Aside0.mk (show Kd.R (Kd.int .i64) 2 _ _ _ _ (rd_L1 t675 x13_1) from ge688_0)
            clear hv688_0 ge688_0
            clear hcc688 hce688
            have HR688_0 := Aside0.mk hi688_0
            have HC688_0 := Aside0.mk hl688_0
            clear hi688_0 hl688_0
            replace p688 := eq_true p688
            replace q688 := eq_true q688
            have p689 : 0 ≤ (x15_2 : Int) := of_decide_eq_true (by first | (with_reducible assumption) | assumption)
            have q689 : x15_2 < (t679.length : Int) := of_decide_eq_true (by first | (with_reducible assumption) | assumption)
            obtain ⟨ad689, A689_0, c689_0, e689, hx689_0, hl689_0, hi689_0⟩ := at_L1 (Kd.S_reads' HO_10.out).2.2 x15_2 p689 q689
            cases e689
            obtain ⟨ce689, hce689, hMe689, hcc689⟩ := Kd.S_get HO_10.out [] x15_2 p689 (by first | exact q689 | exact of_decide_eq_true (by first | (with_reducible assumption) | assumption) | (have e_ := (Kd.S_reads' HO_10.out).1; omega))
            obtain ⟨ve689_0, rfl, ge689_0⟩ := hMe689
            have hv689_0 := hcc689 0 _ rfl
            rw [Nat.add_zero, show ((Kd.slice 2 (Kd.int .i64))).sz = 1 from rfl, Nat.mul_one] at hv689_0
            replace hv689_0 := Option.some.inj (hv689_0.symm.trans hx689_0)
            rw [hv689_0] at ge689_0
            have HL689_0 := Aside0.mk (show Kd.R (Kd.int .i64) 2 _ _ _ _ (rd_L1 t679 x15_2) from ge689_0)
            clear hv689_0 ge689_0
            clear hcc689 hce689
            have HR689_0 := Aside0.mk hi689_0
            have HC689_0 := Aside0.mk hl689_0
            clear hi689_0 hl689_0
            replace p689 := eq_true p689
            replace q689 := eq_true q689
            refine start_ (n := 9) (S := fun w' => w'.cell? (ad684.add (x13_1).toNat) = some (.slice A688_0 (rd_L1 t675 x13_1).length c688_0) ∧ w'.cell? (ad689.add (x15_2).toNat) = some (.slice A689_0 (rd_L1 t679 x15_2).length c689_0)) (ds := []) #[false, false, false, false, false, false, false, false, false] (by kernel_rfl) rfl rfl ⟨hx688_0, hx689_0⟩ (fun hHeld => ?_); refine with_tabW spec_l04Joint.tab14 spec_l04Joint.bits14 (fun HT_ HW_ => ?_)
            generalize wr.drew = w56 at HO_9 HO_10 BK662 BK663 BK664 BK665 BK669 BK673 HR684_0 HB HL688_0 HL689_0 HR688_0 HR689_0 hx688_0 hx689_0 hHeld ⊢
            refine pure_ (i := 0) (N := some 48) (v := ?_) (a' := ?_) #[true, false, false, false, false, false, false, false, false] rfl rfl (any_of HT_.out (by kernel_rfl)) (fun _ _ _ h => h) (Or.inl ⟨by rfl, ?_⟩) ?_ ?_
            rotate_left;(intro w';go_simp;with_reducible rfl);rotate_left;(simp only [Act.put, psA, pzA, pnA, i64_w, i32_w];rfl)
            refine pure_ (i := 1) (N := some 49) (v := ?_) (a' := ?_) #[true, true, false, false, false, false, false, false, false] rfl rfl (any_of HT_.out (by kernel_rfl)) (fun _ _ _ h => h) (Or.inl ⟨by rfl, ?_⟩) ?_ ?_
            rotate_left;(intro w';go_simp;with_reducible rfl);rotate_left;(simp only [Act.put, psA, pzA, pnA, i64_w, i32_w];rfl)
            refine pure_ (i := 2) (N := some 50) (v := ?_) (a' := ?_) #[true, true, true, false, false, false, false, false, false] rfl rfl (any_of HT_.out (by kernel_rfl)) (fun _ _ _ h => h) (Or.inl ⟨by rfl, ?_⟩) ?_ ?_
            rotate_left;(intro w';go_simp;with_reducible rfl);rotate_left;(simp only [Act.put, psA, pzA, pnA, i64_w, i32_w];rfl)
            refine pure_ (i := 4) (N := some 52) (v := ?_) (a' := ?_) #[true, true, true, false, true, false, false, false, false] rfl rfl (any_of HT_.out (by kernel_rfl)) (fun _ _ _ h => h) (Or.inl ⟨by rfl, ?_⟩) ?_ ?_
            rotate_left;(intro w';go_simp;with_reducible rfl);rotate_left;(simp only [Act.put, psA, pzA, pnA, i64_w, i32_w];rfl)
            refine pure_ (i := 5) (N := some 53) (v := ?_) (a' := ?_) #[true, true, true, false, true, true, false, false, false] rfl rfl (any_of HT_.out (by kernel_rfl)) (fun _ _ _ h => h) (Or.inl ⟨by rfl, ?_⟩) ?_ ?_
            rotate_left;(intro w';go_simp;with_reducible rfl);rotate_left;(simp only [Act.put, psA, pzA, pnA, i64_w, i32_w];rfl)
            refine pure_ (i := 6) (N := some 54) (v := ?_) (a' := ?_) #[true, true, true, false, true, true, true, false, false] rfl rfl (any_of HT_.out (by kernel_rfl)) (fun _ _ _ h => h) (Or.inl ⟨by rfl, ?_⟩) ?_ ?_
            rotate_left;(intro w';go_simp;with_reducible rfl);rotate_left;(simp only [Act.put, psA, pzA, pnA, i64_w, i32_w];rfl)
            refine take_ (i := 3) (N := some 51) (v := ?_) (a' := ?_) #[true, true, true, true, true, true, true, false, false] rfl rfl (take_ofW HT_.out HW_.out (by kernel_rfl)) (fun _ _ _ h => h) (Or.inl ⟨by rfl, ?_⟩) hHeld ?_ ?_
            rotate_left;(rintro w' ⟨s0, s1⟩;go_simp;with_reducible rfl);rotate_left;(simp only [Act.put, psA, pzA, pnA, i64_w, i32_w];rfl)
            refine take_ (i := 7) (N := some 55) (v := ?_) (a' := ?_) #[true, true, true, true, true, true, true, true, false] rfl rfl (take_ofW HT_.out HW_.out (by kernel_rfl)) (fun _ _ _ h => h) (Or.inl ⟨by rfl, ?_⟩) hHeld ?_ ?_
            rotate_left;(rintro w' ⟨s0, s1⟩;go_simp;with_reducible rfl);rotate_left;(simp only [Act.put, psA, pzA, pnA, i64_w, i32_w];rfl)
            refine one_ (i := 8) (N := some 56) #[true, true, true, true, true, true, true, true, true] rfl rfl (one_of HT_.out (by kernel_rfl)) (by decide) (fun K hK => ?_)
            refine goes_ Try.func132 (by kernel_rfl) rfl #[.slice A688_0 (rd_L1 t675 x13_1).length c688_0, .slice A689_0 (rd_L1 t679 x15_2).length c689_0] (by rfl) rfl rfl (by first | rfl | (simp only [List.map_toArray, List.map_cons, List.map_nil, List.length_drop, List.length_take]; rfl)) ?_
            with_reducible refine (spec_l04Meet.calls k2 _ _ (rd_L1 t675 x13_1) _ _ (rd_L1 t679 x15_2) true _ ?side1 ?side2 ?side3 ?side4 A53.out).mono ?_
            (case side1 => repeat (first | exact (by repeat (first | (with_reducible exact HR688_0.out) | (with_reducible refine Kd.C_alloc ?_ _) | (with_reducible refine Kd.C_drewN ?_ _) | (with_reducible refine Kd.C_drew ?_) | exact HR688_0.out)) | (with_reducible refine Kd.C_alloc ?_ _) | (with_reducible refine Kd.C_drewN ?_ _) | (with_reducible refine Kd.C_drew ?_)))
            (case side2 => exact HC688_0.out)
            (case side3 => repeat (first | exact (by repeat (first | (with_reducible exact HR689_0.out) | (with_reducible refine Kd.C_alloc ?_ _) | (with_reducible refine Kd.C_drewN ?_ _) | (with_reducible refine Kd.C_drew ?_) | exact HR689_0.out)) | (with_reducible refine Kd.C_alloc ?_ _) | (with_reducible refine Kd.C_drewN ?_ _) | (with_reducible refine Kd.C_drew ?_)))
            (case side4 => exact HC689_0.out)
            rintro e w' ⟨rfl, ⟨nd, rfl⟩⟩
            refine ⟨_, rfl, ?_⟩
            refine hK.out _ _ ⟨hHeld.1, hHeld.2⟩ (fun hHeld => ?_)
            clear hK K
            refine norm_ (a' := ?_) ?_ ?_
            rotate_left;(show Act.put _ (some 56) _ = _;simp only [Act.put, psA, pzA, pnA, i64_w, i32_w];rfl)
            refine done_ (done_of HT_.out (by kernel_rfl)) ?_
            try go_wp2
            go_roundg k2
            case measure => have := HK1.out; have := HK2.out; omega
            case rel => exact ⟨(x11_2), (x12_2), (wrap64 (x15_2 + 1)), (by first | rfl | (simp; done) | (simp [*]; done)), (by first | rfl | (simp; done) | (simp [*]; done)), (by first | rfl | (simp; done) | (simp [*]; done)), H', ⟨by have := HK1.out; have := HK2.out; omega⟩, ⟨by (with_reducible repeat (first | apply Kd.S_alloc | apply Kd.S_drewN | apply Kd.S_drew)); exact HO_9.out⟩, ⟨by (with_reducible repeat (first | apply Kd.S_alloc | apply Kd.S_drewN | apply Kd.S_drew)); exact HO_10.out⟩, ⟨by (with_reducible repeat (first | refine blk_drewN ?_ _ | refine blk_drew ?_ | refine blk_alloc ?_ _)); exact BK662.out⟩, ⟨by (with_reducible repeat (first | refine blk_drewN ?_ _ | refine blk_drew ?_ | refine blk_alloc ?_ _)); exact BK663.out⟩, ⟨by (with_reducible repeat (first | refine blk_drewN ?_ _ | refine blk_drew ?_ | refine blk_alloc ?_ _)); exact BK664.out⟩, ⟨by (with_reducible repeat (first | refine blk_drewN ?_ _ | refine blk_drew ?_ | refine blk_alloc ?_ _)); exact BK665.out⟩, ⟨by (with_reducible repeat (first | refine blk_drewN ?_ _ | refine blk_drew ?_ | refine blk_alloc ?_ _)); exact BK669.out⟩, ⟨by (with_reducible repeat (first | refine blk_drewN ?_ _ | refine blk_drew ?_ | refine blk_alloc ?_ _)); exact BK673.out⟩, ⟨by repeat (first | (with_reducible exact HR684_0.out) | (with_reducible refine Kd.C_alloc ?_ _) | (with_reducible refine Kd.C_drewN ?_ _) | (with_reducible refine Kd.C_drew ?_) | exact HR684_0.out)⟩, ⟨by repeat (first | (with_reducible first | exact HB.out | apply below_alloc | apply pw_below_drewN | apply below_drew1 | refine below_set ?_ (Aside0.out (by assumption))) | exact HB.out)⟩⟩
           ·replace c54 := Bool.eq_false_iff.mpr c54
            subst c54
            rw [if_neg (show ¬ (false = true) by decide)] at H
            by_cases c57 : bf = true
            ·rw [if_pos c57] at H
             subst c57
             replace H := Option.bind_eq_some_iff.mp H
             obtain ⟨⟨t692, t693, t694⟩, A580, H⟩ := H
             (try dsimp only at H)
             have A58 := Aside0.mk A580
             clear A580
             by_cases c59 : (t692 == t670 && ((t693 == t671 && (t694 == t672)))) = true
             ·rw [if_pos c59] at H
              have c59b0 : (t692 == t670 && ((t693 == t671 && (t694 == t672)))) = true := c59
              (try (have c59b1 : decide (t692 = t670 && ((t693 == t671 && (t694 == t672)))) = true := by simpa using c59))
              (try (have c59b2 : (t692 == t670 && ((t693 == t671 && (t694 == t672)))) = true := by simpa using c59))
              clear c59
              have H' := Aside0.mk H
              clear H
              obtain ⟨Ao60, co60, eo60⟩ := Kd.S_slice HO_10.out
              subst eo60
              try go_wp2
              replace HO_9 := Aside0.mk (Kd.S_drew HO_9.out)
              replace HO_10 := Aside0.mk (Kd.S_drew HO_10.out)
              replace BK662 := Aside0.mk (blk_drew BK662.out)
              replace BK663 := Aside0.mk (blk_drew BK663.out)
              replace BK664 := Aside0.mk (blk_drew BK664.out)
              replace BK665 := Aside0.mk (blk_drew BK665.out)
              replace BK669 := Aside0.mk (blk_drew BK669.out)
              replace BK673 := Aside0.mk (blk_drew BK673.out)
              replace HR684_0 := Aside0.mk (Kd.C_drew HR684_0.out)
              replace HB := Aside0.mk (below_drew1 HB.out)
              have p688 : 0 ≤ (x13_1 : Int) := of_decide_eq_true (by first | (with_reducible assumption) | assumption)
              have q688 : x13_1 < (t675.length : Int) := of_decide_eq_true (by first | (with_reducible assumption) | assumption)
              obtain ⟨ad688, A688_0, c688_0, e688, hx688_0, hl688_0, hi688_0⟩ := at_L1 (Kd.S_reads' HO_9.out).2.2 x13_1 p688 q688
              obtain rfl : ad684 = ad688 := (by injection e688)
              obtain ⟨ce688, hce688, hMe688, hcc688⟩ := Kd.S_get HO_9.out [] x13_1 p688 (by first | exact q688 | exact of_decide_eq_true (by first | (with_reducible assumption) | assumption) | (have e_ := (Kd.S_reads' HO_9.out).1; omega))
              obtain ⟨ve688_0, rfl, ge688_0⟩ := hMe688
              have hv688_0 := hcc688 0 _ rfl
              rw [Nat.add_zero, show ((Kd.slice 2 (Kd.int .i64))).sz = 1 from rfl, Nat.mul_one] at hv688_0
              replace hv688_0 := Option.some.inj (hv688_0.symm.trans hx688_0)
              rw [hv688_0] at ge688_0
              have HL688_0 := Aside0.mk (show Kd.R (Kd.int .i64) 2 _ _ _ _ (rd_L1 t675 x13_1) from ge688_0)
              clear hv688_0 ge688_0
              clear hcc688 hce688
              have HR688_0 := Aside0.mk hi688_0
              have HC688_0 := Aside0.mk hl688_0
              clear hi688_0 hl688_0
              replace p688 := eq_true p688
              replace q688 := eq_true q688
              have p689 : 0 ≤ (x15_2 : Int) := of_decide_eq_true (by first | (with_reducible assumption) | assumption)
              have q689 : x15_2 < (t679.length : Int) := of_decide_eq_true (by first | (with_reducible assumption) | assumption)
              obtain ⟨ad689, A689_0, c689_0, e689, hx689_0, hl689_0, hi689_0⟩ := at_L1 (Kd.S_reads' HO_10.out).2.2 x15_2 p689 q689
              cases e689
              obtain ⟨ce689, hce689, hMe689, hcc689⟩ := Kd.S_get HO_10.out [] x15_2 p689 (by first | exact q689 | exact of_decide_eq_true (by first | (with_reducible assumption) | assumption) | (have e_ := (Kd.S_reads' HO_10.out).1; omega))
              obtain ⟨ve689_0, rfl, ge689_0⟩ := hMe689
              have hv689_0 := hcc689 0 _ rfl
              rw [Nat.add_zero, show ((Kd.slice 2 (Kd.int .i64))).sz = 1 from rfl, Nat.mul_one] at hv689_0
              replace hv689_0 := Option.some.inj (hv689_0.symm.trans hx689_0)
              rw [hv689_0] at ge689_0
              have HL689_0 := Aside0.mk (show Kd.R (Kd.int .i64) 2 _ _ _ _ (rd_L1 t679 x15_2) from ge689_0)
              clear hv689_0 ge689_0
              clear hcc689 hce689
              have HR689_0 := Aside0.mk hi689_0
              have HC689_0 := Aside0.mk hl689_0
              clear hi689_0 hl689_0
              replace p689 := eq_true p689
              replace q689 := eq_true q689
              refine start_ (n := 9) (S := fun w' => w'.cell? (ad684.add (x13_1).toNat) = some (.slice A688_0 (rd_L1 t675 x13_1).length c688_0) ∧ w'.cell? (ad689.add (x15_2).toNat) = some (.slice A689_0 (rd_L1 t679 x15_2).length c689_0)) (ds := []) #[false, false, false, false, false, false, false, false, false] (by kernel_rfl) rfl rfl ⟨hx688_0, hx689_0⟩ (fun hHeld => ?_); refine with_tabW spec_l04Joint.tab14 spec_l04Joint.bits14 (fun HT_ HW_ => ?_)
              generalize wr.drew = w61 at HO_9 HO_10 BK662 BK663 BK664 BK665 BK669 BK673 HR684_0 HB HL688_0 HL689_0 HR688_0 HR689_0 hx688_0 hx689_0 hHeld ⊢
              refine pure_ (i := 0) (N := some 48) (v := ?_) (a' := ?_) #[true, false, false, false, false, false, false, false, false] rfl rfl (any_of HT_.out (by kernel_rfl)) (fun _ _ _ h => h) (Or.inl ⟨by rfl, ?_⟩) ?_ ?_
              rotate_left;(intro w';go_simp;with_reducible rfl);rotate_left;(simp only [Act.put, psA, pzA, pnA, i64_w, i32_w];rfl)
              refine pure_ (i := 1) (N := some 49) (v := ?_) (a' := ?_) #[true, true, false, false, false, false, false, false, false] rfl rfl (any_of HT_.out (by kernel_rfl)) (fun _ _ _ h => h) (Or.inl ⟨by rfl, ?_⟩) ?_ ?_
              rotate_left;(intro w';go_simp;with_reducible rfl);rotate_left;(simp only [Act.put, psA, pzA, pnA, i64_w, i32_w];rfl)
              refine pure_ (i := 2) (N := some 50) (v := ?_) (a' := ?_) #[true, true, true, false, false, false, false, false, false] rfl rfl (any_of HT_.out (by kernel_rfl)) (fun _ _ _ h => h) (Or.inl ⟨by rfl, ?_⟩) ?_ ?_
              rotate_left;(intro w';go_simp;with_reducible rfl);rotate_left;(simp only [Act.put, psA, pzA, pnA, i64_w, i32_w];rfl)
              refine pure_ (i := 4) (N := some 52) (v := ?_) (a' := ?_) #[true, true, true, false, true, false, false, false, false] rfl rfl (any_of HT_.out (by kernel_rfl)) (fun _ _ _ h => h) (Or.inl ⟨by rfl, ?_⟩) ?_ ?_
              rotate_left;(intro w';go_simp;with_reducible rfl);rotate_left;(simp only [Act.put, psA, pzA, pnA, i64_w, i32_w];rfl)
              refine pure_ (i := 5) (N := some 53) (v := ?_) (a' := ?_) #[true, true, true, false, true, true, false, false, false] rfl rfl (any_of HT_.out (by kernel_rfl)) (fun _ _ _ h => h) (Or.inl ⟨by rfl, ?_⟩) ?_ ?_
              rotate_left;(intro w';go_simp;with_reducible rfl);rotate_left;(simp only [Act.put, psA, pzA, pnA, i64_w, i32_w];rfl)
              refine pure_ (i := 6) (N := some 54) (v := ?_) (a' := ?_) #[true, true, true, false, true, true, true, false, false] rfl rfl (any_of HT_.out (by kernel_rfl)) (fun _ _ _ h => h) (Or.inl ⟨by rfl, ?_⟩) ?_ ?_
              rotate_left;(intro w';go_simp;with_reducible rfl);rotate_left;(simp only [Act.put, psA, pzA, pnA, i64_w, i32_w];rfl)
              refine take_ (i := 3) (N := some 51) (v := ?_) (a' := ?_) #[true, true, true, true, true, true, true, false, false] rfl rfl (take_ofW HT_.out HW_.out (by kernel_rfl)) (fun _ _ _ h => h) (Or.inl ⟨by rfl, ?_⟩) hHeld ?_ ?_
              rotate_left;(rintro w' ⟨s0, s1⟩;go_simp;with_reducible rfl);rotate_left;(simp only [Act.put, psA, pzA, pnA, i64_w, i32_w];rfl)
              refine take_ (i := 7) (N := some 55) (v := ?_) (a' := ?_) #[true, true, true, true, true, true, true, true, false] rfl rfl (take_ofW HT_.out HW_.out (by kernel_rfl)) (fun _ _ _ h => h) (Or.inl ⟨by rfl, ?_⟩) hHeld ?_ ?_
              rotate_left;(rintro w' ⟨s0, s1⟩;go_simp;with_reducible rfl);rotate_left;(simp only [Act.put, psA, pzA, pnA, i64_w, i32_w];rfl)
              refine one_ (i := 8) (N := some 56) #[true, true, true, true, true, true, true, true, true] rfl rfl (one_of HT_.out (by kernel_rfl)) (by decide) (fun K hK => ?_)
              refine goes_ Try.func132 (by kernel_rfl) rfl #[.slice A688_0 (rd_L1 t675 x13_1).length c688_0, .slice A689_0 (rd_L1 t679 x15_2).length c689_0] (by rfl) rfl rfl (by first | rfl | (simp only [List.map_toArray, List.map_cons, List.map_nil, List.length_drop, List.length_take]; rfl)) ?_
              with_reducible refine (spec_l04Meet.calls k2 _ _ (rd_L1 t675 x13_1) _ _ (rd_L1 t679 x15_2) false _ ?side1 ?side2 ?side3 ?side4 A53.out).mono ?_
              (case side1 => repeat (first | exact (by repeat (first | (with_reducible exact HR688_0.out) | (with_reducible refine Kd.C_alloc ?_ _) | (with_reducible refine Kd.C_drewN ?_ _) | (with_reducible refine Kd.C_drew ?_) | exact HR688_0.out)) | (with_reducible refine Kd.C_alloc ?_ _) | (with_reducible refine Kd.C_drewN ?_ _) | (with_reducible refine Kd.C_drew ?_)))
              (case side2 => exact HC688_0.out)
              (case side3 => repeat (first | exact (by repeat (first | (with_reducible exact HR689_0.out) | (with_reducible refine Kd.C_alloc ?_ _) | (with_reducible refine Kd.C_drewN ?_ _) | (with_reducible refine Kd.C_drew ?_) | exact HR689_0.out)) | (with_reducible refine Kd.C_alloc ?_ _) | (with_reducible refine Kd.C_drewN ?_ _) | (with_reducible refine Kd.C_drew ?_)))
              (case side4 => exact HC689_0.out)
              rintro e w' ⟨rfl, ⟨nd, rfl⟩⟩
              refine ⟨_, rfl, ?_⟩
              refine hK.out _ _ ⟨hHeld.1, hHeld.2⟩ (fun hHeld => ?_)
              clear hK K
              refine norm_ (a' := ?_) ?_ ?_
              rotate_left;(show Act.put _ (some 56) _ = _;simp only [Act.put, psA, pzA, pnA, i64_w, i32_w];rfl)
              refine done_ (done_of HT_.out (by kernel_rfl)) ?_
              try go_wp2
              (try (rw [drewN_self w61]; generalize hq_ : World.drewN w61 _ = w61; have n0_ : Aside0 (Kd.R (Kd.int .i64) 2 w61 w.heap.size (fun k_ => some k_ ≠ (.slice (some ad689) t679.length co60 : Value).ownBlock ∧ some k_ ≠ (.slice (some ad684) t675.length co46 : Value).ownBlock) (.slice A688_0 (rd_L1 t675 x13_1).length c688_0) (rd_L1 t675 x13_1)) := ⟨by rw [← hq_]; exact (by (with_reducible repeat (first | apply Kd.R_alloc | apply Kd.R_drewN | apply Kd.R_drew)); exact HL688_0.out)⟩; have n1_ : Aside0 (Kd.R (Kd.int .i64) 2 w61 w.heap.size (fun k_ => some k_ ≠ (.slice (some ad689) t679.length co60 : Value).ownBlock ∧ some k_ ≠ (.slice (some ad684) t675.length co46 : Value).ownBlock) (.slice A689_0 (rd_L1 t679 x15_2).length c689_0) (rd_L1 t679 x15_2)) := ⟨by rw [← hq_]; exact (by (with_reducible repeat (first | apply Kd.R_alloc | apply Kd.R_drewN | apply Kd.R_drew)); exact Kd.R_mono HL689_0.out (fun _ hk => ⟨hk.2, hk.1⟩))⟩; have n2_ : Aside0 (Kd.S (Kd.slice 2 (Kd.int .i64)) 62 w61 w.heap.size (fun k_ => some k_ ≠ (.slice (some ad684) t675.length co46 : Value).ownBlock) (.slice (some ad689) t679.length co60) t679) := ⟨by rw [← hq_]; exact (by (with_reducible repeat (first | apply Kd.S_alloc | apply Kd.S_drewN | apply Kd.S_drew)); exact HO_10.out)⟩; have n3_ : Aside0 (Kd.S (Kd.slice 2 (Kd.int .i64)) 62 w61 w.heap.size (fun k_ => some k_ ≠ (.slice (some ad689) t679.length co60 : Value).ownBlock) (.slice (some ad684) t675.length co46) t675) := ⟨by rw [← hq_]; exact (by (with_reducible repeat (first | apply Kd.S_alloc | apply Kd.S_drewN | apply Kd.S_drew)); exact HO_9.out)⟩; have n4_ : Aside0 (w61.heap[gb662]? = some (.cells #[.int .i64 a0_0, .int .i64 a0_1, .int .u32 a0_2] 45 (0, 0))) := ⟨by rw [← hq_]; exact (by (with_reducible repeat (first | refine blk_drewN ?_ _ | refine blk_drew ?_ | refine blk_alloc ?_ _)); exact BK662.out)⟩; have n5_ : Aside0 (w61.heap[gb663]? = some (.cells #[.int .i64 a1_0, .int .i64 a1_1, .int .u32 a1_2] 45 (0, 0))) := ⟨by rw [← hq_]; exact (by (with_reducible repeat (first | refine blk_drewN ?_ _ | refine blk_drew ?_ | refine blk_alloc ?_ _)); exact BK663.out)⟩; have n6_ : Aside0 (w61.heap[gb664]? = some (.cells #[.int .i64 a2_0, .int .i64 a2_1, .int .u32 a2_2] 45 (0, 0))) := ⟨by rw [← hq_]; exact (by (with_reducible repeat (first | refine blk_drewN ?_ _ | refine blk_drew ?_ | refine blk_alloc ?_ _)); exact BK664.out)⟩; have n7_ : Aside0 (w61.heap[gb665]? = some (.cells #[.int .i64 0, .int .i64 0] 31 (0, 0))) := ⟨by rw [← hq_]; exact (by (with_reducible repeat (first | refine blk_drewN ?_ _ | refine blk_drew ?_ | refine blk_alloc ?_ _)); exact BK665.out)⟩; have n8_ : Aside0 (w61.heap[gb669]? = some (.cells #[.int .i64 t666, .int .i64 t667, .int .u32 t668] 45 (0, 0))) := ⟨by rw [← hq_]; exact (by (with_reducible repeat (first | refine blk_drewN ?_ _ | refine blk_drew ?_ | refine blk_alloc ?_ _)); exact BK669.out)⟩; have n9_ : Aside0 (w61.heap[gb673]? = some (.cells #[.int .i64 t670, .int .i64 t671, .int .u32 t672] 45 (0, 0))) := ⟨by rw [← hq_]; exact (by (with_reducible repeat (first | refine blk_drewN ?_ _ | refine blk_drew ?_ | refine blk_alloc ?_ _)); exact BK673.out)⟩; have n10_ : Aside0 (Below w.heap.size w w61) := ⟨by rw [← hq_]; exact (by repeat (first | (with_reducible first | exact HB.out | apply below_alloc | apply pw_below_drewN | apply below_drew1 | refine below_set ?_ (Aside0.out (by assumption))) | exact HB.out))⟩; have n11_ : Aside0 (Kd.C (Kd.int .i64) w61 A684_0 (rd_L1 t675 x13_1).length (rd_L1 t675 x13_1)) := ⟨by rw [← hq_]; exact (by repeat (first | (with_reducible exact HR684_0.out) | (with_reducible refine Kd.C_alloc ?_ _) | (with_reducible refine Kd.C_drewN ?_ _) | (with_reducible refine Kd.C_drew ?_) | exact HR684_0.out))⟩; have n12_ : Aside0 (Kd.C (Kd.int .i64) w61 A688_0 (rd_L1 t675 x13_1).length (rd_L1 t675 x13_1)) := ⟨by rw [← hq_]; exact (by repeat (first | (with_reducible exact HR688_0.out) | (with_reducible refine Kd.C_alloc ?_ _) | (with_reducible refine Kd.C_drewN ?_ _) | (with_reducible refine Kd.C_drew ?_) | exact HR688_0.out))⟩; have n13_ : Aside0 (Kd.C (Kd.int .i64) w61 A689_0 (rd_L1 t679 x15_2).length (rd_L1 t679 x15_2)) := ⟨by rw [← hq_]; exact (by repeat (first | (with_reducible exact HR689_0.out) | (with_reducible refine Kd.C_alloc ?_ _) | (with_reducible refine Kd.C_drewN ?_ _) | (with_reducible refine Kd.C_drew ?_) | exact HR689_0.out))⟩; clear HL688_0 HL689_0 HO_10 HO_9 BK662 BK663 BK664 BK665 BK669 BK673 HB HR684_0 HR688_0 HR689_0 hq_; have HL688_0 := n0_; have HL689_0 := n1_; have HO_10 := n2_; have HO_9 := n3_; have BK662 := n4_; have BK663 := n5_; have BK664 := n6_; have BK665 := n7_; have BK669 := n8_; have BK673 := n9_; have HB := n10_; have HR684_0 := n11_; have HR688_0 := n12_; have HR689_0 := n13_; clear n0_ n1_ n2_ n3_ n4_ n5_ n6_ n7_ n8_ n9_ n10_ n11_ n12_ n13_))
              replace HO_9 := Aside0.mk (Kd.S_drew HO_9.out)
              replace HO_10 := Aside0.mk (Kd.S_drew HO_10.out)
              replace HL688_0 := Aside0.mk (Kd.R_drew HL688_0.out)
              replace HL689_0 := Aside0.mk (Kd.R_drew HL689_0.out)
              replace BK662 := Aside0.mk (blk_drew BK662.out)
              replace BK663 := Aside0.mk (blk_drew BK663.out)
              replace BK664 := Aside0.mk (blk_drew BK664.out)
              replace BK665 := Aside0.mk (blk_drew BK665.out)
              replace BK669 := Aside0.mk (blk_drew BK669.out)
              replace BK673 := Aside0.mk (blk_drew BK673.out)
              replace HR684_0 := Aside0.mk (Kd.C_drew HR684_0.out)
              replace HR688_0 := Aside0.mk (Kd.C_drew HR688_0.out)
              replace HR689_0 := Aside0.mk (Kd.C_drew HR689_0.out)
              replace HB := Aside0.mk (below_drew1 HB.out)
              have p691 : 0 ≤ (x15_2 : Int) := of_decide_eq_true (by first | (with_reducible assumption) | assumption)
              have q691 : x15_2 < (t679.length : Int) := of_decide_eq_true (by first | (with_reducible assumption) | assumption)
              obtain ⟨ad691, A691_0, c691_0, e691, hx691_0, hl691_0, hi691_0⟩ := at_L1 (Kd.S_reads' HO_10.out).2.2 x15_2 p691 q691
              obtain rfl : ad689 = ad691 := (by injection e691)
              obtain ⟨ce691, hce691, hMe691, hcc691⟩ := Kd.S_get HO_10.out [] x15_2 p691 (by first | exact q691 | exact of_decide_eq_true (by first | (with_reducible assumption) | assumption) | (have e_ := (Kd.S_reads' HO_10.out).1; omega))
              obtain ⟨ve691_0, rfl, ge691_0⟩ := hMe691
              have hv691_0 := hcc691 0 _ rfl
              rw [Nat.add_zero, show ((Kd.slice 2 (Kd.int .i64))).sz = 1 from rfl, Nat.mul_one] at hv691_0
              replace hv691_0 := Option.some.inj (hv691_0.symm.trans hx691_0)
              rw [hv691_0] at ge691_0
              have HL691_0 := Aside0.mk (show Kd.R (Kd.int .i64) 2 _ _ _ _ (rd_L1 t679 x15_2) from ge691_0)
              clear hv691_0 ge691_0
              clear hcc691 hce691
              have HR691_0 := Aside0.mk hi691_0
              have HC691_0 := Aside0.mk hl691_0
              clear hi691_0 hl691_0
              replace p691 := eq_true p691
              replace q691 := eq_true q691
              refine start_ (n := 11) (S := fun w' => w'.cell? ⟨gb664, 0, none⟩ = some (.int .i64 a2_0) ∧ w'.cell? ⟨gb664, 1, none⟩ = some (.int .i64 a2_1) ∧ w'.cell? ⟨gb664, 2, none⟩ = some (.int .u32 a2_2) ∧ w'.cell? ⟨gb673, 0, none⟩ = some (.int .i64 t670) ∧ w'.cell? ⟨gb673, 1, none⟩ = some (.int .i64 t671) ∧ w'.cell? ⟨gb673, 2, none⟩ = some (.int .u32 t672) ∧ w'.cell? (ad689.add (x15_2).toNat) = some (.slice A691_0 (rd_L1 t679 x15_2).length c691_0)) (ds := []) #[false, false, false, false, false, false, false, false, false, false, false] (by kernel_rfl) rfl rfl ⟨bcA BK664 0 rfl, bcA BK664 1 rfl, bcA BK664 2 rfl, bcA BK673 0 rfl, bcA BK673 1 rfl, bcA BK673 2 rfl, hx691_0⟩ (fun hHeld => ?_); refine with_tabW spec_l04Joint.tab16 spec_l04Joint.bits16 (fun HT_ HW_ => ?_)
              generalize w61.drew = w62 at HO_9 HO_10 HL688_0 HL689_0 BK662 BK663 BK664 BK665 BK669 BK673 HR684_0 HR688_0 HR689_0 HB HL691_0 HR691_0 hx691_0 hHeld ⊢
              refine pure_ (i := 0) (N := some 59) (v := ?_) (a' := ?_) #[true, false, false, false, false, false, false, false, false, false, false] rfl rfl (any_of HT_.out (by kernel_rfl)) (fun _ _ _ h => h) (Or.inl ⟨by rfl, ?_⟩) ?_ ?_
              rotate_left;(intro w';go_simp;with_reducible rfl);rotate_left;(simp only [Act.put, psA, pzA, pnA, i64_w, i32_w];rfl)
              refine pure_ (i := 1) (N := some 60) (v := ?_) (a' := ?_) #[true, true, false, false, false, false, false, false, false, false, false] rfl rfl (any_of HT_.out (by kernel_rfl)) (fun _ _ _ h => h) (Or.inl ⟨by rfl, ?_⟩) ?_ ?_
              rotate_left;(intro w';go_simp;with_reducible rfl);rotate_left;(simp only [Act.put, psA, pzA, pnA, i64_w, i32_w];rfl)
              refine pure_ (i := 3) (N := some 62) (v := ?_) (a' := ?_) #[true, true, false, true, false, false, false, false, false, false, false] rfl rfl (any_of HT_.out (by kernel_rfl)) (fun _ _ _ h => h) (Or.inl ⟨by rfl, ?_⟩) ?_ ?_
              rotate_left;(intro w';go_simp;with_reducible rfl);rotate_left;(simp only [Act.put, psA, pzA, pnA, i64_w, i32_w];rfl)
              refine pure_ (i := 4) (N := some 63) (v := ?_) (a' := ?_) #[true, true, false, true, true, false, false, false, false, false, false] rfl rfl (any_of HT_.out (by kernel_rfl)) (fun _ _ _ h => h) (Or.inl ⟨by rfl, ?_⟩) ?_ ?_
              rotate_left;(intro w';go_simp;with_reducible rfl);rotate_left;(simp only [Act.put, psA, pzA, pnA, i64_w, i32_w];rfl)
              refine pure_ (i := 5) (N := some 64) (v := ?_) (a' := ?_) #[true, true, false, true, true, true, false, false, false, false, false] rfl rfl (any_of HT_.out (by kernel_rfl)) (fun _ _ _ h => h) (Or.inl ⟨by rfl, ?_⟩) ?_ ?_
              rotate_left;(intro w';go_simp;with_reducible rfl);rotate_left;(simp only [Act.put, psA, pzA, pnA, i64_w, i32_w];rfl)
              refine take_ (i := 2) (N := some 61) (v := ?_) (a' := ?_) #[true, true, true, true, true, true, false, false, false, false, false] rfl rfl (take_ofW HT_.out HW_.out (by kernel_rfl)) (fun _ _ _ h => h) (Or.inl ⟨by rfl, ?_⟩) hHeld ?_ ?_
              rotate_left;(rintro w' ⟨s0, s1, s2, s3, s4, s5, s6⟩;go_simp;with_reducible rfl);rotate_left;(simp only [Act.put, psA, pzA, pnA, i64_w, i32_w];rfl)
              refine take_ (i := 6) (N := some 65) (v := ?_) (a' := ?_) #[true, true, true, true, true, true, true, false, false, false, false] rfl rfl (take_ofW HT_.out HW_.out (by kernel_rfl)) (fun _ _ _ h => h) (Or.inl ⟨by rfl, ?_⟩) hHeld ?_ ?_
              rotate_left;(rintro w' ⟨s0, s1, s2, s3, s4, s5, s6⟩;go_simp;with_reducible rfl);rotate_left;(simp only [Act.put, psA, pzA, pnA, i64_w, i32_w];rfl)
              refine take_ (i := 8) (N := some 67) (v := ?_) (a' := ?_) #[true, true, true, true, true, true, true, false, true, false, false] rfl rfl (take_ofW HT_.out HW_.out (by kernel_rfl)) (fun _ _ _ h => h) (Or.inl ⟨by rfl, ?_⟩) hHeld ?_ ?_
              rotate_left;(rintro w' ⟨s0, s1, s2, s3, s4, s5, s6⟩;go_simp;with_reducible rfl);rotate_left;(simp only [Act.put, psA, pzA, pnA, i64_w, i32_w];rfl)
              refine one_ (i := 7) (N := some 66) #[true, true, true, true, true, true, true, true, true, false, false] rfl rfl (one_of HT_.out (by kernel_rfl)) (by decide) (fun K hK => ?_)
              refine goes_ Try.func127 (by kernel_rfl) rfl #[.agg #[.int .i64 a2_0, .int .i64 a2_1, .int .u32 a2_2], .slice A691_0 (rd_L1 t679 x15_2).length c691_0] (by rfl) rfl rfl (by first | rfl | (simp only [List.map_toArray, List.map_cons, List.map_nil, List.length_drop, List.length_take]; rfl)) ?_
              with_reducible refine (spec_l03Part.calls k2 a2_0 a2_1 a2_2 _ _ (rd_L1 t679 x15_2) t692 t693 t694 _ ?side1 ?side2 A58.out).mono ?_
              (case side1 => repeat (first | exact (by repeat (first | (with_reducible exact HR691_0.out) | (with_reducible refine Kd.C_alloc ?_ _) | (with_reducible refine Kd.C_drewN ?_ _) | (with_reducible refine Kd.C_drew ?_) | exact HR691_0.out)) | (with_reducible refine Kd.C_alloc ?_ _) | (with_reducible refine Kd.C_drewN ?_ _) | (with_reducible refine Kd.C_drew ?_)))
              (case side2 => exact HC691_0.out)
              rintro e w63 ⟨rfl, hb⟩
              have HS6_ := (hb.cell (World.block_lt_of_cell? _ _ (hHeld.2.2.2.2.2.2))).trans (hHeld.2.2.2.2.2.2)
              refine ⟨_, rfl, ?_⟩
              replace HO_9 := Kd.S_b HO_9 hb
              replace HO_10 := Kd.S_b HO_10 hb
              replace HL688_0 := Kd.R_b HL688_0 hb
              replace HL689_0 := Kd.R_b HL689_0 hb
              replace HL691_0 := Kd.R_b HL691_0 hb
              replace BK662 := bkB BK662 hb
              replace BK663 := bkB BK663 hb
              replace BK664 := bkB BK664 hb
              replace BK665 := bkB BK665 hb
              replace BK669 := bkB BK669 hb
              replace BK673 := bkB BK673 hb
              replace HR684_0 := Aside0.mk (Kd.C_below (by repeat (first | (with_reducible exact HR684_0.out) | (with_reducible refine Kd.C_alloc ?_ _) | (with_reducible refine Kd.C_drewN ?_ _) | (with_reducible refine Kd.C_drew ?_) | exact HR684_0.out)) hb)
              replace HR688_0 := Aside0.mk (Kd.C_below (by repeat (first | (with_reducible exact HR688_0.out) | (with_reducible refine Kd.C_alloc ?_ _) | (with_reducible refine Kd.C_drewN ?_ _) | (with_reducible refine Kd.C_drew ?_) | exact HR688_0.out)) hb)
              replace HR689_0 := Aside0.mk (Kd.C_below (by repeat (first | (with_reducible exact HR689_0.out) | (with_reducible refine Kd.C_alloc ?_ _) | (with_reducible refine Kd.C_drewN ?_ _) | (with_reducible refine Kd.C_drew ?_) | exact HR689_0.out)) hb)
              replace HR691_0 := Aside0.mk (Kd.C_below (by repeat (first | (with_reducible exact HR691_0.out) | (with_reducible refine Kd.C_alloc ?_ _) | (with_reducible refine Kd.C_drewN ?_ _) | (with_reducible refine Kd.C_drew ?_) | exact HR691_0.out)) hb)
              replace HB := hbB HB hb
              (try clear hb)
              (try clear hk)
              refine hK.out _ _ ⟨bcA BK664 0 rfl, bcA BK664 1 rfl, bcA BK664 2 rfl, bcA BK673 0 rfl, bcA BK673 1 rfl, bcA BK673 2 rfl, HS6_⟩ (fun hHeld => ?_)
              clear hK K
              refine norm_ (a' := ?_) ?_ ?_
              rotate_left;(show Act.put _ (some 66) _ = _;simp only [Act.put, psA, pzA, pnA, i64_w, i32_w];rfl)
              refine pure_ (i := 9) (N := some 68) (v := ?_) (a' := ?_) #[true, true, true, true, true, true, true, true, true, true, false] rfl rfl (any_of HT_.out (by kernel_rfl)) (fun _ _ _ h => h) (Or.inl ⟨by rfl, ?_⟩) ?_ ?_
              rotate_left;(intro w';go_simp;with_reducible rfl);rotate_left;(simp only [Act.put, psA, pzA, pnA, i64_w, i32_w];rfl)
              refine pure_ (i := 10) (N := some 69) (v := ?_) (a' := ?_) #[true, true, true, true, true, true, true, true, true, true, true] rfl rfl (any_of HT_.out (by kernel_rfl)) (fun _ _ _ h => h) (Or.inl ⟨by rfl, ?_⟩) ?_ ?_
              rotate_left;(intro w';go_simp;with_reducible rfl);rotate_left;(simp only [Act.put, psA, pzA, pnA, i64_w, i32_w];rfl)
              refine done_ (done_of HT_.out (by kernel_rfl)) ?_
              try go_wp2
              go_roundg k2
              case measure => have := HK1.out; have := HK2.out; omega
              case rel => exact ⟨(wrap64 (x11_2 + 1)), (wrap64 (x12_2 + 1)), (wrap64 (x15_2 + 1)), (by first | rfl | (simp; done) | (simp [*]; done)), (by first | rfl | (simp; done) | (simp [*]; done)), (by first | rfl | (simp; done) | (simp [*]; done)), H', ⟨by have := HK1.out; have := HK2.out; omega⟩, ⟨by (with_reducible repeat (first | apply Kd.S_alloc | apply Kd.S_drewN | apply Kd.S_drew)); exact HO_9.out⟩, ⟨by (with_reducible repeat (first | apply Kd.S_alloc | apply Kd.S_drewN | apply Kd.S_drew)); exact HO_10.out⟩, ⟨by (with_reducible repeat (first | refine blk_drewN ?_ _ | refine blk_drew ?_ | refine blk_alloc ?_ _)); exact BK662.out⟩, ⟨by (with_reducible repeat (first | refine blk_drewN ?_ _ | refine blk_drew ?_ | refine blk_alloc ?_ _)); exact BK663.out⟩, ⟨by (with_reducible repeat (first | refine blk_drewN ?_ _ | refine blk_drew ?_ | refine blk_alloc ?_ _)); exact BK664.out⟩, ⟨by (with_reducible repeat (first | refine blk_drewN ?_ _ | refine blk_drew ?_ | refine blk_alloc ?_ _)); exact BK665.out⟩, ⟨by (with_reducible repeat (first | refine blk_drewN ?_ _ | refine blk_drew ?_ | refine blk_alloc ?_ _)); exact BK669.out⟩, ⟨by (with_reducible repeat (first | refine blk_drewN ?_ _ | refine blk_drew ?_ | refine blk_alloc ?_ _)); exact BK673.out⟩, ⟨by repeat (first | (with_reducible exact HR684_0.out) | (with_reducible refine Kd.C_alloc ?_ _) | (with_reducible refine Kd.C_drewN ?_ _) | (with_reducible refine Kd.C_drew ?_) | exact HR684_0.out)⟩, ⟨by repeat (first | (with_reducible first | exact HB.out | apply below_alloc | apply pw_below_drewN | apply below_drew1 | refine below_set ?_ (Aside0.out (by assumption))) | exact HB.out)⟩⟩
             ·rw [if_neg c59] at H
              have c59b0 : (t692 == t670 && ((t693 == t671 && (t694 == t672)))) = false := by simpa using c59
              (try (have c59b1 : decide (t692 = t670 && ((t693 == t671 && (t694 == t672)))) = false := by simpa using c59))
              (try (have c59b2 : (t692 == t670 && ((t693 == t671 && (t694 == t672)))) = false := by simpa using c59))
              (try (have c59b3 : ¬ (t692 = t670 && ((t693 == t671 && (t694 == t672)))) := by simpa using c59))
              clear c59
              have H' := Aside0.mk H
              clear H
              obtain ⟨Ao64, co64, eo64⟩ := Kd.S_slice HO_10.out
              subst eo64
              try go_wp2
              replace HO_9 := Aside0.mk (Kd.S_drew HO_9.out)
              replace HO_10 := Aside0.mk (Kd.S_drew HO_10.out)
              replace BK662 := Aside0.mk (blk_drew BK662.out)
              replace BK663 := Aside0.mk (blk_drew BK663.out)
              replace BK664 := Aside0.mk (blk_drew BK664.out)
              replace BK665 := Aside0.mk (blk_drew BK665.out)
              replace BK669 := Aside0.mk (blk_drew BK669.out)
              replace BK673 := Aside0.mk (blk_drew BK673.out)
              replace HR684_0 := Aside0.mk (Kd.C_drew HR684_0.out)
              replace HB := Aside0.mk (below_drew1 HB.out)
              have p688 : 0 ≤ (x13_1 : Int) := of_decide_eq_true (by first | (with_reducible assumption) | assumption)
              have q688 : x13_1 < (t675.length : Int) := of_decide_eq_true (by first | (with_reducible assumption) | assumption)
              obtain ⟨ad688, A688_0, c688_0, e688, hx688_0, hl688_0, hi688_0⟩ := at_L1 (Kd.S_reads' HO_9.out).2.2 x13_1 p688 q688
              obtain rfl : ad684 = ad688 := (by injection e688)
              obtain ⟨ce688, hce688, hMe688, hcc688⟩ := Kd.S_get HO_9.out [] x13_1 p688 (by first | exact q688 | exact of_decide_eq_true (by first | (with_reducible assumption) | assumption) | (have e_ := (Kd.S_reads' HO_9.out).1; omega))
              obtain ⟨ve688_0, rfl, ge688_0⟩ := hMe688
              have hv688_0 := hcc688 0 _ rfl
              rw [Nat.add_zero, show ((Kd.slice 2 (Kd.int .i64))).sz = 1 from rfl, Nat.mul_one] at hv688_0
              replace hv688_0 := Option.some.inj (hv688_0.symm.trans hx688_0)
              rw [hv688_0] at ge688_0
              have HL688_0 := Aside0.mk (show Kd.R (Kd.int .i64) 2 _ _ _ _ (rd_L1 t675 x13_1) from ge688_0)
              clear hv688_0 ge688_0
              clear hcc688 hce688
              have HR688_0 := Aside0.mk hi688_0
              have HC688_0 := Aside0.mk hl688_0
              clear hi688_0 hl688_0
              replace p688 := eq_true p688
              replace q688 := eq_true q688
              have p689 : 0 ≤ (x15_2 : Int) := of_decide_eq_true (by first | (with_reducible assumption) | assumption)
              have q689 : x15_2 < (t679.length : Int) := of_decide_eq_true (by first | (with_reducible assumption) | assumption)
              obtain ⟨ad689, A689_0, c689_0, e689, hx689_0, hl689_0, hi689_0⟩ := at_L1 (Kd.S_reads' HO_10.out).2.2 x15_2 p689 q689
              cases e689
              obtain ⟨ce689, hce689, hMe689, hcc689⟩ := Kd.S_get HO_10.out [] x15_2 p689 (by first | exact q689 | exact of_decide_eq_true (by first | (with_reducible assumption) | assumption) | (have e_ := (Kd.S_reads' HO_10.out).1; omega))
              obtain ⟨ve689_0, rfl, ge689_0⟩ := hMe689
              have hv689_0 := hcc689 0 _ rfl
              rw [Nat.add_zero, show ((Kd.slice 2 (Kd.int .i64))).sz = 1 from rfl, Nat.mul_one] at hv689_0
              replace hv689_0 := Option.some.inj (hv689_0.symm.trans hx689_0)
              rw [hv689_0] at ge689_0
              have HL689_0 := Aside0.mk (show Kd.R (Kd.int .i64) 2 _ _ _ _ (rd_L1 t679 x15_2) from ge689_0)
              clear hv689_0 ge689_0
              clear hcc689 hce689
              have HR689_0 := Aside0.mk hi689_0
              have HC689_0 := Aside0.mk hl689_0
              clear hi689_0 hl689_0
              replace p689 := eq_true p689
              replace q689 := eq_true q689
              refine start_ (n := 9) (S := fun w' => w'.cell? (ad684.add (x13_1).toNat) = some (.slice A688_0 (rd_L1 t675 x13_1).length c688_0) ∧ w'.cell? (ad689.add (x15_2).toNat) = some (.slice A689_0 (rd_L1 t679 x15_2).length c689_0)) (ds := []) #[false, false, false, false, false, false, false, false, false] (by kernel_rfl) rfl rfl ⟨hx688_0, hx689_0⟩ (fun hHeld => ?_); refine with_tabW spec_l04Joint.tab14 spec_l04Joint.bits14 (fun HT_ HW_ => ?_)
              generalize wr.drew = w65 at HO_9 HO_10 BK662 BK663 BK664 BK665 BK669 BK673 HR684_0 HB HL688_0 HL689_0 HR688_0 HR689_0 hx688_0 hx689_0 hHeld ⊢
              refine pure_ (i := 0) (N := some 48) (v := ?_) (a' := ?_) #[true, false, false, false, false, false, false, false, false] rfl rfl (any_of HT_.out (by kernel_rfl)) (fun _ _ _ h => h) (Or.inl ⟨by rfl, ?_⟩) ?_ ?_
              rotate_left;(intro w';go_simp;with_reducible rfl);rotate_left;(simp only [Act.put, psA, pzA, pnA, i64_w, i32_w];rfl)
              refine pure_ (i := 1) (N := some 49) (v := ?_) (a' := ?_) #[true, true, false, false, false, false, false, false, false] rfl rfl (any_of HT_.out (by kernel_rfl)) (fun _ _ _ h => h) (Or.inl ⟨by rfl, ?_⟩) ?_ ?_
              rotate_left;(intro w';go_simp;with_reducible rfl);rotate_left;(simp only [Act.put, psA, pzA, pnA, i64_w, i32_w];rfl)
              refine pure_ (i := 2) (N := some 50) (v := ?_) (a' := ?_) #[true, true, true, false, false, false, false, false, false] rfl rfl (any_of HT_.out (by kernel_rfl)) (fun _ _ _ h => h) (Or.inl ⟨by rfl, ?_⟩) ?_ ?_
              rotate_left;(intro w';go_simp;with_reducible rfl);rotate_left;(simp only [Act.put, psA, pzA, pnA, i64_w, i32_w];rfl)
              refine pure_ (i := 4) (N := some 52) (v := ?_) (a' := ?_) #[true, true, true, false, true, false, false, false, false] rfl rfl (any_of HT_.out (by kernel_rfl)) (fun _ _ _ h => h) (Or.inl ⟨by rfl, ?_⟩) ?_ ?_
              rotate_left;(intro w';go_simp;with_reducible rfl);rotate_left;(simp only [Act.put, psA, pzA, pnA, i64_w, i32_w];rfl)
              refine pure_ (i := 5) (N := some 53) (v := ?_) (a' := ?_) #[true, true, true, false, true, true, false, false, false] rfl rfl (any_of HT_.out (by kernel_rfl)) (fun _ _ _ h => h) (Or.inl ⟨by rfl, ?_⟩) ?_ ?_
              rotate_left;(intro w';go_simp;with_reducible rfl);rotate_left;(simp only [Act.put, psA, pzA, pnA, i64_w, i32_w];rfl)
              refine pure_ (i := 6) (N := some 54) (v := ?_) (a' := ?_) #[true, true, true, false, true, true, true, false, false] rfl rfl (any_of HT_.out (by kernel_rfl)) (fun _ _ _ h => h) (Or.inl ⟨by rfl, ?_⟩) ?_ ?_
              rotate_left;(intro w';go_simp;with_reducible rfl);rotate_left;(simp only [Act.put, psA, pzA, pnA, i64_w, i32_w];rfl)
              refine take_ (i := 3) (N := some 51) (v := ?_) (a' := ?_) #[true, true, true, true, true, true, true, false, false] rfl rfl (take_ofW HT_.out HW_.out (by kernel_rfl)) (fun _ _ _ h => h) (Or.inl ⟨by rfl, ?_⟩) hHeld ?_ ?_
              rotate_left;(rintro w' ⟨s0, s1⟩;go_simp;with_reducible rfl);rotate_left;(simp only [Act.put, psA, pzA, pnA, i64_w, i32_w];rfl)
              refine take_ (i := 7) (N := some 55) (v := ?_) (a' := ?_) #[true, true, true, true, true, true, true, true, false] rfl rfl (take_ofW HT_.out HW_.out (by kernel_rfl)) (fun _ _ _ h => h) (Or.inl ⟨by rfl, ?_⟩) hHeld ?_ ?_
              rotate_left;(rintro w' ⟨s0, s1⟩;go_simp;with_reducible rfl);rotate_left;(simp only [Act.put, psA, pzA, pnA, i64_w, i32_w];rfl)
              refine one_ (i := 8) (N := some 56) #[true, true, true, true, true, true, true, true, true] rfl rfl (one_of HT_.out (by kernel_rfl)) (by decide) (fun K hK => ?_)
              refine goes_ Try.func132 (by kernel_rfl) rfl #[.slice A688_0 (rd_L1 t675 x13_1).length c688_0, .slice A689_0 (rd_L1 t679 x15_2).length c689_0] (by rfl) rfl rfl (by first | rfl | (simp only [List.map_toArray, List.map_cons, List.map_nil, List.length_drop, List.length_take]; rfl)) ?_
              with_reducible refine (spec_l04Meet.calls k2 _ _ (rd_L1 t675 x13_1) _ _ (rd_L1 t679 x15_2) false _ ?side1 ?side2 ?side3 ?side4 A53.out).mono ?_
              (case side1 => repeat (first | exact (by repeat (first | (with_reducible exact HR688_0.out) | (with_reducible refine Kd.C_alloc ?_ _) | (with_reducible refine Kd.C_drewN ?_ _) | (with_reducible refine Kd.C_drew ?_) | exact HR688_0.out)) | (with_reducible refine Kd.C_alloc ?_ _) | (with_reducible refine Kd.C_drewN ?_ _) | (with_reducible refine Kd.C_drew ?_)))
              (case side2 => exact HC688_0.out)
              (case side3 => repeat (first | exact (by repeat (first | (with_reducible exact HR689_0.out) | (with_reducible refine Kd.C_alloc ?_ _) | (with_reducible refine Kd.C_drewN ?_ _) | (with_reducible refine Kd.C_drew ?_) | exact HR689_0.out)) | (with_reducible refine Kd.C_alloc ?_ _) | (with_reducible refine Kd.C_drewN ?_ _) | (with_reducible refine Kd.C_drew ?_)))
              (case side4 => exact HC689_0.out)
              rintro e w' ⟨rfl, ⟨nd, rfl⟩⟩
              refine ⟨_, rfl, ?_⟩
              refine hK.out _ _ ⟨hHeld.1, hHeld.2⟩ (fun hHeld => ?_)
              clear hK K
              refine norm_ (a' := ?_) ?_ ?_
              rotate_left;(show Act.put _ (some 56) _ = _;simp only [Act.put, psA, pzA, pnA, i64_w, i32_w];rfl)
              refine done_ (done_of HT_.out (by kernel_rfl)) ?_
              try go_wp2
              (try (rw [drewN_self w65]; generalize hq_ : World.drewN w65 _ = w65; have n0_ : Aside0 (Kd.R (Kd.int .i64) 2 w65 w.heap.size (fun k_ => some k_ ≠ (.slice (some ad689) t679.length co64 : Value).ownBlock ∧ some k_ ≠ (.slice (some ad684) t675.length co46 : Value).ownBlock) (.slice A688_0 (rd_L1 t675 x13_1).length c688_0) (rd_L1 t675 x13_1)) := ⟨by rw [← hq_]; exact (by (with_reducible repeat (first | apply Kd.R_alloc | apply Kd.R_drewN | apply Kd.R_drew)); exact HL688_0.out)⟩; have n1_ : Aside0 (Kd.R (Kd.int .i64) 2 w65 w.heap.size (fun k_ => some k_ ≠ (.slice (some ad689) t679.length co64 : Value).ownBlock ∧ some k_ ≠ (.slice (some ad684) t675.length co46 : Value).ownBlock) (.slice A689_0 (rd_L1 t679 x15_2).length c689_0) (rd_L1 t679 x15_2)) := ⟨by rw [← hq_]; exact (by (with_reducible repeat (first | apply Kd.R_alloc | apply Kd.R_drewN | apply Kd.R_drew)); exact Kd.R_mono HL689_0.out (fun _ hk => ⟨hk.2, hk.1⟩))⟩; have n2_ : Aside0 (Kd.S (Kd.slice 2 (Kd.int .i64)) 62 w65 w.heap.size (fun k_ => some k_ ≠ (.slice (some ad684) t675.length co46 : Value).ownBlock) (.slice (some ad689) t679.length co64) t679) := ⟨by rw [← hq_]; exact (by (with_reducible repeat (first | apply Kd.S_alloc | apply Kd.S_drewN | apply Kd.S_drew)); exact HO_10.out)⟩; have n3_ : Aside0 (Kd.S (Kd.slice 2 (Kd.int .i64)) 62 w65 w.heap.size (fun k_ => some k_ ≠ (.slice (some ad689) t679.length co64 : Value).ownBlock) (.slice (some ad684) t675.length co46) t675) := ⟨by rw [← hq_]; exact (by (with_reducible repeat (first | apply Kd.S_alloc | apply Kd.S_drewN | apply Kd.S_drew)); exact HO_9.out)⟩; have n4_ : Aside0 (w65.heap[gb662]? = some (.cells #[.int .i64 a0_0, .int .i64 a0_1, .int .u32 a0_2] 45 (0, 0))) := ⟨by rw [← hq_]; exact (by (with_reducible repeat (first | refine blk_drewN ?_ _ | refine blk_drew ?_ | refine blk_alloc ?_ _)); exact BK662.out)⟩; have n5_ : Aside0 (w65.heap[gb663]? = some (.cells #[.int .i64 a1_0, .int .i64 a1_1, .int .u32 a1_2] 45 (0, 0))) := ⟨by rw [← hq_]; exact (by (with_reducible repeat (first | refine blk_drewN ?_ _ | refine blk_drew ?_ | refine blk_alloc ?_ _)); exact BK663.out)⟩; have n6_ : Aside0 (w65.heap[gb664]? = some (.cells #[.int .i64 a2_0, .int .i64 a2_1, .int .u32 a2_2] 45 (0, 0))) := ⟨by rw [← hq_]; exact (by (with_reducible repeat (first | refine blk_drewN ?_ _ | refine blk_drew ?_ | refine blk_alloc ?_ _)); exact BK664.out)⟩; have n7_ : Aside0 (w65.heap[gb665]? = some (.cells #[.int .i64 0, .int .i64 0] 31 (0, 0))) := ⟨by rw [← hq_]; exact (by (with_reducible repeat (first | refine blk_drewN ?_ _ | refine blk_drew ?_ | refine blk_alloc ?_ _)); exact BK665.out)⟩; have n8_ : Aside0 (w65.heap[gb669]? = some (.cells #[.int .i64 t666, .int .i64 t667, .int .u32 t668] 45 (0, 0))) := ⟨by rw [← hq_]; exact (by (with_reducible repeat (first | refine blk_drewN ?_ _ | refine blk_drew ?_ | refine blk_alloc ?_ _)); exact BK669.out)⟩; have n9_ : Aside0 (w65.heap[gb673]? = some (.cells #[.int .i64 t670, .int .i64 t671, .int .u32 t672] 45 (0, 0))) := ⟨by rw [← hq_]; exact (by (with_reducible repeat (first | refine blk_drewN ?_ _ | refine blk_drew ?_ | refine blk_alloc ?_ _)); exact BK673.out)⟩; have n10_ : Aside0 (Below w.heap.size w w65) := ⟨by rw [← hq_]; exact (by repeat (first | (with_reducible first | exact HB.out | apply below_alloc | apply pw_below_drewN | apply below_drew1 | refine below_set ?_ (Aside0.out (by assumption))) | exact HB.out))⟩; have n11_ : Aside0 (Kd.C (Kd.int .i64) w65 A684_0 (rd_L1 t675 x13_1).length (rd_L1 t675 x13_1)) := ⟨by rw [← hq_]; exact (by repeat (first | (with_reducible exact HR684_0.out) | (with_reducible refine Kd.C_alloc ?_ _) | (with_reducible refine Kd.C_drewN ?_ _) | (with_reducible refine Kd.C_drew ?_) | exact HR684_0.out))⟩; have n12_ : Aside0 (Kd.C (Kd.int .i64) w65 A688_0 (rd_L1 t675 x13_1).length (rd_L1 t675 x13_1)) := ⟨by rw [← hq_]; exact (by repeat (first | (with_reducible exact HR688_0.out) | (with_reducible refine Kd.C_alloc ?_ _) | (with_reducible refine Kd.C_drewN ?_ _) | (with_reducible refine Kd.C_drew ?_) | exact HR688_0.out))⟩; have n13_ : Aside0 (Kd.C (Kd.int .i64) w65 A689_0 (rd_L1 t679 x15_2).length (rd_L1 t679 x15_2)) := ⟨by rw [← hq_]; exact (by repeat (first | (with_reducible exact HR689_0.out) | (with_reducible refine Kd.C_alloc ?_ _) | (with_reducible refine Kd.C_drewN ?_ _) | (with_reducible refine Kd.C_drew ?_) | exact HR689_0.out))⟩; clear HL688_0 HL689_0 HO_10 HO_9 BK662 BK663 BK664 BK665 BK669 BK673 HB HR684_0 HR688_0 HR689_0 hq_; have HL688_0 := n0_; have HL689_0 := n1_; have HO_10 := n2_; have HO_9 := n3_; have BK662 := n4_; have BK663 := n5_; have BK664 := n6_; have BK665 := n7_; have BK669 := n8_; have BK673 := n9_; have HB := n10_; have HR684_0 := n11_; have HR688_0 := n12_; have HR689_0 := n13_; clear n0_ n1_ n2_ n3_ n4_ n5_ n6_ n7_ n8_ n9_ n10_ n11_ n12_ n13_))
              replace HO_9 := Aside0.mk (Kd.S_drew HO_9.out)
              replace HO_10 := Aside0.mk (Kd.S_drew HO_10.out)
              replace HL688_0 := Aside0.mk (Kd.R_drew HL688_0.out)
              replace HL689_0 := Aside0.mk (Kd.R_drew HL689_0.out)
              replace BK662 := Aside0.mk (blk_drew BK662.out)
              replace BK663 := Aside0.mk (blk_drew BK663.out)
              replace BK664 := Aside0.mk (blk_drew BK664.out)
              replace BK665 := Aside0.mk (blk_drew BK665.out)
              replace BK669 := Aside0.mk (blk_drew BK669.out)
              replace BK673 := Aside0.mk (blk_drew BK673.out)
              replace HR684_0 := Aside0.mk (Kd.C_drew HR684_0.out)
              replace HR688_0 := Aside0.mk (Kd.C_drew HR688_0.out)
              replace HR689_0 := Aside0.mk (Kd.C_drew HR689_0.out)
              replace HB := Aside0.mk (below_drew1 HB.out)
              have p691 : 0 ≤ (x15_2 : Int) := of_decide_eq_true (by first | (with_reducible assumption) | assumption)
              have q691 : x15_2 < (t679.length : Int) := of_decide_eq_true (by first | (with_reducible assumption) | assumption)
              obtain ⟨ad691, A691_0, c691_0, e691, hx691_0, hl691_0, hi691_0⟩ := at_L1 (Kd.S_reads' HO_10.out).2.2 x15_2 p691 q691
              obtain rfl : ad689 = ad691 := (by injection e691)
              obtain ⟨ce691, hce691, hMe691, hcc691⟩ := Kd.S_get HO_10.out [] x15_2 p691 (by first | exact q691 | exact of_decide_eq_true (by first | (with_reducible assumption) | assumption) | (have e_ := (Kd.S_reads' HO_10.out).1; omega))
              obtain ⟨ve691_0, rfl, ge691_0⟩ := hMe691
              have hv691_0 := hcc691 0 _ rfl
              rw [Nat.add_zero, show ((Kd.slice 2 (Kd.int .i64))).sz = 1 from rfl, Nat.mul_one] at hv691_0
              replace hv691_0 := Option.some.inj (hv691_0.symm.trans hx691_0)
              rw [hv691_0] at ge691_0
              have HL691_0 := Aside0.mk (show Kd.R (Kd.int .i64) 2 _ _ _ _ (rd_L1 t679 x15_2) from ge691_0)
              clear hv691_0 ge691_0
              clear hcc691 hce691
              have HR691_0 := Aside0.mk hi691_0
              have HC691_0 := Aside0.mk hl691_0
              clear hi691_0 hl691_0
              replace p691 := eq_true p691
              replace q691 := eq_true q691
              refine start_ (n := 11) (S := fun w' => w'.cell? ⟨gb664, 0, none⟩ = some (.int .i64 a2_0) ∧ w'.cell? ⟨gb664, 1, none⟩ = some (.int .i64 a2_1) ∧ w'.cell? ⟨gb664, 2, none⟩ = some (.int .u32 a2_2) ∧ w'.cell? ⟨gb673, 0, none⟩ = some (.int .i64 t670) ∧ w'.cell? ⟨gb673, 1, none⟩ = some (.int .i64 t671) ∧ w'.cell? ⟨gb673, 2, none⟩ = some (.int .u32 t672) ∧ w'.cell? (ad689.add (x15_2).toNat) = some (.slice A691_0 (rd_L1 t679 x15_2).length c691_0)) (ds := []) #[false, false, false, false, false, false, false, false, false, false, false] (by kernel_rfl) rfl rfl ⟨bcA BK664 0 rfl, bcA BK664 1 rfl, bcA BK664 2 rfl, bcA BK673 0 rfl, bcA BK673 1 rfl, bcA BK673 2 rfl, hx691_0⟩ (fun hHeld => ?_); refine with_tabW spec_l04Joint.tab16 spec_l04Joint.bits16 (fun HT_ HW_ => ?_)
              generalize w65.drew = w66 at HO_9 HO_10 HL688_0 HL689_0 BK662 BK663 BK664 BK665 BK669 BK673 HR684_0 HR688_0 HR689_0 HB HL691_0 HR691_0 hx691_0 hHeld ⊢
              refine pure_ (i := 0) (N := some 59) (v := ?_) (a' := ?_) #[true, false, false, false, false, false, false, false, false, false, false] rfl rfl (any_of HT_.out (by kernel_rfl)) (fun _ _ _ h => h) (Or.inl ⟨by rfl, ?_⟩) ?_ ?_
              rotate_left;(intro w';go_simp;with_reducible rfl);rotate_left;(simp only [Act.put, psA, pzA, pnA, i64_w, i32_w];rfl)
              refine pure_ (i := 1) (N := some 60) (v := ?_) (a' := ?_) #[true, true, false, false, false, false, false, false, false, false, false] rfl rfl (any_of HT_.out (by kernel_rfl)) (fun _ _ _ h => h) (Or.inl ⟨by rfl, ?_⟩) ?_ ?_
              rotate_left;(intro w';go_simp;with_reducible rfl);rotate_left;(simp only [Act.put, psA, pzA, pnA, i64_w, i32_w];rfl)
              refine pure_ (i := 3) (N := some 62) (v := ?_) (a' := ?_) #[true, true, false, true, false, false, false, false, false, false, false] rfl rfl (any_of HT_.out (by kernel_rfl)) (fun _ _ _ h => h) (Or.inl ⟨by rfl, ?_⟩) ?_ ?_
              rotate_left;(intro w';go_simp;with_reducible rfl);rotate_left;(simp only [Act.put, psA, pzA, pnA, i64_w, i32_w];rfl)
              refine pure_ (i := 4) (N := some 63) (v := ?_) (a' := ?_) #[true, true, false, true, true, false, false, false, false, false, false] rfl rfl (any_of HT_.out (by kernel_rfl)) (fun _ _ _ h => h) (Or.inl ⟨by rfl, ?_⟩) ?_ ?_
              rotate_left;(intro w';go_simp;with_reducible rfl);rotate_left;(simp only [Act.put, psA, pzA, pnA, i64_w, i32_w];rfl)
              refine pure_ (i := 5) (N := some 64) (v := ?_) (a' := ?_) #[true, true, false, true, true, true, false, false, false, false, false] rfl rfl (any_of HT_.out (by kernel_rfl)) (fun _ _ _ h => h) (Or.inl ⟨by rfl, ?_⟩) ?_ ?_
              rotate_left;(intro w';go_simp;with_reducible rfl);rotate_left;(simp only [Act.put, psA, pzA, pnA, i64_w, i32_w];rfl)
              refine take_ (i := 2) (N := some 61) (v := ?_) (a' := ?_) #[true, true, true, true, true, true, false, false, false, false, false] rfl rfl (take_ofW HT_.out HW_.out (by kernel_rfl)) (fun _ _ _ h => h) (Or.inl ⟨by rfl, ?_⟩) hHeld ?_ ?_
              rotate_left;(rintro w' ⟨s0, s1, s2, s3, s4, s5, s6⟩;go_simp;with_reducible rfl);rotate_left;(simp only [Act.put, psA, pzA, pnA, i64_w, i32_w];rfl)
              refine take_ (i := 6) (N := some 65) (v := ?_) (a' := ?_) #[true, true, true, true, true, true, true, false, false, false, false] rfl rfl (take_ofW HT_.out HW_.out (by kernel_rfl)) (fun _ _ _ h => h) (Or.inl ⟨by rfl, ?_⟩) hHeld ?_ ?_
              rotate_left;(rintro w' ⟨s0, s1, s2, s3, s4, s5, s6⟩;go_simp;with_reducible rfl);rotate_left;(simp only [Act.put, psA, pzA, pnA, i64_w, i32_w];rfl)
              refine take_ (i := 8) (N := some 67) (v := ?_) (a' := ?_) #[true, true, true, true, true, true, true, false, true, false, false] rfl rfl (take_ofW HT_.out HW_.out (by kernel_rfl)) (fun _ _ _ h => h) (Or.inl ⟨by rfl, ?_⟩) hHeld ?_ ?_
              rotate_left;(rintro w' ⟨s0, s1, s2, s3, s4, s5, s6⟩;go_simp;with_reducible rfl);rotate_left;(simp only [Act.put, psA, pzA, pnA, i64_w, i32_w];rfl)
              refine one_ (i := 7) (N := some 66) #[true, true, true, true, true, true, true, true, true, false, false] rfl rfl (one_of HT_.out (by kernel_rfl)) (by decide) (fun K hK => ?_)
              refine goes_ Try.func127 (by kernel_rfl) rfl #[.agg #[.int .i64 a2_0, .int .i64 a2_1, .int .u32 a2_2], .slice A691_0 (rd_L1 t679 x15_2).length c691_0] (by rfl) rfl rfl (by first | rfl | (simp only [List.map_toArray, List.map_cons, List.map_nil, List.length_drop, List.length_take]; rfl)) ?_
              with_reducible refine (spec_l03Part.calls k2 a2_0 a2_1 a2_2 _ _ (rd_L1 t679 x15_2) t692 t693 t694 _ ?side1 ?side2 A58.out).mono ?_
              (case side1 => repeat (first | exact (by repeat (first | (with_reducible exact HR691_0.out) | (with_reducible refine Kd.C_alloc ?_ _) | (with_reducible refine Kd.C_drewN ?_ _) | (with_reducible refine Kd.C_drew ?_) | exact HR691_0.out)) | (with_reducible refine Kd.C_alloc ?_ _) | (with_reducible refine Kd.C_drewN ?_ _) | (with_reducible refine Kd.C_drew ?_)))
              (case side2 => exact HC691_0.out)
              rintro e w67 ⟨rfl, hb⟩
              have HS6_ := (hb.cell (World.block_lt_of_cell? _ _ (hHeld.2.2.2.2.2.2))).trans (hHeld.2.2.2.2.2.2)
              refine ⟨_, rfl, ?_⟩
              replace HO_9 := Kd.S_b HO_9 hb
              replace HO_10 := Kd.S_b HO_10 hb
              replace HL688_0 := Kd.R_b HL688_0 hb
              replace HL689_0 := Kd.R_b HL689_0 hb
              replace HL691_0 := Kd.R_b HL691_0 hb
              replace BK662 := bkB BK662 hb
              replace BK663 := bkB BK663 hb
              replace BK664 := bkB BK664 hb
              replace BK665 := bkB BK665 hb
              replace BK669 := bkB BK669 hb
              replace BK673 := bkB BK673 hb
              replace HR684_0 := Aside0.mk (Kd.C_below (by repeat (first | (with_reducible exact HR684_0.out) | (with_reducible refine Kd.C_alloc ?_ _) | (with_reducible refine Kd.C_drewN ?_ _) | (with_reducible refine Kd.C_drew ?_) | exact HR684_0.out)) hb)
              replace HR688_0 := Aside0.mk (Kd.C_below (by repeat (first | (with_reducible exact HR688_0.out) | (with_reducible refine Kd.C_alloc ?_ _) | (with_reducible refine Kd.C_drewN ?_ _) | (with_reducible refine Kd.C_drew ?_) | exact HR688_0.out)) hb)
              replace HR689_0 := Aside0.mk (Kd.C_below (by repeat (first | (with_reducible exact HR689_0.out) | (with_reducible refine Kd.C_alloc ?_ _) | (with_reducible refine Kd.C_drewN ?_ _) | (with_reducible refine Kd.C_drew ?_) | exact HR689_0.out)) hb)
              replace HR691_0 := Aside0.mk (Kd.C_below (by repeat (first | (with_reducible exact HR691_0.out) | (with_reducible refine Kd.C_alloc ?_ _) | (with_reducible refine Kd.C_drewN ?_ _) | (with_reducible refine Kd.C_drew ?_) | exact HR691_0.out)) hb)
              replace HB := hbB HB hb
              (try clear hb)
              (try clear hk)
              refine hK.out _ _ ⟨bcA BK664 0 rfl, bcA BK664 1 rfl, bcA BK664 2 rfl, bcA BK673 0 rfl, bcA BK673 1 rfl, bcA BK673 2 rfl, HS6_⟩ (fun hHeld => ?_)
              clear hK K
              refine norm_ (a' := ?_) ?_ ?_
              rotate_left;(show Act.put _ (some 66) _ = _;simp only [Act.put, psA, pzA, pnA, i64_w, i32_w];rfl)
              refine pure_ (i := 9) (N := some 68) (v := ?_) (a' := ?_) #[true, true, true, true, true, true, true, true, true, true, false] rfl rfl (any_of HT_.out (by kernel_rfl)) (fun _ _ _ h => h) (Or.inl ⟨by rfl, ?_⟩) ?_ ?_
              rotate_left;(intro w';go_simp;with_reducible rfl);rotate_left;(simp only [Act.put, psA, pzA, pnA, i64_w, i32_w];rfl)
              refine pure_ (i := 10) (N := some 69) (v := ?_) (a' := ?_) #[true, true, true, true, true, true, true, true, true, true, true] rfl rfl (any_of HT_.out (by kernel_rfl)) (fun _ _ _ h => h) (Or.inl ⟨by rfl, ?_⟩) ?_ ?_
              rotate_left;(intro w';go_simp;with_reducible rfl);rotate_left;(simp only [Act.put, psA, pzA, pnA, i64_w, i32_w];rfl)
              refine done_ (done_of HT_.out (by kernel_rfl)) ?_
              try go_wp2
              go_roundg k2
              case measure => have := HK1.out; have := HK2.out; omega
              case rel => exact ⟨(x11_2), (wrap64 (x12_2 + 1)), (wrap64 (x15_2 + 1)), (by first | rfl | (simp; done) | (simp [*]; done)), (by first | rfl | (simp; done) | (simp [*]; done)), (by first | rfl | (simp; done) | (simp [*]; done)), H', ⟨by have := HK1.out; have := HK2.out; omega⟩, ⟨by (with_reducible repeat (first | apply Kd.S_alloc | apply Kd.S_drewN | apply Kd.S_drew)); exact HO_9.out⟩, ⟨by (with_reducible repeat (first | apply Kd.S_alloc | apply Kd.S_drewN | apply Kd.S_drew)); exact HO_10.out⟩, ⟨by (with_reducible repeat (first | refine blk_drewN ?_ _ | refine blk_drew ?_ | refine blk_alloc ?_ _)); exact BK662.out⟩, ⟨by (with_reducible repeat (first | refine blk_drewN ?_ _ | refine blk_drew ?_ | refine blk_alloc ?_ _)); exact BK663.out⟩, ⟨by (with_reducible repeat (first | refine blk_drewN ?_ _ | refine blk_drew ?_ | refine blk_alloc ?_ _)); exact BK664.out⟩, ⟨by (with_reducible repeat (first | refine blk_drewN ?_ _ | refine blk_drew ?_ | refine blk_alloc ?_ _)); exact BK665.out⟩, ⟨by (with_reducible repeat (first | refine blk_drewN ?_ _ | refine blk_drew ?_ | refine blk_alloc ?_ _)); exact BK669.out⟩, ⟨by (with_reducible repeat (first | refine blk_drewN ?_ _ | refine blk_drew ?_ | refine blk_alloc ?_ _)); exact BK673.out⟩, ⟨by repeat (first | (with_reducible exact HR684_0.out) | (with_reducible refine Kd.C_alloc ?_ _) | (with_reducible refine Kd.C_drewN ?_ _) | (with_reducible refine Kd.C_drew ?_) | exact HR684_0.out)⟩, ⟨by repeat (first | (with_reducible first | exact HB.out | apply below_alloc | apply pw_below_drewN | apply below_drew1 | refine below_set ?_ (Aside0.out (by assumption))) | exact HB.out)⟩⟩
            ·rw [if_neg c57] at H
             replace c57 := Bool.eq_false_iff.mpr c57
             subst c57
             have H' := Aside0.mk H
             clear H
             obtain ⟨Ao68, co68, eo68⟩ := Kd.S_slice HO_10.out
             subst eo68
             try go_wp2
             replace HO_9 := Aside0.mk (Kd.S_drew HO_9.out)
             replace HO_10 := Aside0.mk (Kd.S_drew HO_10.out)
             replace BK662 := Aside0.mk (blk_drew BK662.out)
             replace BK663 := Aside0.mk (blk_drew BK663.out)
             replace BK664 := Aside0.mk (blk_drew BK664.out)
             replace BK665 := Aside0.mk (blk_drew BK665.out)
             replace BK669 := Aside0.mk (blk_drew BK669.out)
             replace BK673 := Aside0.mk (blk_drew BK673.out)
             replace HR684_0 := Aside0.mk (Kd.C_drew HR684_0.out)
             replace HB := Aside0.mk (below_drew1 HB.out)
             have p688 : 0 ≤ (x13_1 : Int) := of_decide_eq_true (by first | (with_reducible assumption) | assumption)
             have q688 : x13_1 < (t675.length : Int) := of_decide_eq_true (by first | (with_reducible assumption) | assumption)
             obtain ⟨ad688, A688_0, c688_0, e688, hx688_0, hl688_0, hi688_0⟩ := at_L1 (Kd.S_reads' HO_9.out).2.2 x13_1 p688 q688
             obtain rfl : ad684 = ad688 := (by injection e688)
             obtain ⟨ce688, hce688, hMe688, hcc688⟩ := Kd.S_get HO_9.out [] x13_1 p688 (by first | exact q688 | exact of_decide_eq_true (by first | (with_reducible assumption) | assumption) | (have e_ := (Kd.S_reads' HO_9.out).1; omega))
             obtain ⟨ve688_0, rfl, ge688_0⟩ := hMe688
             have hv688_0 := hcc688 0 _ rfl
             rw [Nat.add_zero, show ((Kd.slice 2 (Kd.int .i64))).sz = 1 from rfl, Nat.mul_one] at hv688_0
             replace hv688_0 := Option.some.inj (hv688_0.symm.trans hx688_0)
             rw [hv688_0] at ge688_0
             have HL688_0 := Aside0.mk (show Kd.R (Kd.int .i64) 2 _ _ _ _ (rd_L1 t675 x13_1) from ge688_0)
             clear hv688_0 ge688_0
             clear hcc688 hce688
             have HR688_0 := Aside0.mk hi688_0
             have HC688_0 := Aside0.mk hl688_0
             clear hi688_0 hl688_0
             replace p688 := eq_true p688
             replace q688 := eq_true q688
             have p689 : 0 ≤ (x15_2 : Int) := of_decide_eq_true (by first | (with_reducible assumption) | assumption)
             have q689 : x15_2 < (t679.length : Int) := of_decide_eq_true (by first | (with_reducible assumption) | assumption)
             obtain ⟨ad689, A689_0, c689_0, e689, hx689_0, hl689_0, hi689_0⟩ := at_L1 (Kd.S_reads' HO_10.out).2.2 x15_2 p689 q689
             cases e689
             obtain ⟨ce689, hce689, hMe689, hcc689⟩ := Kd.S_get HO_10.out [] x15_2 p689 (by first | exact q689 | exact of_decide_eq_true (by first | (with_reducible assumption) | assumption) | (have e_ := (Kd.S_reads' HO_10.out).1; omega))
             obtain ⟨ve689_0, rfl, ge689_0⟩ := hMe689
             have hv689_0 := hcc689 0 _ rfl
             rw [Nat.add_zero, show ((Kd.slice 2 (Kd.int .i64))).sz = 1 from rfl, Nat.mul_one] at hv689_0
             replace hv689_0 := Option.some.inj (hv689_0.symm.trans hx689_0)
             rw [hv689_0] at ge689_0
             have HL689_0 := Aside0.mk (show Kd.R (Kd.int .i64) 2 _ _ _ _ (rd_L1 t679 x15_2) from ge689_0)
             clear hv689_0 ge689_0
             clear hcc689 hce689
             have HR689_0 := Aside0.mk hi689_0
             have HC689_0 := Aside0.mk hl689_0
             clear hi689_0 hl689_0
             replace p689 := eq_true p689
             replace q689 := eq_true q689
             refine start_ (n := 9) (S := fun w' => w'.cell? (ad684.add (x13_1).toNat) = some (.slice A688_0 (rd_L1 t675 x13_1).length c688_0) ∧ w'.cell? (ad689.add (x15_2).toNat) = some (.slice A689_0 (rd_L1 t679 x15_2).length c689_0)) (ds := []) #[false, false, false, false, false, false, false, false, false] (by kernel_rfl) rfl rfl ⟨hx688_0, hx689_0⟩ (fun hHeld => ?_); refine with_tabW spec_l04Joint.tab14 spec_l04Joint.bits14 (fun HT_ HW_ => ?_)
             generalize wr.drew = w69 at HO_9 HO_10 BK662 BK663 BK664 BK665 BK669 BK673 HR684_0 HB HL688_0 HL689_0 HR688_0 HR689_0 hx688_0 hx689_0 hHeld ⊢
             refine pure_ (i := 0) (N := some 48) (v := ?_) (a' := ?_) #[true, false, false, false, false, false, false, false, false] rfl rfl (any_of HT_.out (by kernel_rfl)) (fun _ _ _ h => h) (Or.inl ⟨by rfl, ?_⟩) ?_ ?_
             rotate_left;(intro w';go_simp;with_reducible rfl);rotate_left;(simp only [Act.put, psA, pzA, pnA, i64_w, i32_w];rfl)
             refine pure_ (i := 1) (N := some 49) (v := ?_) (a' := ?_) #[true, true, false, false, false, false, false, false, false] rfl rfl (any_of HT_.out (by kernel_rfl)) (fun _ _ _ h => h) (Or.inl ⟨by rfl, ?_⟩) ?_ ?_
             rotate_left;(intro w';go_simp;with_reducible rfl);rotate_left;(simp only [Act.put, psA, pzA, pnA, i64_w, i32_w];rfl)
             refine pure_ (i := 2) (N := some 50) (v := ?_) (a' := ?_) #[true, true, true, false, false, false, false, false, false] rfl rfl (any_of HT_.out (by kernel_rfl)) (fun _ _ _ h => h) (Or.inl ⟨by rfl, ?_⟩) ?_ ?_
             rotate_left;(intro w';go_simp;with_reducible rfl);rotate_left;(simp only [Act.put, psA, pzA, pnA, i64_w, i32_w];rfl)
             refine pure_ (i := 4) (N := some 52) (v := ?_) (a' := ?_) #[true, true, true, false, true, false, false, false, false] rfl rfl (any_of HT_.out (by kernel_rfl)) (fun _ _ _ h => h) (Or.inl ⟨by rfl, ?_⟩) ?_ ?_
             rotate_left;(intro w';go_simp;with_reducible rfl);rotate_left;(simp only [Act.put, psA, pzA, pnA, i64_w, i32_w];rfl)
             refine pure_ (i := 5) (N := some 53) (v := ?_) (a' := ?_) #[true, true, true, false, true, true, false, false, false] rfl rfl (any_of HT_.out (by kernel_rfl)) (fun _ _ _ h => h) (Or.inl ⟨by rfl, ?_⟩) ?_ ?_
             rotate_left;(intro w';go_simp;with_reducible rfl);rotate_left;(simp only [Act.put, psA, pzA, pnA, i64_w, i32_w];rfl)
             refine pure_ (i := 6) (N := some 54) (v := ?_) (a' := ?_) #[true, true, true, false, true, true, true, false, false] rfl rfl (any_of HT_.out (by kernel_rfl)) (fun _ _ _ h => h) (Or.inl ⟨by rfl, ?_⟩) ?_ ?_
             rotate_left;(intro w';go_simp;with_reducible rfl);rotate_left;(simp only [Act.put, psA, pzA, pnA, i64_w, i32_w];rfl)
             refine take_ (i := 3) (N := some 51) (v := ?_) (a' := ?_) #[true, true, true, true, true, true, true, false, false] rfl rfl (take_ofW HT_.out HW_.out (by kernel_rfl)) (fun _ _ _ h => h) (Or.inl ⟨by rfl, ?_⟩) hHeld ?_ ?_
             rotate_left;(rintro w' ⟨s0, s1⟩;go_simp;with_reducible rfl);rotate_left;(simp only [Act.put, psA, pzA, pnA, i64_w, i32_w];rfl)
             refine take_ (i := 7) (N := some 55) (v := ?_) (a' := ?_) #[true, true, true, true, true, true, true, true, false] rfl rfl (take_ofW HT_.out HW_.out (by kernel_rfl)) (fun _ _ _ h => h) (Or.inl ⟨by rfl, ?_⟩) hHeld ?_ ?_
             rotate_left;(rintro w' ⟨s0, s1⟩;go_simp;with_reducible rfl);rotate_left;(simp only [Act.put, psA, pzA, pnA, i64_w, i32_w];rfl)
             refine one_ (i := 8) (N := some 56) #[true, true, true, true, true, true, true, true, true] rfl rfl (one_of HT_.out (by kernel_rfl)) (by decide) (fun K hK => ?_)
             refine goes_ Try.func132 (by kernel_rfl) rfl #[.slice A688_0 (rd_L1 t675 x13_1).length c688_0, .slice A689_0 (rd_L1 t679 x15_2).length c689_0] (by rfl) rfl rfl (by first | rfl | (simp only [List.map_toArray, List.map_cons, List.map_nil, List.length_drop, List.length_take]; rfl)) ?_
             with_reducible refine (spec_l04Meet.calls k2 _ _ (rd_L1 t675 x13_1) _ _ (rd_L1 t679 x15_2) false _ ?side1 ?side2 ?side3 ?side4 A53.out).mono ?_
             (case side1 => repeat (first | exact (by repeat (first | (with_reducible exact HR688_0.out) | (with_reducible refine Kd.C_alloc ?_ _) | (with_reducible refine Kd.C_drewN ?_ _) | (with_reducible refine Kd.C_drew ?_) | exact HR688_0.out)) | (with_reducible refine Kd.C_alloc ?_ _) | (with_reducible refine Kd.C_drewN ?_ _) | (with_reducible refine Kd.C_drew ?_)))
             (case side2 => exact HC688_0.out)
             (case side3 => repeat (first | exact (by repeat (first | (with_reducible exact HR689_0.out) | (with_reducible refine Kd.C_alloc ?_ _) | (with_reducible refine Kd.C_drewN ?_ _) | (with_reducible refine Kd.C_drew ?_) | exact HR689_0.out)) | (with_reducible refine Kd.C_alloc ?_ _) | (with_reducible refine Kd.C_drewN ?_ _) | (with_reducible refine Kd.C_drew ?_)))
             (case side4 => exact HC689_0.out)
             rintro e w' ⟨rfl, ⟨nd, rfl⟩⟩
             refine ⟨_, rfl, ?_⟩
             refine hK.out _ _ ⟨hHeld.1, hHeld.2⟩ (fun hHeld => ?_)
             clear hK K
             refine norm_ (a' := ?_) ?_ ?_
             rotate_left;(show Act.put _ (some 56) _ = _;simp only [Act.put, psA, pzA, pnA, i64_w, i32_w];rfl)
             refine done_ (done_of HT_.out (by kernel_rfl)) ?_
             try go_wp2
             (try (rw [drewN_self w69]; generalize hq_ : World.drewN w69 _ = w69; have n0_ : Aside0 (Kd.R (Kd.int .i64) 2 w69 w.heap.size (fun k_ => some k_ ≠ (.slice (some ad689) t679.length co68 : Value).ownBlock ∧ some k_ ≠ (.slice (some ad684) t675.length co46 : Value).ownBlock) (.slice A688_0 (rd_L1 t675 x13_1).length c688_0) (rd_L1 t675 x13_1)) := ⟨by rw [← hq_]; exact (by (with_reducible repeat (first | apply Kd.R_alloc | apply Kd.R_drewN | apply Kd.R_drew)); exact HL688_0.out)⟩; have n1_ : Aside0 (Kd.R (Kd.int .i64) 2 w69 w.heap.size (fun k_ => some k_ ≠ (.slice (some ad689) t679.length co68 : Value).ownBlock ∧ some k_ ≠ (.slice (some ad684) t675.length co46 : Value).ownBlock) (.slice A689_0 (rd_L1 t679 x15_2).length c689_0) (rd_L1 t679 x15_2)) := ⟨by rw [← hq_]; exact (by (with_reducible repeat (first | apply Kd.R_alloc | apply Kd.R_drewN | apply Kd.R_drew)); exact Kd.R_mono HL689_0.out (fun _ hk => ⟨hk.2, hk.1⟩))⟩; have n2_ : Aside0 (Kd.S (Kd.slice 2 (Kd.int .i64)) 62 w69 w.heap.size (fun k_ => some k_ ≠ (.slice (some ad684) t675.length co46 : Value).ownBlock) (.slice (some ad689) t679.length co68) t679) := ⟨by rw [← hq_]; exact (by (with_reducible repeat (first | apply Kd.S_alloc | apply Kd.S_drewN | apply Kd.S_drew)); exact HO_10.out)⟩; have n3_ : Aside0 (Kd.S (Kd.slice 2 (Kd.int .i64)) 62 w69 w.heap.size (fun k_ => some k_ ≠ (.slice (some ad689) t679.length co68 : Value).ownBlock) (.slice (some ad684) t675.length co46) t675) := ⟨by rw [← hq_]; exact (by (with_reducible repeat (first | apply Kd.S_alloc | apply Kd.S_drewN | apply Kd.S_drew)); exact HO_9.out)⟩; have n4_ : Aside0 (w69.heap[gb662]? = some (.cells #[.int .i64 a0_0, .int .i64 a0_1, .int .u32 a0_2] 45 (0, 0))) := ⟨by rw [← hq_]; exact (by (with_reducible repeat (first | refine blk_drewN ?_ _ | refine blk_drew ?_ | refine blk_alloc ?_ _)); exact BK662.out)⟩; have n5_ : Aside0 (w69.heap[gb663]? = some (.cells #[.int .i64 a1_0, .int .i64 a1_1, .int .u32 a1_2] 45 (0, 0))) := ⟨by rw [← hq_]; exact (by (with_reducible repeat (first | refine blk_drewN ?_ _ | refine blk_drew ?_ | refine blk_alloc ?_ _)); exact BK663.out)⟩; have n6_ : Aside0 (w69.heap[gb664]? = some (.cells #[.int .i64 a2_0, .int .i64 a2_1, .int .u32 a2_2] 45 (0, 0))) := ⟨by rw [← hq_]; exact (by (with_reducible repeat (first | refine blk_drewN ?_ _ | refine blk_drew ?_ | refine blk_alloc ?_ _)); exact BK664.out)⟩; have n7_ : Aside0 (w69.heap[gb665]? = some (.cells #[.int .i64 0, .int .i64 0] 31 (0, 0))) := ⟨by rw [← hq_]; exact (by (with_reducible repeat (first | refine blk_drewN ?_ _ | refine blk_drew ?_ | refine blk_alloc ?_ _)); exact BK665.out)⟩; have n8_ : Aside0 (w69.heap[gb669]? = some (.cells #[.int .i64 t666, .int .i64 t667, .int .u32 t668] 45 (0, 0))) := ⟨by rw [← hq_]; exact (by (with_reducible repeat (first | refine blk_drewN ?_ _ | refine blk_drew ?_ | refine blk_alloc ?_ _)); exact BK669.out)⟩; have n9_ : Aside0 (w69.heap[gb673]? = some (.cells #[.int .i64 t670, .int .i64 t671, .int .u32 t672] 45 (0, 0))) := ⟨by rw [← hq_]; exact (by (with_reducible repeat (first | refine blk_drewN ?_ _ | refine blk_drew ?_ | refine blk_alloc ?_ _)); exact BK673.out)⟩; have n10_ : Aside0 (Below w.heap.size w w69) := ⟨by rw [← hq_]; exact (by repeat (first | (with_reducible first | exact HB.out | apply below_alloc | apply pw_below_drewN | apply below_drew1 | refine below_set ?_ (Aside0.out (by assumption))) | exact HB.out))⟩; have n11_ : Aside0 (Kd.C (Kd.int .i64) w69 A684_0 (rd_L1 t675 x13_1).length (rd_L1 t675 x13_1)) := ⟨by rw [← hq_]; exact (by repeat (first | (with_reducible exact HR684_0.out) | (with_reducible refine Kd.C_alloc ?_ _) | (with_reducible refine Kd.C_drewN ?_ _) | (with_reducible refine Kd.C_drew ?_) | exact HR684_0.out))⟩; have n12_ : Aside0 (Kd.C (Kd.int .i64) w69 A688_0 (rd_L1 t675 x13_1).length (rd_L1 t675 x13_1)) := ⟨by rw [← hq_]; exact (by repeat (first | (with_reducible exact HR688_0.out) | (with_reducible refine Kd.C_alloc ?_ _) | (with_reducible refine Kd.C_drewN ?_ _) | (with_reducible refine Kd.C_drew ?_) | exact HR688_0.out))⟩; have n13_ : Aside0 (Kd.C (Kd.int .i64) w69 A689_0 (rd_L1 t679 x15_2).length (rd_L1 t679 x15_2)) := ⟨by rw [← hq_]; exact (by repeat (first | (with_reducible exact HR689_0.out) | (with_reducible refine Kd.C_alloc ?_ _) | (with_reducible refine Kd.C_drewN ?_ _) | (with_reducible refine Kd.C_drew ?_) | exact HR689_0.out))⟩; clear HL688_0 HL689_0 HO_10 HO_9 BK662 BK663 BK664 BK665 BK669 BK673 HB HR684_0 HR688_0 HR689_0 hq_; have HL688_0 := n0_; have HL689_0 := n1_; have HO_10 := n2_; have HO_9 := n3_; have BK662 := n4_; have BK663 := n5_; have BK664 := n6_; have BK665 := n7_; have BK669 := n8_; have BK673 := n9_; have HB := n10_; have HR684_0 := n11_; have HR688_0 := n12_; have HR689_0 := n13_; clear n0_ n1_ n2_ n3_ n4_ n5_ n6_ n7_ n8_ n9_ n10_ n11_ n12_ n13_))
             replace HO_9 := Aside0.mk (Kd.S_drew HO_9.out)
             replace HO_10 := Aside0.mk (Kd.S_drew HO_10.out)
             replace HL688_0 := Aside0.mk (Kd.R_drew HL688_0.out)
             replace HL689_0 := Aside0.mk (Kd.R_drew HL689_0.out)
             replace BK662 := Aside0.mk (blk_drew BK662.out)
             replace BK663 := Aside0.mk (blk_drew BK663.out)
             replace BK664 := Aside0.mk (blk_drew BK664.out)
             replace BK665 := Aside0.mk (blk_drew BK665.out)
             replace BK669 := Aside0.mk (blk_drew BK669.out)
             replace BK673 := Aside0.mk (blk_drew BK673.out)
             replace HR684_0 := Aside0.mk (Kd.C_drew HR684_0.out)
             replace HR688_0 := Aside0.mk (Kd.C_drew HR688_0.out)
             replace HR689_0 := Aside0.mk (Kd.C_drew HR689_0.out)
             replace HB := Aside0.mk (below_drew1 HB.out)
             refine start_ (n := 11) (S := fun w' => True) (ds := []) #[false, false, false, false, false, false, false, false, false, false, false] (by kernel_rfl) rfl rfl trivial (fun hHeld => ?_); refine with_tabW spec_l04Joint.tab16 spec_l04Joint.bits16 (fun HT_ HW_ => ?_)
             generalize w69.drew = w70 at HO_9 HO_10 HL688_0 HL689_0 BK662 BK663 BK664 BK665 BK669 BK673 HR684_0 HR688_0 HR689_0 HB hHeld ⊢
             refine pure_ (i := 0) (N := some 59) (v := ?_) (a' := ?_) #[true, false, false, false, false, false, false, false, false, false, false] rfl rfl (any_of HT_.out (by kernel_rfl)) (fun _ _ _ h => h) (Or.inl ⟨by rfl, ?_⟩) ?_ ?_
             rotate_left;(intro w';go_simp;with_reducible rfl);rotate_left;(simp only [Act.put, psA, pzA, pnA, i64_w, i32_w];rfl)
             refine pure_ (i := 1) (N := some 60) (v := ?_) (a' := ?_) #[true, true, false, false, false, false, false, false, false, false, false] rfl rfl (any_of HT_.out (by kernel_rfl)) (fun _ _ _ h => h) (Or.inl ⟨by rfl, ?_⟩) ?_ ?_
             rotate_left;(intro w';go_simp;with_reducible rfl);rotate_left;(simp only [Act.put, psA, pzA, pnA, i64_w, i32_w];rfl)
             refine pure_ (i := 2) (N := some 61) (v := undef) (a' := ?_) #[true, true, true, false, false, false, false, false, false, false, false] rfl rfl (any_of HT_.out (by kernel_rfl)) (fun _ _ _ h => h) (Or.inr ⟨by rfl, rfl⟩) ?_ ?_
             rotate_left;(simp only [Act.put, psA, pzA, pnA, i64_w, i32_w];rfl)
             refine pure_ (i := 3) (N := some 62) (v := undef) (a' := ?_) #[true, true, true, true, false, false, false, false, false, false, false] rfl rfl (any_of HT_.out (by kernel_rfl)) (fun _ _ _ h => h) (Or.inr ⟨by rfl, rfl⟩) ?_ ?_
             rotate_left;(simp only [Act.put, psA, pzA, pnA, i64_w, i32_w];rfl)
             refine pure_ (i := 4) (N := some 63) (v := undef) (a' := ?_) #[true, true, true, true, true, false, false, false, false, false, false] rfl rfl (any_of HT_.out (by kernel_rfl)) (fun _ _ _ h => h) (Or.inr ⟨by rfl, rfl⟩) ?_ ?_
             rotate_left;(simp only [Act.put, psA, pzA, pnA, i64_w, i32_w];rfl)
             refine pure_ (i := 5) (N := some 64) (v := undef) (a' := ?_) #[true, true, true, true, true, true, false, false, false, false, false] rfl rfl (any_of HT_.out (by kernel_rfl)) (fun _ _ _ h => h) (Or.inr ⟨by rfl, rfl⟩) ?_ ?_
             rotate_left;(simp only [Act.put, psA, pzA, pnA, i64_w, i32_w];rfl)
             refine pure_ (i := 6) (N := some 65) (v := undef) (a' := ?_) #[true, true, true, true, true, true, true, false, false, false, false] rfl rfl (any_of HT_.out (by kernel_rfl)) (fun _ _ _ h => h) (Or.inr ⟨by rfl, rfl⟩) ?_ ?_
             rotate_left;(simp only [Act.put, psA, pzA, pnA, i64_w, i32_w];rfl)
             refine pure_ (i := 7) (N := some 66) (v := undef) (a' := ?_) #[true, true, true, true, true, true, true, true, false, false, false] rfl rfl (any_of HT_.out (by kernel_rfl)) (fun _ _ _ h => h) (Or.inr ⟨by rfl, rfl⟩) ?_ ?_
             rotate_left;(simp only [Act.put, psA, pzA, pnA, i64_w, i32_w];rfl)
             refine pure_ (i := 8) (N := some 67) (v := undef) (a' := ?_) #[true, true, true, true, true, true, true, true, true, false, false] rfl rfl (any_of HT_.out (by kernel_rfl)) (fun _ _ _ h => h) (Or.inr ⟨by rfl, rfl⟩) ?_ ?_
             rotate_left;(simp only [Act.put, psA, pzA, pnA, i64_w, i32_w];rfl)
             refine pure_ (i := 9) (N := some 68) (v := undef) (a' := ?_) #[true, true, true, true, true, true, true, true, true, true, false] rfl rfl (any_of HT_.out (by kernel_rfl)) (fun _ _ _ h => h) (Or.inr ⟨by rfl, rfl⟩) ?_ ?_
             rotate_left;(simp only [Act.put, psA, pzA, pnA, i64_w, i32_w];rfl)
             refine pure_ (i := 10) (N := some 69) (v := ?_) (a' := ?_) #[true, true, true, true, true, true, true, true, true, true, true] rfl rfl (any_of HT_.out (by kernel_rfl)) (fun _ _ _ h => h) (Or.inl ⟨by rfl, ?_⟩) ?_ ?_
             rotate_left;(intro w';go_simp;with_reducible rfl);rotate_left;(simp only [Act.put, psA, pzA, pnA, i64_w, i32_w];rfl)
             refine done_ (done_of HT_.out (by kernel_rfl)) ?_
             try go_wp2
             go_roundg k2
             case measure => have := HK1.out; have := HK2.out; omega
             case rel => exact ⟨(x11_2), (wrap64 (x12_2 + 1)), (wrap64 (x15_2 + 1)), (by first | rfl | (simp; done) | (simp [*]; done)), (by first | rfl | (simp; done) | (simp [*]; done)), (by first | rfl | (simp; done) | (simp [*]; done)), H', ⟨by have := HK1.out; have := HK2.out; omega⟩, ⟨by (with_reducible repeat (first | apply Kd.S_alloc | apply Kd.S_drewN | apply Kd.S_drew)); exact HO_9.out⟩, ⟨by (with_reducible repeat (first | apply Kd.S_alloc | apply Kd.S_drewN | apply Kd.S_drew)); exact HO_10.out⟩, ⟨by (with_reducible repeat (first | refine blk_drewN ?_ _ | refine blk_drew ?_ | refine blk_alloc ?_ _)); exact BK662.out⟩, ⟨by (with_reducible repeat (first | refine blk_drewN ?_ _ | refine blk_drew ?_ | refine blk_alloc ?_ _)); exact BK663.out⟩, ⟨by (with_reducible repeat (first | refine blk_drewN ?_ _ | refine blk_drew ?_ | refine blk_alloc ?_ _)); exact BK664.out⟩, ⟨by (with_reducible repeat (first | refine blk_drewN ?_ _ | refine blk_drew ?_ | refine blk_alloc ?_ _)); exact BK665.out⟩, ⟨by (with_reducible repeat (first | refine blk_drewN ?_ _ | refine blk_drew ?_ | refine blk_alloc ?_ _)); exact BK669.out⟩, ⟨by (with_reducible repeat (first | refine blk_drewN ?_ _ | refine blk_drew ?_ | refine blk_alloc ?_ _)); exact BK673.out⟩, ⟨by repeat (first | (with_reducible exact HR684_0.out) | (with_reducible refine Kd.C_alloc ?_ _) | (with_reducible refine Kd.C_drewN ?_ _) | (with_reducible refine Kd.C_drew ?_) | exact HR684_0.out)⟩, ⟨by repeat (first | (with_reducible first | exact HB.out | apply below_alloc | apply pw_below_drewN | apply below_drew1 | refine below_set ?_ (Aside0.out (by assumption))) | exact HB.out)⟩⟩
          ·rw [if_neg c52] at H
           exact absurd H (by simp)
         ·rw [if_neg c51] at H
          exact absurd H (by simp)
        ·rw [if_neg c50] at H
         exact absurd H (by simp)
       ·rw [if_neg c49] at H
        have c49b0 : decide (x15_2 < (t679.length : Int)) = false := decide_eq_false c49
        clear c49
        have H' := Aside0.mk H
        clear H
        obtain ⟨Ao71, co71, eo71⟩ := Kd.S_slice HO_10.out
        subst eo71
        go_wp2
        go_roundg k2
        case measure => have := HK1.out; have := HK2.out; omega
        case rel => exact ⟨(x11_2), (x12_2), (wrap64 (x13_1 + 1)), (by first | rfl | (simp; done) | (simp [*]; done)), (by first | rfl | (simp; done) | (simp [*]; done)), (by first | rfl | (simp; done) | (simp [*]; done)), H', ⟨by have := HK1.out; have := HK2.out; omega⟩, ⟨by (with_reducible repeat (first | apply Kd.S_alloc | apply Kd.S_drewN | apply Kd.S_drew)); exact HO_9.out⟩, ⟨by (with_reducible repeat (first | apply Kd.S_alloc | apply Kd.S_drewN | apply Kd.S_drew)); exact HO_10.out⟩, ⟨by (with_reducible repeat (first | refine blk_drewN ?_ _ | refine blk_drew ?_ | refine blk_alloc ?_ _)); exact BK662.out⟩, ⟨by (with_reducible repeat (first | refine blk_drewN ?_ _ | refine blk_drew ?_ | refine blk_alloc ?_ _)); exact BK663.out⟩, ⟨by (with_reducible repeat (first | refine blk_drewN ?_ _ | refine blk_drew ?_ | refine blk_alloc ?_ _)); exact BK664.out⟩, ⟨by (with_reducible repeat (first | refine blk_drewN ?_ _ | refine blk_drew ?_ | refine blk_alloc ?_ _)); exact BK665.out⟩, ⟨by (with_reducible repeat (first | refine blk_drewN ?_ _ | refine blk_drew ?_ | refine blk_alloc ?_ _)); exact BK669.out⟩, ⟨by (with_reducible repeat (first | refine blk_drewN ?_ _ | refine blk_drew ?_ | refine blk_alloc ?_ _)); exact BK673.out⟩, ⟨by repeat (first | (with_reducible first | exact HB.out | apply below_alloc | apply pw_below_drewN | apply below_drew1 | refine below_set ?_ (Aside0.out (by assumption))) | exact HB.out)⟩⟩
    ·rw [if_neg c44] at H
     exact absurd H (by simp)
   ·rw [if_neg c43] at H
    have c43b0 : decide (x13_1 < (t675.length : Int)) = false := decide_eq_false c43
    clear c43
    replace H := Option.bind_eq_some_iff.mp H
    obtain ⟨⟨t682, t683⟩, A720, H⟩ := H
    (try dsimp only at H)
    have A72 := Aside0.mk A720
    clear A720
    simp only [Option.some.injEq, Prod.mk.injEq] at H
    obtain ⟨rfl, rfl⟩ := H
    obtain ⟨Ao73, co73, eo73⟩ := Kd.S_slice HO_9.out
    subst eo73
    go_wp2_with (first | ((with_reducible refine gate_callee (f := 118) rfl ?_); refine goesL_ (some 74) rfl rfl Try.func118 (by kernel_rfl) rfl #[.int .i64 x11_1, .int .i64 x12_1] rfl (by (try simp only [maA, mbA, mcA]); first | done | rfl | (simp only [List.length_drop, List.length_take]; rfl)) ?_; (with_reducible refine (spec_l04Ratio.calls k1 x11_1 x12_1 t682 t683 _ A72.out).mono ?_); rintro e w74 ⟨rfl, hb⟩; refine ⟨_, rfl, ?_⟩; replace HO_9 := Kd.S_b HO_9 hb; replace HO_10 := Kd.S_b HO_10 hb; replace BK662 := bkB BK662 hb; replace BK663 := bkB BK663 hb; replace BK664 := bkB BK664 hb; replace BK665 := bkB BK665 hb; replace BK669 := bkB BK669 hb; replace BK673 := bkB BK673 hb; replace HB := hbB HB hb; (try clear hb); (try clear hk); have hnb75 := NB665_662.out; have hnc75 := NB662_665.out; have hnb76 := NB665_663.out; have hnc76 := NB663_665.out; have hnb77 := NB665_664.out; have hnc77 := NB664_665.out; have hnb78 := NB665_669.out; have hnc78 := NB669_665.out; have hnb79 := NB665_673.out; have hnc79 := NB673_665.out; have hcz80_0 : w74.cell? ⟨gb665, 0, none⟩ = some (.int .i64 0) := bcA BK665 0 rfl; have hcz80_1 : w74.cell? ⟨gb665, 1, none⟩ = some (.int .i64 0) := bcA BK665 1 rfl; have hfz80_0 := blk_frozen BK665.out 0; have hfz80_1 := blk_frozen BK665.out 1))
    refine bodyPost_ret (results_cell_row rfl _ _ gb665 31 #[.int .i64 t682, .int .i64 t683] (0, 0) _ rfl (by (with_reducible repeat (first | refine blk_drewN ?_ _ | refine blk_drew ?_ | refine blk_alloc ?_ _)); refine blk_put (cs := #[.int .i64 t682, .int .i64 0]) ?_ 1 _ rfl; (with_reducible repeat (first | refine blk_drewN ?_ _ | refine blk_drew ?_ | refine blk_alloc ?_ _)); refine blk_put (cs := #[.int .i64 0, .int .i64 0]) ?_ 0 _ rfl; (with_reducible repeat (first | refine blk_drewN ?_ _ | refine blk_drew ?_ | refine blk_alloc ?_ _)); exact BK665.out) Try.underlying31 rfl (by kernel_rfl)) rfl ?_
    exact ⟨by first | rfl | (simp [*, errW_none, errW_some] <;> rfl), by repeat (first | (with_reducible first | exact HB.out | apply below_alloc | apply pw_below_drewN | apply below_drew1 | refine below_set ?_ (Aside0.out (by assumption))) | exact HB.out)⟩
end
end Go.Proofs.Ytcepbgffnneagaa.Q
end
