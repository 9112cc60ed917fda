/- Contracts of Go functions and plain lemmas over what they compute; printed by the kit's print program or written by hand, joined. -/
import Derived.Test.YtcepbgffnneagaaBFnExactJointDensity3
import Derived.Test.YtcepbgffnneagaaBFnExactJointDensity4
import Derived.Test.YtcepbgffnneagaaBFnExactJointDensity8
section
namespace Go.Proofs.Ytcepbgffnneagaa.Q
open Go.RowKit Go.Proofs.YtcepbgffnneagaaW.PrintWords Go.Proofs.YtcepbgffnneagaaW.PrintLast Go.Proofs.YtcepbgffnneagaaW.PrintMore
attribute [local go_sem] max2_int min2_int max_two min_two max_three min_three max_four min_four
set_option linter.unusedVariables false
set_option linter.unusedSimpArgs false
attribute [local go_sem high] eqA27
section
mutual
def spec_JointDensity.j0 : Nat → Bool → Int → Int → Int → Int → Int → Int → Int → Int → Int → Option (Int × Int × Int)
 | 0, _, _, _, _, _, _, _, _, _, _ => none
 | k + 1, x20, x696000, x696001, x696002, x697000, x697001, x697002, x698000, x698001, x698002 => if x20 = true then (some (0, 0, 1)) else ((spec_l03Type.f k x696000 x696001 x696002).bind fun bt702 => ((spec_l03Type.f k x698000 x698001 x698002).bind fun bt704 => (if (!(bt702.1 == bt704.1) || (!(bt702.2 == bt704.2))) = true then (spec_JointDensity.j1 k true x696000 x696001 x696002 x697000 x697001 x697002 x698000 x698001 x698002) else ((spec_l03Type.f k x697000 x697001 x697002).bind fun bt706 => ((spec_l03Type.f k x698000 x698001 x698002).bind fun bt708 => (spec_JointDensity.j1 k (!(bt706.1 == bt708.1) || (!(bt706.2 == bt708.2))) x696000 x696001 x696002 x697000 x697001 x697002 x698000 x698001 x698002))))))
def spec_JointDensity.j1 : Nat → Bool → Int → Int → Int → Int → Int → Int → Int → Int → Int → Option (Int × Int × Int)
 | 0, _, _, _, _, _, _, _, _, _, _ => none
 | k + 1, x33, x696000, x696001, x696002, x697000, x697001, x697002, x698000, x698001, x698002 => if x33 = true then (some (0, 0, 4)) else ((spec_l04Free.f x696000 x696001 x696002).bind fun t710 => ((spec_l04Free.f x697000 x697001 x697002).bind fun t711 => ((spec_l04Free.f x698000 x698001 x698002).bind fun t712 => (if (wrap64 (t710 + t711)) > t712 then (some (0, 0, 2)) else ((spec_l04Joint.f k x696000 x696001 x696002 x697000 x697001 x697002 x698000 x698001 x698002).bind fun bt713 => (some (bt713.1, bt713.2, 0)))))))
end
def spec_JointDensity.f (k : Nat) (a0_0 : Int) (a0_1 : Int) (a0_2 : Int) (a1_0 : Int) (a1_1 : Int) (a1_2 : Int) (a2_0 : Int) (a2_1 : Int) (a2_2 : Int) : Option (Int × Int × Int) := (spec_l03Ok.f a0_0 a0_1 a0_2).bind fun t699 => (if t699 = true then ((spec_l03Ok.f a1_0 a1_1 a1_2).bind fun t700 => (if t700 = true then ((spec_l03Ok.f a2_0 a2_1 a2_2).bind fun t701 => (spec_JointDensity.j0 k (!t701) a0_0 a0_1 a0_2 a1_0 a1_1 a1_2 a2_0 a2_1 a2_2)) else (spec_JointDensity.j0 k true a0_0 a0_1 a0_2 a1_0 a1_1 a1_2 a2_0 a2_1 a2_2))) else (spec_JointDensity.j0 k true a0_0 a0_1 a0_2 a1_0 a1_1 a1_2 a2_0 a2_1 a2_2))
def spec_JointDensity.T3 : Bool × List (List Nat × List Nat) := (true, [([], []), ([0], [0]), ([], []), ([2, 1], [2]), ([1, 3], [1, 3]), ([4, 3], [4]), ([5], [5]), ([6, 5, 5], [5, 6]), ([5], [5]), ([8, 7, 5], [5, 8]), ([7, 9, 5], [5, 7, 9]), ([5, 10], [5, 10])])
def spec_JointDensity.B3 : List Nat := [0, 1, 0, 7, 15, 31, 63, 127, 63, 511, 1023, 2047]
theorem spec_JointDensity.tab3 : rtab .any (opsOf Try.f29 3) = spec_JointDensity.T3 := by kernel_rfl
theorem spec_JointDensity.bits3 : waitsOk spec_JointDensity.T3.2 spec_JointDensity.B3 = true := by kernel_rfl
def spec_JointDensity.T5 : Bool × List (List Nat × List Nat) := (true, [([], []), ([0], [0]), ([], []), ([2, 1], [2]), ([1, 3], [1, 3]), ([], []), ([5, 3], [5]), ([4, 6], [4, 6])])
def spec_JointDensity.B5 : List Nat := [0, 1, 0, 7, 15, 0, 47, 127]
theorem spec_JointDensity.tab5 : rtab .any (opsOf Try.f29 5) = spec_JointDensity.T5 := by kernel_rfl
theorem spec_JointDensity.bits5 : waitsOk spec_JointDensity.T5.2 spec_JointDensity.B5 = true := by kernel_rfl
set_option maxHeartbeats 8000000 in
set_option maxRecDepth 100000 in
theorem spec_JointDensity.calls (k : Nat) (a0_0 : Int) (a0_1 : Int) (a0_2 : Int) (a1_0 : Int) (a1_1 : Int) (a1_2 : Int) (a2_0 : Int) (a2_1 : Int) (a2_2 : Int) (r1 : Int) (r2 : Int) (r3 : Int) (w : World) (h : spec_JointDensity.f k a0_0 a0_1 a0_2 a1_0 a1_1 a1_2 a2_0 a2_1 a2_2 = some (r1, r2, r3)) :
  Calls Try.prog 29 #[.agg #[.int .i64 a0_0, .int .i64 a0_1, .int .u32 a0_2], .agg #[.int .i64 a1_0, .int .i64 a1_1, .int .u32 a1_2], .agg #[.int .i64 a2_0, .int .i64 a2_1, .int .u32 a2_2]] w fun e w' => e = .returned (.tuple #[.agg #[.int .i64 r1, .int .i64 r2], .int .i64 r3]) ∧ Below w.heap.size w w' := by
 have hu45 := Try.underlying45
 have hu31 := Try.underlying31
 have HB := Aside0.mk (Below.refl w.heap.size w)
 unfold spec_JointDensity.f at h
 have H := h
 clear h
 have HC4 := Aside0.mk H
 clear H
 go_enter Try.func29, Try.ntmps29
 go_upto_region 1 with (first | ((with_reducible refine gate_dst (N := 3) rfl ?_); refine box_event rfl (N := 3) rfl (cs := #[.int .i64 a0_0, .int .i64 a0_1, .int .u32 a0_2]) (t := 45) ?hr ?_; (case hr => first | (go_simp; done) | (go_simp; rfl)); intro gb695 hg w5 hbox hb; have BK695 := Aside0.mk (hbox); have GW695 := geA HB hg; replace HB := hbB HB hb; have GE695 := GW695; clear hb hbox hg) | ((with_reducible refine gate_dst (N := 4) rfl ?_); refine box_event rfl (N := 4) rfl (cs := #[.int .i64 a1_0, .int .i64 a1_1, .int .u32 a1_2]) (t := 45) ?hr ?_; (case hr => first | (go_simp; done) | (go_simp; rfl)); intro gb696 hg w6 hbox hb; have BK696 := Aside0.mk (hbox); have GW696 := geA HB hg; replace HB := hbB HB hb; have GE696 := GW696; have NB695_696 := nbA hg BK695; replace BK695 := bkB BK695 hb; have NB696_695 := neA NB695_696; clear hb hbox hg) | ((with_reducible refine gate_dst (N := 5) rfl ?_); refine box_event rfl (N := 5) rfl (cs := #[.int .i64 a2_0, .int .i64 a2_1, .int .u32 a2_2]) (t := 45) ?hr ?_; (case hr => first | (go_simp; done) | (go_simp; rfl)); intro gb697 hg w7 hbox hb; have BK697 := Aside0.mk (hbox); have GW697 := geA HB hg; replace HB := hbB HB hb; have GE697 := GW697; have NB695_697 := nbA hg BK695; replace BK695 := bkB BK695 hb; have NB697_695 := neA NB695_697; have NB696_697 := nbA hg BK696; replace BK696 := bkB BK696 hb; have NB697_696 := neA NB696_697; clear hb hbox hg) | ((with_reducible refine gate_dst (N := 6) rfl ?_); refine box_event rfl (N := 6) rfl (cs := #[.int .i64 0, .int .i64 0]) (t := 31) ?hr ?_; (case hr => first | (go_simp; done) | (go_simp; rfl)); intro gb698 hg w8 hbox hb; have BK698 := Aside0.mk (hbox); have GW698 := geA HB hg; replace HB := hbB HB hb; have GE698 := GW698; have NB695_698 := nbA hg BK695; replace BK695 := bkB BK695 hb; have NB698_695 := neA NB695_698; have NB696_698 := nbA hg BK696; replace BK696 := bkB BK696 hb; have NB698_696 := neA NB696_698; have NB697_698 := nbA hg BK697; replace BK697 := bkB BK697 hb; have NB698_697 := neA NB697_698; clear hb hbox hg))
 (try simp only [Act.put, List.setIfInBounds_toArray, List.set_cons_zero, List.set_cons_succ])
 go_cut [20] (fun v20 wc => ∃ (kq : Nat) (x20_3 : Bool), v20 = .bool x20_3 ∧ Aside0 (spec_JointDensity.j0 kq x20_3 a0_0 a0_1 a0_2 a1_0 a1_1 a1_2 a2_0 a2_1 a2_2 = some (r1, r2, r3)) ∧ Aside0 (kq ≤ k) ∧ Aside0 (wc.heap[gb695]? = some (.cells #[.int .i64 a0_0, .int .i64 a0_1, .int .u32 a0_2] 45 (0, 0))) ∧ Aside0 (wc.heap[gb696]? = some (.cells #[.int .i64 a1_0, .int .i64 a1_1, .int .u32 a1_2] 45 (0, 0))) ∧ Aside0 (wc.heap[gb697]? = some (.cells #[.int .i64 a2_0, .int .i64 a2_1, .int .u32 a2_2] 45 (0, 0))) ∧ Aside0 (wc.heap[gb698]? = some (.cells #[.int .i64 0, .int .i64 0] 31 (0, 0))) ∧ Aside0 (Below w.heap.size w wc))
 case first =>
  have H := HC4.out
  clear HC4
  replace H := Option.bind_eq_some_iff.mp H
  obtain ⟨t699, A90, H⟩ := H
  (try dsimp only at H)
  have A9 := Aside0.mk A90
  clear A90
  by_cases c10 : t699 = true
  ·subst c10
   rw [if_pos rfl] at H
   replace H := Option.bind_eq_some_iff.mp H
   obtain ⟨t700, A110, H⟩ := H
   (try dsimp only at H)
   have A11 := Aside0.mk A110
   clear A110
   by_cases c12 : t700 = true
   ·subst c12
    rw [if_pos rfl] at H
    replace H := Option.bind_eq_some_iff.mp H
    obtain ⟨t701, A130, H⟩ := H
    (try dsimp only at H)
    have A13 := Aside0.mk A130
    clear A130
    have H' := Aside0.mk H
    clear H
    have hnb14 := NB695_696.out
    have hnc14 := NB696_695.out
    have hnb15 := NB695_697.out
    have hnc15 := NB697_695.out
    have hnb16 := NB695_698.out
    have hnc16 := NB698_695.out
    have hcz17_0 : w8.cell? ⟨gb695, 0, none⟩ = some (.int .i64 a0_0) := bcA BK695 0 rfl
    have hcz17_1 : w8.cell? ⟨gb695, 1, none⟩ = some (.int .i64 a0_1) := bcA BK695 1 rfl
    have hcz17_2 : w8.cell? ⟨gb695, 2, none⟩ = some (.int .u32 a0_2) := bcA BK695 2 rfl
    have hfz17_0 := blk_frozen BK695.out 0
    have hfz17_1 := blk_frozen BK695.out 1
    have hfz17_2 := blk_frozen BK695.out 2
    go_wp2_with (first | ((with_reducible refine gate_callee (f := 77) rfl ?_); refine goesL_ (some 9) rfl rfl Try.func77 (by kernel_rfl) rfl #[.agg #[.int .i64 a0_0, .int .i64 a0_1, .int .u32 a0_2]] rfl (by (try simp only [maA, mbA, mcA]); first | done | rfl | (simp only [List.length_drop, List.length_take]; rfl)) ?_; (with_reducible refine (spec_l03Ok.calls a0_0 a0_1 a0_2 true _ A9.out).mono ?_); rintro e w18 ⟨rfl, hb⟩; refine ⟨_, rfl, ?_⟩; replace BK695 := bkB BK695 hb; replace BK696 := bkB BK696 hb; replace BK697 := bkB BK697 hb; replace BK698 := bkB BK698 hb; replace HB := hbB HB hb; (try clear hb); have hnb19 := NB696_697.out; have hnc19 := NB697_696.out; have hnb20 := NB696_698.out; have hnc20 := NB698_696.out; have hcz21_0 : w18.cell? ⟨gb696, 0, none⟩ = some (.int .i64 a1_0) := bcA BK696 0 rfl; have hcz21_1 : w18.cell? ⟨gb696, 1, none⟩ = some (.int .i64 a1_1) := bcA BK696 1 rfl; have hcz21_2 : w18.cell? ⟨gb696, 2, none⟩ = some (.int .u32 a1_2) := bcA BK696 2 rfl; have hfz21_0 := blk_frozen BK696.out 0; have hfz21_1 := blk_frozen BK696.out 1; have hfz21_2 := blk_frozen BK696.out 2) | (go_at_call 77; (with_reducible refine (spec_l03Ok.calls a1_0 a1_1 a1_2 true _ A11.out).mono ?_); rintro e w22 ⟨rfl, hb⟩; replace BK695 := bkB BK695 hb; replace BK696 := bkB BK696 hb; replace BK697 := bkB BK697 hb; replace BK698 := bkB BK698 hb; replace HB := hbB HB hb; (try clear hb); have hnb23 := NB697_698.out; have hnc23 := NB698_697.out; have hcz24_0 : w22.cell? ⟨gb697, 0, none⟩ = some (.int .i64 a2_0) := bcA BK697 0 rfl; have hcz24_1 : w22.cell? ⟨gb697, 1, none⟩ = some (.int .i64 a2_1) := bcA BK697 1 rfl; have hcz24_2 : w22.cell? ⟨gb697, 2, none⟩ = some (.int .u32 a2_2) := bcA BK697 2 rfl; have hfz24_0 := blk_frozen BK697.out 0; have hfz24_1 := blk_frozen BK697.out 1; have hfz24_2 := blk_frozen BK697.out 2) | (go_at_call 77; (with_reducible refine (spec_l03Ok.calls a2_0 a2_1 a2_2 t701 _ A13.out).mono ?_); rintro e w25 ⟨rfl, hb⟩; replace BK695 := bkB BK695 hb; replace BK696 := bkB BK696 hb; replace BK697 := bkB BK697 hb; replace BK698 := bkB BK698 hb; replace HB := hbB HB hb; (try clear hb)))
    go_meet
    case rel => exact ⟨_, (!t701), (by first | rfl | (simp; done) | (simp [*]; done)), H', ⟨by first | omega | exact Nat.le_refl _⟩, ⟨by (with_reducible repeat (first | refine blk_drewN ?_ _ | refine blk_drew ?_ | refine blk_alloc ?_ _)); exact BK695.out⟩, ⟨by (with_reducible repeat (first | refine blk_drewN ?_ _ | refine blk_drew ?_ | refine blk_alloc ?_ _)); exact BK696.out⟩, ⟨by (with_reducible repeat (first | refine blk_drewN ?_ _ | refine blk_drew ?_ | refine blk_alloc ?_ _)); exact BK697.out⟩, ⟨by (with_reducible repeat (first | refine blk_drewN ?_ _ | refine blk_drew ?_ | refine blk_alloc ?_ _)); exact BK698.out⟩, ⟨by repeat (first | (with_reducible first | exact HB.out | apply below_alloc | apply pw_below_drewN | apply below_drew1 | refine below_set ?_ (Aside0.out (by assumption))) | exact HB.out)⟩⟩
   ·replace c12 := Bool.eq_false_iff.mpr c12
    subst c12
    rw [if_neg (show ¬ (false = true) by decide)] at H
    have H' := Aside0.mk H
    clear H
    have hnb26 := NB695_696.out
    have hnc26 := NB696_695.out
    have hnb27 := NB695_697.out
    have hnc27 := NB697_695.out
    have hnb28 := NB695_698.out
    have hnc28 := NB698_695.out
    have hcz29_0 : w8.cell? ⟨gb695, 0, none⟩ = some (.int .i64 a0_0) := bcA BK695 0 rfl
    have hcz29_1 : w8.cell? ⟨gb695, 1, none⟩ = some (.int .i64 a0_1) := bcA BK695 1 rfl
    have hcz29_2 : w8.cell? ⟨gb695, 2, none⟩ = some (.int .u32 a0_2) := bcA BK695 2 rfl
    have hfz29_0 := blk_frozen BK695.out 0
    have hfz29_1 := blk_frozen BK695.out 1
    have hfz29_2 := blk_frozen BK695.out 2
    go_wp2_with (first | ((with_reducible refine gate_callee (f := 77) rfl ?_); refine goesL_ (some 9) rfl rfl Try.func77 (by kernel_rfl) rfl #[.agg #[.int .i64 a0_0, .int .i64 a0_1, .int .u32 a0_2]] rfl (by (try simp only [maA, mbA, mcA]); first | done | rfl | (simp only [List.length_drop, List.length_take]; rfl)) ?_; (with_reducible refine (spec_l03Ok.calls a0_0 a0_1 a0_2 true _ A9.out).mono ?_); rintro e w30 ⟨rfl, hb⟩; refine ⟨_, rfl, ?_⟩; replace BK695 := bkB BK695 hb; replace BK696 := bkB BK696 hb; replace BK697 := bkB BK697 hb; replace BK698 := bkB BK698 hb; replace HB := hbB HB hb; (try clear hb); have hnb31 := NB696_697.out; have hnc31 := NB697_696.out; have hnb32 := NB696_698.out; have hnc32 := NB698_696.out; have hcz33_0 : w30.cell? ⟨gb696, 0, none⟩ = some (.int .i64 a1_0) := bcA BK696 0 rfl; have hcz33_1 : w30.cell? ⟨gb696, 1, none⟩ = some (.int .i64 a1_1) := bcA BK696 1 rfl; have hcz33_2 : w30.cell? ⟨gb696, 2, none⟩ = some (.int .u32 a1_2) := bcA BK696 2 rfl; have hfz33_0 := blk_frozen BK696.out 0; have hfz33_1 := blk_frozen BK696.out 1; have hfz33_2 := blk_frozen BK696.out 2) | (go_at_call 77; (with_reducible refine (spec_l03Ok.calls a1_0 a1_1 a1_2 false _ A11.out).mono ?_); rintro e w34 ⟨rfl, hb⟩; replace BK695 := bkB BK695 hb; replace BK696 := bkB BK696 hb; replace BK697 := bkB BK697 hb; replace BK698 := bkB BK698 hb; replace HB := hbB HB hb; (try clear hb)))
    go_meet
    case rel => exact ⟨_, (true), (by first | rfl | (simp; done) | (simp [*]; done)), H', ⟨by first | omega | exact Nat.le_refl _⟩, ⟨by (with_reducible repeat (first | refine blk_drewN ?_ _ | refine blk_drew ?_ | refine blk_alloc ?_ _)); exact BK695.out⟩, ⟨by (with_reducible repeat (first | refine blk_drewN ?_ _ | refine blk_drew ?_ | refine blk_alloc ?_ _)); exact BK696.out⟩, ⟨by (with_reducible repeat (first | refine blk_drewN ?_ _ | refine blk_drew ?_ | refine blk_alloc ?_ _)); exact BK697.out⟩, ⟨by (with_reducible repeat (first | refine blk_drewN ?_ _ | refine blk_drew ?_ | refine blk_alloc ?_ _)); exact BK698.out⟩, ⟨by repeat (first | (with_reducible first | exact HB.out | apply below_alloc | apply pw_below_drewN | apply below_drew1 | refine below_set ?_ (Aside0.out (by assumption))) | exact HB.out)⟩⟩
  ·replace c10 := Bool.eq_false_iff.mpr c10
   subst c10
   rw [if_neg (show ¬ (false = true) by decide)] at H
   have H' := Aside0.mk H
   clear H
   have hnb35 := NB695_696.out
   have hnc35 := NB696_695.out
   have hnb36 := NB695_697.out
   have hnc36 := NB697_695.out
   have hnb37 := NB695_698.out
   have hnc37 := NB698_695.out
   have hcz38_0 : w8.cell? ⟨gb695, 0, none⟩ = some (.int .i64 a0_0) := bcA BK695 0 rfl
   have hcz38_1 : w8.cell? ⟨gb695, 1, none⟩ = some (.int .i64 a0_1) := bcA BK695 1 rfl
   have hcz38_2 : w8.cell? ⟨gb695, 2, none⟩ = some (.int .u32 a0_2) := bcA BK695 2 rfl
   have hfz38_0 := blk_frozen BK695.out 0
   have hfz38_1 := blk_frozen BK695.out 1
   have hfz38_2 := blk_frozen BK695.out 2
   go_wp2_with (first | ((with_reducible refine gate_callee (f := 77) rfl ?_); refine goesL_ (some 9) rfl rfl Try.func77 (by kernel_rfl) rfl #[.agg #[.int .i64 a0_0, .int .i64 a0_1, .int .u32 a0_2]] rfl (by (try simp only [maA, mbA, mcA]); first | done | rfl | (simp only [List.length_drop, List.length_take]; rfl)) ?_; (with_reducible refine (spec_l03Ok.calls a0_0 a0_1 a0_2 false _ A9.out).mono ?_); rintro e w39 ⟨rfl, hb⟩; refine ⟨_, rfl, ?_⟩; replace BK695 := bkB BK695 hb; replace BK696 := bkB BK696 hb; replace BK697 := bkB BK697 hb; replace BK698 := bkB BK698 hb; replace HB := hbB HB hb; (try clear hb)))
   go_meet
   case rel => exact ⟨_, (true), (by first | rfl | (simp; done) | (simp [*]; done)), H', ⟨by first | omega | exact Nat.le_refl _⟩, ⟨by (with_reducible repeat (first | refine blk_drewN ?_ _ | refine blk_drew ?_ | refine blk_alloc ?_ _)); exact BK695.out⟩, ⟨by (with_reducible repeat (first | refine blk_drewN ?_ _ | refine blk_drew ?_ | refine blk_alloc ?_ _)); exact BK696.out⟩, ⟨by (with_reducible repeat (first | refine blk_drewN ?_ _ | refine blk_drew ?_ | refine blk_alloc ?_ _)); exact BK697.out⟩, ⟨by (with_reducible repeat (first | refine blk_drewN ?_ _ | refine blk_drew ?_ | refine blk_alloc ?_ _)); exact BK698.out⟩, ⟨by repeat (first | (with_reducible first | exact HB.out | apply below_alloc | apply pw_below_drewN | apply below_drew1 | refine below_set ?_ (Aside0.out (by assumption))) | exact HB.out)⟩⟩
 case rest =>
  clear HC4
  try clear c1
  try clear c2
  try clear p2
  try clear c3
  try clear c7
  try clear c10
  try clear c12
  try clear c14
  try clear c15
  try clear c16
  try clear c19
  try clear c20
  try clear c23
  try clear c26
  try clear c27
  try clear c28
  try clear c29
  try clear c31
  try clear c32
  try clear c35
  try clear c36
  try clear c37
  try clear hcz17_0
  try clear hcz17_1
  try clear hcz17_2
  try clear hcz21_0
  try clear hcz21_1
  try clear hcz21_2
  try clear hcz24_0
  try clear hcz24_1
  try clear hcz24_2
  try clear hcz29_0
  try clear hcz29_1
  try clear hcz29_2
  try clear hcz33_0
  try clear hcz33_1
  try clear hcz33_2
  try clear hcz38_0
  try clear hcz38_1
  try clear hcz38_2
  try clear hfz17_0
  try clear hfz17_1
  try clear hfz17_2
  try clear hfz21_0
  try clear hfz21_1
  try clear hfz21_2
  try clear hfz24_0
  try clear hfz24_1
  try clear hfz24_2
  try clear hfz29_0
  try clear hfz29_1
  try clear hfz29_2
  try clear hfz33_0
  try clear hfz33_1
  try clear hfz33_2
  try clear hfz38_0
  try clear hfz38_1
  try clear hfz38_2
  obtain ⟨kq, x20_3, rfl, HA, HJ3, BK695, BK696, BK697, BK698, HB⟩ := hcut
  cases kq with
  | zero => exact absurd HA.out (by simp [spec_JointDensity.j0])
  | succ kj3 =>
   have H := HA.out
   clear HA
   simp only [spec_JointDensity.j0] at H
   by_cases c40 : x20_3 = true
   ·subst c40
    rw [if_pos rfl] at H
    simp only [Option.some.injEq, Prod.mk.injEq] at H
    obtain ⟨rfl, rfl, rfl⟩ := H
    have hnb41 := NB698_695.out
    have hnc41 := NB695_698.out
    have hnb42 := NB698_696.out
    have hnc42 := NB696_698.out
    have hnb43 := NB698_697.out
    have hnc43 := NB697_698.out
    have hcz44_0 : wc.cell? ⟨gb698, 0, none⟩ = some (.int .i64 0) := bcA BK698 0 rfl
    have hcz44_1 : wc.cell? ⟨gb698, 1, none⟩ = some (.int .i64 0) := bcA BK698 1 rfl
    have hfz44_0 := blk_frozen BK698.out 0
    have hfz44_1 := blk_frozen BK698.out 1
    go_wp2
    refine bodyPost_ret (results_ct rfl _ _ gb698 31 #[.int .i64 0, .int .i64 0] (0, 0) _ rfl (by (with_reducible repeat (first | refine blk_drewN ?_ _ | refine blk_drew ?_ | refine blk_alloc ?_ _)); refine blk_put (cs := #[.int .i64 0, .int .i64 0]) ?_ 1 _ rfl; (with_reducible repeat (first | refine blk_drewN ?_ _ | refine blk_drew ?_ | refine blk_alloc ?_ _)); refine blk_put (cs := #[.int .i64 0, .int .i64 0]) ?_ 0 _ rfl; (with_reducible repeat (first | refine blk_drewN ?_ _ | refine blk_drew ?_ | refine blk_alloc ?_ _)); exact BK698.out) Try.underlying31 rfl (by kernel_rfl)) rfl ?_
    exact ⟨by first | rfl | (simp [*, errW_none, errW_some] <;> rfl), by repeat (first | (with_reducible first | exact HB.out | apply below_alloc | apply pw_below_drewN | apply below_drew1 | refine below_set ?_ (Aside0.out (by assumption))) | exact HB.out)⟩
   ·replace c40 := Bool.eq_false_iff.mpr c40
    subst c40
    rw [if_neg (show ¬ (false = true) by decide)] at H
    have HC45 := Aside0.mk H
    clear H
    go_upto_region 3 with (fail)
    go_cut [33] (fun v33 wc => ∃ (kq : Nat) (x33_44 : Bool), v33 = .bool x33_44 ∧ Aside0 (spec_JointDensity.j1 kq x33_44 a0_0 a0_1 a0_2 a1_0 a1_1 a1_2 a2_0 a2_1 a2_2 = some (r1, r2, r3)) ∧ Aside0 (kq ≤ kj3) ∧ Aside0 (wc.heap[gb695]? = some (.cells #[.int .i64 a0_0, .int .i64 a0_1, .int .u32 a0_2] 45 (0, 0))) ∧ Aside0 (wc.heap[gb696]? = some (.cells #[.int .i64 a1_0, .int .i64 a1_1, .int .u32 a1_2] 45 (0, 0))) ∧ Aside0 (wc.heap[gb697]? = some (.cells #[.int .i64 a2_0, .int .i64 a2_1, .int .u32 a2_2] 45 (0, 0))) ∧ Aside0 (wc.heap[gb698]? = some (.cells #[.int .i64 0, .int .i64 0] 31 (0, 0))) ∧ Aside0 (Below w.heap.size w wc))
    case first =>
     have H := HC45.out
     clear HC45
     replace H := Option.bind_eq_some_iff.mp H
     obtain ⟨⟨t702, t703⟩, A460, H⟩ := H
     (try dsimp only at H)
     have A46 := Aside0.mk A460
     clear A460
     replace H := Option.bind_eq_some_iff.mp H
     obtain ⟨⟨t704, t705⟩, A470, H⟩ := H
     (try dsimp only at H)
     have A47 := Aside0.mk A470
     clear A470
     by_cases c48 : (!(t702 == t704) || (!(t703 == t705))) = true
     ·rw [if_pos c48] at H
      have c48b0 : (!(t702 == t704) || (!(t703 == t705))) = true := c48
      clear c48
      (first | rw [c48b0] | (simp only [i64_w, i32_w]; rw [c48b0]) | skip)
      have H' := Aside0.mk H
      clear H
      try go_wp2
      replace BK695 := Aside0.mk (blk_drew BK695.out)
      replace BK696 := Aside0.mk (blk_drew BK696.out)
      replace BK697 := Aside0.mk (blk_drew BK697.out)
      replace BK698 := Aside0.mk (blk_drew BK698.out)
      replace HB := Aside0.mk (below_drew1 HB.out)
      refine start_ (n := 12) (S := fun w' => w'.cell? ⟨gb695, 0, none⟩ = some (.int .i64 a0_0) ∧ w'.cell? ⟨gb695, 1, none⟩ = some (.int .i64 a0_1) ∧ w'.cell? ⟨gb695, 2, none⟩ = some (.int .u32 a0_2) ∧ w'.cell? ⟨gb697, 0, none⟩ = some (.int .i64 a2_0) ∧ w'.cell? ⟨gb697, 1, none⟩ = some (.int .i64 a2_1) ∧ w'.cell? ⟨gb697, 2, none⟩ = some (.int .u32 a2_2)) (ds := []) #[false, false, false, false, false, false, false, false, false, false, false, false] (by kernel_rfl) rfl rfl ⟨bcA BK695 0 rfl, bcA BK695 1 rfl, bcA BK695 2 rfl, bcA BK697 0 rfl, bcA BK697 1 rfl, bcA BK697 2 rfl⟩ (fun hHeld => ?_); refine with_tabW spec_JointDensity.tab3 spec_JointDensity.bits3 (fun HT_ HW_ => ?_)
      generalize wc.drew = w49 at BK695 BK696 BK697 BK698 HB hHeld ⊢
      refine take_ (i := 0) (N := some 22) (v := ?_) (a' := ?_) #[true, false, false, false, false, false, false, false, false, false, false, false] rfl rfl (take_ofW HT_.out HW_.out (by kernel_rfl)) (fun _ _ _ h => h) (Or.inl ⟨by rfl, ?_⟩) hHeld ?_ ?_
      rotate_left;(rintro w' ⟨s0, s1, s2, s3, s4, s5⟩;go_simp;with_reducible rfl);rotate_left;(simp only [Act.put, psA, pzA, pnA, i64_w, i32_w];rfl)
      refine take_ (i := 2) (N := some 24) (v := ?_) (a' := ?_) #[true, false, true, false, false, false, false, false, false, false, false, false] rfl rfl (take_ofW HT_.out HW_.out (by kernel_rfl)) (fun _ _ _ h => h) (Or.inl ⟨by rfl, ?_⟩) hHeld ?_ ?_
      rotate_left;(rintro w' ⟨s0, s1, s2, s3, s4, s5⟩;go_simp;with_reducible rfl);rotate_left;(simp only [Act.put, psA, pzA, pnA, i64_w, i32_w];rfl)
      refine one_ (i := 1) (N := some 23) #[true, true, true, false, false, false, false, false, false, false, false, false] rfl rfl (one_of HT_.out (by kernel_rfl)) (by decide) (fun K hK => ?_)
      refine goes_ Try.func78 (by kernel_rfl) rfl #[.agg #[.int .i64 a0_0, .int .i64 a0_1, .int .u32 a0_2]] (by rfl) rfl rfl (by first | rfl | (simp only [List.map_toArray, List.map_cons, List.map_nil, List.length_drop, List.length_take]; rfl)) ?_
      with_reducible refine (spec_l03Type.calls kj3 a0_0 a0_1 a0_2 t702 t703 _ A46.out).mono ?_
      rintro e w50 ⟨rfl, hb⟩
      refine ⟨_, rfl, ?_⟩
      replace BK695 := bkB BK695 hb
      replace BK696 := bkB BK696 hb
      replace BK697 := bkB BK697 hb
      replace BK698 := bkB BK698 hb
      replace HB := hbB HB hb
      (try clear hb)
      refine hK.out _ _ ⟨bcA BK695 0 rfl, bcA BK695 1 rfl, bcA BK695 2 rfl, bcA BK697 0 rfl, bcA BK697 1 rfl, bcA BK697 2 rfl⟩ (fun hHeld => ?_)
      clear hK K
      refine norm_ (a' := ?_) ?_ ?_
      rotate_left;(show Act.put _ (some 23) _ = _;simp only [Act.put, psA, pzA, pnA, i64_w, i32_w];rfl)
      refine one_ (i := 3) (N := some 25) #[true, true, true, true, false, false, false, false, false, false, false, false] rfl rfl (one_of HT_.out (by kernel_rfl)) (by decide) (fun K hK => ?_)
      refine goes_ Try.func78 (by kernel_rfl) rfl #[.agg #[.int .i64 a2_0, .int .i64 a2_1, .int .u32 a2_2]] (by rfl) rfl rfl (by first | rfl | (simp only [List.map_toArray, List.map_cons, List.map_nil, List.length_drop, List.length_take]; rfl)) ?_
      with_reducible refine (spec_l03Type.calls kj3 a2_0 a2_1 a2_2 t704 t705 _ A47.out).mono ?_
      rintro e w51 ⟨rfl, hb⟩
      refine ⟨_, rfl, ?_⟩
      replace BK695 := bkB BK695 hb
      replace BK696 := bkB BK696 hb
      replace BK697 := bkB BK697 hb
      replace BK698 := bkB BK698 hb
      replace HB := hbB HB hb
      (try clear hb)
      refine hK.out _ _ ⟨bcA BK695 0 rfl, bcA BK695 1 rfl, bcA BK695 2 rfl, bcA BK697 0 rfl, bcA BK697 1 rfl, bcA BK697 2 rfl⟩ (fun hHeld => ?_)
      clear hK K
      refine norm_ (a' := ?_) ?_ ?_
      rotate_left;(show Act.put _ (some 25) _ = _;simp only [Act.put, psA, pzA, pnA, i64_w, i32_w];rfl)
      refine pure_ (i := 4) (N := some 26) (v := ?_) (a' := ?_) #[true, true, true, true, true, false, false, false, false, false, false, false] rfl rfl (any_of HT_.out (by kernel_rfl)) (fun _ _ _ h => h) (Or.inl ⟨by rfl, ?_⟩) ?_ ?_
      rotate_left;(intro w';go_simp;with_reducible rfl);rotate_left;(simp only [Act.put, psA, pzA, pnA, i64_w, i32_w];rfl)
      refine pure_ (i := 5) (N := some 27) (v := ?_) (a' := ?_) #[true, true, true, true, true, true, false, false, false, false, false, false] rfl rfl (any_of HT_.out (by kernel_rfl)) (fun _ _ _ h => h) (Or.inl ⟨by rfl, ?_⟩) ?_ ?_
      rotate_left;(intro w';go_simp;with_reducible rfl);rotate_left;(simp only [Act.put, psA, pzA, pnA, i64_w, i32_w];rfl)
      refine pure_ (i := 6) (N := some 28) (v := undef) (a' := ?_) #[true, true, true, true, true, true, true, false, false, false, false, false] rfl rfl (any_of HT_.out (by kernel_rfl)) (fun _ _ _ h => h) (Or.inr ⟨by rfl, rfl⟩) ?_ ?_
      rotate_left;(simp only [Act.put, psA, pzA, pnA, i64_w, i32_w];rfl)
      refine pure_ (i := 7) (N := some 29) (v := undef) (a' := ?_) #[true, true, true, true, true, true, true, true, false, false, false, false] rfl rfl (any_of HT_.out (by kernel_rfl)) (fun _ _ _ h => h) (Or.inr ⟨by rfl, rfl⟩) ?_ ?_
      rotate_left;(simp only [Act.put, psA, pzA, pnA, i64_w, i32_w];rfl)
      refine pure_ (i := 8) (N := some 30) (v := undef) (a' := ?_) #[true, true, true, true, true, true, true, true, true, false, false, false] rfl rfl (any_of HT_.out (by kernel_rfl)) (fun _ _ _ h => h) (Or.inr ⟨by rfl, rfl⟩) ?_ ?_
      rotate_left;(simp only [Act.put, psA, pzA, pnA, i64_w, i32_w];rfl)
      refine pure_ (i := 9) (N := some 31) (v := undef) (a' := ?_) #[true, true, true, true, true, true, true, true, true, true, false, false] rfl rfl (any_of HT_.out (by kernel_rfl)) (fun _ _ _ h => h) (Or.inr ⟨by rfl, rfl⟩) ?_ ?_
      rotate_left;(simp only [Act.put, psA, pzA, pnA, i64_w, i32_w];rfl)
      refine pure_ (i := 10) (N := some 32) (v := undef) (a' := ?_) #[true, true, true, true, true, true, true, true, true, true, true, false] rfl rfl (any_of HT_.out (by kernel_rfl)) (fun _ _ _ h => h) (Or.inr ⟨by rfl, rfl⟩) ?_ ?_
      rotate_left;(simp only [Act.put, psA, pzA, pnA, i64_w, i32_w];rfl)
      refine pure_ (i := 11) (N := some 33) (v := ?_) (a' := ?_) #[true, true, true, true, true, true, true, true, true, true, true, true] rfl rfl (any_of HT_.out (by kernel_rfl)) (fun _ _ _ h => h) (Or.inl ⟨by rfl, ?_⟩) ?_ ?_
      rotate_left;(intro w';go_simp;with_reducible rfl);rotate_left;(simp only [Act.put, psA, pzA, pnA, i64_w, i32_w];rfl)
      refine done_ (done_of HT_.out (by kernel_rfl)) ?_
      try go_wp2
      go_meet
      case rel => exact ⟨_, (true), (by first | rfl | (simp; done) | (simp [*]; done)), H', ⟨by have := HJ3.out; first | omega | exact Nat.le_refl _⟩, ⟨by (with_reducible repeat (first | refine blk_drewN ?_ _ | refine blk_drew ?_ | refine blk_alloc ?_ _)); exact BK695.out⟩, ⟨by (with_reducible repeat (first | refine blk_drewN ?_ _ | refine blk_drew ?_ | refine blk_alloc ?_ _)); exact BK696.out⟩, ⟨by (with_reducible repeat (first | refine blk_drewN ?_ _ | refine blk_drew ?_ | refine blk_alloc ?_ _)); exact BK697.out⟩, ⟨by (with_reducible repeat (first | refine blk_drewN ?_ _ | refine blk_drew ?_ | refine blk_alloc ?_ _)); exact BK698.out⟩, ⟨by repeat (first | (with_reducible first | exact HB.out | apply below_alloc | apply pw_below_drewN | apply below_drew1 | refine below_set ?_ (Aside0.out (by assumption))) | exact HB.out)⟩⟩
     ·rw [if_neg c48] at H
      have c48b0 : (!(t702 == t704) || (!(t703 == t705))) = false := by simpa using c48
      clear c48
      (first | rw [c48b0] | (simp only [i64_w, i32_w]; rw [c48b0]) | skip)
      replace H := Option.bind_eq_some_iff.mp H
      obtain ⟨⟨t706, t707⟩, A520, H⟩ := H
      (try dsimp only at H)
      have A52 := Aside0.mk A520
      clear A520
      replace H := Option.bind_eq_some_iff.mp H
      obtain ⟨⟨t708, t709⟩, A530, H⟩ := H
      (try dsimp only at H)
      have A53 := Aside0.mk A530
      clear A530
      have H' := Aside0.mk H
      clear H
      try go_wp2
      replace BK695 := Aside0.mk (blk_drew BK695.out)
      replace BK696 := Aside0.mk (blk_drew BK696.out)
      replace BK697 := Aside0.mk (blk_drew BK697.out)
      replace BK698 := Aside0.mk (blk_drew BK698.out)
      replace HB := Aside0.mk (below_drew1 HB.out)
      refine start_ (n := 12) (S := fun w' => w'.cell? ⟨gb695, 0, none⟩ = some (.int .i64 a0_0) ∧ w'.cell? ⟨gb695, 1, none⟩ = some (.int .i64 a0_1) ∧ w'.cell? ⟨gb695, 2, none⟩ = some (.int .u32 a0_2) ∧ w'.cell? ⟨gb697, 0, none⟩ = some (.int .i64 a2_0) ∧ w'.cell? ⟨gb697, 1, none⟩ = some (.int .i64 a2_1) ∧ w'.cell? ⟨gb697, 2, none⟩ = some (.int .u32 a2_2) ∧ w'.cell? ⟨gb696, 0, none⟩ = some (.int .i64 a1_0) ∧ w'.cell? ⟨gb696, 1, none⟩ = some (.int .i64 a1_1) ∧ w'.cell? ⟨gb696, 2, none⟩ = some (.int .u32 a1_2)) (ds := []) #[false, false, false, false, false, false, false, false, false, false, false, false] (by kernel_rfl) rfl rfl ⟨bcA BK695 0 rfl, bcA BK695 1 rfl, bcA BK695 2 rfl, bcA BK697 0 rfl, bcA BK697 1 rfl, bcA BK697 2 rfl, bcA BK696 0 rfl, bcA BK696 1 rfl, bcA BK696 2 rfl⟩ (fun hHeld => ?_); refine with_tabW spec_JointDensity.tab3 spec_JointDensity.bits3 (fun HT_ HW_ => ?_)
      generalize wc.drew = w54 at BK695 BK696 BK697 BK698 HB hHeld ⊢
      refine take_ (i := 0) (N := some 22) (v := ?_) (a' := ?_) #[true, false, false, false, false, false, false, false, false, false, false, false] rfl rfl (take_ofW HT_.out HW_.out (by kernel_rfl)) (fun _ _ _ h => h) (Or.inl ⟨by rfl, ?_⟩) hHeld ?_ ?_
      rotate_left;(rintro w' ⟨s0, s1, s2, s3, s4, s5, s6, s7, s8⟩;go_simp;with_reducible rfl);rotate_left;(simp only [Act.put, psA, pzA, pnA, i64_w, i32_w];rfl)
      refine take_ (i := 2) (N := some 24) (v := ?_) (a' := ?_) #[true, false, true, false, false, false, false, false, false, false, false, false] rfl rfl (take_ofW HT_.out HW_.out (by kernel_rfl)) (fun _ _ _ h => h) (Or.inl ⟨by rfl, ?_⟩) hHeld ?_ ?_
      rotate_left;(rintro w' ⟨s0, s1, s2, s3, s4, s5, s6, s7, s8⟩;go_simp;with_reducible rfl);rotate_left;(simp only [Act.put, psA, pzA, pnA, i64_w, i32_w];rfl)
      refine one_ (i := 1) (N := some 23) #[true, true, true, false, false, false, false, false, false, false, false, false] rfl rfl (one_of HT_.out (by kernel_rfl)) (by decide) (fun K hK => ?_)
      refine goes_ Try.func78 (by kernel_rfl) rfl #[.agg #[.int .i64 a0_0, .int .i64 a0_1, .int .u32 a0_2]] (by rfl) rfl rfl (by first | rfl | (simp only [List.map_toArray, List.map_cons, List.map_nil, List.length_drop, List.length_take]; rfl)) ?_
      with_reducible refine (spec_l03Type.calls kj3 a0_0 a0_1 a0_2 t702 t703 _ A46.out).mono ?_
      rintro e w55 ⟨rfl, hb⟩
      refine ⟨_, rfl, ?_⟩
      replace BK695 := bkB BK695 hb
      replace BK696 := bkB BK696 hb
      replace BK697 := bkB BK697 hb
      replace BK698 := bkB BK698 hb
      replace HB := hbB HB hb
      (try clear hb)
      refine hK.out _ _ ⟨bcA BK695 0 rfl, bcA BK695 1 rfl, bcA BK695 2 rfl, bcA BK697 0 rfl, bcA BK697 1 rfl, bcA BK697 2 rfl, bcA BK696 0 rfl, bcA BK696 1 rfl, bcA BK696 2 rfl⟩ (fun hHeld => ?_)
      clear hK K
      refine norm_ (a' := ?_) ?_ ?_
      rotate_left;(show Act.put _ (some 23) _ = _;simp only [Act.put, psA, pzA, pnA, i64_w, i32_w];rfl)
      refine one_ (i := 3) (N := some 25) #[true, true, true, true, false, false, false, false, false, false, false, false] rfl rfl (one_of HT_.out (by kernel_rfl)) (by decide) (fun K hK => ?_)
      refine goes_ Try.func78 (by kernel_rfl) rfl #[.agg #[.int .i64 a2_0, .int .i64 a2_1, .int .u32 a2_2]] (by rfl) rfl rfl (by first | rfl | (simp only [List.map_toArray, List.map_cons, List.map_nil, List.length_drop, List.length_take]; rfl)) ?_
      with_reducible refine (spec_l03Type.calls kj3 a2_0 a2_1 a2_2 t704 t705 _ A47.out).mono ?_
      rintro e w56 ⟨rfl, hb⟩
      refine ⟨_, rfl, ?_⟩
      replace BK695 := bkB BK695 hb
      replace BK696 := bkB BK696 hb
      replace BK697 := bkB BK697 hb
      replace BK698 := bkB BK698 hb
      replace HB := hbB HB hb
      (try clear hb)
      refine hK.out _ _ ⟨bcA BK695 0 rfl, bcA BK695 1 rfl, bcA BK695 2 rfl, bcA BK697 0 rfl, bcA BK697 1 rfl, bcA BK697 2 rfl, bcA BK696 0 rfl, bcA BK696 1 rfl, bcA BK696 2 rfl⟩ (fun hHeld => ?_)
      clear hK K
      refine norm_ (a' := ?_) ?_ ?_
      rotate_left;(show Act.put _ (some 25) _ = _;simp only [Act.put, psA, pzA, pnA, i64_w, i32_w];rfl)
      refine pure_ (i := 4) (N := some 26) (v := ?_) (a' := ?_) #[true, true, true, true, true, false, false, false, false, false, false, false] rfl rfl (any_of HT_.out (by kernel_rfl)) (fun _ _ _ h => h) (Or.inl ⟨by rfl, ?_⟩) ?_ ?_
      rotate_left;(intro w';go_simp;with_reducible rfl);rotate_left;(simp only [Act.put, psA, pzA, pnA, i64_w, i32_w];rfl)
      refine pure_ (i := 5) (N := some 27) (v := ?_) (a' := ?_) #[true, true, true, true, true, true, false, false, false, false, false, false] rfl rfl (any_of HT_.out (by kernel_rfl)) (fun _ _ _ h => h) (Or.inl ⟨by rfl, ?_⟩) ?_ ?_
      rotate_left;(intro w';go_simp;with_reducible rfl);rotate_left;(simp only [Act.put, psA, pzA, pnA, i64_w, i32_w];rfl)
      refine take_ (i := 6) (N := some 28) (v := ?_) (a' := ?_) #[true, true, true, true, true, true, true, false, false, false, false, false] rfl rfl (take_ofW HT_.out HW_.out (by kernel_rfl)) (fun _ _ _ h => h) (Or.inl ⟨by rfl, ?_⟩) hHeld ?_ ?_
      rotate_left;(rintro w' ⟨s0, s1, s2, s3, s4, s5, s6, s7, s8⟩;go_simp;with_reducible rfl);rotate_left;(simp only [Act.put, psA, pzA, pnA, i64_w, i32_w];rfl)
      refine take_ (i := 8) (N := some 30) (v := ?_) (a' := ?_) #[true, true, true, true, true, true, true, false, true, false, false, false] rfl rfl (take_ofW HT_.out HW_.out (by kernel_rfl)) (fun _ _ _ h => h) (Or.inl ⟨by rfl, ?_⟩) hHeld ?_ ?_
      rotate_left;(rintro w' ⟨s0, s1, s2, s3, s4, s5, s6, s7, s8⟩;go_simp;with_reducible rfl);rotate_left;(simp only [Act.put, psA, pzA, pnA, i64_w, i32_w];rfl)
      refine one_ (i := 7) (N := some 29) #[true, true, true, true, true, true, true, true, true, false, false, false] rfl rfl (one_of HT_.out (by kernel_rfl)) (by decide) (fun K hK => ?_)
      refine goes_ Try.func78 (by kernel_rfl) rfl #[.agg #[.int .i64 a1_0, .int .i64 a1_1, .int .u32 a1_2]] (by rfl) rfl rfl (by first | rfl | (simp only [List.map_toArray, List.map_cons, List.map_nil, List.length_drop, List.length_take]; rfl)) ?_
      with_reducible refine (spec_l03Type.calls kj3 a1_0 a1_1 a1_2 t706 t707 _ A52.out).mono ?_
      rintro e w57 ⟨rfl, hb⟩
      refine ⟨_, rfl, ?_⟩
      replace BK695 := bkB BK695 hb
      replace BK696 := bkB BK696 hb
      replace BK697 := bkB BK697 hb
      replace BK698 := bkB BK698 hb
      replace HB := hbB HB hb
      (try clear hb)
      refine hK.out _ _ ⟨bcA BK695 0 rfl, bcA BK695 1 rfl, bcA BK695 2 rfl, bcA BK697 0 rfl, bcA BK697 1 rfl, bcA BK697 2 rfl, bcA BK696 0 rfl, bcA BK696 1 rfl, bcA BK696 2 rfl⟩ (fun hHeld => ?_)
      clear hK K
      refine norm_ (a' := ?_) ?_ ?_
      rotate_left;(show Act.put _ (some 29) _ = _;simp only [Act.put, psA, pzA, pnA, i64_w, i32_w];rfl)
      refine one_ (i := 9) (N := some 31) #[true, true, true, true, true, true, true, true, true, true, false, false] rfl rfl (one_of HT_.out (by kernel_rfl)) (by decide) (fun K hK => ?_)
      refine goes_ Try.func78 (by kernel_rfl) rfl #[.agg #[.int .i64 a2_0, .int .i64 a2_1, .int .u32 a2_2]] (by rfl) rfl rfl (by first | rfl | (simp only [List.map_toArray, List.map_cons, List.map_nil, List.length_drop, List.length_take]; rfl)) ?_
      with_reducible refine (spec_l03Type.calls kj3 a2_0 a2_1 a2_2 t708 t709 _ A53.out).mono ?_
      rintro e w58 ⟨rfl, hb⟩
      refine ⟨_, rfl, ?_⟩
      replace BK695 := bkB BK695 hb
      replace BK696 := bkB BK696 hb
      replace BK697 := bkB BK697 hb
      replace BK698 := bkB BK698 hb
      replace HB := hbB HB hb
      (try clear hb)
      refine hK.out _ _ ⟨bcA BK695 0 rfl, bcA BK695 1 rfl, bcA BK695 2 rfl, bcA BK697 0 rfl, bcA BK697 1 rfl, bcA BK697 2 rfl, bcA BK696 0 rfl, bcA BK696 1 rfl, bcA BK696 2 rfl⟩ (fun hHeld => ?_)
      clear hK K
      refine norm_ (a' := ?_) ?_ ?_
      rotate_left;(show Act.put _ (some 31) _ = _;simp only [Act.put, psA, pzA, pnA, i64_w, i32_w];rfl)
      refine pure_ (i := 10) (N := some 32) (v := ?_) (a' := ?_) #[true, true, true, true, true, true, true, true, true, true, true, false] rfl rfl (any_of HT_.out (by kernel_rfl)) (fun _ _ _ h => h) (Or.inl ⟨by rfl, ?_⟩) ?_ ?_
      rotate_left;(intro w';go_simp;with_reducible rfl);rotate_left;(simp only [Act.put, psA, pzA, pnA, i64_w, i32_w];rfl)
      refine pure_ (i := 11) (N := some 33) (v := ?_) (a' := ?_) #[true, true, true, true, true, true, true, true, true, true, true, true] rfl rfl (any_of HT_.out (by kernel_rfl)) (fun _ _ _ h => h) (Or.inl ⟨by rfl, ?_⟩) ?_ ?_
      rotate_left;(intro w';go_simp;with_reducible rfl);rotate_left;(simp only [Act.put, psA, pzA, pnA, i64_w, i32_w];rfl)
      refine done_ (done_of HT_.out (by kernel_rfl)) ?_
      try go_wp2
      go_meet
      case rel => exact ⟨_, ((!(t706 == t708) || (!(t707 == t709)))), (by first | rfl | (simp; done) | (simp [*]; done)), H', ⟨by have := HJ3.out; first | omega | exact Nat.le_refl _⟩, ⟨by (with_reducible repeat (first | refine blk_drewN ?_ _ | refine blk_drew ?_ | refine blk_alloc ?_ _)); exact BK695.out⟩, ⟨by (with_reducible repeat (first | refine blk_drewN ?_ _ | refine blk_drew ?_ | refine blk_alloc ?_ _)); exact BK696.out⟩, ⟨by (with_reducible repeat (first | refine blk_drewN ?_ _ | refine blk_drew ?_ | refine blk_alloc ?_ _)); exact BK697.out⟩, ⟨by (with_reducible repeat (first | refine blk_drewN ?_ _ | refine blk_drew ?_ | refine blk_alloc ?_ _)); exact BK698.out⟩, ⟨by repeat (first | (with_reducible first | exact HB.out | apply below_alloc | apply pw_below_drewN | apply below_drew1 | refine below_set ?_ (Aside0.out (by assumption))) | exact HB.out)⟩⟩
    case rest =>
     clear HC45
     try clear c1
     try clear c2
     try clear p2
     try clear c3
     try clear c4
     try clear c7
     try clear c10
     try clear c12
     try clear c14
     try clear c15
     try clear c16
     try clear c19
     try clear c20
     try clear c23
     try clear c26
     try clear c27
     try clear c28
     try clear c29
     try clear c31
     try clear c32
     try clear c35
     try clear c36
     try clear c37
     try clear c40
     try clear c41
     try clear c42
     try clear c43
     try clear c48
     try clear c48b0
     try clear hcz17_0
     try clear hcz17_1
     try clear hcz17_2
     try clear hcz21_0
     try clear hcz21_1
     try clear hcz21_2
     try clear hcz24_0
     try clear hcz24_1
     try clear hcz24_2
     try clear hcz29_0
     try clear hcz29_1
     try clear hcz29_2
     try clear hcz33_0
     try clear hcz33_1
     try clear hcz33_2
     try clear hcz38_0
     try clear hcz38_1
     try clear hcz38_2
     try clear hcz44_0
     try clear hcz44_1
     try clear hfz17_0
     try clear hfz17_1
     try clear hfz17_2
     try clear hfz21_0
     try clear hfz21_1
     try clear hfz21_2
     try clear hfz24_0
     try clear hfz24_1
     try clear hfz24_2
     try clear hfz29_0
     try clear hfz29_1
     try clear hfz29_2
     try clear hfz33_0
     try clear hfz33_1
     try clear hfz33_2
     try clear hfz38_0
     try clear hfz38_1
     try clear hfz38_2
     try clear hfz44_0
     try clear hfz44_1
     try clear p2
     obtain ⟨kq, x33_44, rfl, HA, HJ44, BK695, BK696, BK697, BK698, HB⟩ := hcut
     cases kq with
     | zero => exact absurd HA.out (by simp [spec_JointDensity.j1])
     | succ kj44 =>
      have H := HA.out
      clear HA
      simp only [spec_JointDensity.j1] at H
      by_cases c59 : x33_44 = true
      ·subst c59
       rw [if_pos rfl] at H
       simp only [Option.some.injEq, Prod.mk.injEq] at H
       obtain ⟨rfl, rfl, rfl⟩ := H
       have hnb60 := NB698_695.out
       have hnc60 := NB695_698.out
       have hnb61 := NB698_696.out
       have hnc61 := NB696_698.out
       have hnb62 := NB698_697.out
       have hnc62 := NB697_698.out
       have hcz63_0 : wc.cell? ⟨gb698, 0, none⟩ = some (.int .i64 0) := bcA BK698 0 rfl
       have hcz63_1 : wc.cell? ⟨gb698, 1, none⟩ = some (.int .i64 0) := bcA BK698 1 rfl
       have hfz63_0 := blk_frozen BK698.out 0
       have hfz63_1 := blk_frozen BK698.out 1
       go_wp2
       refine bodyPost_ret (results_ct rfl _ _ gb698 31 #[.int .i64 0, .int .i64 0] (0, 0) _ rfl (by (with_reducible repeat (first | refine blk_drewN ?_ _ | refine blk_drew ?_ | refine blk_alloc ?_ _)); refine blk_put (cs := #[.int .i64 0, .int .i64 0]) ?_ 1 _ rfl; (with_reducible repeat (first | refine blk_drewN ?_ _ | refine blk_drew ?_ | refine blk_alloc ?_ _)); refine blk_put (cs := #[.int .i64 0, .int .i64 0]) ?_ 0 _ rfl; (with_reducible repeat (first | refine blk_drewN ?_ _ | refine blk_drew ?_ | refine blk_alloc ?_ _)); exact BK698.out) Try.underlying31 rfl (by kernel_rfl)) rfl ?_
       exact ⟨by first | rfl | (simp [*, errW_none, errW_some] <;> rfl), by repeat (first | (with_reducible first | exact HB.out | apply below_alloc | apply pw_below_drewN | apply below_drew1 | refine below_set ?_ (Aside0.out (by assumption))) | exact HB.out)⟩
      ·replace c59 := Bool.eq_false_iff.mpr c59
       subst c59
       rw [if_neg (show ¬ (false = true) by decide)] at H
       replace H := Option.bind_eq_some_iff.mp H
       obtain ⟨t710, A640, H⟩ := H
       (try dsimp only at H)
       have A64 := Aside0.mk A640
       clear A640
       replace H := Option.bind_eq_some_iff.mp H
       obtain ⟨t711, A650, H⟩ := H
       (try dsimp only at H)
       have A65 := Aside0.mk A650
       clear A650
       replace H := Option.bind_eq_some_iff.mp H
       obtain ⟨t712, A660, H⟩ := H
       (try dsimp only at H)
       have A66 := Aside0.mk A660
       clear A660
       by_cases c67 : (wrap64 (t710 + t711)) > t712
       ·rw [if_pos c67] at H
        have c67b0 : decide (t712 < (wrap64 (t710 + t711))) = true := decide_eq_true c67
        clear c67
        simp only [Option.some.injEq, Prod.mk.injEq] at H
        obtain ⟨rfl, rfl, rfl⟩ := H
        try go_wp2
        replace BK695 := Aside0.mk (blk_drew BK695.out)
        replace BK696 := Aside0.mk (blk_drew BK696.out)
        replace BK697 := Aside0.mk (blk_drew BK697.out)
        replace BK698 := Aside0.mk (blk_drew BK698.out)
        replace HB := Aside0.mk (below_drew1 HB.out)
        refine start_ (n := 8) (S := fun w' => w'.cell? ⟨gb695, 0, none⟩ = some (.int .i64 a0_0) ∧ w'.cell? ⟨gb695, 1, none⟩ = some (.int .i64 a0_1) ∧ w'.cell? ⟨gb695, 2, none⟩ = some (.int .u32 a0_2) ∧ w'.cell? ⟨gb696, 0, none⟩ = some (.int .i64 a1_0) ∧ w'.cell? ⟨gb696, 1, none⟩ = some (.int .i64 a1_1) ∧ w'.cell? ⟨gb696, 2, none⟩ = some (.int .u32 a1_2) ∧ w'.cell? ⟨gb697, 0, none⟩ = some (.int .i64 a2_0) ∧ w'.cell? ⟨gb697, 1, none⟩ = some (.int .i64 a2_1) ∧ w'.cell? ⟨gb697, 2, none⟩ = some (.int .u32 a2_2)) (ds := []) #[false, false, false, false, false, false, false, false] (by kernel_rfl) rfl rfl ⟨bcA BK695 0 rfl, bcA BK695 1 rfl, bcA BK695 2 rfl, bcA BK696 0 rfl, bcA BK696 1 rfl, bcA BK696 2 rfl, bcA BK697 0 rfl, bcA BK697 1 rfl, bcA BK697 2 rfl⟩ (fun hHeld => ?_); refine with_tabW spec_JointDensity.tab5 spec_JointDensity.bits5 (fun HT_ HW_ => ?_)
        generalize wc.drew = w68 at BK695 BK696 BK697 BK698 HB hHeld ⊢
        refine take_ (i := 0) (N := some 35) (v := ?_) (a' := ?_) #[true, false, false, false, false, false, false, false] rfl rfl (take_ofW HT_.out HW_.out (by kernel_rfl)) (fun _ _ _ h => h) (Or.inl ⟨by rfl, ?_⟩) hHeld ?_ ?_
        rotate_left;(rintro w' ⟨s0, s1, s2, s3, s4, s5, s6, s7, s8⟩;go_simp;with_reducible rfl);rotate_left;(simp only [Act.put, psA, pzA, pnA, i64_w, i32_w];rfl)
        refine take_ (i := 2) (N := some 37) (v := ?_) (a' := ?_) #[true, false, true, false, false, false, false, false] rfl rfl (take_ofW HT_.out HW_.out (by kernel_rfl)) (fun _ _ _ h => h) (Or.inl ⟨by rfl, ?_⟩) hHeld ?_ ?_
        rotate_left;(rintro w' ⟨s0, s1, s2, s3, s4, s5, s6, s7, s8⟩;go_simp;with_reducible rfl);rotate_left;(simp only [Act.put, psA, pzA, pnA, i64_w, i32_w];rfl)
        refine take_ (i := 5) (N := some 40) (v := ?_) (a' := ?_) #[true, false, true, false, false, true, false, false] rfl rfl (take_ofW HT_.out HW_.out (by kernel_rfl)) (fun _ _ _ h => h) (Or.inl ⟨by rfl, ?_⟩) hHeld ?_ ?_
        rotate_left;(rintro w' ⟨s0, s1, s2, s3, s4, s5, s6, s7, s8⟩;go_simp;with_reducible rfl);rotate_left;(simp only [Act.put, psA, pzA, pnA, i64_w, i32_w];rfl)
        refine one_ (i := 1) (N := some 36) #[true, true, true, false, false, true, false, false] rfl rfl (one_of HT_.out (by kernel_rfl)) (by decide) (fun K hK => ?_)
        refine goes_ Try.func79 (by kernel_rfl) rfl #[.agg #[.int .i64 a0_0, .int .i64 a0_1, .int .u32 a0_2]] (by rfl) rfl rfl (by first | rfl | (simp only [List.map_toArray, List.map_cons, List.map_nil, List.length_drop, List.length_take]; rfl)) ?_
        with_reducible refine (spec_l04Free.calls a0_0 a0_1 a0_2 t710 _ A64.out).mono ?_
        rintro e w69 ⟨rfl, hb⟩
        refine ⟨_, rfl, ?_⟩
        replace BK695 := bkB BK695 hb
        replace BK696 := bkB BK696 hb
        replace BK697 := bkB BK697 hb
        replace BK698 := bkB BK698 hb
        replace HB := hbB HB hb
        (try clear hb)
        refine hK.out _ _ ⟨bcA BK695 0 rfl, bcA BK695 1 rfl, bcA BK695 2 rfl, bcA BK696 0 rfl, bcA BK696 1 rfl, bcA BK696 2 rfl, bcA BK697 0 rfl, bcA BK697 1 rfl, bcA BK697 2 rfl⟩ (fun hHeld => ?_)
        clear hK K
        refine norm_ (a' := ?_) ?_ ?_
        rotate_left;(show Act.put _ (some 36) _ = _;simp only [Act.put, psA, pzA, pnA, i64_w, i32_w];rfl)
        refine one_ (i := 3) (N := some 38) #[true, true, true, true, false, true, false, false] rfl rfl (one_of HT_.out (by kernel_rfl)) (by decide) (fun K hK => ?_)
        refine goes_ Try.func79 (by kernel_rfl) rfl #[.agg #[.int .i64 a1_0, .int .i64 a1_1, .int .u32 a1_2]] (by rfl) rfl rfl (by first | rfl | (simp only [List.map_toArray, List.map_cons, List.map_nil, List.length_drop, List.length_take]; rfl)) ?_
        with_reducible refine (spec_l04Free.calls a1_0 a1_1 a1_2 t711 _ A65.out).mono ?_
        rintro e w70 ⟨rfl, hb⟩
        refine ⟨_, rfl, ?_⟩
        replace BK695 := bkB BK695 hb
        replace BK696 := bkB BK696 hb
        replace BK697 := bkB BK697 hb
        replace BK698 := bkB BK698 hb
        replace HB := hbB HB hb
        (try clear hb)
        refine hK.out _ _ ⟨bcA BK695 0 rfl, bcA BK695 1 rfl, bcA BK695 2 rfl, bcA BK696 0 rfl, bcA BK696 1 rfl, bcA BK696 2 rfl, bcA BK697 0 rfl, bcA BK697 1 rfl, bcA BK697 2 rfl⟩ (fun hHeld => ?_)
        clear hK K
        refine norm_ (a' := ?_) ?_ ?_
        rotate_left;(show Act.put _ (some 38) _ = _;simp only [Act.put, psA, pzA, pnA, i64_w, i32_w];rfl)
        refine pure_ (i := 4) (N := some 39) (v := ?_) (a' := ?_) #[true, true, true, true, true, true, false, false] rfl rfl (any_of HT_.out (by kernel_rfl)) (fun _ _ _ h => h) (Or.inl ⟨by rfl, ?_⟩) ?_ ?_
        rotate_left;(intro w';go_simp;with_reducible rfl);rotate_left;(simp only [Act.put, psA, pzA, pnA, i64_w, i32_w];rfl)
        refine one_ (i := 6) (N := some 41) #[true, true, true, true, true, true, true, false] rfl rfl (one_of HT_.out (by kernel_rfl)) (by decide) (fun K hK => ?_)
        refine goes_ Try.func79 (by kernel_rfl) rfl #[.agg #[.int .i64 a2_0, .int .i64 a2_1, .int .u32 a2_2]] (by rfl) rfl rfl (by first | rfl | (simp only [List.map_toArray, List.map_cons, List.map_nil, List.length_drop, List.length_take]; rfl)) ?_
        with_reducible refine (spec_l04Free.calls a2_0 a2_1 a2_2 t712 _ A66.out).mono ?_
        rintro e w71 ⟨rfl, hb⟩
        refine ⟨_, rfl, ?_⟩
        replace BK695 := bkB BK695 hb
        replace BK696 := bkB BK696 hb
        replace BK697 := bkB BK697 hb
        replace BK698 := bkB BK698 hb
        replace HB := hbB HB hb
        (try clear hb)
        refine hK.out _ _ ⟨bcA BK695 0 rfl, bcA BK695 1 rfl, bcA BK695 2 rfl, bcA BK696 0 rfl, bcA BK696 1 rfl, bcA BK696 2 rfl, bcA BK697 0 rfl, bcA BK697 1 rfl, bcA BK697 2 rfl⟩ (fun hHeld => ?_)
        clear hK K
        refine norm_ (a' := ?_) ?_ ?_
        rotate_left;(show Act.put _ (some 41) _ = _;simp only [Act.put, psA, pzA, pnA, i64_w, i32_w];rfl)
        refine pure_ (i := 7) (N := some 42) (v := ?_) (a' := ?_) #[true, true, true, true, true, true, true, true] rfl rfl (any_of HT_.out (by kernel_rfl)) (fun _ _ _ h => h) (Or.inl ⟨by rfl, ?_⟩) ?_ ?_
        rotate_left;(intro w';go_simp;with_reducible rfl);rotate_left;(simp only [Act.put, psA, pzA, pnA, i64_w, i32_w];rfl)
        refine done_ (done_of HT_.out (by kernel_rfl)) ?_
        have hnb72 := NB698_695.out
        have hnc72 := NB695_698.out
        have hnb73 := NB698_696.out
        have hnc73 := NB696_698.out
        have hnb74 := NB698_697.out
        have hnc74 := NB697_698.out
        have hcz75_0 : w71.cell? ⟨gb698, 0, none⟩ = some (.int .i64 0) := bcA BK698 0 rfl
        have hcz75_1 : w71.cell? ⟨gb698, 1, none⟩ = some (.int .i64 0) := bcA BK698 1 rfl
        have hfz75_0 := blk_frozen BK698.out 0
        have hfz75_1 := blk_frozen BK698.out 1
        try go_wp2
        refine bodyPost_ret (results_ct rfl _ _ gb698 31 #[.int .i64 0, .int .i64 0] (0, 0) _ rfl (by (with_reducible repeat (first | refine blk_drewN ?_ _ | refine blk_drew ?_ | refine blk_alloc ?_ _)); refine blk_put (cs := #[.int .i64 0, .int .i64 0]) ?_ 1 _ rfl; (with_reducible repeat (first | refine blk_drewN ?_ _ | refine blk_drew ?_ | refine blk_alloc ?_ _)); refine blk_put (cs := #[.int .i64 0, .int .i64 0]) ?_ 0 _ rfl; (with_reducible repeat (first | refine blk_drewN ?_ _ | refine blk_drew ?_ | refine blk_alloc ?_ _)); exact BK698.out) Try.underlying31 rfl (by kernel_rfl)) rfl ?_
        exact ⟨by first | rfl | (simp [*, errW_none, errW_some] <;> rfl), by repeat (first | (with_reducible first | exact HB.out | apply below_alloc | apply pw_below_drewN | apply below_drew1 | refine below_set ?_ (Aside0.out (by assumption))) | exact HB.out)⟩
       ·rw [if_neg c67] at H
        have c67b0 : decide (t712 < (wrap64 (t710 + t711))) = false := decide_eq_false c67
        clear c67
        replace H := Option.bind_eq_some_iff.mp H
        obtain ⟨⟨t713, t714⟩, A760, H⟩ := H
        (try dsimp only at H)
        have A76 := Aside0.mk A760
        clear A760
        simp only [Option.some.injEq, Prod.mk.injEq] at H
        obtain ⟨rfl, rfl, rfl⟩ := H
        try go_wp2
        replace BK695 := Aside0.mk (blk_drew BK695.out)
        replace BK696 := Aside0.mk (blk_drew BK696.out)
        replace BK697 := Aside0.mk (blk_drew BK697.out)
        replace BK698 := Aside0.mk (blk_drew BK698.out)
        replace HB := Aside0.mk (below_drew1 HB.out)
        refine start_ (n := 8) (S := fun w' => w'.cell? ⟨gb695, 0, none⟩ = some (.int .i64 a0_0) ∧ w'.cell? ⟨gb695, 1, none⟩ = some (.int .i64 a0_1) ∧ w'.cell? ⟨gb695, 2, none⟩ = some (.int .u32 a0_2) ∧ w'.cell? ⟨gb696, 0, none⟩ = some (.int .i64 a1_0) ∧ w'.cell? ⟨gb696, 1, none⟩ = some (.int .i64 a1_1) ∧ w'.cell? ⟨gb696, 2, none⟩ = some (.int .u32 a1_2) ∧ w'.cell? ⟨gb697, 0, none⟩ = some (.int .i64 a2_0) ∧ w'.cell? ⟨gb697, 1, none⟩ = some (.int .i64 a2_1) ∧ w'.cell? ⟨gb697, 2, none⟩ = some (.int .u32 a2_2)) (ds := []) #[false, false, false, false, false, false, false, false] (by kernel_rfl) rfl rfl ⟨bcA BK695 0 rfl, bcA BK695 1 rfl, bcA BK695 2 rfl, bcA BK696 0 rfl, bcA BK696 1 rfl, bcA BK696 2 rfl, bcA BK697 0 rfl, bcA BK697 1 rfl, bcA BK697 2 rfl⟩ (fun hHeld => ?_); refine with_tabW spec_JointDensity.tab5 spec_JointDensity.bits5 (fun HT_ HW_ => ?_)
        generalize wc.drew = w77 at BK695 BK696 BK697 BK698 HB hHeld ⊢
        refine take_ (i := 0) (N := some 35) (v := ?_) (a' := ?_) #[true, false, false, false, false, false, false, false] rfl rfl (take_ofW HT_.out HW_.out (by kernel_rfl)) (fun _ _ _ h => h) (Or.inl ⟨by rfl, ?_⟩) hHeld ?_ ?_
        rotate_left;(rintro w' ⟨s0, s1, s2, s3, s4, s5, s6, s7, s8⟩;go_simp;with_reducible rfl);rotate_left;(simp only [Act.put, psA, pzA, pnA, i64_w, i32_w];rfl)
        refine take_ (i := 2) (N := some 37) (v := ?_) (a' := ?_) #[true, false, true, false, false, false, false, false] rfl rfl (take_ofW HT_.out HW_.out (by kernel_rfl)) (fun _ _ _ h => h) (Or.inl ⟨by rfl, ?_⟩) hHeld ?_ ?_
        rotate_left;(rintro w' ⟨s0, s1, s2, s3, s4, s5, s6, s7, s8⟩;go_simp;with_reducible rfl);rotate_left;(simp only [Act.put, psA, pzA, pnA, i64_w, i32_w];rfl)
        refine take_ (i := 5) (N := some 40) (v := ?_) (a' := ?_) #[true, false, true, false, false, true, false, false] rfl rfl (take_ofW HT_.out HW_.out (by kernel_rfl)) (fun _ _ _ h => h) (Or.inl ⟨by rfl, ?_⟩) hHeld ?_ ?_
        rotate_left;(rintro w' ⟨s0, s1, s2, s3, s4, s5, s6, s7, s8⟩;go_simp;with_reducible rfl);rotate_left;(simp only [Act.put, psA, pzA, pnA, i64_w, i32_w];rfl)
        refine one_ (i := 1) (N := some 36) #[true, true, true, false, false, true, false, false] rfl rfl (one_of HT_.out (by kernel_rfl)) (by decide) (fun K hK => ?_)
        refine goes_ Try.func79 (by kernel_rfl) rfl #[.agg #[.int .i64 a0_0, .int .i64 a0_1, .int .u32 a0_2]] (by rfl) rfl rfl (by first | rfl | (simp only [List.map_toArray, List.map_cons, List.map_nil, List.length_drop, List.length_take]; rfl)) ?_
        with_reducible refine (spec_l04Free.calls a0_0 a0_1 a0_2 t710 _ A64.out).mono ?_
        rintro e w78 ⟨rfl, hb⟩
        refine ⟨_, rfl, ?_⟩
        replace BK695 := bkB BK695 hb
        replace BK696 := bkB BK696 hb
        replace BK697 := bkB BK697 hb
        replace BK698 := bkB BK698 hb
        replace HB := hbB HB hb
        (try clear hb)
        refine hK.out _ _ ⟨bcA BK695 0 rfl, bcA BK695 1 rfl, bcA BK695 2 rfl, bcA BK696 0 rfl, bcA BK696 1 rfl, bcA BK696 2 rfl, bcA BK697 0 rfl, bcA BK697 1 rfl, bcA BK697 2 rfl⟩ (fun hHeld => ?_)
        clear hK K
        refine norm_ (a' := ?_) ?_ ?_
        rotate_left;(show Act.put _ (some 36) _ = _;simp only [Act.put, psA, pzA, pnA, i64_w, i32_w];rfl)
        refine one_ (i := 3) (N := some 38) #[true, true, true, true, false, true, false, false] rfl rfl (one_of HT_.out (by kernel_rfl)) (by decide) (fun K hK => ?_)
        refine goes_ Try.func79 (by kernel_rfl) rfl #[.agg #[.int .i64 a1_0, .int .i64 a1_1, .int .u32 a1_2]] (by rfl) rfl rfl (by first | rfl | (simp only [List.map_toArray, List.map_cons, List.map_nil, List.length_drop, List.length_take]; rfl)) ?_
        with_reducible refine (spec_l04Free.calls a1_0 a1_1 a1_2 t711 _ A65.out).mono ?_
        rintro e w79 ⟨rfl, hb⟩
        refine ⟨_, rfl, ?_⟩
        replace BK695 := bkB BK695 hb
        replace BK696 := bkB BK696 hb
        replace BK697 := bkB BK697 hb
        replace BK698 := bkB BK698 hb
        replace HB := hbB HB hb
        (try clear hb)
        refine hK.out _ _ ⟨bcA BK695 0 rfl, bcA BK695 1 rfl, bcA BK695 2 rfl, bcA BK696 0 rfl, bcA BK696 1 rfl, bcA BK696 2 rfl, bcA BK697 0 rfl, bcA BK697 1 rfl, bcA BK697 2 rfl⟩ (fun hHeld => ?_)
        clear hK K
        refine norm_ (a' := ?_) ?_ ?_
        rotate_left;(show Act.put _ (some 38) _ = _;simp only [Act.put, psA, pzA, pnA, i64_w, i32_w];rfl)
        refine pure_ (i := 4) (N := some 39) (v := ?_) (a' := ?_) #[true, true, true, true, true, true, false, false] rfl rfl (any_of HT_.out (by kernel_rfl)) (fun _ _ _ h => h) (Or.inl ⟨by rfl, ?_⟩) ?_ ?_
        rotate_left;(intro w';go_simp;with_reducible rfl);rotate_left;(simp only [Act.put, psA, pzA, pnA, i64_w, i32_w];rfl)
        refine one_ (i := 6) (N := some 41) #[true, true, true, true, true, true, true, false] rfl rfl (one_of HT_.out (by kernel_rfl)) (by decide) (fun K hK => ?_)
        refine goes_ Try.func79 (by kernel_rfl) rfl #[.agg #[.int .i64 a2_0, .int .i64 a2_1, .int .u32 a2_2]] (by rfl) rfl rfl (by first | rfl | (simp only [List.map_toArray, List.map_cons, List.map_nil, List.length_drop, List.length_take]; rfl)) ?_
        with_reducible refine (spec_l04Free.calls a2_0 a2_1 a2_2 t712 _ A66.out).mono ?_
        rintro e w80 ⟨rfl, hb⟩
        refine ⟨_, rfl, ?_⟩
        replace BK695 := bkB BK695 hb
        replace BK696 := bkB BK696 hb
        replace BK697 := bkB BK697 hb
        replace BK698 := bkB BK698 hb
        replace HB := hbB HB hb
        (try clear hb)
        refine hK.out _ _ ⟨bcA BK695 0 rfl, bcA BK695 1 rfl, bcA BK695 2 rfl, bcA BK696 0 rfl, bcA BK696 1 rfl, bcA BK696 2 rfl, bcA BK697 0 rfl, bcA BK697 1 rfl, bcA BK697 2 rfl⟩ (fun hHeld => ?_)
        clear hK K
        refine norm_ (a' := ?_) ?_ ?_
        rotate_left;(show Act.put _ (some 41) _ = _;simp only [Act.put, psA, pzA, pnA, i64_w, i32_w];rfl)
        refine pure_ (i := 7) (N := some 42) (v := ?_) (a' := ?_) #[true, true, true, true, true, true, true, true] rfl rfl (any_of HT_.out (by kernel_rfl)) (fun _ _ _ h => h) (Or.inl ⟨by rfl, ?_⟩) ?_ ?_
        rotate_left;(intro w';go_simp;with_reducible rfl);rotate_left;(simp only [Act.put, psA, pzA, pnA, i64_w, i32_w];rfl)
        refine done_ (done_of HT_.out (by kernel_rfl)) ?_
        have hnb81 := NB695_696.out
        have hnc81 := NB696_695.out
        have hnb82 := NB695_697.out
        have hnc82 := NB697_695.out
        have hnb83 := NB695_698.out
        have hnc83 := NB698_695.out
        have hcz84_0 : w80.cell? ⟨gb695, 0, none⟩ = some (.int .i64 a0_0) := bcA BK695 0 rfl
        have hcz84_1 : w80.cell? ⟨gb695, 1, none⟩ = some (.int .i64 a0_1) := bcA BK695 1 rfl
        have hcz84_2 : w80.cell? ⟨gb695, 2, none⟩ = some (.int .u32 a0_2) := bcA BK695 2 rfl
        have hfz84_0 := blk_frozen BK695.out 0
        have hfz84_1 := blk_frozen BK695.out 1
        have hfz84_2 := blk_frozen BK695.out 2
        have hnb85 := NB696_697.out
        have hnc85 := NB697_696.out
        have hnb86 := NB696_698.out
        have hnc86 := NB698_696.out
        have hcz87_0 : w80.cell? ⟨gb696, 0, none⟩ = some (.int .i64 a1_0) := bcA BK696 0 rfl
        have hcz87_1 : w80.cell? ⟨gb696, 1, none⟩ = some (.int .i64 a1_1) := bcA BK696 1 rfl
        have hcz87_2 : w80.cell? ⟨gb696, 2, none⟩ = some (.int .u32 a1_2) := bcA BK696 2 rfl
        have hfz87_0 := blk_frozen BK696.out 0
        have hfz87_1 := blk_frozen BK696.out 1
        have hfz87_2 := blk_frozen BK696.out 2
        have hnb88 := NB697_698.out
        have hnc88 := NB698_697.out
        have hcz89_0 : w80.cell? ⟨gb697, 0, none⟩ = some (.int .i64 a2_0) := bcA BK697 0 rfl
        have hcz89_1 : w80.cell? ⟨gb697, 1, none⟩ = some (.int .i64 a2_1) := bcA BK697 1 rfl
        have hcz89_2 : w80.cell? ⟨gb697, 2, none⟩ = some (.int .u32 a2_2) := bcA BK697 2 rfl
        have hfz89_0 := blk_frozen BK697.out 0
        have hfz89_1 := blk_frozen BK697.out 1
        have hfz89_2 := blk_frozen BK697.out 2
        try go_wp2_with (first | ((with_reducible refine gate_callee (f := 80) rfl ?_); refine goesL_ (some 47) rfl rfl Try.func80 (by kernel_rfl) rfl #[.agg #[.int .i64 a0_0, .int .i64 a0_1, .int .u32 a0_2], .agg #[.int .i64 a1_0, .int .i64 a1_1, .int .u32 a1_2], .agg #[.int .i64 a2_0, .int .i64 a2_1, .int .u32 a2_2]] rfl (by (try simp only [maA, mbA, mcA]); first | done | rfl | (simp only [List.length_drop, List.length_take]; rfl)) ?_; (with_reducible refine (spec_l04Joint.calls kj44 a0_0 a0_1 a0_2 a1_0 a1_1 a1_2 a2_0 a2_1 a2_2 t713 t714 _ A76.out).mono ?_); rintro e w90 ⟨rfl, hb⟩; refine ⟨_, rfl, ?_⟩; replace BK695 := bkB BK695 hb; replace BK696 := bkB BK696 hb; replace BK697 := bkB BK697 hb; replace BK698 := bkB BK698 hb; replace HB := hbB HB hb; (try clear hb); have hcz91_0 : w90.cell? ⟨gb698, 0, none⟩ = some (.int .i64 0) := bcA BK698 0 rfl; have hcz91_1 : w90.cell? ⟨gb698, 1, none⟩ = some (.int .i64 0) := bcA BK698 1 rfl; have hfz91_0 := blk_frozen BK698.out 0; have hfz91_1 := blk_frozen BK698.out 1))
        refine bodyPost_ret (results_ct rfl _ _ gb698 31 #[.int .i64 t713, .int .i64 t714] (0, 0) _ rfl (by (with_reducible repeat (first | refine blk_drewN ?_ _ | refine blk_drew ?_ | refine blk_alloc ?_ _)); refine blk_put (cs := #[.int .i64 t713, .int .i64 0]) ?_ 1 _ rfl; (with_reducible repeat (first | refine blk_drewN ?_ _ | refine blk_drew ?_ | refine blk_alloc ?_ _)); refine blk_put (cs := #[.int .i64 0, .int .i64 0]) ?_ 0 _ rfl; (with_reducible repeat (first | refine blk_drewN ?_ _ | refine blk_drew ?_ | refine blk_alloc ?_ _)); exact BK698.out) Try.underlying31 rfl (by kernel_rfl)) rfl ?_
        exact ⟨by first | rfl | (simp [*, errW_none, errW_some] <;> rfl), by repeat (first | (with_reducible first | exact HB.out | apply below_alloc | apply pw_below_drewN | apply below_drew1 | refine below_set ?_ (Aside0.out (by assumption))) | exact HB.out)⟩
end
end Go.Proofs.Ytcepbgffnneagaa.Q
end

section
namespace Go.Proofs.Ytcepbgffnneagaa.Q
open Go.RowKit Go.Proofs.YtcepbgffnneagaaW.PrintWords Go.Proofs.YtcepbgffnneagaaW.PrintLast Go.Proofs.YtcepbgffnneagaaW.PrintMore
attribute [local go_sem] max2_int min2_int max_two min_two max_three min_three max_four min_four
set_option linter.unusedVariables false
set_option linter.unusedSimpArgs false
section
def impl_Flag_169.l0 (cb1 : Int → Int → Int → Option (Bool)) : Nat → List (S45) → Int → Int → Option (Int)
 | 0, _, _, _ => none
 | k + 1, x0, x7, x8 => if x8 < x7 then (if 0 ≤ x8 then (if x8 < (x0.length : Int) then ((cb1 ((rd_T45 x0 x8).f0) ((rd_T45 x0 x8).f1.f0) ((rd_T45 x0 x8).f1.f1)).bind fun t528 => (if t528 = true then (some x8) else (impl_Flag_169.l0 cb1 k x0 x7 (wrap64 (x8 + 1))))) else (none)) else (none)) else (some (-1))
def impl_Flag_169.f (cb1 : Int → Int → Int → Option (Bool)) (k : Nat) (l0 : List (S45)) : Option (Int) := impl_Flag_169.l0 cb1 k l0 (l0.length : Int) 0
set_option maxHeartbeats 8000000 in
set_option maxRecDepth 100000 in
theorem impl_Flag_169.calls (cb1 : Int → Int → Int → Option (Bool)) (G1 : Nat) (fb1 lb1 : Array Value) (eg1 : EnterF Try.prog G1) (W0 : World) (hcb1 : Aside0 (∀ (a0_0 : Int) (a0_1 : Int) (a0_2 : Int) (r : Bool) (W : World), cb1 a0_0 a0_1 a0_2 = some r → Below W0.heap.size W0 W → Calls Try.prog G1 (fb1 ++ #[.agg #[.int .i64 a0_0, .int .i64 a0_1, .int .u32 a0_2]] ++ lb1) W fun e w' => e = .returned (.bool r) ∧ Below W.heap.size W w')) (k : Nat) (A0 : Option Addr) (c0 : Nat) (l0 : List (S45)) (r : Int) (w : World) (hr0 : Kd.C k45 w A0 l0.length l0) (hc0 : l0.length ≤ c0) (h : impl_Flag_169.f cb1 k l0 = some r) (hW0 : Aside0 (Below W0.heap.size W0 w)) :
  Calls Try.prog 169 #[.slice A0 l0.length c0, .func (.func G1) fb1 lb1] w fun e w' => e = .returned (.int .i64 r) ∧ Below w.heap.size w w' := by
 have hu45 := Try.underlying45
 have HR0 := Aside0.mk hr0
 have HC0 := Aside0.mk hc0
 clear hr0 hc0
 have HB := Aside0.mk (Below.refl w.heap.size w)
 unfold impl_Flag_169.f at h
 have H := h
 clear h
 have H' := Aside0.mk H
 clear H
 go_enter Try.func169, Try.ntmps169
 go_wp2
 go_loopg [8] k (fun kq v8 w' => ∃ (x8_1 : Int), v8 = .int .i64 x8_1 ∧ Aside0 (impl_Flag_169.l0 cb1 kq l0 (l0.length : Int) x8_1 = some r) ∧ Aside0 (kq ≤ k) ∧ Aside0 (Below w.heap.size w w'))
 case atStart => exact ⟨(0), (by first | rfl | (simp; done) | (simp [*]; done)), H', ⟨Nat.le_refl _⟩, ⟨by repeat (first | (with_reducible first | exact HB.out | apply below_alloc | apply pw_below_drewN | apply below_drew1) | exact HB.out)⟩⟩
 case round =>
  clear H'
  try clear c1
  obtain ⟨x8_1, rfl, HA, HK1, HB⟩ := hrel
  cases gk with
  | zero => exact absurd HA.out (by simp [impl_Flag_169.l0])
  | succ k1 =>
   have H := HA.out
   clear HA
   simp only [impl_Flag_169.l0] at H
   by_cases c2 : x8_1 < (l0.length : Int)
   ·rw [if_pos c2] at H
    have c2b0 : decide (x8_1 < (l0.length : Int)) = true := decide_eq_true c2
    clear c2
    by_cases c3 : 0 ≤ x8_1
    ·rw [if_pos c3] at H
     have c3b0 : decide (0 ≤ x8_1) = true := decide_eq_true c3
     clear c3
     by_cases c4 : x8_1 < (l0.length : Int)
     ·rw [if_pos c4] at H
      have c4b0 : decide (x8_1 < (l0.length : Int)) = true := decide_eq_true c4
      clear c4
      replace H := Option.bind_eq_some_iff.mp H
      obtain ⟨t528, A50, H⟩ := H
      (try dsimp only at H)
      have A5 := Aside0.mk A50
      clear A50
      by_cases c6 : t528 = true
      ·subst c6
       rw [if_pos rfl] at H
       obtain rfl := Option.some.inj H
       have p527 : 0 ≤ (x8_1 : Int) := of_decide_eq_true (by first | (with_reducible assumption) | assumption)
       have q527 : x8_1 < (l0.length : Int) := of_decide_eq_true (by first | (with_reducible assumption) | assumption)
       obtain ⟨ad527, e527, hx527_0, hx527_1, hx527_2⟩ := at_T45 HR0.out x8_1 p527 q527
       cases e527
       replace hx527_0 := (HB.out.cell (World.block_lt_of_cell? w _ hx527_0)).trans hx527_0
       replace hx527_1 := (HB.out.cell (World.block_lt_of_cell? w _ hx527_1)).trans hx527_1
       replace hx527_2 := (HB.out.cell (World.block_lt_of_cell? w _ hx527_2)).trans hx527_2
       replace p527 := eq_true p527
       replace q527 := eq_true q527
       go_wp2_with (first | ((with_reducible refine gate_value (t := 11) rfl ?_); refine goesFB_ (some 16) rfl rfl eg1 #[.agg #[.int .i64 ((rd_T45 l0 x8_1).f0), .int .i64 ((rd_T45 l0 x8_1).f1.f0), .int .u32 ((rd_T45 l0 x8_1).f1.f1)]] rfl rfl (by (try simp only [maA, mbA, mcA]); first | done | rfl | (simp only [List.length_drop, List.length_take]; rfl)) ?_; (with_reducible refine (hcb1.out ((rd_T45 l0 x8_1).f0) ((rd_T45 l0 x8_1).f1.f0) ((rd_T45 l0 x8_1).f1.f1) true _ A5.out (below_via hW0.out (by repeat (first | (with_reducible first | exact HB.out | apply below_alloc | apply pw_below_drewN | apply below_drew1) | exact HB.out)))).mono ?_); rintro e w7 ⟨rfl, hb⟩; refine ⟨_, rfl, ?_⟩; replace HB := hbB HB hb; (try clear hb)))
       go_ret
       exact ⟨by first | rfl | (simp [*, errW_none, errW_some] <;> rfl), by repeat (first | (with_reducible first | exact HB.out | apply below_alloc | apply pw_below_drewN | apply below_drew1) | exact HB.out)⟩
      ·replace c6 := Bool.eq_false_iff.mpr c6
       subst c6
       rw [if_neg (show ¬ (false = true) by decide)] at H
       have H' := Aside0.mk H
       clear H
       have p527 : 0 ≤ (x8_1 : Int) := of_decide_eq_true (by first | (with_reducible assumption) | assumption)
       have q527 : x8_1 < (l0.length : Int) := of_decide_eq_true (by first | (with_reducible assumption) | assumption)
       obtain ⟨ad527, e527, hx527_0, hx527_1, hx527_2⟩ := at_T45 HR0.out x8_1 p527 q527
       cases e527
       replace hx527_0 := (HB.out.cell (World.block_lt_of_cell? w _ hx527_0)).trans hx527_0
       replace hx527_1 := (HB.out.cell (World.block_lt_of_cell? w _ hx527_1)).trans hx527_1
       replace hx527_2 := (HB.out.cell (World.block_lt_of_cell? w _ hx527_2)).trans hx527_2
       replace p527 := eq_true p527
       replace q527 := eq_true q527
       go_wp2_with (first | ((with_reducible refine gate_value (t := 11) rfl ?_); refine goesFB_ (some 16) rfl rfl eg1 #[.agg #[.int .i64 ((rd_T45 l0 x8_1).f0), .int .i64 ((rd_T45 l0 x8_1).f1.f0), .int .u32 ((rd_T45 l0 x8_1).f1.f1)]] rfl rfl (by (try simp only [maA, mbA, mcA]); first | done | rfl | (simp only [List.length_drop, List.length_take]; rfl)) ?_; (with_reducible refine (hcb1.out ((rd_T45 l0 x8_1).f0) ((rd_T45 l0 x8_1).f1.f0) ((rd_T45 l0 x8_1).f1.f1) false _ A5.out (below_via hW0.out (by repeat (first | (with_reducible first | exact HB.out | apply below_alloc | apply pw_below_drewN | apply below_drew1) | exact HB.out)))).mono ?_); rintro e w8 ⟨rfl, hb⟩; refine ⟨_, rfl, ?_⟩; replace HB := hbB HB hb; (try clear hb)))
       go_roundg k1
       case measure => have := HK1.out; omega
       case rel => exact ⟨(wrap64 (x8_1 + 1)), (by first | rfl | (simp; done) | (simp [*]; done)), H', ⟨by have := HK1.out; omega⟩, ⟨by repeat (first | (with_reducible first | exact HB.out | apply below_alloc | apply pw_below_drewN | apply below_drew1) | exact HB.out)⟩⟩
     ·rw [if_neg c4] at H
      exact absurd H (by simp)
    ·rw [if_neg c3] at H
     exact absurd H (by simp)
   ·rw [if_neg c2] at H
    have c2b0 : decide (x8_1 < (l0.length : Int)) = false := decide_eq_false c2
    clear c2
    obtain rfl := Option.some.inj H
    go_wp2
    go_ret
    exact ⟨by first | rfl | (simp [*, errW_none, errW_some] <;> rfl), by repeat (first | (with_reducible first | exact HB.out | apply below_alloc | apply pw_below_drewN | apply below_drew1) | exact HB.out)⟩
end
section
def impl_Flag_133.f (cb1 : Int → Int → Int → Option (Bool)) (k : Nat) (l0 : List (S45)) : Option (Bool) := (impl_Flag_169.f cb1 k l0).bind fun t529 => (some (decide (t529 ≥ 0)))
set_option maxHeartbeats 8000000 in
set_option maxRecDepth 100000 in
theorem impl_Flag_133.calls (cb1 : Int → Int → Int → Option (Bool)) (G1 : Nat) (fb1 lb1 : Array Value) (eg1 : EnterF Try.prog G1) (W0 : World) (hcb1 : Aside0 (∀ (a0_0 : Int) (a0_1 : Int) (a0_2 : Int) (r : Bool) (W : World), cb1 a0_0 a0_1 a0_2 = some r → Below W0.heap.size W0 W → Calls Try.prog G1 (fb1 ++ #[.agg #[.int .i64 a0_0, .int .i64 a0_1, .int .u32 a0_2]] ++ lb1) W fun e w' => e = .returned (.bool r) ∧ Below W.heap.size W w')) (k : Nat) (A0 : Option Addr) (c0 : Nat) (l0 : List (S45)) (r : Bool) (w : World) (hr0 : Kd.C k45 w A0 l0.length l0) (hc0 : l0.length ≤ c0) (h : impl_Flag_133.f cb1 k l0 = some r) (hW0 : Aside0 (Below W0.heap.size W0 w)) :
  Calls Try.prog 133 #[.slice A0 l0.length c0, .func (.func G1) fb1 lb1] w fun e w' => e = .returned (.bool r) ∧ Below w.heap.size w w' := by
 have HR0 := Aside0.mk hr0
 have HC0 := Aside0.mk hc0
 clear hr0 hc0
 have HB := Aside0.mk (Below.refl w.heap.size w)
 unfold impl_Flag_133.f at h
 have H := h
 clear h
 replace H := Option.bind_eq_some_iff.mp H
 obtain ⟨t529, A20, H⟩ := H
 (try dsimp only at H)
 have A2 := Aside0.mk A20
 clear A20
 obtain rfl := Option.some.inj H
 go_enter Try.func133, Try.ntmps133
 go_wp2_with (first | ((with_reducible refine gate_callee (f := 169) rfl ?_); refine goesL_ (some 7) rfl rfl Try.func169 (by kernel_rfl) rfl #[.slice A0 l0.length c0, .func (.func G1) fb1 lb1] rfl (by (try simp only [maA, mbA, mcA]); first | done | rfl | (simp only [List.length_drop, List.length_take]; rfl)) ?_; (with_reducible refine (impl_Flag_169.calls cb1 G1 fb1 lb1 eg1 W0 hcb1 k _ _ l0 t529 _ ?side1 ?side2 A2.out ⟨below_via hW0.out (by repeat (first | (with_reducible first | exact HB.out | apply below_alloc | apply pw_below_drewN | apply below_drew1) | exact HB.out))⟩).mono ?_); (case side1 => repeat (first | exact HR0.out | (with_reducible refine Kd.C_alloc ?_ _) | (with_reducible refine Kd.C_drewN ?_ _) | (with_reducible refine Kd.C_drew ?_))); (case side2 => exact HC0.out); rintro e w3 ⟨rfl, hb⟩; refine ⟨_, rfl, ?_⟩; replace HB := hbB HB hb; (try clear hb)))
 go_ret
 exact ⟨by first | rfl | (simp [*, errW_none, errW_some] <;> rfl), by repeat (first | (with_reducible first | exact HB.out | apply below_alloc | apply pw_below_drewN | apply below_drew1) | exact HB.out)⟩
end
section
def impl_in.f (a0 : Int) (a1 : Int) (a2 : Int) : Option (Bool) := if a0 ≥ a1 then (some (decide (a0 ≤ a2))) else (some false)
set_option maxHeartbeats 8000000 in
set_option maxRecDepth 100000 in
theorem impl_in.calls (a0 : Int) (a1 : Int) (a2 : Int) (r : Bool) (w : World) (h : impl_in.f a0 a1 a2 = some r) :
  Calls Try.prog 70 #[.int .i64 a0, .int .i64 a1, .int .i64 a2] w fun e w' => e = .returned (.bool r) ∧ Drawn0 w w' := by
 unfold impl_in.f at h
 have H := h
 clear h
 by_cases c4 : a0 ≥ a1
 ·rw [if_pos c4] at H
  have c4b0 : decide (a1 ≤ a0) = true := decide_eq_true c4
  clear c4
  obtain rfl := Option.some.inj H
  go_enter Try.func70, Try.ntmps70
  go_wp2
  go_ret
  exact ⟨by first | rfl | (simp; done) | (simp [*]; done), by repeat (first | exact Drawn0.refl _ | apply Drawn0.step)⟩
 ·rw [if_neg c4] at H
  have c4b0 : decide (a1 ≤ a0) = false := decide_eq_false c4
  clear c4
  obtain rfl := Option.some.inj H
  go_enter Try.func70, Try.ntmps70
  go_wp2
  go_ret
  exact ⟨by first | rfl | (simp; done) | (simp [*]; done), by repeat (first | exact Drawn0.refl _ | apply Drawn0.step)⟩
end
section
def impl_pairs.f (a0 : Int) : Option (Int) := some (wrap64 (Int.tdiv (wrap64 (a0 * (wrap64 (a0 - 1)))) 2))
set_option maxHeartbeats 8000000 in
set_option maxRecDepth 100000 in
theorem impl_pairs.calls (a0 : Int) (r : Int) (w : World) (h : impl_pairs.f a0 = some r) :
  Calls Try.prog 102 #[.int .i64 a0] w fun e w' => e = .returned (.int .i64 r) ∧ Drawn0 w w' := by
 unfold impl_pairs.f at h
 have H := h
 clear h
 obtain rfl := Option.some.inj H
 go_enter Try.func102, Try.ntmps102
 go_wp2
 go_ret
 exact ⟨by first | rfl | (simp; done) | (simp [*]; done), by repeat (first | exact Drawn0.refl _ | apply Drawn0.step)⟩
end
section
def impl_ValidGraph.f (a0_0 : Int) (a0_1 : Int) : Option (Bool) := (impl_in.f a0_0 0 5).bind fun t179 => (if t179 = true then ((impl_pairs.f a0_0).bind fun t180 => (if 0 ≤ t180 then (some ((shr .u32 a0_1 t180) == 0)) else (none))) else (some false))
set_option maxHeartbeats 8000000 in
set_option maxRecDepth 100000 in
theorem impl_ValidGraph.calls (a0_0 : Int) (a0_1 : Int) (r : Bool) (w : World) (h : impl_ValidGraph.f a0_0 a0_1 = some r) :
  Calls Try.prog 62 #[.agg #[.int .i64 a0_0, .int .u32 a0_1]] w fun e w' => e = .returned (.bool r) ∧ Below w.heap.size w w' := by
 have hu27 := Try.underlying27
 have HB := Aside0.mk (Below.refl w.heap.size w)
 unfold impl_ValidGraph.f at h
 have H := h
 clear h
 replace H := Option.bind_eq_some_iff.mp H
 obtain ⟨t179, A20, H⟩ := H
 (try dsimp only at H)
 have A2 := Aside0.mk A20
 clear A20
 by_cases c3 : t179 = true
 ·subst c3
  rw [if_pos rfl] at H
  replace H := Option.bind_eq_some_iff.mp H
  obtain ⟨t180, A40, H⟩ := H
  (try dsimp only at H)
  have A4 := Aside0.mk A40
  clear A40
  by_cases c5 : 0 ≤ t180
  ·rw [if_pos c5] at H
   have c5b0 := eq_true c5
   have c5b1 : decide (0 ≤ t180) = true := decide_eq_true c5
   clear c5
   obtain ⟨ji6, hji6⟩ : ∃ j_ : Int, (shr .u32 a0_1 t180) = j_ := ⟨_, rfl⟩
   replace H : (some ((ji6) == 0)) = some r := by first | (rw [hji6] at H; exact H) | (simp only [hji6] at H ⊢; exact H)
   (try rw [hji6] at A2)
   (try rw [hji6] at A4)
   have hji6_ : (a0_1 / 2 ^ min t180.toNat 32) = ji6 := hji6
   have hji6z : t180 ≤ 32 → (a0_1 / 2 ^ t180.toNat) = ji6 := shr_small hji6
   obtain rfl := Option.some.inj H
   go_enter Try.func62, Try.ntmps62
   go_wp2_with (first | ((with_reducible refine gate_dst (N := 1) rfl ?_); refine box_event rfl (N := 1) rfl (cs := #[.int .i64 a0_0, .int .u32 a0_1]) (t := 27) ?hr ?_; (case hr => first | (go_simp; done) | (go_simp; rfl)); intro gb178 hg w7 hbox hb; have BK178 := Aside0.mk (hbox); have GW178 := geA HB hg; replace HB := hbB HB hb; have GE178 := GW178; clear hb hbox hg; have hcz8_0 : w7.cell? ⟨gb178, 0, none⟩ = some (.int .i64 a0_0) := bcA BK178 0 rfl; have hcz8_1 : w7.cell? ⟨gb178, 1, none⟩ = some (.int .u32 a0_1) := bcA BK178 1 rfl; have hfz8_0 := blk_frozen BK178.out 0; have hfz8_1 := blk_frozen BK178.out 1) | (go_at_call 70; (with_reducible refine (impl_in.calls a0_0 0 5 true _ A2.out).mono ?_); rintro e w' ⟨rfl, ⟨nd, rfl⟩⟩; (try first | exact ⟨rfl, _, World.drewN_drewN _ _ _⟩ | exact ⟨rfl, _, Eq.trans (World.drewN_drewN _ _ _) (congrArg (World.drewN _) (Nat.add_assoc _ _ _))⟩)) | (go_at_call 102; (with_reducible refine (impl_pairs.calls a0_0 t180 _ A4.out).mono ?_); rintro e w' ⟨rfl, ⟨nd, rfl⟩⟩; (try first | exact ⟨rfl, _, World.drewN_drewN _ _ _⟩ | exact ⟨rfl, _, Eq.trans (World.drewN_drewN _ _ _) (congrArg (World.drewN _) (Nat.add_assoc _ _ _))⟩)))
   repeat (go_quiet (first | ((with_reducible refine gate_dst (N := 1) rfl ?_); refine box_event rfl (N := 1) rfl (cs := #[.int .i64 a0_0, .int .u32 a0_1]) (t := 27) ?hr ?_; (case hr => first | (go_simp; done) | (go_simp; rfl)); intro gb178 hg w7 hbox hb; have BK178 := Aside0.mk (hbox); have GW178 := geA HB hg; replace HB := hbB HB hb; have GE178 := GW178; clear hb hbox hg; have hcz8_0 : w7.cell? ⟨gb178, 0, none⟩ = some (.int .i64 a0_0) := bcA BK178 0 rfl; have hcz8_1 : w7.cell? ⟨gb178, 1, none⟩ = some (.int .u32 a0_1) := bcA BK178 1 rfl; have hfz8_0 := blk_frozen BK178.out 0; have hfz8_1 := blk_frozen BK178.out 1) | (go_at_call 70; (with_reducible refine (impl_in.calls a0_0 0 5 true _ A2.out).mono ?_); rintro e w' ⟨rfl, ⟨nd, rfl⟩⟩; (try first | exact ⟨rfl, _, World.drewN_drewN _ _ _⟩ | exact ⟨rfl, _, Eq.trans (World.drewN_drewN _ _ _) (congrArg (World.drewN _) (Nat.add_assoc _ _ _))⟩)) | (go_at_call 102; (with_reducible refine (impl_pairs.calls a0_0 t180 _ A4.out).mono ?_); rintro e w' ⟨rfl, ⟨nd, rfl⟩⟩; (try first | exact ⟨rfl, _, World.drewN_drewN _ _ _⟩ | exact ⟨rfl, _, Eq.trans (World.drewN_drewN _ _ _) (congrArg (World.drewN _) (Nat.add_assoc _ _ _))⟩))); try go_wp2_with (first | ((with_reducible refine gate_dst (N := 1) rfl ?_); refine box_event rfl (N := 1) rfl (cs := #[.int .i64 a0_0, .int .u32 a0_1]) (t := 27) ?hr ?_; (case hr => first | (go_simp; done) | (go_simp; rfl)); intro gb178 hg w7 hbox hb; have BK178 := Aside0.mk (hbox); have GW178 := geA HB hg; replace HB := hbB HB hb; have GE178 := GW178; clear hb hbox hg; have hcz8_0 : w7.cell? ⟨gb178, 0, none⟩ = some (.int .i64 a0_0) := bcA BK178 0 rfl; have hcz8_1 : w7.cell? ⟨gb178, 1, none⟩ = some (.int .u32 a0_1) := bcA BK178 1 rfl; have hfz8_0 := blk_frozen BK178.out 0; have hfz8_1 := blk_frozen BK178.out 1) | (go_at_call 70; (with_reducible refine (impl_in.calls a0_0 0 5 true _ A2.out).mono ?_); rintro e w' ⟨rfl, ⟨nd, rfl⟩⟩; (try first | exact ⟨rfl, _, World.drewN_drewN _ _ _⟩ | exact ⟨rfl, _, Eq.trans (World.drewN_drewN _ _ _) (congrArg (World.drewN _) (Nat.add_assoc _ _ _))⟩)) | (go_at_call 102; (with_reducible refine (impl_pairs.calls a0_0 t180 _ A4.out).mono ?_); rintro e w' ⟨rfl, ⟨nd, rfl⟩⟩; (try first | exact ⟨rfl, _, World.drewN_drewN _ _ _⟩ | exact ⟨rfl, _, Eq.trans (World.drewN_drewN _ _ _) (congrArg (World.drewN _) (Nat.add_assoc _ _ _))⟩))))
   go_ret
   exact ⟨by first | rfl | (simp [errW_none, errW_some] <;> rfl) | (simp only [← hji6]; first | rfl | (simp [errW_none, errW_some] <;> rfl)) | (simp [*, errW_none, errW_some] <;> rfl), by repeat (first | (with_reducible first | exact HB.out | apply below_alloc | apply pw_below_drewN | apply below_drew1 | refine below_set ?_ GE178.out) | exact HB.out)⟩
  ·rw [if_neg c5] at H
   exact absurd H (by simp)
 ·replace c3 := Bool.eq_false_iff.mpr c3
  subst c3
  rw [if_neg (show ¬ (false = true) by decide)] at H
  obtain rfl := Option.some.inj H
  go_enter Try.func62, Try.ntmps62
  go_wp2_with (first | ((with_reducible refine gate_dst (N := 1) rfl ?_); refine box_event rfl (N := 1) rfl (cs := #[.int .i64 a0_0, .int .u32 a0_1]) (t := 27) ?hr ?_; (case hr => first | (go_simp; done) | (go_simp; rfl)); intro gb178 hg w9 hbox hb; have BK178 := Aside0.mk (hbox); have GW178 := geA HB hg; replace HB := hbB HB hb; have GE178 := GW178; clear hb hbox hg; have hcz10_0 : w9.cell? ⟨gb178, 0, none⟩ = some (.int .i64 a0_0) := bcA BK178 0 rfl; have hcz10_1 : w9.cell? ⟨gb178, 1, none⟩ = some (.int .u32 a0_1) := bcA BK178 1 rfl; have hfz10_0 := blk_frozen BK178.out 0; have hfz10_1 := blk_frozen BK178.out 1) | (go_at_call 70; (with_reducible refine (impl_in.calls a0_0 0 5 false _ A2.out).mono ?_); rintro e w' ⟨rfl, ⟨nd, rfl⟩⟩; (try first | exact ⟨rfl, _, World.drewN_drewN _ _ _⟩ | exact ⟨rfl, _, Eq.trans (World.drewN_drewN _ _ _) (congrArg (World.drewN _) (Nat.add_assoc _ _ _))⟩)))
  repeat (go_quiet (first | ((with_reducible refine gate_dst (N := 1) rfl ?_); refine box_event rfl (N := 1) rfl (cs := #[.int .i64 a0_0, .int .u32 a0_1]) (t := 27) ?hr ?_; (case hr => first | (go_simp; done) | (go_simp; rfl)); intro gb178 hg w9 hbox hb; have BK178 := Aside0.mk (hbox); have GW178 := geA HB hg; replace HB := hbB HB hb; have GE178 := GW178; clear hb hbox hg; have hcz10_0 : w9.cell? ⟨gb178, 0, none⟩ = some (.int .i64 a0_0) := bcA BK178 0 rfl; have hcz10_1 : w9.cell? ⟨gb178, 1, none⟩ = some (.int .u32 a0_1) := bcA BK178 1 rfl; have hfz10_0 := blk_frozen BK178.out 0; have hfz10_1 := blk_frozen BK178.out 1) | (go_at_call 70; (with_reducible refine (impl_in.calls a0_0 0 5 false _ A2.out).mono ?_); rintro e w' ⟨rfl, ⟨nd, rfl⟩⟩; (try first | exact ⟨rfl, _, World.drewN_drewN _ _ _⟩ | exact ⟨rfl, _, Eq.trans (World.drewN_drewN _ _ _) (congrArg (World.drewN _) (Nat.add_assoc _ _ _))⟩))); try go_wp2_with (first | ((with_reducible refine gate_dst (N := 1) rfl ?_); refine box_event rfl (N := 1) rfl (cs := #[.int .i64 a0_0, .int .u32 a0_1]) (t := 27) ?hr ?_; (case hr => first | (go_simp; done) | (go_simp; rfl)); intro gb178 hg w9 hbox hb; have BK178 := Aside0.mk (hbox); have GW178 := geA HB hg; replace HB := hbB HB hb; have GE178 := GW178; clear hb hbox hg; have hcz10_0 : w9.cell? ⟨gb178, 0, none⟩ = some (.int .i64 a0_0) := bcA BK178 0 rfl; have hcz10_1 : w9.cell? ⟨gb178, 1, none⟩ = some (.int .u32 a0_1) := bcA BK178 1 rfl; have hfz10_0 := blk_frozen BK178.out 0; have hfz10_1 := blk_frozen BK178.out 1) | (go_at_call 70; (with_reducible refine (impl_in.calls a0_0 0 5 false _ A2.out).mono ?_); rintro e w' ⟨rfl, ⟨nd, rfl⟩⟩; (try first | exact ⟨rfl, _, World.drewN_drewN _ _ _⟩ | exact ⟨rfl, _, Eq.trans (World.drewN_drewN _ _ _) (congrArg (World.drewN _) (Nat.add_assoc _ _ _))⟩))))
  go_ret
  exact ⟨by first | rfl | (simp [*, errW_none, errW_some] <;> rfl), by repeat (first | (with_reducible first | exact HB.out | apply below_alloc | apply pw_below_drewN | apply below_drew1 | refine below_set ?_ GE178.out) | exact HB.out)⟩
end
section
def impl_ValidFlag.f (a0_0 : Int) (a0_1 : Int) (a0_2 : Int) : Option (Bool) := (impl_ValidGraph.f a0_1 a0_2).bind fun t531 => (if t531 = true then ((impl_in.f a0_0 0 3).bind fun t532 => (if t532 = true then (some (decide (a0_0 ≤ a0_1))) else (some false))) else (some false))
set_option maxHeartbeats 8000000 in
set_option maxRecDepth 100000 in
theorem impl_ValidFlag.calls (a0_0 : Int) (a0_1 : Int) (a0_2 : Int) (r : Bool) (w : World) (h : impl_ValidFlag.f a0_0 a0_1 a0_2 = some r) :
  Calls Try.prog 106 #[.agg #[.int .i64 a0_0, .int .i64 a0_1, .int .u32 a0_2]] w fun e w' => e = .returned (.bool r) ∧ Below w.heap.size w w' := by
 have hu45 := Try.underlying45
 have hu27 := Try.underlying27
 have HB := Aside0.mk (Below.refl w.heap.size w)
 unfold impl_ValidFlag.f at h
 have H := h
 clear h
 replace H := Option.bind_eq_some_iff.mp H
 obtain ⟨t531, A20, H⟩ := H
 (try dsimp only at H)
 have A2 := Aside0.mk A20
 clear A20
 by_cases c3 : t531 = true
 ·subst c3
  rw [if_pos rfl] at H
  replace H := Option.bind_eq_some_iff.mp H
  obtain ⟨t532, A40, H⟩ := H
  (try dsimp only at H)
  have A4 := Aside0.mk A40
  clear A40
  by_cases c5 : t532 = true
  ·subst c5
   rw [if_pos rfl] at H
   obtain rfl := Option.some.inj H
   go_enter Try.func106, Try.ntmps106
   go_wp2_with (first | ((with_reducible refine gate_dst (N := 1) rfl ?_); refine box_event rfl (N := 1) rfl (cs := #[.int .i64 a0_0, .int .i64 a0_1, .int .u32 a0_2]) (t := 45) ?hr ?_; (case hr => first | (go_simp; done) | (go_simp; rfl)); intro gb530 hg w6 hbox hb; have BK530 := Aside0.mk (hbox); have GW530 := geA HB hg; replace HB := hbB HB hb; have GE530 := GW530; clear hb hbox hg; have hcz7_0 : w6.cell? ⟨gb530, 0, none⟩ = some (.int .i64 a0_0) := bcA BK530 0 rfl; have hcz7_1 : w6.cell? ⟨gb530, 1, none⟩ = some (.int .i64 a0_1) := bcA BK530 1 rfl; have hcz7_2 : w6.cell? ⟨gb530, 2, none⟩ = some (.int .u32 a0_2) := bcA BK530 2 rfl; have hfz7_0 := blk_frozen BK530.out 0; have hfz7_1 := blk_frozen BK530.out 1; have hfz7_2 := blk_frozen BK530.out 2) | ((with_reducible refine gate_callee (f := 62) rfl ?_); refine goesL_ (some 5) rfl rfl Try.func62 (by kernel_rfl) rfl #[.agg #[.int .i64 a0_1, .int .u32 a0_2]] rfl (by (try simp only [maA, mbA, mcA]); first | done | rfl | (simp only [List.length_drop, List.length_take]; rfl)) ?_; (with_reducible refine (impl_ValidGraph.calls a0_1 a0_2 true _ A2.out).mono ?_); rintro e w8 ⟨rfl, hb⟩; refine ⟨_, rfl, ?_⟩; replace BK530 := bkB BK530 hb; replace HB := hbB HB hb; (try clear hb); have hcz9_0 : w8.cell? ⟨gb530, 0, none⟩ = some (.int .i64 a0_0) := bcA BK530 0 rfl; have hcz9_1 : w8.cell? ⟨gb530, 1, none⟩ = some (.int .i64 a0_1) := bcA BK530 1 rfl; have hcz9_2 : w8.cell? ⟨gb530, 2, none⟩ = some (.int .u32 a0_2) := bcA BK530 2 rfl; have hfz9_0 := blk_frozen BK530.out 0; have hfz9_1 := blk_frozen BK530.out 1; have hfz9_2 := blk_frozen BK530.out 2) | (go_at_call 70; (with_reducible refine (impl_in.calls a0_0 0 3 true _ A4.out).mono ?_); rintro e w' ⟨rfl, ⟨nd, rfl⟩⟩))
   go_ret
   exact ⟨by first | rfl | (simp [*, errW_none, errW_some] <;> rfl), by repeat (first | (with_reducible first | exact HB.out | apply below_alloc | apply pw_below_drewN | apply below_drew1 | refine below_set ?_ GE530.out) | exact HB.out)⟩
  ·replace c5 := Bool.eq_false_iff.mpr c5
   subst c5
   rw [if_neg (show ¬ (false = true) by decide)] at H
   obtain rfl := Option.some.inj H
   go_enter Try.func106, Try.ntmps106
   go_wp2_with (first | ((with_reducible refine gate_dst (N := 1) rfl ?_); refine box_event rfl (N := 1) rfl (cs := #[.int .i64 a0_0, .int .i64 a0_1, .int .u32 a0_2]) (t := 45) ?hr ?_; (case hr => first | (go_simp; done) | (go_simp; rfl)); intro gb530 hg w10 hbox hb; have BK530 := Aside0.mk (hbox); have GW530 := geA HB hg; replace HB := hbB HB hb; have GE530 := GW530; clear hb hbox hg; have hcz11_0 : w10.cell? ⟨gb530, 0, none⟩ = some (.int .i64 a0_0) := bcA BK530 0 rfl; have hcz11_1 : w10.cell? ⟨gb530, 1, none⟩ = some (.int .i64 a0_1) := bcA BK530 1 rfl; have hcz11_2 : w10.cell? ⟨gb530, 2, none⟩ = some (.int .u32 a0_2) := bcA BK530 2 rfl; have hfz11_0 := blk_frozen BK530.out 0; have hfz11_1 := blk_frozen BK530.out 1; have hfz11_2 := blk_frozen BK530.out 2) | ((with_reducible refine gate_callee (f := 62) rfl ?_); refine goesL_ (some 5) rfl rfl Try.func62 (by kernel_rfl) rfl #[.agg #[.int .i64 a0_1, .int .u32 a0_2]] rfl (by (try simp only [maA, mbA, mcA]); first | done | rfl | (simp only [List.length_drop, List.length_take]; rfl)) ?_; (with_reducible refine (impl_ValidGraph.calls a0_1 a0_2 true _ A2.out).mono ?_); rintro e w12 ⟨rfl, hb⟩; refine ⟨_, rfl, ?_⟩; replace BK530 := bkB BK530 hb; replace HB := hbB HB hb; (try clear hb); have hcz13_0 : w12.cell? ⟨gb530, 0, none⟩ = some (.int .i64 a0_0) := bcA BK530 0 rfl; have hcz13_1 : w12.cell? ⟨gb530, 1, none⟩ = some (.int .i64 a0_1) := bcA BK530 1 rfl; have hcz13_2 : w12.cell? ⟨gb530, 2, none⟩ = some (.int .u32 a0_2) := bcA BK530 2 rfl; have hfz13_0 := blk_frozen BK530.out 0; have hfz13_1 := blk_frozen BK530.out 1; have hfz13_2 := blk_frozen BK530.out 2) | (go_at_call 70; (with_reducible refine (impl_in.calls a0_0 0 3 false _ A4.out).mono ?_); rintro e w' ⟨rfl, ⟨nd, rfl⟩⟩))
   go_ret
   exact ⟨by first | rfl | (simp [*, errW_none, errW_some] <;> rfl), by repeat (first | (with_reducible first | exact HB.out | apply below_alloc | apply pw_below_drewN | apply below_drew1 | refine below_set ?_ GE530.out) | exact HB.out)⟩
 ·replace c3 := Bool.eq_false_iff.mpr c3
  subst c3
  rw [if_neg (show ¬ (false = true) by decide)] at H
  obtain rfl := Option.some.inj H
  go_enter Try.func106, Try.ntmps106
  go_wp2_with (first | ((with_reducible refine gate_dst (N := 1) rfl ?_); refine box_event rfl (N := 1) rfl (cs := #[.int .i64 a0_0, .int .i64 a0_1, .int .u32 a0_2]) (t := 45) ?hr ?_; (case hr => first | (go_simp; done) | (go_simp; rfl)); intro gb530 hg w14 hbox hb; have BK530 := Aside0.mk (hbox); have GW530 := geA HB hg; replace HB := hbB HB hb; have GE530 := GW530; clear hb hbox hg; have hcz15_0 : w14.cell? ⟨gb530, 0, none⟩ = some (.int .i64 a0_0) := bcA BK530 0 rfl; have hcz15_1 : w14.cell? ⟨gb530, 1, none⟩ = some (.int .i64 a0_1) := bcA BK530 1 rfl; have hcz15_2 : w14.cell? ⟨gb530, 2, none⟩ = some (.int .u32 a0_2) := bcA BK530 2 rfl; have hfz15_0 := blk_frozen BK530.out 0; have hfz15_1 := blk_frozen BK530.out 1; have hfz15_2 := blk_frozen BK530.out 2) | ((with_reducible refine gate_callee (f := 62) rfl ?_); refine goesL_ (some 5) rfl rfl Try.func62 (by kernel_rfl) rfl #[.agg #[.int .i64 a0_1, .int .u32 a0_2]] rfl (by (try simp only [maA, mbA, mcA]); first | done | rfl | (simp only [List.length_drop, List.length_take]; rfl)) ?_; (with_reducible refine (impl_ValidGraph.calls a0_1 a0_2 false _ A2.out).mono ?_); rintro e w16 ⟨rfl, hb⟩; refine ⟨_, rfl, ?_⟩; replace BK530 := bkB BK530 hb; replace HB := hbB HB hb; (try clear hb)))
  go_ret
  exact ⟨by first | rfl | (simp [*, errW_none, errW_some] <;> rfl), by repeat (first | (with_reducible first | exact HB.out | apply below_alloc | apply pw_below_drewN | apply below_drew1 | refine below_set ?_ GE530.out) | exact HB.out)⟩
end
section
def impl_badFlag.f (a0_0 : Int) (a0_1 : Int) (a0_2 : Int) : Option (Bool) := (impl_ValidFlag.f a0_0 a0_1 a0_2).bind fun t534 => (some (!t534))
set_option maxHeartbeats 8000000 in
set_option maxRecDepth 100000 in
theorem impl_badFlag.calls (a0_0 : Int) (a0_1 : Int) (a0_2 : Int) (r : Bool) (w : World) (h : impl_badFlag.f a0_0 a0_1 a0_2 = some r) :
  Calls Try.prog 134 #[.agg #[.int .i64 a0_0, .int .i64 a0_1, .int .u32 a0_2]] w fun e w' => e = .returned (.bool r) ∧ Below w.heap.size w w' := by
 have hu45 := Try.underlying45
 have HB := Aside0.mk (Below.refl w.heap.size w)
 unfold impl_badFlag.f at h
 have H := h
 clear h
 replace H := Option.bind_eq_some_iff.mp H
 obtain ⟨t534, A20, H⟩ := H
 (try dsimp only at H)
 have A2 := Aside0.mk A20
 clear A20
 obtain rfl := Option.some.inj H
 go_enter Try.func134, Try.ntmps134
 go_wp2_with (first | ((with_reducible refine gate_dst (N := 1) rfl ?_); refine box_event rfl (N := 1) rfl (cs := #[.int .i64 a0_0, .int .i64 a0_1, .int .u32 a0_2]) (t := 45) ?hr ?_; (case hr => first | (go_simp; done) | (go_simp; rfl)); intro gb533 hg w3 hbox hb; have BK533 := Aside0.mk (hbox); have GW533 := geA HB hg; replace HB := hbB HB hb; have GE533 := GW533; clear hb hbox hg; have hcz4_0 : w3.cell? ⟨gb533, 0, none⟩ = some (.int .i64 a0_0) := bcA BK533 0 rfl; have hcz4_1 : w3.cell? ⟨gb533, 1, none⟩ = some (.int .i64 a0_1) := bcA BK533 1 rfl; have hcz4_2 : w3.cell? ⟨gb533, 2, none⟩ = some (.int .u32 a0_2) := bcA BK533 2 rfl; have hfz4_0 := blk_frozen BK533.out 0; have hfz4_1 := blk_frozen BK533.out 1; have hfz4_2 := blk_frozen BK533.out 2) | ((with_reducible refine gate_callee (f := 106) rfl ?_); refine goesL_ (some 4) rfl rfl Try.func106 (by kernel_rfl) rfl #[.agg #[.int .i64 a0_0, .int .i64 a0_1, .int .u32 a0_2]] rfl (by (try simp only [maA, mbA, mcA]); first | done | rfl | (simp only [List.length_drop, List.length_take]; rfl)) ?_; (with_reducible refine (impl_ValidFlag.calls a0_0 a0_1 a0_2 t534 _ A2.out).mono ?_); rintro e w5 ⟨rfl, hb⟩; refine ⟨_, rfl, ?_⟩; replace BK533 := bkB BK533 hb; replace HB := hbB HB hb; (try clear hb)))
 go_ret
 exact ⟨by first | rfl | (simp [*, errW_none, errW_some] <;> rfl), by repeat (first | (with_reducible first | exact HB.out | apply below_alloc | apply pw_below_drewN | apply below_drew1 | refine below_set ?_ GE533.out) | exact HB.out)⟩
end
section
def impl_flagsOk.f (k : Nat) (l0 : List (S45)) : Option (Int) := (impl_Flag_133.f (fun y0_0 y0_1 y0_2 => impl_badFlag.f y0_0 y0_1 y0_2) k l0).bind fun t535 => (if t535 = true then (some 1) else (some 0))
set_option maxHeartbeats 8000000 in
set_option maxRecDepth 100000 in
theorem impl_flagsOk.calls (k : Nat) (A0 : Option Addr) (c0 : Nat) (l0 : List (S45)) (r : Int) (w : World) (hr0 : Kd.C k45 w A0 l0.length l0) (hc0 : l0.length ≤ c0) (h : impl_flagsOk.f k l0 = some r) :
  Calls Try.prog 81 #[.slice A0 l0.length c0] w fun e w' => e = .returned (.int .i64 r) ∧ Below w.heap.size w w' := by
 have HR0 := Aside0.mk hr0
 have HC0 := Aside0.mk hc0
 clear hr0 hc0
 have HB := Aside0.mk (Below.refl w.heap.size w)
 unfold impl_flagsOk.f at h
 have H := h
 clear h
 replace H := Option.bind_eq_some_iff.mp H
 obtain ⟨t535, A20, H⟩ := H
 (try dsimp only at H)
 have A2 := Aside0.mk A20
 clear A20
 by_cases c3 : t535 = true
 ·subst c3
  rw [if_pos rfl] at H
  obtain rfl := Option.some.inj H
  go_enter Try.func81, Try.ntmps81
  go_wp2_with (first | ((with_reducible refine gate_callee (f := 133) rfl ?_); refine goesL_ (some 4) rfl rfl Try.func133 (by kernel_rfl) rfl #[.slice A0 l0.length c0, .func (.func 134) #[] #[]] rfl (by (try simp only [maA, mbA, mcA]); first | done | rfl | (simp only [List.length_drop, List.length_take]; rfl)) ?_; (refine (impl_Flag_133.calls (fun y0_0 y0_1 y0_2 => impl_badFlag.f y0_0 y0_1 y0_2) 134 #[] #[] (EnterF.of Try.func134 (by kernel_rfl) rfl) _ ⟨fun y0_0 y0_1 y0_2 r_ W_  hc_ hB_ => (impl_badFlag.calls y0_0 y0_1 y0_2 r_ W_  hc_)⟩ k _ _ l0 true _ ?side1 ?side2 A2.out ⟨Below.refl _ _⟩).mono ?_); (case side1 => repeat (first | exact HR0.out | (with_reducible refine Kd.C_alloc ?_ _) | (with_reducible refine Kd.C_drewN ?_ _) | (with_reducible refine Kd.C_drew ?_))); (case side2 => exact HC0.out); rintro e w4 ⟨rfl, hb⟩; refine ⟨_, rfl, ?_⟩; replace HB := hbB HB hb; (try clear hb)))
  go_ret
  exact ⟨by first | rfl | (simp [*, errW_none, errW_some] <;> rfl), by repeat (first | (with_reducible first | exact HB.out | apply below_alloc | apply pw_below_drewN | apply below_drew1) | exact HB.out)⟩
 ·replace c3 := Bool.eq_false_iff.mpr c3
  subst c3
  rw [if_neg (show ¬ (false = true) by decide)] at H
  obtain rfl := Option.some.inj H
  go_enter Try.func81, Try.ntmps81
  go_wp2_with (first | ((with_reducible refine gate_callee (f := 133) rfl ?_); refine goesL_ (some 4) rfl rfl Try.func133 (by kernel_rfl) rfl #[.slice A0 l0.length c0, .func (.func 134) #[] #[]] rfl (by (try simp only [maA, mbA, mcA]); first | done | rfl | (simp only [List.length_drop, List.length_take]; rfl)) ?_; (refine (impl_Flag_133.calls (fun y0_0 y0_1 y0_2 => impl_badFlag.f y0_0 y0_1 y0_2) 134 #[] #[] (EnterF.of Try.func134 (by kernel_rfl) rfl) _ ⟨fun y0_0 y0_1 y0_2 r_ W_  hc_ hB_ => (impl_badFlag.calls y0_0 y0_1 y0_2 r_ W_  hc_)⟩ k _ _ l0 false _ ?side1 ?side2 A2.out ⟨Below.refl _ _⟩).mono ?_); (case side1 => repeat (first | exact HR0.out | (with_reducible refine Kd.C_alloc ?_ _) | (with_reducible refine Kd.C_drewN ?_ _) | (with_reducible refine Kd.C_drew ?_))); (case side2 => exact HC0.out); rintro e w5 ⟨rfl, hb⟩; refine ⟨_, rfl, ?_⟩; replace HB := hbB HB hb; (try clear hb)))
  go_ret
  exact ⟨by first | rfl | (simp [*, errW_none, errW_some] <;> rfl), by repeat (first | (with_reducible first | exact HB.out | apply below_alloc | apply pw_below_drewN | apply below_drew1) | exact HB.out)⟩
end
section
def impl_first.l0 : Nat → List Int → Int → Int → Option (List Int)
 | 0, _, _, _ => none
 | k + 1, x3, x6, x7 => if x7 < x6 then (if x3.length < 17592186044416 then (impl_first.l0 k (x3 ++ [x7]) x6 (wrap64 (x7 + 1))) else (none)) else (some x3)
def impl_first.f (k : Nat) (a0 : Int) : Option (List Int) := impl_first.l0 k (([] : List Int)) a0 0
set_option maxHeartbeats 8000000 in
set_option maxRecDepth 100000 in
theorem impl_first.calls (k : Nat) (a0 : Int) (r : List Int) (w : World) (h : impl_first.f k a0 = some r) :
  Calls Try.prog 116 #[.int .i64 a0] w fun e w' => ∃ v0_ : Value, e = .returned (v0_) ∧ Kd.R (Kd.int .i64) 2 w' w.heap.size (fun _ => True) v0_ r ∧ Below w.heap.size w w' := by
 have HB := Aside0.mk (Below.refl w.heap.size w)
 unfold impl_first.f at h
 have H := h
 clear h
 obtain ⟨y181, hy181⟩ : ∃ y_ : List Int, y_ = (([] : List Int)) := ⟨_, rfl⟩
 replace H : (impl_first.l0 k y181 a0 0) = some r := by first | (rw [hy181]; with_reducible exact H) | (have H2_ := (Option.bind_some _ _).symm.trans H; rw [hy181]; with_reducible exact H2_) | (have H2_ := (Option.bind_some _ _).symm.trans H; with_reducible exact H2_) | with_reducible exact H | (rw [hy181]; exact H) | exact H
 have Ny181 := Aside0.mk hy181
 clear hy181
 have H' := Aside0.mk H
 clear H
 go_enter Try.func116, Try.ntmps116
 go_wp2_with (first | ((with_reducible refine gate_dst (N := 5) rfl ?_); refine Kd.R_lit (Kd.int .i64) _ 2 ?hg (N := 5) ?hd (xs := ([] : List Int)) (inner := []) (ok := fun _ => True) (okp := fun _ => True) ?hr ?hp (fun _ hk => hk) trivial (Below.refl _ _) (Nat.le_refl _) (by simp) ?_; (case hd => rfl); (case hg => rfl); (case hr => first | (go_simp; done) | (go_simp; rfl)); (case hp => exact (Reps.none _ _)); intro v182 w2 ho3 hb hg_ hnew_; clear hg_ hnew_; (first | rw [← Ny181.out] at ho3 | (simp only [Int.reduceToNat] at ho3; rw [← Ny181.out] at ho3)); have HO183 := Aside0.mk (Kd.R_lower ho3 (below_size HB.out)); replace HB := hbB HB hb; clear hb ho3))
 go_loopg [3, 7] k (fun kq v3 v7 w' => ∃ (x3_1 : List Int) (x7_1 : Int), v7 = .int .i64 x7_1 ∧ Aside0 (impl_first.l0 kq x3_1 a0 x7_1 = some r) ∧ Aside0 (kq ≤ k) ∧ Aside0 (Kd.R (Kd.int .i64) 2 w' w.heap.size (fun _ => True) v3 x3_1) ∧ Aside0 (Below w.heap.size w w'))
 case atStart => exact ⟨(y181), (0), (by first | rfl | (simp; done) | (simp [*]; done)), H', ⟨Nat.le_refl _⟩, ⟨by (with_reducible repeat (first | apply Kd.R_alloc | apply Kd.R_drewN | apply Kd.R_drew)); exact HO183.out⟩, ⟨by repeat (first | (with_reducible first | exact HB.out | apply below_alloc | apply pw_below_drewN | apply below_drew1) | exact HB.out)⟩⟩
 case round =>
  clear H'
  try clear c1
  try clear p2
  obtain ⟨x3_1, x7_1, rfl, HA, HK1, HO_3, HB⟩ := hrel
  cases gk with
  | zero => exact absurd HA.out (by simp [impl_first.l0])
  | succ k1 =>
   have H := HA.out
   clear HA
   simp only [impl_first.l0] at H
   by_cases c4 : x7_1 < a0
   ·rw [if_pos c4] at H
    have c4b0 : decide (x7_1 < a0) = true := decide_eq_true c4
    clear c4
    by_cases c5 : x3_1.length < 17592186044416
    ·rw [if_pos c5] at H
     have LMc5 := Aside0.mk c5
     clear c5
     obtain ⟨y184, hy184⟩ : ∃ y_ : List Int, y_ = (x3_1 ++ [x7_1]) := ⟨_, rfl⟩
     replace H : (impl_first.l0 k1 y184 a0 (wrap64 (x7_1 + 1))) = some r := by first | (rw [hy184]; with_reducible exact H) | (have H2_ := (Option.bind_some _ _).symm.trans H; rw [hy184]; with_reducible exact H2_) | (have H2_ := (Option.bind_some _ _).symm.trans H; with_reducible exact H2_) | with_reducible exact H | (rw [hy184]; exact H) | exact H
     have Ny184 := Aside0.mk hy184
     clear hy184
     have H' := Aside0.mk H
     clear H
     go_wp2_with (first | ((with_reducible refine gate_builtin (b := .append) (xs := #[.tmp 10, .tmp 12]) rfl ?_); at_builtin; refine Kd.R_append (Kd.int .i64) (w0 := w) w.heap.size rfl (.tmp 10) (.tmp 12) 62 2 (.int .i64 0) 8 rfl Try.underlying62 info2 rfl (by decide) (by omega) u3 x3_1 x7_1 [.int .i64 x7_1] (fun _ => True) (fun _ => False) rfl rfl ?aP (fun _ hk => hk.elim) ?aF ?aO ?aB ?aS ?aL ?_; (case aP => exact rfl); (case aB => exact (by repeat (first | (with_reducible first | exact HB.out | apply below_alloc | apply pw_below_drewN | apply below_drew1) | exact HB.out))); (case aF => exact (fun _ _ => trivial)); (case aO => exact (by (with_reducible repeat (first | apply Kd.R_alloc | apply Kd.R_drewN | apply Kd.R_drew)); exact HO_3.out)); (case aS => exact (below_size (by repeat (first | (with_reducible first | exact HB.out | apply below_alloc | apply pw_below_drewN | apply below_drew1) | exact HB.out)))); (case aL => have := LMc5.out; omega); intro v185 w6 ho hb hg hat; rw [← Ny184.out] at ho; replace HB := Aside0.mk (hb); have HO186 := Aside0.mk (ho); clear HO_3; clear ho hb hg hat))
     go_roundg k1
     case measure => have := HK1.out; omega
     case rel => exact ⟨(y184), (wrap64 (x7_1 + 1)), (by first | rfl | (simp; done) | (simp [*]; done)), H', ⟨by have := HK1.out; omega⟩, ⟨by (with_reducible repeat (first | apply Kd.R_alloc | apply Kd.R_drewN | apply Kd.R_drew)); exact HO186.out⟩, ⟨by repeat (first | (with_reducible first | exact HB.out | apply below_alloc | apply pw_below_drewN | apply below_drew1) | exact HB.out)⟩⟩
    ·rw [if_neg c5] at H
     exact absurd H (by simp)
   ·rw [if_neg c4] at H
    have c4b0 : decide (x7_1 < a0) = false := decide_eq_false c4
    clear c4
    obtain rfl := Option.some.inj H
    go_wp2
    go_ret
    exact ⟨_, by first | rfl | (simp [*, errW_none, errW_some] <;> rfl), by (with_reducible repeat (first | apply Kd.R_alloc | apply Kd.R_drewN | apply Kd.R_drew)); exact HO_3.out, by repeat (first | (with_reducible first | exact HB.out | apply below_alloc | apply pw_below_drewN | apply below_drew1) | exact HB.out)⟩
end
section
theorem l00In_eq (a b c : Int) : spec_l00In.f a b c = some (decide (b ≤ a ∧ a ≤ c)) := by
  unfold spec_l00In.f
  by_cases h : a ≥ b
  · rw [if_pos h]; congr 1; rw [decide_eq_decide]; omega
  · rw [if_neg h]; congr 1; symm; rw [decide_eq_false_iff_not]; omega
theorem small5 {n : Int} (h0 : 0 ≤ n) (h5 : n ≤ 5) : n = 0 ∨ n = 1 ∨ n = 2 ∨ n = 3 ∨ n = 4 ∨ n = 5 := by omega
end
section
def firstI : Nat → List Int
  | 0 => []
  | n + 1 => firstI n ++ [(n : Int)]
theorem firstS_eq (n : Int) (h0 : 0 ≤ n) (h5 : n ≤ 5) (k : Nat) (hk : 40 ≤ k) : spec_l01First.f k n = some (firstI n.toNat) := by
  obtain ⟨k, rfl⟩ : ∃ m, k = m + 40 := ⟨k - 40, by omega⟩
  rcases small5 h0 h5 with rfl | rfl | rfl | rfl | rfl | rfl <;> kernel_rfl
end
section
theorem first_eq (n : Int) (h0 : 0 ≤ n) (h5 : n ≤ 5) (k : Nat) (hk : 40 ≤ k) : impl_first.f k n = some (firstI n.toNat) := by
  obtain ⟨k, rfl⟩ : ∃ m, k = m + 40 := ⟨k - 40, by omega⟩
  rcases small5 h0 h5 with rfl | rfl | rfl | rfl | rfl | rfl <;> kernel_rfl
end
end Go.Proofs.Ytcepbgffnneagaa.Q
end
