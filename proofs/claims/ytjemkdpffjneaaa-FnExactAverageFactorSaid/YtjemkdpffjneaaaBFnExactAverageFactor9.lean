/- Contracts of Go functions and plain lemmas over what they compute; printed by the kit's print program or written by hand, joined. -/
import Derived.Test.YtjemkdpffjneaaaBFnExactAverageFactor3
import Derived.Test.YtjemkdpffjneaaaBFnExactAverageFactor6
import Derived.Test.YtjemkdpffjneaaaBFnExactAverageFactor7
import Derived.Test.YtjemkdpffjneaaaBFnExactAverageFactor8
section
namespace Go.Proofs.Ytjemkdpffjneaaa.Q
open Go.RowKit Go.Proofs.YtjemkdpffjneaaaW.PrintWords Go.Proofs.YtjemkdpffjneaaaW.PrintLast Go.Proofs.YtjemkdpffjneaaaW.PrintMore
attribute [local go_sem] max2_int min2_int max_two min_two max_three min_three max_four min_four   -- for this text's walks alone
set_option linter.unusedVariables false
set_option linter.unusedSimpArgs false

attribute [local go_sem high] eqA35
def spec_l04Factor.l0 : Nat → List (List Int) → Int → Int → Int → Int → Int → Int → Int → Int → Option (Int × Int)
  | 0, _, _, _, _, _, _, _, _, _ => none
  | k + 1, x4, x5, x6, x909000, x909001, x909002, x914000, x914001, x914002 => if x6 < (x4.length : Int) then (if 0 ≤ x6 then ((spec_l03FlagOf.f k x909001 x909002 (rd_L3 x4 x6)).bind fun bt920 => ((spec_l03Least.f k bt920.1 bt920.2.1 bt920.2.2).bind fun bt923 => (if (bt923.1 == x914000 && ((bt923.2.1 == x914001 && (bt923.2.2 == x914002)))) = true then (spec_l04Factor.l0 k x4 (wrap64 (x5 + 1)) (wrap64 (x6 + 1)) x909000 x909001 x909002 x914000 x914001 x914002) else (spec_l04Factor.l0 k x4 x5 (wrap64 (x6 + 1)) x909000 x909001 x909002 x914000 x914001 x914002)))) else (none)) else ((spec_l04Ratio.f k x5 (x4.length : Int)).bind fun bt917 => (some (bt917.1, bt917.2)))
def spec_l04Factor.f (k : Nat) (a0_0 : Int) (a0_1 : Int) (a0_2 : Int) : Option (Int × Int) := (spec_l03Least.f k a0_0 a0_1 a0_2).bind fun bt910 => ((spec_l04Lists.f k a0_0 a0_1).bind fun t914 => (spec_l04Factor.l0 k t914 0 0 a0_0 a0_1 a0_2 bt910.1 bt910.2.1 bt910.2.2))
def spec_l04Factor.T7 : Bool × List (List Nat × List Nat) := (true, [([], []), ([0], [0]), ([], []), ([], []), ([2, 3], [2, 3]), ([4], [4]), ([1, 5], [1, 5]), ([6, 6], [6]), ([], []), ([7, 8], [7, 8])])
def spec_l04Factor.B7 : List Nat := [0, 1, 0, 0, 12, 28, 63, 127, 0, 511]
theorem spec_l04Factor.tab7 : rtab .any (opsOf Try.f105 7) = spec_l04Factor.T7 := by kernel_rfl
theorem spec_l04Factor.bits7 : waitsOk spec_l04Factor.T7.2 spec_l04Factor.B7 = true := by kernel_rfl
set_option maxHeartbeats 8000000 in
set_option maxRecDepth 100000 in
theorem spec_l04Factor.calls (k : Nat) (a0_0 : Int) (a0_1 : Int) (a0_2 : Int) (r1 : Int) (r2 : Int) (w : World) (h : spec_l04Factor.f k a0_0 a0_1 a0_2 = some (r1, r2)) :
    Calls Try.prog 105 #[.agg #[.int .i64 a0_0, .int .i64 a0_1, .int .u32 a0_2]] w fun e w' => e = .returned (.agg #[.int .i64 r1, .int .i64 r2]) ∧ Below w.heap.size w w' := by
  have hu35 := Try.underlying35
  have hu69 := Try.underlying69
  have hu33 := Try.underlying33
  have HB := Aside0.mk (Below.refl w.heap.size w)
  have H : ((spec_l03Least.f k a0_0 a0_1 a0_2).bind fun bt910 => ((spec_l04Lists.f k a0_0 a0_1).bind fun t914 => (spec_l04Factor.l0 k t914 0 0 a0_0 a0_1 a0_2 bt910.1 bt910.2.1 bt910.2.2))) = some (r1, r2) := h
  clear h
  replace H := Option.bind_eq_some_iff.mp H
  obtain ⟨⟨t910, t911, t912⟩, A20, H⟩ := H
  replace H : ((spec_l04Lists.f k a0_0 a0_1).bind fun t914 => (spec_l04Factor.l0 k t914 0 0 a0_0 a0_1 a0_2 t910 t911 t912)) = some (r1, r2) := H
  have A2 := Aside0.mk A20
  clear A20
  replace H := Option.bind_eq_some_iff.mp H
  obtain ⟨t914, A30, H⟩ := H
  replace H : (spec_l04Factor.l0 k t914 0 0 a0_0 a0_1 a0_2 t910 t911 t912) = some (r1, r2) := H
  have A3 := Aside0.mk A30
  clear A30
  have H' := Aside0.mk H
  clear H
  go_enter Try.func105, Try.ntmps105
  go_wp2_with (first | ((with_reducible refine gate_dst (N := 1) rfl ?_); refine box_event ?hg (N := 1) ?hd (cs := #[.int .i64 a0_0, .int .i64 a0_1, .int .u32 a0_2]) (t := 35) ?hr ?_; (case hd => rfl); (case hg => rfl); (case hr => first | (go_simp; done) | (go_simp; rfl)); intro gb908 hg w4 hbox hb; have n0_ := Aside0.mk (below_step (by repeat (first | (with_reducible first | exact HB.out | apply below_alloc | apply pw_below_drewN | apply below_drew1) | exact HB.out)) hb); have n1_ := Aside0.mk (hbox); have n2_ := Aside0.mk ((by rw [hg]; exact (below_size (by repeat (first | (with_reducible first | exact HB.out | apply below_alloc | apply pw_below_drewN | apply below_drew1) | exact HB.out))) : w.heap.size ≤ gb908)); have n3_ := Aside0.mk ((by rw [hg]; exact (below_size (by repeat (first | (with_reducible first | exact HB.out | apply below_alloc | apply pw_below_drewN | apply below_drew1) | exact HB.out))) : w.heap.size ≤ gb908)); clear HB; have HB := n0_; have BK908 := n1_; have GW908 := n2_; have GE908 := n3_; clear n0_ n1_ n2_ n3_; clear hb hbox hg) | ((with_reducible refine gate_dst (N := 2) rfl ?_); refine box_event ?hg (N := 2) ?hd (cs := #[.int .i64 0, .int .i64 0]) (t := 69) ?hr ?_; (case hd => rfl); (case hg => rfl); (case hr => first | (go_simp; done) | (go_simp; rfl)); intro gb909 hg w5 hbox hb; have n0_ := Aside0.mk (blk_below (g := gb908) (o := .cells #[.int .i64 a0_0, .int .i64 a0_1, .int .u32 a0_2] 35 (0, 0)) (by (with_reducible repeat (first | refine blk_drewN ?_ _ | refine blk_drew ?_ | refine blk_alloc ?_ _)); exact BK908.out) hb); have n1_ := Aside0.mk (below_step (by repeat (first | (with_reducible first | exact HB.out | apply below_alloc | apply pw_below_drewN | apply below_drew1 | refine below_set ?_ GE908.out) | exact HB.out)) hb); have n2_ := Aside0.mk (hbox); have n3_ := Aside0.mk ((by rw [hg]; exact (below_size (by repeat (first | (with_reducible first | exact HB.out | apply below_alloc | apply pw_below_drewN | apply below_drew1 | refine below_set ?_ GE908.out) | exact HB.out))) : w.heap.size ≤ gb909)); have n4_ := Aside0.mk ((by rw [hg]; exact (below_size (by repeat (first | (with_reducible first | exact HB.out | apply below_alloc | apply pw_below_drewN | apply below_drew1 | refine below_set ?_ GE908.out) | exact HB.out))) : w.heap.size ≤ gb909)); have n5_ := Aside0.mk ((by rw [hg]; exact Nat.ne_of_lt (blk_lt (g := gb908) (o := .cells #[.int .i64 a0_0, .int .i64 a0_1, .int .u32 a0_2] 35 (0, 0)) (by (with_reducible repeat (first | refine blk_drewN ?_ _ | refine blk_drew ?_ | refine blk_alloc ?_ _)); exact BK908.out)) : gb908 ≠ gb909)); have n6_ := Aside0.mk ((by rw [hg]; exact Nat.ne_of_gt (blk_lt (g := gb908) (o := .cells #[.int .i64 a0_0, .int .i64 a0_1, .int .u32 a0_2] 35 (0, 0)) (by (with_reducible repeat (first | refine blk_drewN ?_ _ | refine blk_drew ?_ | refine blk_alloc ?_ _)); exact BK908.out)) : gb909 ≠ gb908)); clear BK908; clear HB; have BK908 := n0_; have HB := n1_; have BK909 := n2_; have GW909 := n3_; have GE909 := n4_; have NB908_909 := n5_; have NB909_908 := n6_; clear n0_ n1_ n2_ n3_ n4_ n5_ n6_; clear hb hbox hg; have hnb6 := NB908_909.out; have hnc6 := NB909_908.out; have hcz7_0 : w5.cell? ⟨gb908, 0, none⟩ = some (.int .i64 a0_0) := (blk_cell BK908.out 0).trans rfl; have hcz7_1 : w5.cell? ⟨gb908, 1, none⟩ = some (.int .i64 a0_1) := (blk_cell BK908.out 1).trans rfl; have hcz7_2 : w5.cell? ⟨gb908, 2, none⟩ = some (.int .u32 a0_2) := (blk_cell BK908.out 2).trans rfl; have hfz7_0 := blk_frozen BK908.out 0; have hfz7_1 := blk_frozen BK908.out 1; have hfz7_2 := blk_frozen BK908.out 2) | ((with_reducible refine gate_callee (f := 69) rfl ?_); refine goesL_ (some 8) rfl rfl Try.func69 (by kernel_rfl) rfl #[.agg #[.int .i64 a0_0, .int .i64 a0_1, .int .u32 a0_2]] rfl (by (try simp only [List.map_toArray, List.map_cons, List.map_nil]); first | done | rfl | (simp only [List.length_drop, List.length_take]; rfl)) ?_; (with_reducible refine (spec_l03Least.calls k a0_0 a0_1 a0_2 t910 t911 t912 _ A2.out).mono ?_); rintro e w8 ⟨rfl, hb⟩; refine ⟨_, rfl, ?_⟩; have n0_ := Aside0.mk (blk_below (g := gb908) (o := .cells #[.int .i64 a0_0, .int .i64 a0_1, .int .u32 a0_2] 35 (0, 0)) (by (with_reducible repeat (first | refine blk_drewN ?_ _ | refine blk_drew ?_ | refine blk_alloc ?_ _)); exact BK908.out) hb); have n1_ := Aside0.mk (blk_below (g := gb909) (o := .cells #[.int .i64 0, .int .i64 0] 69 (0, 0)) (by (with_reducible repeat (first | refine blk_drewN ?_ _ | refine blk_drew ?_ | refine blk_alloc ?_ _)); exact BK909.out) hb); have n2_ := Aside0.mk (below_step (by repeat (first | (with_reducible first | exact HB.out | apply below_alloc | apply pw_below_drewN | apply below_drew1 | refine below_set ?_ GE908.out | refine below_set ?_ GE909.out) | exact HB.out)) hb); clear BK908; clear BK909; clear HB; have BK908 := n0_; have BK909 := n1_; have HB := n2_; clear n0_ n1_ n2_; (try clear hb); (try clear hb2); (try clear hk); (try clear hi)) | ((with_reducible refine gate_dst (N := 3) rfl ?_); refine box_event ?hg (N := 3) ?hd (cs := #[.int .i64 0, .int .i64 0, .int .u32 0]) (t := 35) ?hr ?_; (case hd => rfl); (case hg => rfl); (case hr => first | (go_simp; done) | (go_simp; rfl)); intro gb913 hg w9 hbox hb; have n0_ := Aside0.mk (blk_below (g := gb908) (o := .cells #[.int .i64 a0_0, .int .i64 a0_1, .int .u32 a0_2] 35 (0, 0)) (by (with_reducible repeat (first | refine blk_drewN ?_ _ | refine blk_drew ?_ | refine blk_alloc ?_ _)); exact BK908.out) hb); have n1_ := Aside0.mk (blk_below (g := gb909) (o := .cells #[.int .i64 0, .int .i64 0] 69 (0, 0)) (by (with_reducible repeat (first | refine blk_drewN ?_ _ | refine blk_drew ?_ | refine blk_alloc ?_ _)); exact BK909.out) hb); have n2_ := Aside0.mk (below_step (by repeat (first | (with_reducible first | exact HB.out | apply below_alloc | apply pw_below_drewN | apply below_drew1 | refine below_set ?_ GE908.out | refine below_set ?_ GE909.out) | exact HB.out)) hb); have n3_ := Aside0.mk (hbox); have n4_ := Aside0.mk ((by rw [hg]; exact (below_size (by repeat (first | (with_reducible first | exact HB.out | apply below_alloc | apply pw_below_drewN | apply below_drew1 | refine below_set ?_ GE908.out | refine below_set ?_ GE909.out) | exact HB.out))) : w.heap.size ≤ gb913)); have n5_ := Aside0.mk ((by rw [hg]; exact (below_size (by repeat (first | (with_reducible first | exact HB.out | apply below_alloc | apply pw_below_drewN | apply below_drew1 | refine below_set ?_ GE908.out | refine below_set ?_ GE909.out) | exact HB.out))) : w.heap.size ≤ gb913)); have n6_ := Aside0.mk ((by rw [hg]; exact Nat.ne_of_lt (blk_lt (g := gb908) (o := .cells #[.int .i64 a0_0, .int .i64 a0_1, .int .u32 a0_2] 35 (0, 0)) (by (with_reducible repeat (first | refine blk_drewN ?_ _ | refine blk_drew ?_ | refine blk_alloc ?_ _)); exact BK908.out)) : gb908 ≠ gb913)); have n7_ := Aside0.mk ((by rw [hg]; exact Nat.ne_of_gt (blk_lt (g := gb908) (o := .cells #[.int .i64 a0_0, .int .i64 a0_1, .int .u32 a0_2] 35 (0, 0)) (by (with_reducible repeat (first | refine blk_drewN ?_ _ | refine blk_drew ?_ | refine blk_alloc ?_ _)); exact BK908.out)) : gb913 ≠ gb908)); have n8_ := Aside0.mk ((by rw [hg]; exact Nat.ne_of_lt (blk_lt (g := gb909) (o := .cells #[.int .i64 0, .int .i64 0] 69 (0, 0)) (by (with_reducible repeat (first | refine blk_drewN ?_ _ | refine blk_drew ?_ | refine blk_alloc ?_ _)); exact BK909.out)) : gb909 ≠ gb913)); have n9_ := Aside0.mk ((by rw [hg]; exact Nat.ne_of_gt (blk_lt (g := gb909) (o := .cells #[.int .i64 0, .int .i64 0] 69 (0, 0)) (by (with_reducible repeat (first | refine blk_drewN ?_ _ | refine blk_drew ?_ | refine blk_alloc ?_ _)); exact BK909.out)) : gb913 ≠ gb909)); clear BK908; clear BK909; clear HB; have BK908 := n0_; have BK909 := n1_; have HB := n2_; have BK913 := n3_; have GW913 := n4_; have GE913 := n5_; have NB908_913 := n6_; have NB913_908 := n7_; have NB909_913 := n8_; have NB913_909 := n9_; clear n0_ n1_ n2_ n3_ n4_ n5_ n6_ n7_ n8_ n9_; clear hb hbox hg; have hnb10 := NB913_908.out; have hnc10 := NB908_913.out; have hnb11 := NB913_909.out; have hnc11 := NB909_913.out; have hcz12_0 : w9.cell? ⟨gb913, 0, none⟩ = some (.int .i64 0) := (blk_cell BK913.out 0).trans rfl; have hcz12_1 : w9.cell? ⟨gb913, 1, none⟩ = some (.int .i64 0) := (blk_cell BK913.out 1).trans rfl; have hcz12_2 : w9.cell? ⟨gb913, 2, none⟩ = some (.int .u32 0) := (blk_cell BK913.out 2).trans rfl; have hfz12_0 := blk_frozen BK913.out 0; have hfz12_1 := blk_frozen BK913.out 1; have hfz12_2 := blk_frozen BK913.out 2; have hcz13_0 : w9.cell? ⟨gb908, 0, none⟩ = some (.int .i64 a0_0) := (blk_cell BK908.out 0).trans rfl; have hcz13_1 : w9.cell? ⟨gb908, 1, none⟩ = some (.int .i64 a0_1) := (blk_cell BK908.out 1).trans rfl; have hcz13_2 : w9.cell? ⟨gb908, 2, none⟩ = some (.int .u32 a0_2) := (blk_cell BK908.out 2).trans rfl; have hfz13_0 := blk_frozen BK908.out 0; have hfz13_1 := blk_frozen BK908.out 1; have hfz13_2 := blk_frozen BK908.out 2) | ((with_reducible refine gate_callee (f := 137) rfl ?_); refine goesL_ (some 14) rfl rfl Try.func137 (by kernel_rfl) rfl #[.int .i64 a0_0, .int .i64 a0_1] rfl (by (try simp only [List.map_toArray, List.map_cons, List.map_nil]); first | done | rfl | (simp only [List.length_drop, List.length_take]; rfl)) ?_; (with_reducible refine (spec_l04Lists.calls k a0_0 a0_1 t914 _ A3.out).mono ?_); rintro e w14 ⟨v915, rfl, ho0, hb⟩; refine ⟨_, rfl, ?_⟩; have n0_ := Aside0.mk (Kd.N_lower (Kd.N_mono (ok' := fun k_ => k_ ≠ gb908 ∧ k_ ≠ gb909 ∧ k_ ≠ gb913) ho0 (fun k_ hk_ => ⟨(Kd.freshB (g := gb908) (o := .cells #[.int .i64 a0_0, .int .i64 a0_1, .int .u32 a0_2] 35 (0, 0)) (by (with_reducible repeat (first | refine blk_drewN ?_ _ | refine blk_drew ?_ | refine blk_alloc ?_ _)); refine blk_far ?_ NB908_913.out _; (with_reducible repeat (first | refine blk_drewN ?_ _ | refine blk_drew ?_ | refine blk_alloc ?_ _)); refine blk_far ?_ NB908_913.out _; (with_reducible repeat (first | refine blk_drewN ?_ _ | refine blk_drew ?_ | refine blk_alloc ?_ _)); refine blk_far ?_ NB908_913.out _; (with_reducible repeat (first | refine blk_drewN ?_ _ | refine blk_drew ?_ | refine blk_alloc ?_ _)); exact BK908.out) k_ hk_), (Kd.freshB (g := gb909) (o := .cells #[.int .i64 0, .int .i64 0] 69 (0, 0)) (by (with_reducible repeat (first | refine blk_drewN ?_ _ | refine blk_drew ?_ | refine blk_alloc ?_ _)); refine blk_far ?_ NB909_913.out _; (with_reducible repeat (first | refine blk_drewN ?_ _ | refine blk_drew ?_ | refine blk_alloc ?_ _)); refine blk_far ?_ NB909_913.out _; (with_reducible repeat (first | refine blk_drewN ?_ _ | refine blk_drew ?_ | refine blk_alloc ?_ _)); refine blk_far ?_ NB909_913.out _; (with_reducible repeat (first | refine blk_drewN ?_ _ | refine blk_drew ?_ | refine blk_alloc ?_ _)); exact BK909.out) k_ hk_), (Kd.freshB (g := gb913) (o := .cells #[.int .i64 t910, .int .i64 t911, .int .u32 t912] 35 (0, 0)) (by (with_reducible repeat (first | refine blk_drewN ?_ _ | refine blk_drew ?_ | refine blk_alloc ?_ _)); refine blk_put (cs := #[.int .i64 t910, .int .i64 t911, .int .u32 0]) ?_ 2 _ rfl; (with_reducible repeat (first | refine blk_drewN ?_ _ | refine blk_drew ?_ | refine blk_alloc ?_ _)); refine blk_put (cs := #[.int .i64 t910, .int .i64 0, .int .u32 0]) ?_ 1 _ rfl; (with_reducible repeat (first | refine blk_drewN ?_ _ | refine blk_drew ?_ | refine blk_alloc ?_ _)); refine blk_put (cs := #[.int .i64 0, .int .i64 0, .int .u32 0]) ?_ 0 _ rfl; (with_reducible repeat (first | refine blk_drewN ?_ _ | refine blk_drew ?_ | refine blk_alloc ?_ _)); exact BK913.out) k_ hk_)⟩)) (below_size (by repeat (first | (with_reducible first | exact HB.out | apply below_alloc | apply pw_below_drewN | apply below_drew1 | refine below_set ?_ GE908.out | refine below_set ?_ GE909.out | refine below_set ?_ GE913.out) | exact HB.out)))); have n1_ := Aside0.mk (blk_below (g := gb908) (o := .cells #[.int .i64 a0_0, .int .i64 a0_1, .int .u32 a0_2] 35 (0, 0)) (by (with_reducible repeat (first | refine blk_drewN ?_ _ | refine blk_drew ?_ | refine blk_alloc ?_ _)); refine blk_far ?_ NB908_913.out _; (with_reducible repeat (first | refine blk_drewN ?_ _ | refine blk_drew ?_ | refine blk_alloc ?_ _)); refine blk_far ?_ NB908_913.out _; (with_reducible repeat (first | refine blk_drewN ?_ _ | refine blk_drew ?_ | refine blk_alloc ?_ _)); refine blk_far ?_ NB908_913.out _; (with_reducible repeat (first | refine blk_drewN ?_ _ | refine blk_drew ?_ | refine blk_alloc ?_ _)); exact BK908.out) hb); have n2_ := Aside0.mk (blk_below (g := gb909) (o := .cells #[.int .i64 0, .int .i64 0] 69 (0, 0)) (by (with_reducible repeat (first | refine blk_drewN ?_ _ | refine blk_drew ?_ | refine blk_alloc ?_ _)); refine blk_far ?_ NB909_913.out _; (with_reducible repeat (first | refine blk_drewN ?_ _ | refine blk_drew ?_ | refine blk_alloc ?_ _)); refine blk_far ?_ NB909_913.out _; (with_reducible repeat (first | refine blk_drewN ?_ _ | refine blk_drew ?_ | refine blk_alloc ?_ _)); refine blk_far ?_ NB909_913.out _; (with_reducible repeat (first | refine blk_drewN ?_ _ | refine blk_drew ?_ | refine blk_alloc ?_ _)); exact BK909.out) hb); have n3_ := Aside0.mk (blk_below (g := gb913) (o := .cells #[.int .i64 t910, .int .i64 t911, .int .u32 t912] 35 (0, 0)) (by (with_reducible repeat (first | refine blk_drewN ?_ _ | refine blk_drew ?_ | refine blk_alloc ?_ _)); refine blk_put (cs := #[.int .i64 t910, .int .i64 t911, .int .u32 0]) ?_ 2 _ rfl; (with_reducible repeat (first | refine blk_drewN ?_ _ | refine blk_drew ?_ | refine blk_alloc ?_ _)); refine blk_put (cs := #[.int .i64 t910, .int .i64 0, .int .u32 0]) ?_ 1 _ rfl; (with_reducible repeat (first | refine blk_drewN ?_ _ | refine blk_drew ?_ | refine blk_alloc ?_ _)); refine blk_put (cs := #[.int .i64 0, .int .i64 0, .int .u32 0]) ?_ 0 _ rfl; (with_reducible repeat (first | refine blk_drewN ?_ _ | refine blk_drew ?_ | refine blk_alloc ?_ _)); exact BK913.out) hb); have n4_ := Aside0.mk (below_step (by repeat (first | (with_reducible first | exact HB.out | apply below_alloc | apply pw_below_drewN | apply below_drew1 | refine below_set ?_ GE908.out | refine below_set ?_ GE909.out | refine below_set ?_ GE913.out) | exact HB.out)) hb); clear BK908; clear BK909; clear BK913; clear HB; have HO916 := n0_; have BK908 := n1_; have BK909 := n2_; have BK913 := n3_; have HB := n4_; clear n0_ n1_ n2_ n3_ n4_; (try clear hb); (try clear hb2); (try clear hk); (try clear hi); (try clear ho0)))
  go_loopg [5, 6] k (fun kq v5 v6 w' => ∃ (x5_1 : Int) (x6_1 : Int), v5 = .int .i64 x5_1 ∧ v6 = .int .i64 x6_1 ∧ Aside0 (spec_l04Factor.l0 kq t914 x5_1 x6_1 a0_0 a0_1 a0_2 t910 t911 t912 = some (r1, r2)) ∧ Aside0 (kq ≤ k) ∧ Aside0 (Kd.N (Kd.slice 2 (Kd.int .i64)) 61 w' w.heap.size (fun k_ => k_ ≠ gb908 ∧ k_ ≠ gb909 ∧ k_ ≠ gb913) v915 t914) ∧ Aside0 (w'.heap[gb908]? = some (.cells #[.int .i64 a0_0, .int .i64 a0_1, .int .u32 a0_2] 35 (0, 0))) ∧ Aside0 (w'.heap[gb909]? = some (.cells #[.int .i64 0, .int .i64 0] 69 (0, 0))) ∧ Aside0 (w'.heap[gb913]? = some (.cells #[.int .i64 t910, .int .i64 t911, .int .u32 t912] 35 (0, 0))) ∧ Aside0 (Below w.heap.size w w'))
  case atStart => exact ⟨(0), (0), (by first | rfl | (simp; done) | (simp [*]; done)), (by first | rfl | (simp; done) | (simp [*]; done)), H', ⟨Nat.le_refl _⟩, ⟨by (with_reducible repeat (first | apply Kd.N_alloc | apply Kd.N_drewN | apply Kd.N_drew)); exact HO916.out⟩, ⟨by (with_reducible repeat (first | refine blk_drewN ?_ _ | refine blk_drew ?_ | refine blk_alloc ?_ _)); exact BK908.out⟩, ⟨by (with_reducible repeat (first | refine blk_drewN ?_ _ | refine blk_drew ?_ | refine blk_alloc ?_ _)); exact BK909.out⟩, ⟨by (with_reducible repeat (first | refine blk_drewN ?_ _ | refine blk_drew ?_ | refine blk_alloc ?_ _)); exact BK913.out⟩, ⟨by repeat (first | (with_reducible first | exact HB.out | apply below_alloc | apply pw_below_drewN | apply below_drew1 | refine below_set ?_ GE908.out | refine below_set ?_ GE909.out | refine below_set ?_ GE913.out) | exact HB.out)⟩⟩
  case round =>
    clear H'
    try clear c1
    try clear p2
    try clear c6
    try clear c10
    try clear c11
    try clear c13
    try clear hcz12_0
    try clear hcz12_1
    try clear hcz12_2
    try clear hcz13_0
    try clear hcz13_1
    try clear hcz13_2
    try clear hcz7_0
    try clear hcz7_1
    try clear hcz7_2
    try clear hfz12_0
    try clear hfz12_1
    try clear hfz12_2
    try clear hfz13_0
    try clear hfz13_1
    try clear hfz13_2
    try clear hfz7_0
    try clear hfz7_1
    try clear hfz7_2
    obtain ⟨x5_1, x6_1, rfl, rfl, HA, HK1, HO_4, BK908, BK909, BK913, HB⟩ := hrel
    cases gk with
    | zero => exact absurd HA.out (by simp [spec_l04Factor.l0])
    | succ k1 =>
      have H := HA.out
      clear HA
      simp only [spec_l04Factor.l0] at H
      by_cases c15 : x6_1 < (t914.length : Int)
      · rw [if_pos c15] at H
        have c15b0 : decide (x6_1 < (t914.length : Int)) = true := decide_eq_true c15
        clear c15
        by_cases c16 : 0 ≤ x6_1
        · rw [if_pos c16] at H
          have c16b0 : decide (0 ≤ x6_1) = true := decide_eq_true c16
          clear c16
          replace H := Option.bind_eq_some_iff.mp H
          obtain ⟨⟨t920, t921, t922⟩, A170, H⟩ := H
          replace H : ((spec_l03Least.f k1 t920 t921 t922).bind fun bt923 => (if (bt923.1 == t910 && ((bt923.2.1 == t911 && (bt923.2.2 == t912)))) = true then (spec_l04Factor.l0 k1 t914 (wrap64 (x5_1 + 1)) (wrap64 (x6_1 + 1)) a0_0 a0_1 a0_2 t910 t911 t912) else (spec_l04Factor.l0 k1 t914 x5_1 (wrap64 (x6_1 + 1)) a0_0 a0_1 a0_2 t910 t911 t912))) = some (r1, r2) := H
          have A17 := Aside0.mk A170
          clear A170
          replace H := Option.bind_eq_some_iff.mp H
          obtain ⟨⟨t923, t924, t925⟩, A180, H⟩ := H
          replace H : (if (t923 == t910 && ((t924 == t911 && (t925 == t912)))) = true then (spec_l04Factor.l0 k1 t914 (wrap64 (x5_1 + 1)) (wrap64 (x6_1 + 1)) a0_0 a0_1 a0_2 t910 t911 t912) else (spec_l04Factor.l0 k1 t914 x5_1 (wrap64 (x6_1 + 1)) a0_0 a0_1 a0_2 t910 t911 t912)) = some (r1, r2) := H
          have A18 := Aside0.mk A180
          clear A180
          by_cases c19 : (t923 == t910 && ((t924 == t911 && (t925 == t912)))) = true
          · rw [if_pos c19] at H
            have c19b0 : (t923 == t910 && ((t924 == t911 && (t925 == t912)))) = true := c19
            (try (have c19b1 : decide (t923 = t910 && ((t924 == t911 && (t925 == t912)))) = true := by simpa using c19))
            (try (have c19b2 : (t923 == t910 && ((t924 == t911 && (t925 == t912)))) = true := by simpa using c19))
            clear c19
            have H' := Aside0.mk H
            clear H
            obtain ⟨Ao20, co20, eo20⟩ := Kd.N_slice HO_4.out
            subst eo20
            try go_wp2
            have n0_ := Aside0.mk (Kd.N_drew HO_4.out)
            have n1_ := Aside0.mk (blk_drew BK908.out)
            have n2_ := Aside0.mk (blk_drew BK909.out)
            have n3_ := Aside0.mk (blk_drew BK913.out)
            have n4_ := Aside0.mk (below_drew1 HB.out)
            clear HO_4
            clear BK908
            clear BK909
            clear BK913
            clear HB
            have HO_4 := n0_
            have BK908 := n1_
            have BK909 := n2_
            have BK913 := n3_
            have HB := n4_
            clear n0_ n1_ n2_ n3_ n4_
            have p919 : 0 ≤ (x6_1 : Int) := of_decide_eq_true (by first | (with_reducible assumption) | assumption)
            have q919 : x6_1 < (t914.length : Int) := of_decide_eq_true (by first | (with_reducible assumption) | assumption)
            obtain ⟨ad919, A919_0, c919_0, e919, hx919_0, hl919_0, hi919_0⟩ := at_L3 (Kd.N_reads' HO_4.out).2.2 x6_1 p919 q919
            cases e919
            obtain ⟨ce919, hce919, hMe919, hcc919⟩ := Kd.N_get HO_4.out [] x6_1 p919 (by first | exact q919 | exact of_decide_eq_true (by first | (with_reducible assumption) | assumption) | (have e_ := (Kd.N_reads' HO_4.out).1; omega))
            obtain ⟨ua919_0, uc919_0, rfl, ul919_0, ge919_0⟩ := Kd.FK_slice_open hMe919
            have hv919_0 := hcc919 0 _ rfl
            rw [Nat.add_zero, show ((Kd.slice 2 (Kd.int .i64))).sz = 1 from rfl, Nat.mul_one] at hv919_0
            replace hv919_0 := Option.some.inj (hv919_0.symm.trans hx919_0)
            injection hv919_0 with hva_ hvn_ hvc_
            rw [hva_] at ge919_0
            rw [hvc_] at ul919_0
            have HL919_0 := Aside0.mk (show Kd.V (Kd.int .i64) 2 _ w.heap.size _ _ (rd_L3 t914 x6_1) from Kd.V_mk ul919_0 ge919_0)
            clear hva_ hvn_ hvc_ ge919_0 ul919_0
            clear hcc919 hce919
            have HR919_0 := Aside0.mk hi919_0
            have HC919_0 := Aside0.mk hl919_0
            clear hi919_0 hl919_0
            replace p919 := eq_true p919
            replace q919 := eq_true q919
            refine start_ (n := 10) (S := fun w' => w'.cell? ⟨gb908, 0, none⟩ = some (.int .i64 a0_0) ∧ w'.cell? ⟨gb908, 1, none⟩ = some (.int .i64 a0_1) ∧ w'.cell? ⟨gb908, 2, none⟩ = some (.int .u32 a0_2) ∧ w'.cell? ⟨gb913, 0, none⟩ = some (.int .i64 t910) ∧ w'.cell? ⟨gb913, 1, none⟩ = some (.int .i64 t911) ∧ w'.cell? ⟨gb913, 2, none⟩ = some (.int .u32 t912) ∧ w'.cell? (ad919.add (x6_1).toNat) = some (.slice A919_0 (rd_L3 t914 x6_1).length c919_0)) (ds := []) #[false, false, false, false, false, false, false, false, false, false] (by kernel_rfl) rfl rfl ⟨(blk_cell BK908.out 0).trans rfl, (blk_cell BK908.out 1).trans rfl, (blk_cell BK908.out 2).trans rfl, (blk_cell BK913.out 0).trans rfl, (blk_cell BK913.out 1).trans rfl, (blk_cell BK913.out 2).trans rfl, hx919_0⟩ (fun hHeld => ?_); refine with_tabW spec_l04Factor.tab7 spec_l04Factor.bits7 (fun HT_ HW_ => ?_)
            generalize wr.drew = w21 at HO_4 BK908 BK909 BK913 HB HL919_0 HR919_0 hx919_0 hHeld ⊢
            refine pure_ (i := 0) (N := some 21) (v := ?_) (a' := ?_) #[true, false, false, false, false, false, false, false, false, false] rfl rfl (any_of HT_.out (by kernel_rfl)) (fun _ _ _ h => h) (Or.inl ⟨by rfl, ?_⟩) ?_ ?_
            rotate_left
            · intro w'
              go_simp
              with_reducible rfl
            rotate_left
            · simp only [Act.put, List.setIfInBounds_toArray, List.set_cons_zero, List.set_cons_succ, i64_w, i32_w]
              rfl
            refine pure_ (i := 2) (N := some 23) (v := ?_) (a' := ?_) #[true, false, true, false, false, false, false, false, false, false] rfl rfl (any_of HT_.out (by kernel_rfl)) (fun _ _ _ h => h) (Or.inl ⟨by rfl, ?_⟩) ?_ ?_
            rotate_left
            · intro w'
              go_simp
              with_reducible rfl
            rotate_left
            · simp only [Act.put, List.setIfInBounds_toArray, List.set_cons_zero, List.set_cons_succ, i64_w, i32_w]
              rfl
            refine pure_ (i := 3) (N := some 24) (v := ?_) (a' := ?_) #[true, false, true, true, false, false, false, false, false, false] rfl rfl (any_of HT_.out (by kernel_rfl)) (fun _ _ _ h => h) (Or.inl ⟨by rfl, ?_⟩) ?_ ?_
            rotate_left
            · intro w'
              go_simp
              with_reducible rfl
            rotate_left
            · simp only [Act.put, List.setIfInBounds_toArray, List.set_cons_zero, List.set_cons_succ, i64_w, i32_w]
              rfl
            refine pure_ (i := 4) (N := some 25) (v := ?_) (a' := ?_) #[true, false, true, true, true, false, false, false, false, false] rfl rfl (any_of HT_.out (by kernel_rfl)) (fun _ _ _ h => h) (Or.inl ⟨by rfl, ?_⟩) ?_ ?_
            rotate_left
            · intro w'
              go_simp
              with_reducible rfl
            rotate_left
            · simp only [Act.put, List.setIfInBounds_toArray, List.set_cons_zero, List.set_cons_succ, i64_w, i32_w]
              rfl
            refine take_ (i := 1) (N := some 22) (v := ?_) (a' := ?_) #[true, true, true, true, true, false, false, false, false, false] rfl rfl (take_ofW HT_.out HW_.out (by kernel_rfl)) (fun _ _ _ h => h) (Or.inl ⟨by rfl, ?_⟩) hHeld ?_ ?_
            rotate_left
            · rintro w' ⟨s0, s1, s2, s3, s4, s5, s6⟩
              go_simp
              with_reducible rfl
            rotate_left
            · simp only [Act.put, List.setIfInBounds_toArray, List.set_cons_zero, List.set_cons_succ, i64_w, i32_w]
              rfl
            refine take_ (i := 5) (N := some 26) (v := ?_) (a' := ?_) #[true, true, true, true, true, true, false, false, false, false] rfl rfl (take_ofW HT_.out HW_.out (by kernel_rfl)) (fun _ _ _ h => h) (Or.inl ⟨by rfl, ?_⟩) hHeld ?_ ?_
            rotate_left
            · rintro w' ⟨s0, s1, s2, s3, s4, s5, s6⟩
              go_simp
              with_reducible rfl
            rotate_left
            · simp only [Act.put, List.setIfInBounds_toArray, List.set_cons_zero, List.set_cons_succ, i64_w, i32_w]
              rfl
            refine take_ (i := 8) (N := some 29) (v := ?_) (a' := ?_) #[true, true, true, true, true, true, false, false, true, false] rfl rfl (take_ofW HT_.out HW_.out (by kernel_rfl)) (fun _ _ _ h => h) (Or.inl ⟨by rfl, ?_⟩) hHeld ?_ ?_
            rotate_left
            · rintro w' ⟨s0, s1, s2, s3, s4, s5, s6⟩
              go_simp
              with_reducible rfl
            rotate_left
            · simp only [Act.put, List.setIfInBounds_toArray, List.set_cons_zero, List.set_cons_succ, i64_w, i32_w]
              rfl
            refine one_ (i := 6) (N := some 27) #[true, true, true, true, true, true, true, false, true, false] rfl rfl (one_of HT_.out (by kernel_rfl)) (by decide) (fun K hK => ?_)
            refine goes_ Try.func95 (by kernel_rfl) rfl #[.agg #[.int .i64 a0_1, .int .u32 a0_2], .slice A919_0 (rd_L3 t914 x6_1).length c919_0] (by rfl) rfl rfl (by (try simp only [List.map_toArray, List.map_cons, List.map_nil]); first | done | rfl | (simp only [List.length_drop, List.length_take]; rfl)) ?_
            with_reducible refine (spec_l03FlagOf.calls k1 a0_1 a0_2 _ _ (rd_L3 t914 x6_1) t920 t921 t922 _ ?side1 ?side2 A17.out).mono ?_
            (case side1 => repeat (first | exact (by repeat (first | (with_reducible exact HR919_0.out) | (with_reducible refine Kd.C_alloc ?_ _) | (with_reducible refine Kd.C_drewN ?_ _) | (with_reducible refine Kd.C_drew ?_) | exact HR919_0.out)) | (with_reducible refine Kd.C_alloc ?_ _) | (with_reducible refine Kd.C_drewN ?_ _) | (with_reducible refine Kd.C_drew ?_)))
            (case side2 => exact HC919_0.out)
            rintro e w22 ⟨rfl, hb⟩
            have HS6_ := (hb.cell (World.block_lt_of_cell? _ _ (hHeld.2.2.2.2.2.2))).trans (hHeld.2.2.2.2.2.2)
            refine ⟨_, rfl, ?_⟩
            have n0_ := Aside0.mk (Kd.N_below (by (with_reducible repeat (first | apply Kd.N_alloc | apply Kd.N_drewN | apply Kd.N_drew)); exact HO_4.out) hb)
            have n1_ := Aside0.mk (Kd.V_below (by (with_reducible repeat (first | apply Kd.V_alloc | apply Kd.V_drewN | apply Kd.V_drew)); exact HL919_0.out) hb)
            have n2_ := Aside0.mk (blk_below (g := gb908) (o := .cells #[.int .i64 a0_0, .int .i64 a0_1, .int .u32 a0_2] 35 (0, 0)) (by (with_reducible repeat (first | refine blk_drewN ?_ _ | refine blk_drew ?_ | refine blk_alloc ?_ _)); exact BK908.out) hb)
            have n3_ := Aside0.mk (blk_below (g := gb909) (o := .cells #[.int .i64 0, .int .i64 0] 69 (0, 0)) (by (with_reducible repeat (first | refine blk_drewN ?_ _ | refine blk_drew ?_ | refine blk_alloc ?_ _)); exact BK909.out) hb)
            have n4_ := Aside0.mk (blk_below (g := gb913) (o := .cells #[.int .i64 t910, .int .i64 t911, .int .u32 t912] 35 (0, 0)) (by (with_reducible repeat (first | refine blk_drewN ?_ _ | refine blk_drew ?_ | refine blk_alloc ?_ _)); exact BK913.out) hb)
            have n5_ := Aside0.mk (Kd.C_below (by repeat (first | (with_reducible exact HR919_0.out) | (with_reducible refine Kd.C_alloc ?_ _) | (with_reducible refine Kd.C_drewN ?_ _) | (with_reducible refine Kd.C_drew ?_) | exact HR919_0.out)) hb)
            have n6_ := Aside0.mk (below_step (by repeat (first | (with_reducible first | exact HB.out | apply below_alloc | apply pw_below_drewN | apply below_drew1 | refine below_set ?_ GE908.out | refine below_set ?_ GE909.out | refine below_set ?_ GE913.out) | exact HB.out)) hb)
            clear HO_4
            clear HL919_0
            clear BK908
            clear BK909
            clear BK913
            clear HR919_0
            clear HB
            have HO_4 := n0_
            have HL919_0 := n1_
            have BK908 := n2_
            have BK909 := n3_
            have BK913 := n4_
            have HR919_0 := n5_
            have HB := n6_
            clear n0_ n1_ n2_ n3_ n4_ n5_ n6_
            (try clear hb)
            (try clear hb2)
            (try clear hk)
            (try clear hi)
            refine hK.out _ _ ⟨(blk_cell BK908.out 0).trans rfl, (blk_cell BK908.out 1).trans rfl, (blk_cell BK908.out 2).trans rfl, (blk_cell BK913.out 0).trans rfl, (blk_cell BK913.out 1).trans rfl, (blk_cell BK913.out 2).trans rfl, HS6_⟩ (fun hHeld => ?_)
            clear hK K
            refine norm_ (a' := ?_) ?_ ?_
            rotate_left
            · show Act.put _ (some 27) _ = _
              simp only [Act.put, List.setIfInBounds_toArray, List.set_cons_zero, List.set_cons_succ, i64_w, i32_w]
              rfl
            refine one_ (i := 7) (N := some 28) #[true, true, true, true, true, true, true, true, true, false] rfl rfl (one_of HT_.out (by kernel_rfl)) (by decide) (fun K hK => ?_)
            refine goes_ Try.func69 (by kernel_rfl) rfl #[.agg #[.int .i64 t920, .int .i64 t921, .int .u32 t922]] (by rfl) rfl rfl (by (try simp only [List.map_toArray, List.map_cons, List.map_nil]); first | done | rfl | (simp only [List.length_drop, List.length_take]; rfl)) ?_
            with_reducible refine (spec_l03Least.calls k1 t920 t921 t922 t923 t924 t925 _ A18.out).mono ?_
            rintro e w23 ⟨rfl, hb⟩
            have HS6_ := (hb.cell (World.block_lt_of_cell? _ _ (hHeld.2.2.2.2.2.2))).trans (hHeld.2.2.2.2.2.2)
            refine ⟨_, rfl, ?_⟩
            have n0_ := Aside0.mk (Kd.N_below (by (with_reducible repeat (first | apply Kd.N_alloc | apply Kd.N_drewN | apply Kd.N_drew)); exact HO_4.out) hb)
            have n1_ := Aside0.mk (Kd.V_below (by (with_reducible repeat (first | apply Kd.V_alloc | apply Kd.V_drewN | apply Kd.V_drew)); exact HL919_0.out) hb)
            have n2_ := Aside0.mk (blk_below (g := gb908) (o := .cells #[.int .i64 a0_0, .int .i64 a0_1, .int .u32 a0_2] 35 (0, 0)) (by (with_reducible repeat (first | refine blk_drewN ?_ _ | refine blk_drew ?_ | refine blk_alloc ?_ _)); exact BK908.out) hb)
            have n3_ := Aside0.mk (blk_below (g := gb909) (o := .cells #[.int .i64 0, .int .i64 0] 69 (0, 0)) (by (with_reducible repeat (first | refine blk_drewN ?_ _ | refine blk_drew ?_ | refine blk_alloc ?_ _)); exact BK909.out) hb)
            have n4_ := Aside0.mk (blk_below (g := gb913) (o := .cells #[.int .i64 t910, .int .i64 t911, .int .u32 t912] 35 (0, 0)) (by (with_reducible repeat (first | refine blk_drewN ?_ _ | refine blk_drew ?_ | refine blk_alloc ?_ _)); exact BK913.out) hb)
            have n5_ := Aside0.mk (Kd.C_below (by repeat (first | (with_reducible exact HR919_0.out) | (with_reducible refine Kd.C_alloc ?_ _) | (with_reducible refine Kd.C_drewN ?_ _) | (with_reducible refine Kd.C_drew ?_) | exact HR919_0.out)) hb)
            have n6_ := Aside0.mk (below_step (by repeat (first | (with_reducible first | exact HB.out | apply below_alloc | apply pw_below_drewN | apply below_drew1 | refine below_set ?_ GE908.out | refine below_set ?_ GE909.out | refine below_set ?_ GE913.out) | exact HB.out)) hb)
            clear HO_4
            clear HL919_0
            clear BK908
            clear BK909
            clear BK913
            clear HR919_0
            clear HB
            have HO_4 := n0_
            have HL919_0 := n1_
            have BK908 := n2_
            have BK909 := n3_
            have BK913 := n4_
            have HR919_0 := n5_
            have HB := n6_
            clear n0_ n1_ n2_ n3_ n4_ n5_ n6_
            (try clear hb)
            (try clear hb2)
            (try clear hk)
            (try clear hi)
            refine hK.out _ _ ⟨(blk_cell BK908.out 0).trans rfl, (blk_cell BK908.out 1).trans rfl, (blk_cell BK908.out 2).trans rfl, (blk_cell BK913.out 0).trans rfl, (blk_cell BK913.out 1).trans rfl, (blk_cell BK913.out 2).trans rfl, HS6_⟩ (fun hHeld => ?_)
            clear hK K
            refine norm_ (a' := ?_) ?_ ?_
            rotate_left
            · show Act.put _ (some 28) _ = _
              simp only [Act.put, List.setIfInBounds_toArray, List.set_cons_zero, List.set_cons_succ, i64_w, i32_w]
              rfl
            refine pure_ (i := 9) (N := some 30) (v := ?_) (a' := ?_) #[true, true, true, true, true, true, true, true, true, true] rfl rfl (any_of HT_.out (by kernel_rfl)) (fun _ _ _ h => h) (Or.inl ⟨by rfl, ?_⟩) ?_ ?_
            rotate_left
            · intro w'
              go_simp
              with_reducible rfl
            rotate_left
            · simp only [Act.put, List.setIfInBounds_toArray, List.set_cons_zero, List.set_cons_succ, i64_w, i32_w]
              rfl
            refine done_ (done_of HT_.out (by kernel_rfl)) ?_
            try go_wp2
            go_roundg k1
            case measure => have := HK1.out; omega
            case rel => exact ⟨(wrap64 (x5_1 + 1)), (wrap64 (x6_1 + 1)), (by first | rfl | (simp; done) | (simp [*]; done)), (by first | rfl | (simp; done) | (simp [*]; done)), H', ⟨by have := HK1.out; omega⟩, ⟨by (with_reducible repeat (first | apply Kd.N_alloc | apply Kd.N_drewN | apply Kd.N_drew)); exact HO_4.out⟩, ⟨by (with_reducible repeat (first | refine blk_drewN ?_ _ | refine blk_drew ?_ | refine blk_alloc ?_ _)); exact BK908.out⟩, ⟨by (with_reducible repeat (first | refine blk_drewN ?_ _ | refine blk_drew ?_ | refine blk_alloc ?_ _)); exact BK909.out⟩, ⟨by (with_reducible repeat (first | refine blk_drewN ?_ _ | refine blk_drew ?_ | refine blk_alloc ?_ _)); exact BK913.out⟩, ⟨by repeat (first | (with_reducible first | exact HB.out | apply below_alloc | apply pw_below_drewN | apply below_drew1 | refine below_set ?_ GE908.out | refine below_set ?_ GE909.out | refine below_set ?_ GE913.out) | exact HB.out)⟩⟩
          · rw [if_neg c19] at H
            have c19b0 : (t923 == t910 && ((t924 == t911 && (t925 == t912)))) = false := by simpa using c19
            (try (have c19b1 : decide (t923 = t910 && ((t924 == t911 && (t925 == t912)))) = false := by simpa using c19))
            (try (have c19b2 : (t923 == t910 && ((t924 == t911 && (t925 == t912)))) = false := by simpa using c19))
            (try (have c19b3 : ¬ (t923 = t910 && ((t924 == t911 && (t925 == t912)))) := by simpa using c19))
            clear c19
            have H' := Aside0.mk H
            clear H
            obtain ⟨Ao24, co24, eo24⟩ := Kd.N_slice HO_4.out
            subst eo24
            try go_wp2
            have n0_ := Aside0.mk (Kd.N_drew HO_4.out)
            have n1_ := Aside0.mk (blk_drew BK908.out)
            have n2_ := Aside0.mk (blk_drew BK909.out)
            have n3_ := Aside0.mk (blk_drew BK913.out)
            have n4_ := Aside0.mk (below_drew1 HB.out)
            clear HO_4
            clear BK908
            clear BK909
            clear BK913
            clear HB
            have HO_4 := n0_
            have BK908 := n1_
            have BK909 := n2_
            have BK913 := n3_
            have HB := n4_
            clear n0_ n1_ n2_ n3_ n4_
            have p919 : 0 ≤ (x6_1 : Int) := of_decide_eq_true (by first | (with_reducible assumption) | assumption)
            have q919 : x6_1 < (t914.length : Int) := of_decide_eq_true (by first | (with_reducible assumption) | assumption)
            obtain ⟨ad919, A919_0, c919_0, e919, hx919_0, hl919_0, hi919_0⟩ := at_L3 (Kd.N_reads' HO_4.out).2.2 x6_1 p919 q919
            cases e919
            obtain ⟨ce919, hce919, hMe919, hcc919⟩ := Kd.N_get HO_4.out [] x6_1 p919 (by first | exact q919 | exact of_decide_eq_true (by first | (with_reducible assumption) | assumption) | (have e_ := (Kd.N_reads' HO_4.out).1; omega))
            obtain ⟨ua919_0, uc919_0, rfl, ul919_0, ge919_0⟩ := Kd.FK_slice_open hMe919
            have hv919_0 := hcc919 0 _ rfl
            rw [Nat.add_zero, show ((Kd.slice 2 (Kd.int .i64))).sz = 1 from rfl, Nat.mul_one] at hv919_0
            replace hv919_0 := Option.some.inj (hv919_0.symm.trans hx919_0)
            injection hv919_0 with hva_ hvn_ hvc_
            rw [hva_] at ge919_0
            rw [hvc_] at ul919_0
            have HL919_0 := Aside0.mk (show Kd.V (Kd.int .i64) 2 _ w.heap.size _ _ (rd_L3 t914 x6_1) from Kd.V_mk ul919_0 ge919_0)
            clear hva_ hvn_ hvc_ ge919_0 ul919_0
            clear hcc919 hce919
            have HR919_0 := Aside0.mk hi919_0
            have HC919_0 := Aside0.mk hl919_0
            clear hi919_0 hl919_0
            replace p919 := eq_true p919
            replace q919 := eq_true q919
            refine start_ (n := 10) (S := fun w' => w'.cell? ⟨gb908, 0, none⟩ = some (.int .i64 a0_0) ∧ w'.cell? ⟨gb908, 1, none⟩ = some (.int .i64 a0_1) ∧ w'.cell? ⟨gb908, 2, none⟩ = some (.int .u32 a0_2) ∧ w'.cell? ⟨gb913, 0, none⟩ = some (.int .i64 t910) ∧ w'.cell? ⟨gb913, 1, none⟩ = some (.int .i64 t911) ∧ w'.cell? ⟨gb913, 2, none⟩ = some (.int .u32 t912) ∧ w'.cell? (ad919.add (x6_1).toNat) = some (.slice A919_0 (rd_L3 t914 x6_1).length c919_0)) (ds := []) #[false, false, false, false, false, false, false, false, false, false] (by kernel_rfl) rfl rfl ⟨(blk_cell BK908.out 0).trans rfl, (blk_cell BK908.out 1).trans rfl, (blk_cell BK908.out 2).trans rfl, (blk_cell BK913.out 0).trans rfl, (blk_cell BK913.out 1).trans rfl, (blk_cell BK913.out 2).trans rfl, hx919_0⟩ (fun hHeld => ?_); refine with_tabW spec_l04Factor.tab7 spec_l04Factor.bits7 (fun HT_ HW_ => ?_)
            generalize wr.drew = w25 at HO_4 BK908 BK909 BK913 HB HL919_0 HR919_0 hx919_0 hHeld ⊢
            refine pure_ (i := 0) (N := some 21) (v := ?_) (a' := ?_) #[true, false, false, false, false, false, false, false, false, false] rfl rfl (any_of HT_.out (by kernel_rfl)) (fun _ _ _ h => h) (Or.inl ⟨by rfl, ?_⟩) ?_ ?_
            rotate_left
            · intro w'
              go_simp
              with_reducible rfl
            rotate_left
            · simp only [Act.put, List.setIfInBounds_toArray, List.set_cons_zero, List.set_cons_succ, i64_w, i32_w]
              rfl
            refine pure_ (i := 2) (N := some 23) (v := ?_) (a' := ?_) #[true, false, true, false, false, false, false, false, false, false] rfl rfl (any_of HT_.out (by kernel_rfl)) (fun _ _ _ h => h) (Or.inl ⟨by rfl, ?_⟩) ?_ ?_
            rotate_left
            · intro w'
              go_simp
              with_reducible rfl
            rotate_left
            · simp only [Act.put, List.setIfInBounds_toArray, List.set_cons_zero, List.set_cons_succ, i64_w, i32_w]
              rfl
            refine pure_ (i := 3) (N := some 24) (v := ?_) (a' := ?_) #[true, false, true, true, false, false, false, false, false, false] rfl rfl (any_of HT_.out (by kernel_rfl)) (fun _ _ _ h => h) (Or.inl ⟨by rfl, ?_⟩) ?_ ?_
            rotate_left
            · intro w'
              go_simp
              with_reducible rfl
            rotate_left
            · simp only [Act.put, List.setIfInBounds_toArray, List.set_cons_zero, List.set_cons_succ, i64_w, i32_w]
              rfl
            refine pure_ (i := 4) (N := some 25) (v := ?_) (a' := ?_) #[true, false, true, true, true, false, false, false, false, false] rfl rfl (any_of HT_.out (by kernel_rfl)) (fun _ _ _ h => h) (Or.inl ⟨by rfl, ?_⟩) ?_ ?_
            rotate_left
            · intro w'
              go_simp
              with_reducible rfl
            rotate_left
            · simp only [Act.put, List.setIfInBounds_toArray, List.set_cons_zero, List.set_cons_succ, i64_w, i32_w]
              rfl
            refine take_ (i := 1) (N := some 22) (v := ?_) (a' := ?_) #[true, true, true, true, true, false, false, false, false, false] rfl rfl (take_ofW HT_.out HW_.out (by kernel_rfl)) (fun _ _ _ h => h) (Or.inl ⟨by rfl, ?_⟩) hHeld ?_ ?_
            rotate_left
            · rintro w' ⟨s0, s1, s2, s3, s4, s5, s6⟩
              go_simp
              with_reducible rfl
            rotate_left
            · simp only [Act.put, List.setIfInBounds_toArray, List.set_cons_zero, List.set_cons_succ, i64_w, i32_w]
              rfl
            refine take_ (i := 5) (N := some 26) (v := ?_) (a' := ?_) #[true, true, true, true, true, true, false, false, false, false] rfl rfl (take_ofW HT_.out HW_.out (by kernel_rfl)) (fun _ _ _ h => h) (Or.inl ⟨by rfl, ?_⟩) hHeld ?_ ?_
            rotate_left
            · rintro w' ⟨s0, s1, s2, s3, s4, s5, s6⟩
              go_simp
              with_reducible rfl
            rotate_left
            · simp only [Act.put, List.setIfInBounds_toArray, List.set_cons_zero, List.set_cons_succ, i64_w, i32_w]
              rfl
            refine take_ (i := 8) (N := some 29) (v := ?_) (a' := ?_) #[true, true, true, true, true, true, false, false, true, false] rfl rfl (take_ofW HT_.out HW_.out (by kernel_rfl)) (fun _ _ _ h => h) (Or.inl ⟨by rfl, ?_⟩) hHeld ?_ ?_
            rotate_left
            · rintro w' ⟨s0, s1, s2, s3, s4, s5, s6⟩
              go_simp
              with_reducible rfl
            rotate_left
            · simp only [Act.put, List.setIfInBounds_toArray, List.set_cons_zero, List.set_cons_succ, i64_w, i32_w]
              rfl
            refine one_ (i := 6) (N := some 27) #[true, true, true, true, true, true, true, false, true, false] rfl rfl (one_of HT_.out (by kernel_rfl)) (by decide) (fun K hK => ?_)
            refine goes_ Try.func95 (by kernel_rfl) rfl #[.agg #[.int .i64 a0_1, .int .u32 a0_2], .slice A919_0 (rd_L3 t914 x6_1).length c919_0] (by rfl) rfl rfl (by (try simp only [List.map_toArray, List.map_cons, List.map_nil]); first | done | rfl | (simp only [List.length_drop, List.length_take]; rfl)) ?_
            with_reducible refine (spec_l03FlagOf.calls k1 a0_1 a0_2 _ _ (rd_L3 t914 x6_1) t920 t921 t922 _ ?side1 ?side2 A17.out).mono ?_
            (case side1 => repeat (first | exact (by repeat (first | (with_reducible exact HR919_0.out) | (with_reducible refine Kd.C_alloc ?_ _) | (with_reducible refine Kd.C_drewN ?_ _) | (with_reducible refine Kd.C_drew ?_) | exact HR919_0.out)) | (with_reducible refine Kd.C_alloc ?_ _) | (with_reducible refine Kd.C_drewN ?_ _) | (with_reducible refine Kd.C_drew ?_)))
            (case side2 => exact HC919_0.out)
            rintro e w26 ⟨rfl, hb⟩
            have HS6_ := (hb.cell (World.block_lt_of_cell? _ _ (hHeld.2.2.2.2.2.2))).trans (hHeld.2.2.2.2.2.2)
            refine ⟨_, rfl, ?_⟩
            have n0_ := Aside0.mk (Kd.N_below (by (with_reducible repeat (first | apply Kd.N_alloc | apply Kd.N_drewN | apply Kd.N_drew)); exact HO_4.out) hb)
            have n1_ := Aside0.mk (Kd.V_below (by (with_reducible repeat (first | apply Kd.V_alloc | apply Kd.V_drewN | apply Kd.V_drew)); exact HL919_0.out) hb)
            have n2_ := Aside0.mk (blk_below (g := gb908) (o := .cells #[.int .i64 a0_0, .int .i64 a0_1, .int .u32 a0_2] 35 (0, 0)) (by (with_reducible repeat (first | refine blk_drewN ?_ _ | refine blk_drew ?_ | refine blk_alloc ?_ _)); exact BK908.out) hb)
            have n3_ := Aside0.mk (blk_below (g := gb909) (o := .cells #[.int .i64 0, .int .i64 0] 69 (0, 0)) (by (with_reducible repeat (first | refine blk_drewN ?_ _ | refine blk_drew ?_ | refine blk_alloc ?_ _)); exact BK909.out) hb)
            have n4_ := Aside0.mk (blk_below (g := gb913) (o := .cells #[.int .i64 t910, .int .i64 t911, .int .u32 t912] 35 (0, 0)) (by (with_reducible repeat (first | refine blk_drewN ?_ _ | refine blk_drew ?_ | refine blk_alloc ?_ _)); exact BK913.out) hb)
            have n5_ := Aside0.mk (Kd.C_below (by repeat (first | (with_reducible exact HR919_0.out) | (with_reducible refine Kd.C_alloc ?_ _) | (with_reducible refine Kd.C_drewN ?_ _) | (with_reducible refine Kd.C_drew ?_) | exact HR919_0.out)) hb)
            have n6_ := Aside0.mk (below_step (by repeat (first | (with_reducible first | exact HB.out | apply below_alloc | apply pw_below_drewN | apply below_drew1 | refine below_set ?_ GE908.out | refine below_set ?_ GE909.out | refine below_set ?_ GE913.out) | exact HB.out)) hb)
            clear HO_4
            clear HL919_0
            clear BK908
            clear BK909
            clear BK913
            clear HR919_0
            clear HB
            have HO_4 := n0_
            have HL919_0 := n1_
            have BK908 := n2_
            have BK909 := n3_
            have BK913 := n4_
            have HR919_0 := n5_
            have HB := n6_
            clear n0_ n1_ n2_ n3_ n4_ n5_ n6_
            (try clear hb)
            (try clear hb2)
            (try clear hk)
            (try clear hi)
            refine hK.out _ _ ⟨(blk_cell BK908.out 0).trans rfl, (blk_cell BK908.out 1).trans rfl, (blk_cell BK908.out 2).trans rfl, (blk_cell BK913.out 0).trans rfl, (blk_cell BK913.out 1).trans rfl, (blk_cell BK913.out 2).trans rfl, HS6_⟩ (fun hHeld => ?_)
            clear hK K
            refine norm_ (a' := ?_) ?_ ?_
            rotate_left
            · show Act.put _ (some 27) _ = _
              simp only [Act.put, List.setIfInBounds_toArray, List.set_cons_zero, List.set_cons_succ, i64_w, i32_w]
              rfl
            refine one_ (i := 7) (N := some 28) #[true, true, true, true, true, true, true, true, true, false] rfl rfl (one_of HT_.out (by kernel_rfl)) (by decide) (fun K hK => ?_)
            refine goes_ Try.func69 (by kernel_rfl) rfl #[.agg #[.int .i64 t920, .int .i64 t921, .int .u32 t922]] (by rfl) rfl rfl (by (try simp only [List.map_toArray, List.map_cons, List.map_nil]); first | done | rfl | (simp only [List.length_drop, List.length_take]; rfl)) ?_
            with_reducible refine (spec_l03Least.calls k1 t920 t921 t922 t923 t924 t925 _ A18.out).mono ?_
            rintro e w27 ⟨rfl, hb⟩
            have HS6_ := (hb.cell (World.block_lt_of_cell? _ _ (hHeld.2.2.2.2.2.2))).trans (hHeld.2.2.2.2.2.2)
            refine ⟨_, rfl, ?_⟩
            have n0_ := Aside0.mk (Kd.N_below (by (with_reducible repeat (first | apply Kd.N_alloc | apply Kd.N_drewN | apply Kd.N_drew)); exact HO_4.out) hb)
            have n1_ := Aside0.mk (Kd.V_below (by (with_reducible repeat (first | apply Kd.V_alloc | apply Kd.V_drewN | apply Kd.V_drew)); exact HL919_0.out) hb)
            have n2_ := Aside0.mk (blk_below (g := gb908) (o := .cells #[.int .i64 a0_0, .int .i64 a0_1, .int .u32 a0_2] 35 (0, 0)) (by (with_reducible repeat (first | refine blk_drewN ?_ _ | refine blk_drew ?_ | refine blk_alloc ?_ _)); exact BK908.out) hb)
            have n3_ := Aside0.mk (blk_below (g := gb909) (o := .cells #[.int .i64 0, .int .i64 0] 69 (0, 0)) (by (with_reducible repeat (first | refine blk_drewN ?_ _ | refine blk_drew ?_ | refine blk_alloc ?_ _)); exact BK909.out) hb)
            have n4_ := Aside0.mk (blk_below (g := gb913) (o := .cells #[.int .i64 t910, .int .i64 t911, .int .u32 t912] 35 (0, 0)) (by (with_reducible repeat (first | refine blk_drewN ?_ _ | refine blk_drew ?_ | refine blk_alloc ?_ _)); exact BK913.out) hb)
            have n5_ := Aside0.mk (Kd.C_below (by repeat (first | (with_reducible exact HR919_0.out) | (with_reducible refine Kd.C_alloc ?_ _) | (with_reducible refine Kd.C_drewN ?_ _) | (with_reducible refine Kd.C_drew ?_) | exact HR919_0.out)) hb)
            have n6_ := Aside0.mk (below_step (by repeat (first | (with_reducible first | exact HB.out | apply below_alloc | apply pw_below_drewN | apply below_drew1 | refine below_set ?_ GE908.out | refine below_set ?_ GE909.out | refine below_set ?_ GE913.out) | exact HB.out)) hb)
            clear HO_4
            clear HL919_0
            clear BK908
            clear BK909
            clear BK913
            clear HR919_0
            clear HB
            have HO_4 := n0_
            have HL919_0 := n1_
            have BK908 := n2_
            have BK909 := n3_
            have BK913 := n4_
            have HR919_0 := n5_
            have HB := n6_
            clear n0_ n1_ n2_ n3_ n4_ n5_ n6_
            (try clear hb)
            (try clear hb2)
            (try clear hk)
            (try clear hi)
            refine hK.out _ _ ⟨(blk_cell BK908.out 0).trans rfl, (blk_cell BK908.out 1).trans rfl, (blk_cell BK908.out 2).trans rfl, (blk_cell BK913.out 0).trans rfl, (blk_cell BK913.out 1).trans rfl, (blk_cell BK913.out 2).trans rfl, HS6_⟩ (fun hHeld => ?_)
            clear hK K
            refine norm_ (a' := ?_) ?_ ?_
            rotate_left
            · show Act.put _ (some 28) _ = _
              simp only [Act.put, List.setIfInBounds_toArray, List.set_cons_zero, List.set_cons_succ, i64_w, i32_w]
              rfl
            refine pure_ (i := 9) (N := some 30) (v := ?_) (a' := ?_) #[true, true, true, true, true, true, true, true, true, true] rfl rfl (any_of HT_.out (by kernel_rfl)) (fun _ _ _ h => h) (Or.inl ⟨by rfl, ?_⟩) ?_ ?_
            rotate_left
            · intro w'
              go_simp
              with_reducible rfl
            rotate_left
            · simp only [Act.put, List.setIfInBounds_toArray, List.set_cons_zero, List.set_cons_succ, i64_w, i32_w]
              rfl
            refine done_ (done_of HT_.out (by kernel_rfl)) ?_
            try go_wp2
            go_roundg k1
            case measure => have := HK1.out; omega
            case rel => exact ⟨(x5_1), (wrap64 (x6_1 + 1)), (by first | rfl | (simp; done) | (simp [*]; done)), (by first | rfl | (simp; done) | (simp [*]; done)), H', ⟨by have := HK1.out; omega⟩, ⟨by (with_reducible repeat (first | apply Kd.N_alloc | apply Kd.N_drewN | apply Kd.N_drew)); exact HO_4.out⟩, ⟨by (with_reducible repeat (first | refine blk_drewN ?_ _ | refine blk_drew ?_ | refine blk_alloc ?_ _)); exact BK908.out⟩, ⟨by (with_reducible repeat (first | refine blk_drewN ?_ _ | refine blk_drew ?_ | refine blk_alloc ?_ _)); exact BK909.out⟩, ⟨by (with_reducible repeat (first | refine blk_drewN ?_ _ | refine blk_drew ?_ | refine blk_alloc ?_ _)); exact BK913.out⟩, ⟨by repeat (first | (with_reducible first | exact HB.out | apply below_alloc | apply pw_below_drewN | apply below_drew1 | refine below_set ?_ GE908.out | refine below_set ?_ GE909.out | refine below_set ?_ GE913.out) | exact HB.out)⟩⟩
        · rw [if_neg c16] at H
          exact absurd H (by simp)
      · rw [if_neg c15] at H
        have c15b0 : decide (x6_1 < (t914.length : Int)) = false := decide_eq_false c15
        clear c15
        replace H := Option.bind_eq_some_iff.mp H
        obtain ⟨⟨t917, t918⟩, A280, H⟩ := H
        replace H : (some (t917, t918)) = some (r1, r2) := H
        have A28 := Aside0.mk A280
        clear A280
        simp only [Option.some.injEq, Prod.mk.injEq] at H
        obtain ⟨rfl, rfl⟩ := H
        obtain ⟨Ao29, co29, eo29⟩ := Kd.N_slice HO_4.out
        subst eo29
        go_wp2_with (first | ((with_reducible refine gate_callee (f := 138) rfl ?_); refine goesL_ (some 36) rfl rfl Try.func138 (by kernel_rfl) rfl #[.int .i64 x5_1, .int .i64 (t914.length : Int)] rfl (by (try simp only [List.map_toArray, List.map_cons, List.map_nil]); first | done | rfl | (simp only [List.length_drop, List.length_take]; rfl)) ?_; (with_reducible refine (spec_l04Ratio.calls k1 x5_1 (t914.length : Int) t917 t918 _ A28.out).mono ?_); rintro e w30 ⟨rfl, hb⟩; refine ⟨_, rfl, ?_⟩; have n0_ := Aside0.mk (Kd.N_below (by (with_reducible repeat (first | apply Kd.N_alloc | apply Kd.N_drewN | apply Kd.N_drew)); exact HO_4.out) hb); have n1_ := Aside0.mk (blk_below (g := gb908) (o := .cells #[.int .i64 a0_0, .int .i64 a0_1, .int .u32 a0_2] 35 (0, 0)) (by (with_reducible repeat (first | refine blk_drewN ?_ _ | refine blk_drew ?_ | refine blk_alloc ?_ _)); exact BK908.out) hb); have n2_ := Aside0.mk (blk_below (g := gb909) (o := .cells #[.int .i64 0, .int .i64 0] 69 (0, 0)) (by (with_reducible repeat (first | refine blk_drewN ?_ _ | refine blk_drew ?_ | refine blk_alloc ?_ _)); exact BK909.out) hb); have n3_ := Aside0.mk (blk_below (g := gb913) (o := .cells #[.int .i64 t910, .int .i64 t911, .int .u32 t912] 35 (0, 0)) (by (with_reducible repeat (first | refine blk_drewN ?_ _ | refine blk_drew ?_ | refine blk_alloc ?_ _)); exact BK913.out) hb); have n4_ := Aside0.mk (below_step (by repeat (first | (with_reducible first | exact HB.out | apply below_alloc | apply pw_below_drewN | apply below_drew1 | refine below_set ?_ GE908.out | refine below_set ?_ GE909.out | refine below_set ?_ GE913.out) | exact HB.out)) hb); clear HO_4; clear BK908; clear BK909; clear BK913; clear HB; have HO_4 := n0_; have BK908 := n1_; have BK909 := n2_; have BK913 := n3_; have HB := n4_; clear n0_ n1_ n2_ n3_ n4_; (try clear hb); (try clear hb2); (try clear hk); (try clear hi); have hnb31 := NB909_908.out; have hnc31 := NB908_909.out; have hnb32 := NB909_913.out; have hnc32 := NB913_909.out; have hcz33_0 : w30.cell? ⟨gb909, 0, none⟩ = some (.int .i64 0) := (blk_cell BK909.out 0).trans rfl; have hcz33_1 : w30.cell? ⟨gb909, 1, none⟩ = some (.int .i64 0) := (blk_cell BK909.out 1).trans rfl; have hfz33_0 := blk_frozen BK909.out 0; have hfz33_1 := blk_frozen BK909.out 1))
        refine bodyPost_ret (results_cell_row rfl _ _ gb909 69 #[.int .i64 t917, .int .i64 t918] (0, 0) _ rfl (by (with_reducible repeat (first | refine blk_drewN ?_ _ | refine blk_drew ?_ | refine blk_alloc ?_ _)); refine blk_put (cs := #[.int .i64 t917, .int .i64 0]) ?_ 1 _ rfl; (with_reducible repeat (first | refine blk_drewN ?_ _ | refine blk_drew ?_ | refine blk_alloc ?_ _)); refine blk_put (cs := #[.int .i64 0, .int .i64 0]) ?_ 0 _ rfl; (with_reducible repeat (first | refine blk_drewN ?_ _ | refine blk_drew ?_ | refine blk_alloc ?_ _)); exact BK909.out) Try.underlying69 rfl (by kernel_rfl)) rfl ?_
        exact ⟨by first | rfl | (simp [errW_none, errW_some] <;> rfl) | (simp [*, errW_none, errW_some] <;> rfl), by repeat (first | (with_reducible first | exact HB.out | apply below_alloc | apply pw_below_drewN | apply below_drew1 | refine below_set ?_ GE908.out | refine below_set ?_ GE909.out | refine below_set ?_ GE913.out) | exact HB.out)⟩

end Go.Proofs.Ytjemkdpffjneaaa.Q
end

section
namespace Go.Proofs.Ytjemkdpffjneaaa.Q
open Go.RowKit Go.Proofs.YtjemkdpffjneaaaW.PrintWords Go.Proofs.YtjemkdpffjneaaaW.PrintLast Go.Proofs.YtjemkdpffjneaaaW.PrintMore
attribute [local go_sem] max2_int min2_int max_two min_two max_three min_three max_four min_four   -- for this text's walks alone
set_option linter.unusedVariables false
set_option linter.unusedSimpArgs false

def spec_AverageFactor.f (k : Nat) (a0_0 : Int) (a0_1 : Int) (a0_2 : Int) : Option (Int × Int × Int) := (spec_l03Ok.f a0_0 a0_1 a0_2).bind fun t928 => (if t928 = true then ((spec_l04Factor.f k a0_0 a0_1 a0_2).bind fun bt929 => (some (bt929.1, bt929.2, 0))) else (some (0, 0, 1)))
set_option maxHeartbeats 8000000 in
set_option maxRecDepth 100000 in
theorem spec_AverageFactor.calls (k : Nat) (a0_0 : Int) (a0_1 : Int) (a0_2 : Int) (r1 : Int) (r2 : Int) (r3 : Int) (w : World) (h : spec_AverageFactor.f k a0_0 a0_1 a0_2 = some (r1, r2, r3)) :
    Calls Try.prog 50 #[.agg #[.int .i64 a0_0, .int .i64 a0_1, .int .u32 a0_2]] w fun e w' => e = .returned (.tuple #[.agg #[.int .i64 r1, .int .i64 r2], .int .i64 r3]) ∧ Below w.heap.size w w' := by
  have hu35 := Try.underlying35
  have hu69 := Try.underlying69
  have HB := Aside0.mk (Below.refl w.heap.size w)
  have H : ((spec_l03Ok.f a0_0 a0_1 a0_2).bind fun t928 => (if t928 = true then ((spec_l04Factor.f k a0_0 a0_1 a0_2).bind fun bt929 => (some (bt929.1, bt929.2, 0))) else (some (0, 0, 1)))) = some (r1, r2, r3) := h
  clear h
  replace H := Option.bind_eq_some_iff.mp H
  obtain ⟨t928, A20, H⟩ := H
  replace H : (if t928 = true then ((spec_l04Factor.f k a0_0 a0_1 a0_2).bind fun bt929 => (some (bt929.1, bt929.2, 0))) else (some (0, 0, 1))) = some (r1, r2, r3) := H
  have A2 := Aside0.mk A20
  clear A20
  by_cases c3 : t928 = true
  · subst c3
    have H1 : ((spec_l04Factor.f k a0_0 a0_1 a0_2).bind fun bt929 => (some (bt929.1, bt929.2, 0))) = some (r1, r2, r3) := by rw [if_pos rfl] at H; exact H
    clear H
    have H := H1
    clear H1
    replace H := Option.bind_eq_some_iff.mp H
    obtain ⟨⟨t929, t930⟩, A40, H⟩ := H
    replace H : (some (t929, t930, 0)) = some (r1, r2, r3) := H
    have A4 := Aside0.mk A40
    clear A40
    simp only [Option.some.injEq, Prod.mk.injEq] at H
    obtain ⟨rfl, rfl, rfl⟩ := H
    go_enter Try.func50, Try.ntmps50
    go_wp2_with (first | ((with_reducible refine gate_dst (N := 1) rfl ?_); refine box_event ?hg (N := 1) ?hd (cs := #[.int .i64 a0_0, .int .i64 a0_1, .int .u32 a0_2]) (t := 35) ?hr ?_; (case hd => rfl); (case hg => rfl); (case hr => first | (go_simp; done) | (go_simp; rfl)); intro gb926 hg w5 hbox hb; have n0_ := Aside0.mk (below_step (by repeat (first | (with_reducible first | exact HB.out | apply below_alloc | apply pw_below_drewN | apply below_drew1) | exact HB.out)) hb); have n1_ := Aside0.mk (hbox); have n2_ := Aside0.mk ((by rw [hg]; exact (below_size (by repeat (first | (with_reducible first | exact HB.out | apply below_alloc | apply pw_below_drewN | apply below_drew1) | exact HB.out))) : w.heap.size ≤ gb926)); have n3_ := Aside0.mk ((by rw [hg]; exact (below_size (by repeat (first | (with_reducible first | exact HB.out | apply below_alloc | apply pw_below_drewN | apply below_drew1) | exact HB.out))) : w.heap.size ≤ gb926)); clear HB; have HB := n0_; have BK926 := n1_; have GW926 := n2_; have GE926 := n3_; clear n0_ n1_ n2_ n3_; clear hb hbox hg) | ((with_reducible refine gate_dst (N := 2) rfl ?_); refine box_event ?hg (N := 2) ?hd (cs := #[.int .i64 0, .int .i64 0]) (t := 69) ?hr ?_; (case hd => rfl); (case hg => rfl); (case hr => first | (go_simp; done) | (go_simp; rfl)); intro gb927 hg w6 hbox hb; have n0_ := Aside0.mk (blk_below (g := gb926) (o := .cells #[.int .i64 a0_0, .int .i64 a0_1, .int .u32 a0_2] 35 (0, 0)) (by (with_reducible repeat (first | refine blk_drewN ?_ _ | refine blk_drew ?_ | refine blk_alloc ?_ _)); exact BK926.out) hb); have n1_ := Aside0.mk (below_step (by repeat (first | (with_reducible first | exact HB.out | apply below_alloc | apply pw_below_drewN | apply below_drew1 | refine below_set ?_ GE926.out) | exact HB.out)) hb); have n2_ := Aside0.mk (hbox); have n3_ := Aside0.mk ((by rw [hg]; exact (below_size (by repeat (first | (with_reducible first | exact HB.out | apply below_alloc | apply pw_below_drewN | apply below_drew1 | refine below_set ?_ GE926.out) | exact HB.out))) : w.heap.size ≤ gb927)); have n4_ := Aside0.mk ((by rw [hg]; exact (below_size (by repeat (first | (with_reducible first | exact HB.out | apply below_alloc | apply pw_below_drewN | apply below_drew1 | refine below_set ?_ GE926.out) | exact HB.out))) : w.heap.size ≤ gb927)); have n5_ := Aside0.mk ((by rw [hg]; exact Nat.ne_of_lt (blk_lt (g := gb926) (o := .cells #[.int .i64 a0_0, .int .i64 a0_1, .int .u32 a0_2] 35 (0, 0)) (by (with_reducible repeat (first | refine blk_drewN ?_ _ | refine blk_drew ?_ | refine blk_alloc ?_ _)); exact BK926.out)) : gb926 ≠ gb927)); have n6_ := Aside0.mk ((by rw [hg]; exact Nat.ne_of_gt (blk_lt (g := gb926) (o := .cells #[.int .i64 a0_0, .int .i64 a0_1, .int .u32 a0_2] 35 (0, 0)) (by (with_reducible repeat (first | refine blk_drewN ?_ _ | refine blk_drew ?_ | refine blk_alloc ?_ _)); exact BK926.out)) : gb927 ≠ gb926)); clear BK926; clear HB; have BK926 := n0_; have HB := n1_; have BK927 := n2_; have GW927 := n3_; have GE927 := n4_; have NB926_927 := n5_; have NB927_926 := n6_; clear n0_ n1_ n2_ n3_ n4_ n5_ n6_; clear hb hbox hg; have hnb7 := NB926_927.out; have hnc7 := NB927_926.out; have hcz8_0 : w6.cell? ⟨gb926, 0, none⟩ = some (.int .i64 a0_0) := (blk_cell BK926.out 0).trans rfl; have hcz8_1 : w6.cell? ⟨gb926, 1, none⟩ = some (.int .i64 a0_1) := (blk_cell BK926.out 1).trans rfl; have hcz8_2 : w6.cell? ⟨gb926, 2, none⟩ = some (.int .u32 a0_2) := (blk_cell BK926.out 2).trans rfl; have hfz8_0 := blk_frozen BK926.out 0; have hfz8_1 := blk_frozen BK926.out 1; have hfz8_2 := blk_frozen BK926.out 2) | ((with_reducible refine gate_callee (f := 68) rfl ?_); refine goesL_ (some 5) rfl rfl Try.func68 (by kernel_rfl) rfl #[.agg #[.int .i64 a0_0, .int .i64 a0_1, .int .u32 a0_2]] rfl (by (try simp only [List.map_toArray, List.map_cons, List.map_nil]); first | done | rfl | (simp only [List.length_drop, List.length_take]; rfl)) ?_; (with_reducible refine (spec_l03Ok.calls a0_0 a0_1 a0_2 true _ A2.out).mono ?_); rintro e w9 ⟨rfl, hb⟩; refine ⟨_, rfl, ?_⟩; have n0_ := Aside0.mk (blk_below (g := gb926) (o := .cells #[.int .i64 a0_0, .int .i64 a0_1, .int .u32 a0_2] 35 (0, 0)) (by (with_reducible repeat (first | refine blk_drewN ?_ _ | refine blk_drew ?_ | refine blk_alloc ?_ _)); exact BK926.out) hb); have n1_ := Aside0.mk (blk_below (g := gb927) (o := .cells #[.int .i64 0, .int .i64 0] 69 (0, 0)) (by (with_reducible repeat (first | refine blk_drewN ?_ _ | refine blk_drew ?_ | refine blk_alloc ?_ _)); exact BK927.out) hb); have n2_ := Aside0.mk (below_step (by repeat (first | (with_reducible first | exact HB.out | apply below_alloc | apply pw_below_drewN | apply below_drew1 | refine below_set ?_ GE926.out | refine below_set ?_ GE927.out) | exact HB.out)) hb); clear BK926; clear BK927; clear HB; have BK926 := n0_; have BK927 := n1_; have HB := n2_; clear n0_ n1_ n2_; (try clear hb); (try clear hb2); (try clear hk); (try clear hi); have hcz10_0 : w9.cell? ⟨gb926, 0, none⟩ = some (.int .i64 a0_0) := (blk_cell BK926.out 0).trans rfl; have hcz10_1 : w9.cell? ⟨gb926, 1, none⟩ = some (.int .i64 a0_1) := (blk_cell BK926.out 1).trans rfl; have hcz10_2 : w9.cell? ⟨gb926, 2, none⟩ = some (.int .u32 a0_2) := (blk_cell BK926.out 2).trans rfl; have hfz10_0 := blk_frozen BK926.out 0; have hfz10_1 := blk_frozen BK926.out 1; have hfz10_2 := blk_frozen BK926.out 2) | ((with_reducible refine gate_callee (f := 105) rfl ?_); refine goesL_ (some 9) rfl rfl Try.func105 (by kernel_rfl) rfl #[.agg #[.int .i64 a0_0, .int .i64 a0_1, .int .u32 a0_2]] rfl (by (try simp only [List.map_toArray, List.map_cons, List.map_nil]); first | done | rfl | (simp only [List.length_drop, List.length_take]; rfl)) ?_; (with_reducible refine (spec_l04Factor.calls k a0_0 a0_1 a0_2 t929 t930 _ A4.out).mono ?_); rintro e w11 ⟨rfl, hb⟩; refine ⟨_, rfl, ?_⟩; have n0_ := Aside0.mk (blk_below (g := gb926) (o := .cells #[.int .i64 a0_0, .int .i64 a0_1, .int .u32 a0_2] 35 (0, 0)) (by (with_reducible repeat (first | refine blk_drewN ?_ _ | refine blk_drew ?_ | refine blk_alloc ?_ _)); exact BK926.out) hb); have n1_ := Aside0.mk (blk_below (g := gb927) (o := .cells #[.int .i64 0, .int .i64 0] 69 (0, 0)) (by (with_reducible repeat (first | refine blk_drewN ?_ _ | refine blk_drew ?_ | refine blk_alloc ?_ _)); exact BK927.out) hb); have n2_ := Aside0.mk (below_step (by repeat (first | (with_reducible first | exact HB.out | apply below_alloc | apply pw_below_drewN | apply below_drew1 | refine below_set ?_ GE926.out | refine below_set ?_ GE927.out) | exact HB.out)) hb); clear BK926; clear BK927; clear HB; have BK926 := n0_; have BK927 := n1_; have HB := n2_; clear n0_ n1_ n2_; (try clear hb); (try clear hb2); (try clear hk); (try clear hi); have hcz12_0 : w11.cell? ⟨gb927, 0, none⟩ = some (.int .i64 0) := (blk_cell BK927.out 0).trans rfl; have hcz12_1 : w11.cell? ⟨gb927, 1, none⟩ = some (.int .i64 0) := (blk_cell BK927.out 1).trans rfl; have hfz12_0 := blk_frozen BK927.out 0; have hfz12_1 := blk_frozen BK927.out 1))
    refine bodyPost_ret (results_ct rfl _ _ gb927 69 #[.int .i64 t929, .int .i64 t930] (0, 0) _ rfl (by (with_reducible repeat (first | refine blk_drewN ?_ _ | refine blk_drew ?_ | refine blk_alloc ?_ _)); refine blk_put (cs := #[.int .i64 t929, .int .i64 0]) ?_ 1 _ rfl; (with_reducible repeat (first | refine blk_drewN ?_ _ | refine blk_drew ?_ | refine blk_alloc ?_ _)); refine blk_put (cs := #[.int .i64 0, .int .i64 0]) ?_ 0 _ rfl; (with_reducible repeat (first | refine blk_drewN ?_ _ | refine blk_drew ?_ | refine blk_alloc ?_ _)); exact BK927.out) Try.underlying69 rfl (by kernel_rfl)) rfl ?_
    exact ⟨by first | rfl | (simp [errW_none, errW_some] <;> rfl) | (simp [*, errW_none, errW_some] <;> rfl), by repeat (first | (with_reducible first | exact HB.out | apply below_alloc | apply pw_below_drewN | apply below_drew1 | refine below_set ?_ GE926.out | refine below_set ?_ GE927.out) | exact HB.out)⟩
  · replace c3 := Bool.eq_false_iff.mpr c3
    subst c3
    have H1 : (some (0, 0, 1)) = some (r1, r2, r3) := by rw [if_neg (show ¬ (false = true) by decide)] at H; exact H
    clear H
    have H := H1
    clear H1
    simp only [Option.some.injEq, Prod.mk.injEq] at H
    obtain ⟨rfl, rfl, rfl⟩ := H
    go_enter Try.func50, Try.ntmps50
    go_wp2_with (first | ((with_reducible refine gate_dst (N := 1) rfl ?_); refine box_event ?hg (N := 1) ?hd (cs := #[.int .i64 a0_0, .int .i64 a0_1, .int .u32 a0_2]) (t := 35) ?hr ?_; (case hd => rfl); (case hg => rfl); (case hr => first | (go_simp; done) | (go_simp; rfl)); intro gb926 hg w13 hbox hb; have n0_ := Aside0.mk (below_step (by repeat (first | (with_reducible first | exact HB.out | apply below_alloc | apply pw_below_drewN | apply below_drew1) | exact HB.out)) hb); have n1_ := Aside0.mk (hbox); have n2_ := Aside0.mk ((by rw [hg]; exact (below_size (by repeat (first | (with_reducible first | exact HB.out | apply below_alloc | apply pw_below_drewN | apply below_drew1) | exact HB.out))) : w.heap.size ≤ gb926)); have n3_ := Aside0.mk ((by rw [hg]; exact (below_size (by repeat (first | (with_reducible first | exact HB.out | apply below_alloc | apply pw_below_drewN | apply below_drew1) | exact HB.out))) : w.heap.size ≤ gb926)); clear HB; have HB := n0_; have BK926 := n1_; have GW926 := n2_; have GE926 := n3_; clear n0_ n1_ n2_ n3_; clear hb hbox hg) | ((with_reducible refine gate_dst (N := 2) rfl ?_); refine box_event ?hg (N := 2) ?hd (cs := #[.int .i64 0, .int .i64 0]) (t := 69) ?hr ?_; (case hd => rfl); (case hg => rfl); (case hr => first | (go_simp; done) | (go_simp; rfl)); intro gb927 hg w14 hbox hb; have n0_ := Aside0.mk (blk_below (g := gb926) (o := .cells #[.int .i64 a0_0, .int .i64 a0_1, .int .u32 a0_2] 35 (0, 0)) (by (with_reducible repeat (first | refine blk_drewN ?_ _ | refine blk_drew ?_ | refine blk_alloc ?_ _)); exact BK926.out) hb); have n1_ := Aside0.mk (below_step (by repeat (first | (with_reducible first | exact HB.out | apply below_alloc | apply pw_below_drewN | apply below_drew1 | refine below_set ?_ GE926.out) | exact HB.out)) hb); have n2_ := Aside0.mk (hbox); have n3_ := Aside0.mk ((by rw [hg]; exact (below_size (by repeat (first | (with_reducible first | exact HB.out | apply below_alloc | apply pw_below_drewN | apply below_drew1 | refine below_set ?_ GE926.out) | exact HB.out))) : w.heap.size ≤ gb927)); have n4_ := Aside0.mk ((by rw [hg]; exact (below_size (by repeat (first | (with_reducible first | exact HB.out | apply below_alloc | apply pw_below_drewN | apply below_drew1 | refine below_set ?_ GE926.out) | exact HB.out))) : w.heap.size ≤ gb927)); have n5_ := Aside0.mk ((by rw [hg]; exact Nat.ne_of_lt (blk_lt (g := gb926) (o := .cells #[.int .i64 a0_0, .int .i64 a0_1, .int .u32 a0_2] 35 (0, 0)) (by (with_reducible repeat (first | refine blk_drewN ?_ _ | refine blk_drew ?_ | refine blk_alloc ?_ _)); exact BK926.out)) : gb926 ≠ gb927)); have n6_ := Aside0.mk ((by rw [hg]; exact Nat.ne_of_gt (blk_lt (g := gb926) (o := .cells #[.int .i64 a0_0, .int .i64 a0_1, .int .u32 a0_2] 35 (0, 0)) (by (with_reducible repeat (first | refine blk_drewN ?_ _ | refine blk_drew ?_ | refine blk_alloc ?_ _)); exact BK926.out)) : gb927 ≠ gb926)); clear BK926; clear HB; have BK926 := n0_; have HB := n1_; have BK927 := n2_; have GW927 := n3_; have GE927 := n4_; have NB926_927 := n5_; have NB927_926 := n6_; clear n0_ n1_ n2_ n3_ n4_ n5_ n6_; clear hb hbox hg; have hnb15 := NB926_927.out; have hnc15 := NB927_926.out; have hcz16_0 : w14.cell? ⟨gb926, 0, none⟩ = some (.int .i64 a0_0) := (blk_cell BK926.out 0).trans rfl; have hcz16_1 : w14.cell? ⟨gb926, 1, none⟩ = some (.int .i64 a0_1) := (blk_cell BK926.out 1).trans rfl; have hcz16_2 : w14.cell? ⟨gb926, 2, none⟩ = some (.int .u32 a0_2) := (blk_cell BK926.out 2).trans rfl; have hfz16_0 := blk_frozen BK926.out 0; have hfz16_1 := blk_frozen BK926.out 1; have hfz16_2 := blk_frozen BK926.out 2) | ((with_reducible refine gate_callee (f := 68) rfl ?_); refine goesL_ (some 5) rfl rfl Try.func68 (by kernel_rfl) rfl #[.agg #[.int .i64 a0_0, .int .i64 a0_1, .int .u32 a0_2]] rfl (by (try simp only [List.map_toArray, List.map_cons, List.map_nil]); first | done | rfl | (simp only [List.length_drop, List.length_take]; rfl)) ?_; (with_reducible refine (spec_l03Ok.calls a0_0 a0_1 a0_2 false _ A2.out).mono ?_); rintro e w17 ⟨rfl, hb⟩; refine ⟨_, rfl, ?_⟩; have n0_ := Aside0.mk (blk_below (g := gb926) (o := .cells #[.int .i64 a0_0, .int .i64 a0_1, .int .u32 a0_2] 35 (0, 0)) (by (with_reducible repeat (first | refine blk_drewN ?_ _ | refine blk_drew ?_ | refine blk_alloc ?_ _)); exact BK926.out) hb); have n1_ := Aside0.mk (blk_below (g := gb927) (o := .cells #[.int .i64 0, .int .i64 0] 69 (0, 0)) (by (with_reducible repeat (first | refine blk_drewN ?_ _ | refine blk_drew ?_ | refine blk_alloc ?_ _)); exact BK927.out) hb); have n2_ := Aside0.mk (below_step (by repeat (first | (with_reducible first | exact HB.out | apply below_alloc | apply pw_below_drewN | apply below_drew1 | refine below_set ?_ GE926.out | refine below_set ?_ GE927.out) | exact HB.out)) hb); clear BK926; clear BK927; clear HB; have BK926 := n0_; have BK927 := n1_; have HB := n2_; clear n0_ n1_ n2_; (try clear hb); (try clear hb2); (try clear hk); (try clear hi); have hcz18_0 : w17.cell? ⟨gb927, 0, none⟩ = some (.int .i64 0) := (blk_cell BK927.out 0).trans rfl; have hcz18_1 : w17.cell? ⟨gb927, 1, none⟩ = some (.int .i64 0) := (blk_cell BK927.out 1).trans rfl; have hfz18_0 := blk_frozen BK927.out 0; have hfz18_1 := blk_frozen BK927.out 1))
    refine bodyPost_ret (results_ct rfl _ _ gb927 69 #[.int .i64 0, .int .i64 0] (0, 0) _ rfl (by (with_reducible repeat (first | refine blk_drewN ?_ _ | refine blk_drew ?_ | refine blk_alloc ?_ _)); refine blk_put (cs := #[.int .i64 0, .int .i64 0]) ?_ 1 _ rfl; (with_reducible repeat (first | refine blk_drewN ?_ _ | refine blk_drew ?_ | refine blk_alloc ?_ _)); refine blk_put (cs := #[.int .i64 0, .int .i64 0]) ?_ 0 _ rfl; (with_reducible repeat (first | refine blk_drewN ?_ _ | refine blk_drew ?_ | refine blk_alloc ?_ _)); exact BK927.out) Try.underlying69 rfl (by kernel_rfl)) rfl ?_
    exact ⟨by first | rfl | (simp [errW_none, errW_some] <;> rfl) | (simp [*, errW_none, errW_some] <;> rfl), by repeat (first | (with_reducible first | exact HB.out | apply below_alloc | apply pw_below_drewN | apply below_drew1 | refine below_set ?_ GE926.out | refine below_set ?_ GE927.out) | exact HB.out)⟩

end Go.Proofs.Ytjemkdpffjneaaa.Q
end

section
namespace Go.Proofs.Ytjemkdpffjneaaa.Q
open Go.RowKit Go.Proofs.YtjemkdpffjneaaaW.PrintWords Go.Proofs.YtjemkdpffjneaaaW.PrintLast Go.Proofs.YtjemkdpffjneaaaW.PrintMore
attribute [local go_sem] max2_int min2_int max_two min_two max_three min_three max_four min_four   -- for this text's walks alone
set_option linter.unusedVariables false
set_option linter.unusedSimpArgs false

def impl_in.f (a0 : Int) (a1 : Int) (a2 : Int) : Option (Bool) := if a0 ≥ a1 then (some (decide (a0 ≤ a2))) else (some false)
set_option maxHeartbeats 8000000 in
set_option maxRecDepth 100000 in
theorem impl_in.calls (a0 : Int) (a1 : Int) (a2 : Int) (r : Bool) (w : World) (h : impl_in.f a0 a1 a2 = some r) :
    Calls Try.prog 71 #[.int .i64 a0, .int .i64 a1, .int .i64 a2] w fun e w' => e = .returned (.bool r) ∧ Drawn0 w w' := by
  have H : (if a0 ≥ a1 then (some (decide (a0 ≤ a2))) else (some false)) = some r := h
  clear h
  by_cases c4 : a0 ≥ a1
  · rw [if_pos c4] at H
    have c4b0 : decide (a1 ≤ a0) = true := decide_eq_true c4
    clear c4
    obtain rfl := Option.some.inj H
    go_enter Try.func71, Try.ntmps71
    go_wp2
    go_ret
    exact ⟨by first | rfl | (simp; done) | (simp [*]; done), by repeat (first | exact Drawn0.refl _ | apply Drawn0.step)⟩
  · rw [if_neg c4] at H
    have c4b0 : decide (a1 ≤ a0) = false := decide_eq_false c4
    clear c4
    obtain rfl := Option.some.inj H
    go_enter Try.func71, Try.ntmps71
    go_wp2
    go_ret
    exact ⟨by first | rfl | (simp; done) | (simp [*]; done), by repeat (first | exact Drawn0.refl _ | apply Drawn0.step)⟩

end Go.Proofs.Ytjemkdpffjneaaa.Q
end

section
namespace Go.Proofs.Ytjemkdpffjneaaa.Q
open Go.RowKit Go.Proofs.YtjemkdpffjneaaaW.PrintWords Go.Proofs.YtjemkdpffjneaaaW.PrintLast Go.Proofs.YtjemkdpffjneaaaW.PrintMore
attribute [local go_sem] max2_int min2_int max_two min_two max_three min_three max_four min_four   -- for this text's walks alone
set_option linter.unusedVariables false
set_option linter.unusedSimpArgs false

def impl_pairs.f (a0 : Int) : Option (Int) := some (wrap64 (Int.tdiv (wrap64 (a0 * (wrap64 (a0 - 1)))) 2))
set_option maxHeartbeats 8000000 in
set_option maxRecDepth 100000 in
theorem impl_pairs.calls (a0 : Int) (r : Int) (w : World) (h : impl_pairs.f a0 = some r) :
    Calls Try.prog 84 #[.int .i64 a0] w fun e w' => e = .returned (.int .i64 r) ∧ Drawn0 w w' := by
  have H : (some (wrap64 (Int.tdiv (wrap64 (a0 * (wrap64 (a0 - 1)))) 2))) = some r := h
  clear h
  obtain rfl := Option.some.inj H
  go_enter Try.func84, Try.ntmps84
  go_wp2
  go_ret
  exact ⟨by first | rfl | (simp; done) | (simp [*]; done), by repeat (first | exact Drawn0.refl _ | apply Drawn0.step)⟩

end Go.Proofs.Ytjemkdpffjneaaa.Q
end
