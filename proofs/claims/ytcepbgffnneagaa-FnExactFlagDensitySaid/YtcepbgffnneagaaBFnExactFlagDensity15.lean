/- Contracts of Go functions and plain lemmas over what they compute; printed by the kit's print program or written by hand, joined. -/
import Derived.Test.YtcepbgffnneagaaBFnExactFlagDensity3
import Derived.Test.YtcepbgffnneagaaBFnExactFlagDensity12
import Derived.Test.YtcepbgffnneagaaBFnExactFlagDensity14
import Derived.Test.YtcepbgffnneagaaBFnExactFlagDensity11
section
namespace Go.Proofs.Ytcepbgffnneagaa.Q
open Go.RowKit Go.Proofs.YtcepbgffnneagaaW.PrintWords Go.Proofs.YtcepbgffnneagaaW.PrintLast Go.Proofs.YtcepbgffnneagaaW.PrintMore
attribute [local go_sem] max2_int min2_int max_two min_two max_three min_three max_four min_four   -- for this text's walks alone
set_option linter.unusedVariables false
set_option linter.unusedSimpArgs false

noncomputable def impl_Flag_density.f (k : Nat) (a0_0 : Int) (a0_1 : Int) (a0_2 : Int) (a1_0 : Int) (a1_1 : Int) (a1_2 : Int) : Option (Int × Int) := (impl_Flag_countIn.f a0_0 a0_1 a0_2 a1_0 a1_1 a1_2).bind fun t593 => ((impl_Flag_free.f a1_0 a1_1 a1_2).bind fun t594 => ((impl_Flag_free.f a0_0 a0_1 a0_2).bind fun t595 => ((impl_choices.f k t594 t595).bind fun t596 => ((impl_lowest.f k t593 t596).bind fun bt597 => (some (bt597.1, bt597.2))))))
noncomputable def impl_Flag_density.T1 : Bool × List (List Nat × List Nat) := (true, [([], []), ([], []), ([0, 1], [0, 1]), ([], []), ([3, 2], [3]), ([], []), ([5, 4], [5]), ([4, 6, 6], [4, 6]), ([2, 7, 7], [2, 7]), ([8, 8, 0, 1, 2, 3, 4, 5, 6, 7, 8], [8])])
noncomputable def impl_Flag_density.B1 : List Nat := [0, 0, 3, 0, 15, 0, 63, 127, 255, 511]
theorem impl_Flag_density.tab1 : rtab .any (opsOf Try.f76 1) = impl_Flag_density.T1 := by kernel_rfl
theorem impl_Flag_density.bits1 : waitsOk impl_Flag_density.T1.2 impl_Flag_density.B1 = true := by kernel_rfl
set_option maxHeartbeats 8000000 in
set_option maxRecDepth 100000 in
theorem impl_Flag_density.calls (k : Nat) (a0_0 : Int) (a0_1 : Int) (a0_2 : Int) (a1_0 : Int) (a1_1 : Int) (a1_2 : Int) (r1 : Int) (r2 : Int) (w : World) (h : impl_Flag_density.f k a0_0 a0_1 a0_2 a1_0 a1_1 a1_2 = some (r1, r2)) :
  Calls Try.prog 76 #[.agg #[.int .i64 a0_0, .int .i64 a0_1, .int .u32 a0_2], .agg #[.int .i64 a1_0, .int .i64 a1_1, .int .u32 a1_2]] w fun e w' => e = .returned (.agg #[.int .i64 r1, .int .i64 r2]) ∧ Below w.heap.size w w' := by
 have hu45 := Try.underlying45
 have hu31 := Try.underlying31
 have HB := Aside0.mk (Below.refl w.heap.size w)
 have H : ((impl_Flag_countIn.f a0_0 a0_1 a0_2 a1_0 a1_1 a1_2).bind fun t593 => ((impl_Flag_free.f a1_0 a1_1 a1_2).bind fun t594 => ((impl_Flag_free.f a0_0 a0_1 a0_2).bind fun t595 => ((impl_choices.f k t594 t595).bind fun t596 => ((impl_lowest.f k t593 t596).bind fun bt597 => (some (bt597.1, bt597.2))))))) = some (r1, r2) := h
 clear h
 replace H := Option.bind_eq_some_iff.mp H
 obtain ⟨t593, A30, H⟩ := H
 replace H : ((impl_Flag_free.f a1_0 a1_1 a1_2).bind fun t594 => ((impl_Flag_free.f a0_0 a0_1 a0_2).bind fun t595 => ((impl_choices.f k t594 t595).bind fun t596 => ((impl_lowest.f k t593 t596).bind fun bt597 => (some (bt597.1, bt597.2)))))) = some (r1, r2) := H
 have A3 := Aside0.mk A30
 clear A30
 replace H := Option.bind_eq_some_iff.mp H
 obtain ⟨t594, A40, H⟩ := H
 replace H : ((impl_Flag_free.f a0_0 a0_1 a0_2).bind fun t595 => ((impl_choices.f k t594 t595).bind fun t596 => ((impl_lowest.f k t593 t596).bind fun bt597 => (some (bt597.1, bt597.2))))) = some (r1, r2) := H
 have A4 := Aside0.mk A40
 clear A40
 replace H := Option.bind_eq_some_iff.mp H
 obtain ⟨t595, A50, H⟩ := H
 replace H : ((impl_choices.f k t594 t595).bind fun t596 => ((impl_lowest.f k t593 t596).bind fun bt597 => (some (bt597.1, bt597.2)))) = some (r1, r2) := H
 have A5 := Aside0.mk A50
 clear A50
 replace H := Option.bind_eq_some_iff.mp H
 obtain ⟨t596, A60, H⟩ := H
 replace H : ((impl_lowest.f k t593 t596).bind fun bt597 => (some (bt597.1, bt597.2))) = some (r1, r2) := H
 have A6 := Aside0.mk A60
 clear A60
 replace H := Option.bind_eq_some_iff.mp H
 obtain ⟨⟨t597, t598⟩, A70, H⟩ := H
 replace H : (some (t597, t598)) = some (r1, r2) := H
 have A7 := Aside0.mk A70
 clear A70
 simp only [Option.some.injEq, Prod.mk.injEq] at H
 obtain ⟨rfl, rfl⟩ := H
 go_enter Try.func76, Try.ntmps76
 try go_wp2_with (first | ((with_reducible refine gate_dst (N := 2) rfl ?_); refine box_event ?hg (N := 2) ?hd (cs := #[.int .i64 a0_0, .int .i64 a0_1, .int .u32 a0_2]) (t := 45) ?hr ?_; (case hd => rfl); (case hg => rfl); (case hr => first | (go_simp; done) | (go_simp; rfl)); intro gb590 hg w8 hbox hb; have n0_ := Aside0.mk (below_step (by repeat (first | (with_reducible first | exact HB.out | apply below_alloc | apply pw_below_drewN | apply below_drew1) | exact HB.out)) hb); have n1_ := Aside0.mk (hbox); have n2_ := Aside0.mk ((by rw [hg]; exact (below_size (by repeat (first | (with_reducible first | exact HB.out | apply below_alloc | apply pw_below_drewN | apply below_drew1) | exact HB.out))) : w.heap.size ≤ gb590)); have n3_ := n2_; clear HB; have HB := n0_; have BK590 := n1_; have GW590 := n2_; have GE590 := n3_; clear n0_ n1_ n2_ n3_; clear hb hbox hg) | ((with_reducible refine gate_dst (N := 3) rfl ?_); refine box_event ?hg (N := 3) ?hd (cs := #[.int .i64 a1_0, .int .i64 a1_1, .int .u32 a1_2]) (t := 45) ?hr ?_; (case hd => rfl); (case hg => rfl); (case hr => first | (go_simp; done) | (go_simp; rfl)); intro gb591 hg w9 hbox hb; have n0_ := Aside0.mk (blk_below (g := gb590) (o := .cells #[.int .i64 a0_0, .int .i64 a0_1, .int .u32 a0_2] 45 (0, 0)) (by (with_reducible repeat (first | refine blk_drewN ?_ _ | refine blk_drew ?_ | refine blk_alloc ?_ _)); exact BK590.out) hb); have n1_ := Aside0.mk (below_step (by repeat (first | (with_reducible first | exact HB.out | apply below_alloc | apply pw_below_drewN | apply below_drew1 | refine below_set ?_ GE590.out) | exact HB.out)) hb); have n2_ := Aside0.mk (hbox); have n3_ := Aside0.mk ((by rw [hg]; exact (below_size (by repeat (first | (with_reducible first | exact HB.out | apply below_alloc | apply pw_below_drewN | apply below_drew1 | refine below_set ?_ GE590.out) | exact HB.out))) : w.heap.size ≤ gb591)); have n4_ := n3_; have n5_ := Aside0.mk ((by rw [hg]; exact Nat.ne_of_lt (blk_lt (g := gb590) (o := .cells #[.int .i64 a0_0, .int .i64 a0_1, .int .u32 a0_2] 45 (0, 0)) (by (with_reducible repeat (first | refine blk_drewN ?_ _ | refine blk_drew ?_ | refine blk_alloc ?_ _)); exact BK590.out)) : gb590 ≠ gb591)); have n6_ := Aside0.mk (Ne.symm n5_.out); clear BK590; clear HB; have BK590 := n0_; have HB := n1_; have BK591 := n2_; have GW591 := n3_; have GE591 := n4_; have NB590_591 := n5_; have NB591_590 := n6_; clear n0_ n1_ n2_ n3_ n4_ n5_ n6_; clear hb hbox hg) | ((with_reducible refine gate_dst (N := 4) rfl ?_); refine box_event ?hg (N := 4) ?hd (cs := #[.int .i64 0, .int .i64 0]) (t := 31) ?hr ?_; (case hd => rfl); (case hg => rfl); (case hr => first | (go_simp; done) | (go_simp; rfl)); intro gb592 hg w10 hbox hb; have n0_ := Aside0.mk (blk_below (g := gb590) (o := .cells #[.int .i64 a0_0, .int .i64 a0_1, .int .u32 a0_2] 45 (0, 0)) (by (with_reducible repeat (first | refine blk_drewN ?_ _ | refine blk_drew ?_ | refine blk_alloc ?_ _)); exact BK590.out) hb); have n1_ := Aside0.mk (blk_below (g := gb591) (o := .cells #[.int .i64 a1_0, .int .i64 a1_1, .int .u32 a1_2] 45 (0, 0)) (by (with_reducible repeat (first | refine blk_drewN ?_ _ | refine blk_drew ?_ | refine blk_alloc ?_ _)); exact BK591.out) hb); have n2_ := Aside0.mk (below_step (by repeat (first | (with_reducible first | exact HB.out | apply below_alloc | apply pw_below_drewN | apply below_drew1 | refine below_set ?_ GE590.out | refine below_set ?_ GE591.out) | exact HB.out)) hb); have n3_ := Aside0.mk (hbox); have n4_ := Aside0.mk ((by rw [hg]; exact (below_size (by repeat (first | (with_reducible first | exact HB.out | apply below_alloc | apply pw_below_drewN | apply below_drew1 | refine below_set ?_ GE590.out | refine below_set ?_ GE591.out) | exact HB.out))) : w.heap.size ≤ gb592)); have n5_ := n4_; have n6_ := Aside0.mk ((by rw [hg]; exact Nat.ne_of_lt (blk_lt (g := gb590) (o := .cells #[.int .i64 a0_0, .int .i64 a0_1, .int .u32 a0_2] 45 (0, 0)) (by (with_reducible repeat (first | refine blk_drewN ?_ _ | refine blk_drew ?_ | refine blk_alloc ?_ _)); exact BK590.out)) : gb590 ≠ gb592)); have n7_ := Aside0.mk (Ne.symm n6_.out); have n8_ := Aside0.mk ((by rw [hg]; exact Nat.ne_of_lt (blk_lt (g := gb591) (o := .cells #[.int .i64 a1_0, .int .i64 a1_1, .int .u32 a1_2] 45 (0, 0)) (by (with_reducible repeat (first | refine blk_drewN ?_ _ | refine blk_drew ?_ | refine blk_alloc ?_ _)); exact BK591.out)) : gb591 ≠ gb592)); have n9_ := Aside0.mk (Ne.symm n8_.out); clear BK590; clear BK591; clear HB; have BK590 := n0_; have BK591 := n1_; have HB := n2_; have BK592 := n3_; have GW592 := n4_; have GE592 := n5_; have NB590_592 := n6_; have NB592_590 := n7_; have NB591_592 := n8_; have NB592_591 := n9_; clear n0_ n1_ n2_ n3_ n4_ n5_ n6_ n7_ n8_ n9_; clear hb hbox hg))
 have n0_ := Aside0.mk (blk_drew BK590.out)
 have n1_ := Aside0.mk (blk_drew BK591.out)
 have n2_ := Aside0.mk (blk_drew BK592.out)
 have n3_ := Aside0.mk (below_drew1 HB.out)
 clear BK590 BK591 BK592 HB
 have BK590 := n0_
 have BK591 := n1_
 have BK592 := n2_
 have HB := n3_
 clear n0_ n1_ n2_ n3_
 refine start_ (n := 10) (S := fun w' => w'.cell? ⟨gb590, 0, none⟩ = some (.int .i64 a0_0) ∧ w'.cell? ⟨gb590, 1, none⟩ = some (.int .i64 a0_1) ∧ w'.cell? ⟨gb590, 2, none⟩ = some (.int .u32 a0_2) ∧ w'.cell? ⟨gb591, 0, none⟩ = some (.int .i64 a1_0) ∧ w'.cell? ⟨gb591, 1, none⟩ = some (.int .i64 a1_1) ∧ w'.cell? ⟨gb591, 2, none⟩ = some (.int .u32 a1_2)) (ds := []) #[false, false, false, false, false, false, false, false, false, false] (by kernel_rfl) rfl rfl ⟨(blk_cell BK590.out 0).trans rfl, (blk_cell BK590.out 1).trans rfl, (blk_cell BK590.out 2).trans rfl, (blk_cell BK591.out 0).trans rfl, (blk_cell BK591.out 1).trans rfl, (blk_cell BK591.out 2).trans rfl⟩ (fun hHeld => ?_); refine with_tabW impl_Flag_density.tab1 impl_Flag_density.bits1 (fun HT_ HW_ => ?_)
 generalize w10.drew = w11 at BK590 BK591 BK592 HB hHeld ⊢
 refine take_ (i := 0) (N := some 5) (v := ?_) (a' := ?_) #[true, false, false, false, false, false, false, false, false, false] rfl rfl (take_ofW HT_.out HW_.out (by kernel_rfl)) (fun _ _ _ h => h) (Or.inl ⟨by rfl, ?_⟩) hHeld ?_ ?_
 rotate_left
 ·rintro w' ⟨s0, s1, s2, s3, s4, s5⟩
  go_simp
  with_reducible rfl
 rotate_left
 ·simp only [Act.put, List.setIfInBounds_toArray, List.set_cons_zero, List.set_cons_succ, i64_w, i32_w]
  rfl
 refine take_ (i := 1) (N := some 6) (v := ?_) (a' := ?_) #[true, true, false, false, false, false, false, false, false, false] rfl rfl (take_ofW HT_.out HW_.out (by kernel_rfl)) (fun _ _ _ h => h) (Or.inl ⟨by rfl, ?_⟩) hHeld ?_ ?_
 rotate_left
 ·rintro w' ⟨s0, s1, s2, s3, s4, s5⟩
  go_simp
  with_reducible rfl
 rotate_left
 ·simp only [Act.put, List.setIfInBounds_toArray, List.set_cons_zero, List.set_cons_succ, i64_w, i32_w]
  rfl
 refine take_ (i := 3) (N := some 8) (v := ?_) (a' := ?_) #[true, true, false, true, false, false, false, false, false, false] rfl rfl (take_ofW HT_.out HW_.out (by kernel_rfl)) (fun _ _ _ h => h) (Or.inl ⟨by rfl, ?_⟩) hHeld ?_ ?_
 rotate_left
 ·rintro w' ⟨s0, s1, s2, s3, s4, s5⟩
  go_simp
  with_reducible rfl
 rotate_left
 ·simp only [Act.put, List.setIfInBounds_toArray, List.set_cons_zero, List.set_cons_succ, i64_w, i32_w]
  rfl
 refine take_ (i := 5) (N := some 10) (v := ?_) (a' := ?_) #[true, true, false, true, false, true, false, false, false, false] rfl rfl (take_ofW HT_.out HW_.out (by kernel_rfl)) (fun _ _ _ h => h) (Or.inl ⟨by rfl, ?_⟩) hHeld ?_ ?_
 rotate_left
 ·rintro w' ⟨s0, s1, s2, s3, s4, s5⟩
  go_simp
  with_reducible rfl
 rotate_left
 ·simp only [Act.put, List.setIfInBounds_toArray, List.set_cons_zero, List.set_cons_succ, i64_w, i32_w]
  rfl
 refine one_ (i := 2) (N := some 7) #[true, true, true, true, false, true, false, false, false, false] rfl rfl (one_of HT_.out (by kernel_rfl)) (by decide) (fun K hK => ?_)
 refine goes_ Try.func75 (by kernel_rfl) rfl #[.agg #[.int .i64 a0_0, .int .i64 a0_1, .int .u32 a0_2], .agg #[.int .i64 a1_0, .int .i64 a1_1, .int .u32 a1_2]] (by rfl) rfl rfl (by first | rfl | (simp only [List.map_toArray, List.map_cons, List.map_nil, List.length_drop, List.length_take]; rfl)) ?_
 with_reducible refine (impl_Flag_countIn.calls a0_0 a0_1 a0_2 a1_0 a1_1 a1_2 t593 _ A3.out).mono ?_
 rintro e w12 ⟨rfl, hb⟩
 refine ⟨_, rfl, ?_⟩
 have n0_ := Aside0.mk (blk_below BK590.out hb)
 have n1_ := Aside0.mk (blk_below BK591.out hb)
 have n2_ := Aside0.mk (blk_below BK592.out hb)
 have n3_ := Aside0.mk (below_step HB.out hb)
 clear BK590 BK591 BK592 HB
 have BK590 := n0_
 have BK591 := n1_
 have BK592 := n2_
 have HB := n3_
 clear n0_ n1_ n2_ n3_
 (try clear hb)
 (try clear hb2)
 (try clear hk)
 (try clear hi)
 refine hK.out _ _ ⟨(blk_cell BK590.out 0).trans rfl, (blk_cell BK590.out 1).trans rfl, (blk_cell BK590.out 2).trans rfl, (blk_cell BK591.out 0).trans rfl, (blk_cell BK591.out 1).trans rfl, (blk_cell BK591.out 2).trans rfl⟩ (fun hHeld => ?_)
 clear hK K
 refine norm_ (a' := ?_) ?_ ?_
 rotate_left
 ·show Act.put _ (some 7) _ = _
  simp only [Act.put, List.setIfInBounds_toArray, List.set_cons_zero, List.set_cons_succ, i64_w, i32_w]
  rfl
 refine one_ (i := 4) (N := some 9) #[true, true, true, true, true, true, false, false, false, false] rfl rfl (one_of HT_.out (by kernel_rfl)) (by decide) (fun K hK => ?_)
 refine goes_ Try.func83 (by kernel_rfl) rfl #[.agg #[.int .i64 a1_0, .int .i64 a1_1, .int .u32 a1_2]] (by rfl) rfl rfl (by first | rfl | (simp only [List.map_toArray, List.map_cons, List.map_nil, List.length_drop, List.length_take]; rfl)) ?_
 with_reducible refine (impl_Flag_free.calls a1_0 a1_1 a1_2 t594 _ A4.out).mono ?_
 rintro e w13 ⟨rfl, hb⟩
 refine ⟨_, rfl, ?_⟩
 have n0_ := Aside0.mk (blk_below BK590.out hb)
 have n1_ := Aside0.mk (blk_below BK591.out hb)
 have n2_ := Aside0.mk (blk_below BK592.out hb)
 have n3_ := Aside0.mk (below_step HB.out hb)
 clear BK590 BK591 BK592 HB
 have BK590 := n0_
 have BK591 := n1_
 have BK592 := n2_
 have HB := n3_
 clear n0_ n1_ n2_ n3_
 (try clear hb)
 (try clear hb2)
 (try clear hk)
 (try clear hi)
 refine hK.out _ _ ⟨(blk_cell BK590.out 0).trans rfl, (blk_cell BK590.out 1).trans rfl, (blk_cell BK590.out 2).trans rfl, (blk_cell BK591.out 0).trans rfl, (blk_cell BK591.out 1).trans rfl, (blk_cell BK591.out 2).trans rfl⟩ (fun hHeld => ?_)
 clear hK K
 refine norm_ (a' := ?_) ?_ ?_
 rotate_left
 ·show Act.put _ (some 9) _ = _
  simp only [Act.put, List.setIfInBounds_toArray, List.set_cons_zero, List.set_cons_succ, i64_w, i32_w]
  rfl
 refine one_ (i := 6) (N := some 11) #[true, true, true, true, true, true, true, false, false, false] rfl rfl (one_of HT_.out (by kernel_rfl)) (by decide) (fun K hK => ?_)
 refine goes_ Try.func83 (by kernel_rfl) rfl #[.agg #[.int .i64 a0_0, .int .i64 a0_1, .int .u32 a0_2]] (by rfl) rfl rfl (by first | rfl | (simp only [List.map_toArray, List.map_cons, List.map_nil, List.length_drop, List.length_take]; rfl)) ?_
 with_reducible refine (impl_Flag_free.calls a0_0 a0_1 a0_2 t595 _ A5.out).mono ?_
 rintro e w14 ⟨rfl, hb⟩
 refine ⟨_, rfl, ?_⟩
 have n0_ := Aside0.mk (blk_below BK590.out hb)
 have n1_ := Aside0.mk (blk_below BK591.out hb)
 have n2_ := Aside0.mk (blk_below BK592.out hb)
 have n3_ := Aside0.mk (below_step HB.out hb)
 clear BK590 BK591 BK592 HB
 have BK590 := n0_
 have BK591 := n1_
 have BK592 := n2_
 have HB := n3_
 clear n0_ n1_ n2_ n3_
 (try clear hb)
 (try clear hb2)
 (try clear hk)
 (try clear hi)
 refine hK.out _ _ ⟨(blk_cell BK590.out 0).trans rfl, (blk_cell BK590.out 1).trans rfl, (blk_cell BK590.out 2).trans rfl, (blk_cell BK591.out 0).trans rfl, (blk_cell BK591.out 1).trans rfl, (blk_cell BK591.out 2).trans rfl⟩ (fun hHeld => ?_)
 clear hK K
 refine norm_ (a' := ?_) ?_ ?_
 rotate_left
 ·show Act.put _ (some 11) _ = _
  simp only [Act.put, List.setIfInBounds_toArray, List.set_cons_zero, List.set_cons_succ, i64_w, i32_w]
  rfl
 refine one_ (i := 7) (N := some 12) #[true, true, true, true, true, true, true, true, false, false] rfl rfl (one_of HT_.out (by kernel_rfl)) (by decide) (fun K hK => ?_)
 refine goes_ Try.func67 (by kernel_rfl) rfl #[.int .i64 t594, .int .i64 t595] (by rfl) rfl rfl (by first | rfl | (simp only [List.map_toArray, List.map_cons, List.map_nil, List.length_drop, List.length_take]; rfl)) ?_
 with_reducible refine (impl_choices.calls k t594 t595 t596 _ A6.out).mono ?_
 rintro e w' ⟨rfl, ⟨nd, rfl⟩⟩
 refine ⟨_, rfl, ?_⟩
 refine hK.out _ _ ⟨(blk_cell BK590.out 0).trans rfl, (blk_cell BK590.out 1).trans rfl, (blk_cell BK590.out 2).trans rfl, (blk_cell BK591.out 0).trans rfl, (blk_cell BK591.out 1).trans rfl, (blk_cell BK591.out 2).trans rfl⟩ (fun hHeld => ?_)
 clear hK K
 refine norm_ (a' := ?_) ?_ ?_
 rotate_left
 ·show Act.put _ (some 12) _ = _
  simp only [Act.put, List.setIfInBounds_toArray, List.set_cons_zero, List.set_cons_succ, i64_w, i32_w]
  rfl
 refine one_ (i := 8) (N := some 13) #[true, true, true, true, true, true, true, true, true, false] rfl rfl (one_of HT_.out (by kernel_rfl)) (by decide) (fun K hK => ?_)
 refine goes_ Try.func66 (by kernel_rfl) rfl #[.int .i64 t593, .int .i64 t596] (by rfl) rfl rfl (by (try simp only [List.map_toArray, List.map_cons, List.map_nil]); first | done | rfl | (simp only [List.length_drop, List.length_take]; rfl)) ?_
 with_reducible refine (impl_lowest.calls k t593 t596 t597 t598 _ A7.out).mono ?_
 rintro e w15 ⟨rfl, hb⟩
 refine ⟨_, rfl, ?_⟩
 have n0_ := Aside0.mk (blk_below (g := gb590) (o := .cells #[.int .i64 a0_0, .int .i64 a0_1, .int .u32 a0_2] 45 (0, 0)) (by (with_reducible repeat (first | refine blk_drewN ?_ _ | refine blk_drew ?_ | refine blk_alloc ?_ _)); exact BK590.out) hb)
 have n1_ := Aside0.mk (blk_below (g := gb591) (o := .cells #[.int .i64 a1_0, .int .i64 a1_1, .int .u32 a1_2] 45 (0, 0)) (by (with_reducible repeat (first | refine blk_drewN ?_ _ | refine blk_drew ?_ | refine blk_alloc ?_ _)); exact BK591.out) hb)
 have n2_ := Aside0.mk (blk_below (g := gb592) (o := .cells #[.int .i64 0, .int .i64 0] 31 (0, 0)) (by (with_reducible repeat (first | refine blk_drewN ?_ _ | refine blk_drew ?_ | refine blk_alloc ?_ _)); exact BK592.out) hb)
 have n3_ := Aside0.mk (below_step (by repeat (first | (with_reducible first | exact HB.out | apply below_alloc | apply pw_below_drewN | apply below_drew1 | refine below_set ?_ GE590.out | refine below_set ?_ GE591.out | refine below_set ?_ GE592.out) | exact HB.out)) hb)
 clear BK590 BK591 BK592 HB
 have BK590 := n0_
 have BK591 := n1_
 have BK592 := n2_
 have HB := n3_
 clear n0_ n1_ n2_ n3_
 (try clear hb)
 (try clear hb2)
 (try clear hk)
 (try clear hi)
 refine hK.out _ _ ⟨(blk_cell BK590.out 0).trans rfl, (blk_cell BK590.out 1).trans rfl, (blk_cell BK590.out 2).trans rfl, (blk_cell BK591.out 0).trans rfl, (blk_cell BK591.out 1).trans rfl, (blk_cell BK591.out 2).trans rfl⟩ (fun hHeld => ?_)
 clear hK K
 refine norm_ (a' := ?_) ?_ ?_
 rotate_left
 ·show Act.put _ (some 13) _ = _
  simp only [Act.put, List.setIfInBounds_toArray, List.set_cons_zero, List.set_cons_succ, i64_w, i32_w]
  rfl
 refine one_ (i := 9) (N := none) #[true, true, true, true, true, true, true, true, true, true] rfl rfl (one_of HT_.out (by kernel_rfl)) (by decide) (fun K hK => ?_)
 have hs16 : w15.cell? ⟨gb592, 0, none⟩ = some (.int .i64 0) := (blk_cell BK592.out 0).trans rfl
 have hfs16 := blk_frozen BK592.out 0
 have hns16_0 := NB590_592.out
 have hns16_1 := NB591_592.out
 have hms16_0 := NB592_590.out
 have hms16_1 := NB592_591.out
 have hs17 : w15.cell? ⟨gb592, 1, none⟩ = some (.int .i64 0) := (blk_cell BK592.out 1).trans rfl
 have hfs17 := blk_frozen BK592.out 1
 have hns17_0 := NB590_592.out
 have hns17_1 := NB591_592.out
 have hms17_0 := NB592_590.out
 have hms17_1 := NB592_591.out
 refine skip_ (w1 := ?_) (by rfl) rfl ?_ ?_
 rotate_left
 ·go_simp
  rfl
 refine hK.out _ _ ⟨((cell_far (p := ⟨gb592, _, none⟩) NB590_592.out _).trans (((cell_far (p := ⟨gb592, _, none⟩) NB590_592.out _).trans (hHeld.1)))), ((cell_far (p := ⟨gb592, _, none⟩) NB590_592.out _).trans (((cell_far (p := ⟨gb592, _, none⟩) NB590_592.out _).trans (hHeld.2.1)))), ((cell_far (p := ⟨gb592, _, none⟩) NB590_592.out _).trans (((cell_far (p := ⟨gb592, _, none⟩) NB590_592.out _).trans (hHeld.2.2.1)))), ((cell_far (p := ⟨gb592, _, none⟩) NB591_592.out _).trans (((cell_far (p := ⟨gb592, _, none⟩) NB591_592.out _).trans (hHeld.2.2.2.1)))), ((cell_far (p := ⟨gb592, _, none⟩) NB591_592.out _).trans (((cell_far (p := ⟨gb592, _, none⟩) NB591_592.out _).trans (hHeld.2.2.2.2.1)))), ((cell_far (p := ⟨gb592, _, none⟩) NB591_592.out _).trans (((cell_far (p := ⟨gb592, _, none⟩) NB591_592.out _).trans (hHeld.2.2.2.2.2))))⟩ (fun hHeld => ?_)
 clear hK K
 refine done_ (done_of HT_.out (by kernel_rfl)) ?_
 try go_wp2
 refine bodyPost_ret (results_cell_row rfl _ _ gb592 31 #[.int .i64 t597, .int .i64 t598] (0, 0) _ rfl (by (with_reducible repeat (first | refine blk_drewN ?_ _ | refine blk_drew ?_ | refine blk_alloc ?_ _)); refine blk_put (cs := #[.int .i64 t597, .int .i64 0]) ?_ 1 _ rfl; (with_reducible repeat (first | refine blk_drewN ?_ _ | refine blk_drew ?_ | refine blk_alloc ?_ _)); refine blk_put (cs := #[.int .i64 0, .int .i64 0]) ?_ 0 _ rfl; (with_reducible repeat (first | refine blk_drewN ?_ _ | refine blk_drew ?_ | refine blk_alloc ?_ _)); exact BK592.out) Try.underlying31 rfl (by kernel_rfl)) rfl ?_
 exact ⟨by first | rfl | (simp [errW_none, errW_some] <;> rfl) | (simp [*, errW_none, errW_some] <;> rfl), by repeat (first | (with_reducible first | exact HB.out | apply below_alloc | apply pw_below_drewN | apply below_drew1 | refine below_set ?_ GE590.out | refine below_set ?_ GE591.out | refine below_set ?_ GE592.out) | exact HB.out)⟩

end Go.Proofs.Ytcepbgffnneagaa.Q
end

section
namespace Go.Proofs.Ytcepbgffnneagaa.Q
open Go.RowKit Go.Proofs.YtcepbgffnneagaaW.PrintWords Go.Proofs.YtcepbgffnneagaaW.PrintLast Go.Proofs.YtcepbgffnneagaaW.PrintMore
attribute [local go_sem] max2_int min2_int max_two min_two max_three min_three max_four min_four   -- for this text's walks alone
set_option linter.unusedVariables false
set_option linter.unusedSimpArgs false

noncomputable def impl_FlagDensity.f (k : Nat) (a0_0 : Int) (a0_1 : Int) (a0_2 : Int) (a1_0 : Int) (a1_1 : Int) (a1_2 : Int) : Option (Int × Int × Int) := (impl_pairOk.f k a0_0 a0_1 a0_2 a1_0 a1_1 a1_2).bind fun t602 => (if t602 = 0 then ((impl_Flag_density.f k a0_0 a0_1 a0_2 a1_0 a1_1 a1_2).bind fun bt603 => (some (bt603.1, bt603.2, 0))) else (some (0, 0, t602)))
set_option maxHeartbeats 8000000 in
set_option maxRecDepth 100000 in
theorem impl_FlagDensity.calls (k : Nat) (a0_0 : Int) (a0_1 : Int) (a0_2 : Int) (a1_0 : Int) (a1_1 : Int) (a1_2 : Int) (r1 : Int) (r2 : Int) (r3 : Int) (w : World) (h : impl_FlagDensity.f k a0_0 a0_1 a0_2 a1_0 a1_1 a1_2 = some (r1, r2, r3)) :
  Calls Try.prog 28 #[.agg #[.int .i64 a0_0, .int .i64 a0_1, .int .u32 a0_2], .agg #[.int .i64 a1_0, .int .i64 a1_1, .int .u32 a1_2]] w fun e w' => e = .returned (.tuple #[.agg #[.int .i64 r1, .int .i64 r2], .int .i64 r3]) ∧ Below w.heap.size w w' := by
 have hu45 := Try.underlying45
 have hu31 := Try.underlying31
 have HB := Aside0.mk (Below.refl w.heap.size w)
 have H : ((impl_pairOk.f k a0_0 a0_1 a0_2 a1_0 a1_1 a1_2).bind fun t602 => (if t602 = 0 then ((impl_Flag_density.f k a0_0 a0_1 a0_2 a1_0 a1_1 a1_2).bind fun bt603 => (some (bt603.1, bt603.2, 0))) else (some (0, 0, t602)))) = some (r1, r2, r3) := h
 clear h
 replace H := Option.bind_eq_some_iff.mp H
 obtain ⟨t602, A30, H⟩ := H
 replace H : (if t602 = 0 then ((impl_Flag_density.f k a0_0 a0_1 a0_2 a1_0 a1_1 a1_2).bind fun bt603 => (some (bt603.1, bt603.2, 0))) else (some (0, 0, t602))) = some (r1, r2, r3) := H
 have A3 := Aside0.mk A30
 clear A30
 by_cases c4 : t602 = 0
 ·rw [if_pos c4] at H
  have c4b0 : (t602 == 0) = true := beq_iff_eq.mpr c4
  have c4b1 : (t602 != 0) = false := bne_eq_false_iff_eq.mpr c4
  clear c4
  replace H := Option.bind_eq_some_iff.mp H
  obtain ⟨⟨t603, t604⟩, A50, H⟩ := H
  replace H : (some (t603, t604, 0)) = some (r1, r2, r3) := H
  have A5 := Aside0.mk A50
  clear A50
  simp only [Option.some.injEq, Prod.mk.injEq] at H
  obtain ⟨rfl, rfl, rfl⟩ := H
  go_enter Try.func28, Try.ntmps28
  go_wp2_with (first | ((with_reducible refine gate_dst (N := 2) rfl ?_); refine box_event ?hg (N := 2) ?hd (cs := #[.int .i64 a0_0, .int .i64 a0_1, .int .u32 a0_2]) (t := 45) ?hr ?_; (case hd => rfl); (case hg => rfl); (case hr => first | (go_simp; done) | (go_simp; rfl)); intro gb599 hg w6 hbox hb; have n0_ := Aside0.mk (below_step (by repeat (first | (with_reducible first | exact HB.out | apply below_alloc | apply pw_below_drewN | apply below_drew1) | exact HB.out)) hb); have n1_ := Aside0.mk (hbox); have n2_ := Aside0.mk ((by rw [hg]; exact (below_size (by repeat (first | (with_reducible first | exact HB.out | apply below_alloc | apply pw_below_drewN | apply below_drew1) | exact HB.out))) : w.heap.size ≤ gb599)); have n3_ := n2_; clear HB; have HB := n0_; have BK599 := n1_; have GW599 := n2_; have GE599 := n3_; clear n0_ n1_ n2_ n3_; clear hb hbox hg) | ((with_reducible refine gate_dst (N := 3) rfl ?_); refine box_event ?hg (N := 3) ?hd (cs := #[.int .i64 a1_0, .int .i64 a1_1, .int .u32 a1_2]) (t := 45) ?hr ?_; (case hd => rfl); (case hg => rfl); (case hr => first | (go_simp; done) | (go_simp; rfl)); intro gb600 hg w7 hbox hb; have n0_ := Aside0.mk (blk_below (g := gb599) (o := .cells #[.int .i64 a0_0, .int .i64 a0_1, .int .u32 a0_2] 45 (0, 0)) (by (with_reducible repeat (first | refine blk_drewN ?_ _ | refine blk_drew ?_ | refine blk_alloc ?_ _)); exact BK599.out) hb); have n1_ := Aside0.mk (below_step (by repeat (first | (with_reducible first | exact HB.out | apply below_alloc | apply pw_below_drewN | apply below_drew1 | refine below_set ?_ GE599.out) | exact HB.out)) hb); have n2_ := Aside0.mk (hbox); have n3_ := Aside0.mk ((by rw [hg]; exact (below_size (by repeat (first | (with_reducible first | exact HB.out | apply below_alloc | apply pw_below_drewN | apply below_drew1 | refine below_set ?_ GE599.out) | exact HB.out))) : w.heap.size ≤ gb600)); have n4_ := n3_; have n5_ := Aside0.mk ((by rw [hg]; exact Nat.ne_of_lt (blk_lt (g := gb599) (o := .cells #[.int .i64 a0_0, .int .i64 a0_1, .int .u32 a0_2] 45 (0, 0)) (by (with_reducible repeat (first | refine blk_drewN ?_ _ | refine blk_drew ?_ | refine blk_alloc ?_ _)); exact BK599.out)) : gb599 ≠ gb600)); have n6_ := Aside0.mk (Ne.symm n5_.out); clear BK599; clear HB; have BK599 := n0_; have HB := n1_; have BK600 := n2_; have GW600 := n3_; have GE600 := n4_; have NB599_600 := n5_; have NB600_599 := n6_; clear n0_ n1_ n2_ n3_ n4_ n5_ n6_; clear hb hbox hg) | ((with_reducible refine gate_dst (N := 4) rfl ?_); refine box_event ?hg (N := 4) ?hd (cs := #[.int .i64 0, .int .i64 0]) (t := 31) ?hr ?_; (case hd => rfl); (case hg => rfl); (case hr => first | (go_simp; done) | (go_simp; rfl)); intro gb601 hg w8 hbox hb; have n0_ := Aside0.mk (blk_below (g := gb599) (o := .cells #[.int .i64 a0_0, .int .i64 a0_1, .int .u32 a0_2] 45 (0, 0)) (by (with_reducible repeat (first | refine blk_drewN ?_ _ | refine blk_drew ?_ | refine blk_alloc ?_ _)); exact BK599.out) hb); have n1_ := Aside0.mk (blk_below (g := gb600) (o := .cells #[.int .i64 a1_0, .int .i64 a1_1, .int .u32 a1_2] 45 (0, 0)) (by (with_reducible repeat (first | refine blk_drewN ?_ _ | refine blk_drew ?_ | refine blk_alloc ?_ _)); exact BK600.out) hb); have n2_ := Aside0.mk (below_step (by repeat (first | (with_reducible first | exact HB.out | apply below_alloc | apply pw_below_drewN | apply below_drew1 | refine below_set ?_ GE599.out | refine below_set ?_ GE600.out) | exact HB.out)) hb); have n3_ := Aside0.mk (hbox); have n4_ := Aside0.mk ((by rw [hg]; exact (below_size (by repeat (first | (with_reducible first | exact HB.out | apply below_alloc | apply pw_below_drewN | apply below_drew1 | refine below_set ?_ GE599.out | refine below_set ?_ GE600.out) | exact HB.out))) : w.heap.size ≤ gb601)); have n5_ := n4_; have n6_ := Aside0.mk ((by rw [hg]; exact Nat.ne_of_lt (blk_lt (g := gb599) (o := .cells #[.int .i64 a0_0, .int .i64 a0_1, .int .u32 a0_2] 45 (0, 0)) (by (with_reducible repeat (first | refine blk_drewN ?_ _ | refine blk_drew ?_ | refine blk_alloc ?_ _)); exact BK599.out)) : gb599 ≠ gb601)); have n7_ := Aside0.mk (Ne.symm n6_.out); have n8_ := Aside0.mk ((by rw [hg]; exact Nat.ne_of_lt (blk_lt (g := gb600) (o := .cells #[.int .i64 a1_0, .int .i64 a1_1, .int .u32 a1_2] 45 (0, 0)) (by (with_reducible repeat (first | refine blk_drewN ?_ _ | refine blk_drew ?_ | refine blk_alloc ?_ _)); exact BK600.out)) : gb600 ≠ gb601)); have n9_ := Aside0.mk (Ne.symm n8_.out); clear BK599; clear BK600; clear HB; have BK599 := n0_; have BK600 := n1_; have HB := n2_; have BK601 := n3_; have GW601 := n4_; have GE601 := n5_; have NB599_601 := n6_; have NB601_599 := n7_; have NB600_601 := n8_; have NB601_600 := n9_; clear n0_ n1_ n2_ n3_ n4_ n5_ n6_ n7_ n8_ n9_; clear hb hbox hg; have hnb9 := NB599_600.out; have hnc9 := NB600_599.out; have hnb10 := NB599_601.out; have hnc10 := NB601_599.out; have hcz11_0 : w8.cell? ⟨gb599, 0, none⟩ = some (.int .i64 a0_0) := (blk_cell BK599.out 0).trans rfl; have hcz11_1 : w8.cell? ⟨gb599, 1, none⟩ = some (.int .i64 a0_1) := (blk_cell BK599.out 1).trans rfl; have hcz11_2 : w8.cell? ⟨gb599, 2, none⟩ = some (.int .u32 a0_2) := (blk_cell BK599.out 2).trans rfl; have hfz11_0 := blk_frozen BK599.out 0; have hfz11_1 := blk_frozen BK599.out 1; have hfz11_2 := blk_frozen BK599.out 2; have hnb12 := NB600_601.out; have hnc12 := NB601_600.out; have hcz13_0 : w8.cell? ⟨gb600, 0, none⟩ = some (.int .i64 a1_0) := (blk_cell BK600.out 0).trans rfl; have hcz13_1 : w8.cell? ⟨gb600, 1, none⟩ = some (.int .i64 a1_1) := (blk_cell BK600.out 1).trans rfl; have hcz13_2 : w8.cell? ⟨gb600, 2, none⟩ = some (.int .u32 a1_2) := (blk_cell BK600.out 2).trans rfl; have hfz13_0 := blk_frozen BK600.out 0; have hfz13_1 := blk_frozen BK600.out 1; have hfz13_2 := blk_frozen BK600.out 2) | ((with_reducible refine gate_callee (f := 74) rfl ?_); refine goesL_ (some 9) rfl rfl Try.func74 (by kernel_rfl) rfl #[.agg #[.int .i64 a0_0, .int .i64 a0_1, .int .u32 a0_2], .agg #[.int .i64 a1_0, .int .i64 a1_1, .int .u32 a1_2]] rfl (by (try simp only [List.map_toArray, List.map_cons, List.map_nil]); first | done | rfl | (simp only [List.length_drop, List.length_take]; rfl)) ?_; (with_reducible refine (impl_pairOk.calls k a0_0 a0_1 a0_2 a1_0 a1_1 a1_2 t602 _ A3.out).mono ?_); rintro e w14 ⟨rfl, hb⟩; refine ⟨_, rfl, ?_⟩; have n0_ := Aside0.mk (blk_below (g := gb599) (o := .cells #[.int .i64 a0_0, .int .i64 a0_1, .int .u32 a0_2] 45 (0, 0)) (by (with_reducible repeat (first | refine blk_drewN ?_ _ | refine blk_drew ?_ | refine blk_alloc ?_ _)); exact BK599.out) hb); have n1_ := Aside0.mk (blk_below (g := gb600) (o := .cells #[.int .i64 a1_0, .int .i64 a1_1, .int .u32 a1_2] 45 (0, 0)) (by (with_reducible repeat (first | refine blk_drewN ?_ _ | refine blk_drew ?_ | refine blk_alloc ?_ _)); exact BK600.out) hb); have n2_ := Aside0.mk (blk_below (g := gb601) (o := .cells #[.int .i64 0, .int .i64 0] 31 (0, 0)) (by (with_reducible repeat (first | refine blk_drewN ?_ _ | refine blk_drew ?_ | refine blk_alloc ?_ _)); exact BK601.out) hb); have n3_ := Aside0.mk (below_step (by repeat (first | (with_reducible first | exact HB.out | apply below_alloc | apply pw_below_drewN | apply below_drew1 | refine below_set ?_ GE599.out | refine below_set ?_ GE600.out | refine below_set ?_ GE601.out) | exact HB.out)) hb); clear BK599; clear BK600; clear BK601; clear HB; have BK599 := n0_; have BK600 := n1_; have BK601 := n2_; have HB := n3_; clear n0_ n1_ n2_ n3_; (try clear hb); (try clear hb2); (try clear hk); (try clear hi); have hcz15_0 : w14.cell? ⟨gb599, 0, none⟩ = some (.int .i64 a0_0) := (blk_cell BK599.out 0).trans rfl; have hcz15_1 : w14.cell? ⟨gb599, 1, none⟩ = some (.int .i64 a0_1) := (blk_cell BK599.out 1).trans rfl; have hcz15_2 : w14.cell? ⟨gb599, 2, none⟩ = some (.int .u32 a0_2) := (blk_cell BK599.out 2).trans rfl; have hfz15_0 := blk_frozen BK599.out 0; have hfz15_1 := blk_frozen BK599.out 1; have hfz15_2 := blk_frozen BK599.out 2; have hcz16_0 : w14.cell? ⟨gb600, 0, none⟩ = some (.int .i64 a1_0) := (blk_cell BK600.out 0).trans rfl; have hcz16_1 : w14.cell? ⟨gb600, 1, none⟩ = some (.int .i64 a1_1) := (blk_cell BK600.out 1).trans rfl; have hcz16_2 : w14.cell? ⟨gb600, 2, none⟩ = some (.int .u32 a1_2) := (blk_cell BK600.out 2).trans rfl; have hfz16_0 := blk_frozen BK600.out 0; have hfz16_1 := blk_frozen BK600.out 1; have hfz16_2 := blk_frozen BK600.out 2) | ((with_reducible refine gate_callee (f := 76) rfl ?_); refine goesL_ (some 16) rfl rfl Try.func76 (by kernel_rfl) rfl #[.agg #[.int .i64 a0_0, .int .i64 a0_1, .int .u32 a0_2], .agg #[.int .i64 a1_0, .int .i64 a1_1, .int .u32 a1_2]] rfl (by (try simp only [List.map_toArray, List.map_cons, List.map_nil]); first | done | rfl | (simp only [List.length_drop, List.length_take]; rfl)) ?_; (with_reducible refine (impl_Flag_density.calls k a0_0 a0_1 a0_2 a1_0 a1_1 a1_2 t603 t604 _ A5.out).mono ?_); rintro e w17 ⟨rfl, hb⟩; refine ⟨_, rfl, ?_⟩; have n0_ := Aside0.mk (blk_below (g := gb599) (o := .cells #[.int .i64 a0_0, .int .i64 a0_1, .int .u32 a0_2] 45 (0, 0)) (by (with_reducible repeat (first | refine blk_drewN ?_ _ | refine blk_drew ?_ | refine blk_alloc ?_ _)); exact BK599.out) hb); have n1_ := Aside0.mk (blk_below (g := gb600) (o := .cells #[.int .i64 a1_0, .int .i64 a1_1, .int .u32 a1_2] 45 (0, 0)) (by (with_reducible repeat (first | refine blk_drewN ?_ _ | refine blk_drew ?_ | refine blk_alloc ?_ _)); exact BK600.out) hb); have n2_ := Aside0.mk (blk_below (g := gb601) (o := .cells #[.int .i64 0, .int .i64 0] 31 (0, 0)) (by (with_reducible repeat (first | refine blk_drewN ?_ _ | refine blk_drew ?_ | refine blk_alloc ?_ _)); exact BK601.out) hb); have n3_ := Aside0.mk (below_step (by repeat (first | (with_reducible first | exact HB.out | apply below_alloc | apply pw_below_drewN | apply below_drew1 | refine below_set ?_ GE599.out | refine below_set ?_ GE600.out | refine below_set ?_ GE601.out) | exact HB.out)) hb); clear BK599; clear BK600; clear BK601; clear HB; have BK599 := n0_; have BK600 := n1_; have BK601 := n2_; have HB := n3_; clear n0_ n1_ n2_ n3_; (try clear hb); (try clear hb2); (try clear hk); (try clear hi); have hcz18_0 : w17.cell? ⟨gb601, 0, none⟩ = some (.int .i64 0) := (blk_cell BK601.out 0).trans rfl; have hcz18_1 : w17.cell? ⟨gb601, 1, none⟩ = some (.int .i64 0) := (blk_cell BK601.out 1).trans rfl; have hfz18_0 := blk_frozen BK601.out 0; have hfz18_1 := blk_frozen BK601.out 1))
  refine bodyPost_ret (results_ct rfl _ _ gb601 31 #[.int .i64 t603, .int .i64 t604] (0, 0) _ rfl (by (with_reducible repeat (first | refine blk_drewN ?_ _ | refine blk_drew ?_ | refine blk_alloc ?_ _)); refine blk_put (cs := #[.int .i64 t603, .int .i64 0]) ?_ 1 _ rfl; (with_reducible repeat (first | refine blk_drewN ?_ _ | refine blk_drew ?_ | refine blk_alloc ?_ _)); refine blk_put (cs := #[.int .i64 0, .int .i64 0]) ?_ 0 _ rfl; (with_reducible repeat (first | refine blk_drewN ?_ _ | refine blk_drew ?_ | refine blk_alloc ?_ _)); exact BK601.out) Try.underlying31 rfl (by kernel_rfl)) rfl ?_
  exact ⟨by first | rfl | (simp [errW_none, errW_some] <;> rfl) | (simp [*, errW_none, errW_some] <;> rfl), by repeat (first | (with_reducible first | exact HB.out | apply below_alloc | apply pw_below_drewN | apply below_drew1 | refine below_set ?_ GE599.out | refine below_set ?_ GE600.out | refine below_set ?_ GE601.out) | exact HB.out)⟩
 ·rw [if_neg c4] at H
  have c4b0 : (t602 == 0) = false := beq_eq_false_iff_ne.mpr c4
  have c4b1 : (t602 != 0) = true := bne_iff_ne.mpr c4
  simp only [Option.some.injEq, Prod.mk.injEq] at H
  obtain ⟨rfl, rfl, rfl⟩ := H
  go_enter Try.func28, Try.ntmps28
  go_wp2_with (first | ((with_reducible refine gate_dst (N := 2) rfl ?_); refine box_event ?hg (N := 2) ?hd (cs := #[.int .i64 a0_0, .int .i64 a0_1, .int .u32 a0_2]) (t := 45) ?hr ?_; (case hd => rfl); (case hg => rfl); (case hr => first | (go_simp; done) | (go_simp; rfl)); intro gb599 hg w19 hbox hb; have n0_ := Aside0.mk (below_step (by repeat (first | (with_reducible first | exact HB.out | apply below_alloc | apply pw_below_drewN | apply below_drew1) | exact HB.out)) hb); have n1_ := Aside0.mk (hbox); have n2_ := Aside0.mk ((by rw [hg]; exact (below_size (by repeat (first | (with_reducible first | exact HB.out | apply below_alloc | apply pw_below_drewN | apply below_drew1) | exact HB.out))) : w.heap.size ≤ gb599)); have n3_ := n2_; clear HB; have HB := n0_; have BK599 := n1_; have GW599 := n2_; have GE599 := n3_; clear n0_ n1_ n2_ n3_; clear hb hbox hg) | ((with_reducible refine gate_dst (N := 3) rfl ?_); refine box_event ?hg (N := 3) ?hd (cs := #[.int .i64 a1_0, .int .i64 a1_1, .int .u32 a1_2]) (t := 45) ?hr ?_; (case hd => rfl); (case hg => rfl); (case hr => first | (go_simp; done) | (go_simp; rfl)); intro gb600 hg w20 hbox hb; have n0_ := Aside0.mk (blk_below (g := gb599) (o := .cells #[.int .i64 a0_0, .int .i64 a0_1, .int .u32 a0_2] 45 (0, 0)) (by (with_reducible repeat (first | refine blk_drewN ?_ _ | refine blk_drew ?_ | refine blk_alloc ?_ _)); exact BK599.out) hb); have n1_ := Aside0.mk (below_step (by repeat (first | (with_reducible first | exact HB.out | apply below_alloc | apply pw_below_drewN | apply below_drew1 | refine below_set ?_ GE599.out) | exact HB.out)) hb); have n2_ := Aside0.mk (hbox); have n3_ := Aside0.mk ((by rw [hg]; exact (below_size (by repeat (first | (with_reducible first | exact HB.out | apply below_alloc | apply pw_below_drewN | apply below_drew1 | refine below_set ?_ GE599.out) | exact HB.out))) : w.heap.size ≤ gb600)); have n4_ := n3_; have n5_ := Aside0.mk ((by rw [hg]; exact Nat.ne_of_lt (blk_lt (g := gb599) (o := .cells #[.int .i64 a0_0, .int .i64 a0_1, .int .u32 a0_2] 45 (0, 0)) (by (with_reducible repeat (first | refine blk_drewN ?_ _ | refine blk_drew ?_ | refine blk_alloc ?_ _)); exact BK599.out)) : gb599 ≠ gb600)); have n6_ := Aside0.mk (Ne.symm n5_.out); clear BK599; clear HB; have BK599 := n0_; have HB := n1_; have BK600 := n2_; have GW600 := n3_; have GE600 := n4_; have NB599_600 := n5_; have NB600_599 := n6_; clear n0_ n1_ n2_ n3_ n4_ n5_ n6_; clear hb hbox hg) | ((with_reducible refine gate_dst (N := 4) rfl ?_); refine box_event ?hg (N := 4) ?hd (cs := #[.int .i64 0, .int .i64 0]) (t := 31) ?hr ?_; (case hd => rfl); (case hg => rfl); (case hr => first | (go_simp; done) | (go_simp; rfl)); intro gb601 hg w21 hbox hb; have n0_ := Aside0.mk (blk_below (g := gb599) (o := .cells #[.int .i64 a0_0, .int .i64 a0_1, .int .u32 a0_2] 45 (0, 0)) (by (with_reducible repeat (first | refine blk_drewN ?_ _ | refine blk_drew ?_ | refine blk_alloc ?_ _)); exact BK599.out) hb); have n1_ := Aside0.mk (blk_below (g := gb600) (o := .cells #[.int .i64 a1_0, .int .i64 a1_1, .int .u32 a1_2] 45 (0, 0)) (by (with_reducible repeat (first | refine blk_drewN ?_ _ | refine blk_drew ?_ | refine blk_alloc ?_ _)); exact BK600.out) hb); have n2_ := Aside0.mk (below_step (by repeat (first | (with_reducible first | exact HB.out | apply below_alloc | apply pw_below_drewN | apply below_drew1 | refine below_set ?_ GE599.out | refine below_set ?_ GE600.out) | exact HB.out)) hb); have n3_ := Aside0.mk (hbox); have n4_ := Aside0.mk ((by rw [hg]; exact (below_size (by repeat (first | (with_reducible first | exact HB.out | apply below_alloc | apply pw_below_drewN | apply below_drew1 | refine below_set ?_ GE599.out | refine below_set ?_ GE600.out) | exact HB.out))) : w.heap.size ≤ gb601)); have n5_ := n4_; have n6_ := Aside0.mk ((by rw [hg]; exact Nat.ne_of_lt (blk_lt (g := gb599) (o := .cells #[.int .i64 a0_0, .int .i64 a0_1, .int .u32 a0_2] 45 (0, 0)) (by (with_reducible repeat (first | refine blk_drewN ?_ _ | refine blk_drew ?_ | refine blk_alloc ?_ _)); exact BK599.out)) : gb599 ≠ gb601)); have n7_ := Aside0.mk (Ne.symm n6_.out); have n8_ := Aside0.mk ((by rw [hg]; exact Nat.ne_of_lt (blk_lt (g := gb600) (o := .cells #[.int .i64 a1_0, .int .i64 a1_1, .int .u32 a1_2] 45 (0, 0)) (by (with_reducible repeat (first | refine blk_drewN ?_ _ | refine blk_drew ?_ | refine blk_alloc ?_ _)); exact BK600.out)) : gb600 ≠ gb601)); have n9_ := Aside0.mk (Ne.symm n8_.out); clear BK599; clear BK600; clear HB; have BK599 := n0_; have BK600 := n1_; have HB := n2_; have BK601 := n3_; have GW601 := n4_; have GE601 := n5_; have NB599_601 := n6_; have NB601_599 := n7_; have NB600_601 := n8_; have NB601_600 := n9_; clear n0_ n1_ n2_ n3_ n4_ n5_ n6_ n7_ n8_ n9_; clear hb hbox hg; have hnb22 := NB599_600.out; have hnc22 := NB600_599.out; have hnb23 := NB599_601.out; have hnc23 := NB601_599.out; have hcz24_0 : w21.cell? ⟨gb599, 0, none⟩ = some (.int .i64 a0_0) := (blk_cell BK599.out 0).trans rfl; have hcz24_1 : w21.cell? ⟨gb599, 1, none⟩ = some (.int .i64 a0_1) := (blk_cell BK599.out 1).trans rfl; have hcz24_2 : w21.cell? ⟨gb599, 2, none⟩ = some (.int .u32 a0_2) := (blk_cell BK599.out 2).trans rfl; have hfz24_0 := blk_frozen BK599.out 0; have hfz24_1 := blk_frozen BK599.out 1; have hfz24_2 := blk_frozen BK599.out 2; have hnb25 := NB600_601.out; have hnc25 := NB601_600.out; have hcz26_0 : w21.cell? ⟨gb600, 0, none⟩ = some (.int .i64 a1_0) := (blk_cell BK600.out 0).trans rfl; have hcz26_1 : w21.cell? ⟨gb600, 1, none⟩ = some (.int .i64 a1_1) := (blk_cell BK600.out 1).trans rfl; have hcz26_2 : w21.cell? ⟨gb600, 2, none⟩ = some (.int .u32 a1_2) := (blk_cell BK600.out 2).trans rfl; have hfz26_0 := blk_frozen BK600.out 0; have hfz26_1 := blk_frozen BK600.out 1; have hfz26_2 := blk_frozen BK600.out 2) | ((with_reducible refine gate_callee (f := 74) rfl ?_); refine goesL_ (some 9) rfl rfl Try.func74 (by kernel_rfl) rfl #[.agg #[.int .i64 a0_0, .int .i64 a0_1, .int .u32 a0_2], .agg #[.int .i64 a1_0, .int .i64 a1_1, .int .u32 a1_2]] rfl (by (try simp only [List.map_toArray, List.map_cons, List.map_nil]); first | done | rfl | (simp only [List.length_drop, List.length_take]; rfl)) ?_; (with_reducible refine (impl_pairOk.calls k a0_0 a0_1 a0_2 a1_0 a1_1 a1_2 t602 _ A3.out).mono ?_); rintro e w27 ⟨rfl, hb⟩; refine ⟨_, rfl, ?_⟩; have n0_ := Aside0.mk (blk_below (g := gb599) (o := .cells #[.int .i64 a0_0, .int .i64 a0_1, .int .u32 a0_2] 45 (0, 0)) (by (with_reducible repeat (first | refine blk_drewN ?_ _ | refine blk_drew ?_ | refine blk_alloc ?_ _)); exact BK599.out) hb); have n1_ := Aside0.mk (blk_below (g := gb600) (o := .cells #[.int .i64 a1_0, .int .i64 a1_1, .int .u32 a1_2] 45 (0, 0)) (by (with_reducible repeat (first | refine blk_drewN ?_ _ | refine blk_drew ?_ | refine blk_alloc ?_ _)); exact BK600.out) hb); have n2_ := Aside0.mk (blk_below (g := gb601) (o := .cells #[.int .i64 0, .int .i64 0] 31 (0, 0)) (by (with_reducible repeat (first | refine blk_drewN ?_ _ | refine blk_drew ?_ | refine blk_alloc ?_ _)); exact BK601.out) hb); have n3_ := Aside0.mk (below_step (by repeat (first | (with_reducible first | exact HB.out | apply below_alloc | apply pw_below_drewN | apply below_drew1 | refine below_set ?_ GE599.out | refine below_set ?_ GE600.out | refine below_set ?_ GE601.out) | exact HB.out)) hb); clear BK599; clear BK600; clear BK601; clear HB; have BK599 := n0_; have BK600 := n1_; have BK601 := n2_; have HB := n3_; clear n0_ n1_ n2_ n3_; (try clear hb); (try clear hb2); (try clear hk); (try clear hi); have hcz28_0 : w27.cell? ⟨gb601, 0, none⟩ = some (.int .i64 0) := (blk_cell BK601.out 0).trans rfl; have hcz28_1 : w27.cell? ⟨gb601, 1, none⟩ = some (.int .i64 0) := (blk_cell BK601.out 1).trans rfl; have hfz28_0 := blk_frozen BK601.out 0; have hfz28_1 := blk_frozen BK601.out 1))
  refine bodyPost_ret (results_ct rfl _ _ gb601 31 #[.int .i64 0, .int .i64 0] (0, 0) _ rfl (by (with_reducible repeat (first | refine blk_drewN ?_ _ | refine blk_drew ?_ | refine blk_alloc ?_ _)); refine blk_put (cs := #[.int .i64 0, .int .i64 0]) ?_ 1 _ rfl; (with_reducible repeat (first | refine blk_drewN ?_ _ | refine blk_drew ?_ | refine blk_alloc ?_ _)); refine blk_put (cs := #[.int .i64 0, .int .i64 0]) ?_ 0 _ rfl; (with_reducible repeat (first | refine blk_drewN ?_ _ | refine blk_drew ?_ | refine blk_alloc ?_ _)); exact BK601.out) Try.underlying31 rfl (by kernel_rfl)) rfl ?_
  exact ⟨by first | rfl | (simp [errW_none, errW_some] <;> rfl) | (simp [*, errW_none, errW_some] <;> rfl), by repeat (first | (with_reducible first | exact HB.out | apply below_alloc | apply pw_below_drewN | apply below_drew1 | refine below_set ?_ GE599.out | refine below_set ?_ GE600.out | refine below_set ?_ GE601.out) | exact HB.out)⟩

end Go.Proofs.Ytcepbgffnneagaa.Q
end
