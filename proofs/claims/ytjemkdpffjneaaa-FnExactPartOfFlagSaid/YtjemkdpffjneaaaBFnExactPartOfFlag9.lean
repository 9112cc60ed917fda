/- Contracts of Go functions and plain lemmas over what they compute; printed by the kit's print program or written by hand, joined. -/
import Derived.Test.YtjemkdpffjneaaaBFnExactPartOfFlag3
import Derived.Test.YtjemkdpffjneaaaBFnExactPartOfFlag4
import Derived.Test.YtjemkdpffjneaaaBFnExactPartOfFlag6
import Derived.Test.YtjemkdpffjneaaaBFnExactPartOfFlag8
section
namespace Go.Proofs.Ytjemkdpffjneaaa.Q
open Go.RowKit Go.Proofs.YtjemkdpffjneaaaW.PrintWords Go.Proofs.YtjemkdpffjneaaaW.PrintLast Go.Proofs.YtjemkdpffjneaaaW.PrintMore
attribute [local go_sem] max2_int min2_int max_two min_two max_three min_three max_four min_four   -- for this text's walks alone
set_option linter.unusedVariables false
set_option linter.unusedSimpArgs false

def spec_l03Part.f (k : Nat) (a0_0 : Int) (a0_1 : Int) (a0_2 : Int) (l1 : List Int) : Option (Int × Int × Int) := (spec_l01First.f k a0_0).bind fun t754 => (if t754.length + l1.length < 17592186044416 then ((spec_l01On.f k a0_1 a0_2 (t754 ++ l1)).bind fun bt760 => ((spec_l03Least.f k a0_0 bt760.1 bt760.2).bind fun bt762 => (some (bt762.1, bt762.2.1, bt762.2.2)))) else (none))
def spec_l03Part.T2 : Bool × List (List Nat × List Nat) := (true, [([], []), ([0], [0]), ([], []), ([2], [2]), ([], []), ([3, 4], [3, 4]), ([1, 5], [1, 5]), ([6, 5], [6]), ([7, 7, 0, 1, 2, 3, 4, 5, 6, 7], [7])])
def spec_l03Part.B2 : List Nat := [0, 1, 0, 4, 0, 28, 63, 127, 255]
theorem spec_l03Part.tab2 : rtab .any (opsOf Try.f99 2) = spec_l03Part.T2 := by kernel_rfl
theorem spec_l03Part.bits2 : waitsOk spec_l03Part.T2.2 spec_l03Part.B2 = true := by kernel_rfl
set_option maxHeartbeats 8000000 in
set_option maxRecDepth 100000 in
theorem spec_l03Part.calls (k : Nat) (a0_0 : Int) (a0_1 : Int) (a0_2 : Int) (A1 : Option Addr) (c1 : Nat) (l1 : List Int) (r1 : Int) (r2 : Int) (r3 : Int) (w : World) (hr1 : Kd.C (Kd.int .i64) w A1 l1.length l1) (hc1 : l1.length ≤ c1) (h : spec_l03Part.f k a0_0 a0_1 a0_2 l1 = some (r1, r2, r3)) :
    Calls Try.prog 99 #[.agg #[.int .i64 a0_0, .int .i64 a0_1, .int .u32 a0_2], .slice A1 l1.length c1] w fun e w' => e = .returned (.agg #[.int .i64 r1, .int .i64 r2, .int .u32 r3]) ∧ Below w.heap.size w w' := by
  have hu35 := Try.underlying35
  have hu33 := Try.underlying33
  have HR1 := Aside0.mk hr1
  have HC1 := Aside0.mk hc1
  clear hr1 hc1
  have HB := Aside0.mk (Below.refl w.heap.size w)
  have H : ((spec_l01First.f k a0_0).bind fun t754 => (if t754.length + l1.length < 17592186044416 then ((spec_l01On.f k a0_1 a0_2 (t754 ++ l1)).bind fun bt760 => ((spec_l03Least.f k a0_0 bt760.1 bt760.2).bind fun bt762 => (some (bt762.1, bt762.2.1, bt762.2.2)))) else (none))) = some (r1, r2, r3) := h
  clear h
  replace H := Option.bind_eq_some_iff.mp H
  obtain ⟨t754, A30, H⟩ := H
  replace H : (if t754.length + l1.length < 17592186044416 then ((spec_l01On.f k a0_1 a0_2 (t754 ++ l1)).bind fun bt760 => ((spec_l03Least.f k a0_0 bt760.1 bt760.2).bind fun bt762 => (some (bt762.1, bt762.2.1, bt762.2.2)))) else (none)) = some (r1, r2, r3) := H
  have A3 := Aside0.mk A30
  clear A30
  by_cases c4 : t754.length + l1.length < 17592186044416
  · rw [if_pos c4] at H
    have LMc4 := Aside0.mk c4
    clear c4
    obtain ⟨y757, hy757⟩ : ∃ y_ : List Int, y_ = (t754 ++ l1) := ⟨_, rfl⟩
    replace H : ((spec_l01On.f k a0_1 a0_2 y757).bind fun bt760 => ((spec_l03Least.f k a0_0 bt760.1 bt760.2).bind fun bt762 => (some (bt762.1, bt762.2.1, bt762.2.2)))) = some (r1, r2, r3) := by first | (rw [hy757]; with_reducible exact H) | (have H2_ := (Option.bind_some _ _).symm.trans H; rw [hy757]; with_reducible exact H2_) | (have H2_ := (Option.bind_some _ _).symm.trans H; with_reducible exact H2_) | with_reducible exact H | (rw [hy757]; exact H) | exact H
    have Ny757 := Aside0.mk hy757
    clear hy757
    replace H := Option.bind_eq_some_iff.mp H
    obtain ⟨⟨t760, t761⟩, A50, H⟩ := H
    replace H : ((spec_l03Least.f k a0_0 t760 t761).bind fun bt762 => (some (bt762.1, bt762.2.1, bt762.2.2))) = some (r1, r2, r3) := H
    have A5 := Aside0.mk A50
    clear A50
    replace H := Option.bind_eq_some_iff.mp H
    obtain ⟨⟨t762, t763, t764⟩, A60, H⟩ := H
    replace H : (some (t762, t763, t764)) = some (r1, r2, r3) := H
    have A6 := Aside0.mk A60
    clear A60
    simp only [Option.some.injEq, Prod.mk.injEq] at H
    obtain ⟨rfl, rfl, rfl⟩ := H
    go_enter Try.func99, Try.ntmps99
    try go_wp2_with (first | ((with_reducible refine gate_dst (N := 2) rfl ?_); refine box_event ?hg (N := 2) ?hd (cs := #[.int .i64 a0_0, .int .i64 a0_1, .int .u32 a0_2]) (t := 35) ?hr ?_; (case hd => rfl); (case hg => rfl); (case hr => first | (go_simp; done) | (go_simp; rfl)); intro gb752 hg w7 hbox hb; have n0_ := Aside0.mk (below_step (by repeat (first | (with_reducible first | exact HB.out | apply below_alloc | apply pw_below_drewN | apply below_drew1) | exact HB.out)) hb); have n1_ := Aside0.mk (hbox); have n2_ := Aside0.mk ((by rw [hg]; exact (below_size (by repeat (first | (with_reducible first | exact HB.out | apply below_alloc | apply pw_below_drewN | apply below_drew1) | exact HB.out))) : w.heap.size ≤ gb752)); have n3_ := Aside0.mk ((by rw [hg]; exact (below_size (by repeat (first | (with_reducible first | exact HB.out | apply below_alloc | apply pw_below_drewN | apply below_drew1) | exact HB.out))) : w.heap.size ≤ gb752)); clear HB; have HB := n0_; have BK752 := n1_; have GW752 := n2_; have GE752 := n3_; clear n0_ n1_ n2_ n3_; clear hb hbox hg) | ((with_reducible refine gate_dst (N := 4) rfl ?_); refine box_event ?hg (N := 4) ?hd (cs := #[.int .i64 0, .int .i64 0, .int .u32 0]) (t := 35) ?hr ?_; (case hd => rfl); (case hg => rfl); (case hr => first | (go_simp; done) | (go_simp; rfl)); intro gb753 hg w8 hbox hb; have n0_ := Aside0.mk (blk_below (g := gb752) (o := .cells #[.int .i64 a0_0, .int .i64 a0_1, .int .u32 a0_2] 35 (0, 0)) (by (with_reducible repeat (first | refine blk_drewN ?_ _ | refine blk_drew ?_ | refine blk_alloc ?_ _)); exact BK752.out) hb); have n1_ := Aside0.mk (below_step (by repeat (first | (with_reducible first | exact HB.out | apply below_alloc | apply pw_below_drewN | apply below_drew1 | refine below_set ?_ GE752.out) | exact HB.out)) hb); have n2_ := Aside0.mk (hbox); have n3_ := Aside0.mk ((by rw [hg]; exact (below_size (by repeat (first | (with_reducible first | exact HB.out | apply below_alloc | apply pw_below_drewN | apply below_drew1 | refine below_set ?_ GE752.out) | exact HB.out))) : w.heap.size ≤ gb753)); have n4_ := Aside0.mk ((by rw [hg]; exact (below_size (by repeat (first | (with_reducible first | exact HB.out | apply below_alloc | apply pw_below_drewN | apply below_drew1 | refine below_set ?_ GE752.out) | exact HB.out))) : w.heap.size ≤ gb753)); have n5_ := Aside0.mk ((by rw [hg]; exact Nat.ne_of_lt (blk_lt (g := gb752) (o := .cells #[.int .i64 a0_0, .int .i64 a0_1, .int .u32 a0_2] 35 (0, 0)) (by (with_reducible repeat (first | refine blk_drewN ?_ _ | refine blk_drew ?_ | refine blk_alloc ?_ _)); exact BK752.out)) : gb752 ≠ gb753)); have n6_ := Aside0.mk ((by rw [hg]; exact Nat.ne_of_gt (blk_lt (g := gb752) (o := .cells #[.int .i64 a0_0, .int .i64 a0_1, .int .u32 a0_2] 35 (0, 0)) (by (with_reducible repeat (first | refine blk_drewN ?_ _ | refine blk_drew ?_ | refine blk_alloc ?_ _)); exact BK752.out)) : gb753 ≠ gb752)); clear BK752; clear HB; have BK752 := n0_; have HB := n1_; have BK753 := n2_; have GW753 := n3_; have GE753 := n4_; have NB752_753 := n5_; have NB753_752 := n6_; clear n0_ n1_ n2_ n3_ n4_ n5_ n6_; clear hb hbox hg; have hnb9 := NB752_753.out; have hnc9 := NB753_752.out; have hcz10_0 : w8.cell? ⟨gb752, 0, none⟩ = some (.int .i64 a0_0) := (blk_cell BK752.out 0).trans rfl; have hcz10_1 : w8.cell? ⟨gb752, 1, none⟩ = some (.int .i64 a0_1) := (blk_cell BK752.out 1).trans rfl; have hcz10_2 : w8.cell? ⟨gb752, 2, none⟩ = some (.int .u32 a0_2) := (blk_cell BK752.out 2).trans rfl; have hfz10_0 := blk_frozen BK752.out 0; have hfz10_1 := blk_frozen BK752.out 1; have hfz10_2 := blk_frozen BK752.out 2) | ((with_reducible refine gate_callee (f := 98) rfl ?_); refine goesL_ (some 8) rfl rfl Try.func98 (by kernel_rfl) rfl #[.int .i64 a0_0] rfl (by (try simp only [List.map_toArray, List.map_cons, List.map_nil]); first | done | rfl | (simp only [List.length_drop, List.length_take]; rfl)) ?_; (with_reducible refine (spec_l01First.calls k a0_0 t754 _ A3.out).mono ?_); rintro e w11 ⟨v755, rfl, ho0, hb⟩; refine ⟨_, rfl, ?_⟩; have n0_ := Aside0.mk (Kd.R_lower ho0 (below_size (by repeat (first | (with_reducible first | exact HB.out | apply below_alloc | apply pw_below_drewN | apply below_drew1 | refine below_set ?_ GE752.out | refine below_set ?_ GE753.out) | exact HB.out)))); have n1_ := Aside0.mk (blk_below (g := gb752) (o := .cells #[.int .i64 a0_0, .int .i64 a0_1, .int .u32 a0_2] 35 (0, 0)) (by (with_reducible repeat (first | refine blk_drewN ?_ _ | refine blk_drew ?_ | refine blk_alloc ?_ _)); exact BK752.out) hb); have n2_ := Aside0.mk (blk_below (g := gb753) (o := .cells #[.int .i64 0, .int .i64 0, .int .u32 0] 35 (0, 0)) (by (with_reducible repeat (first | refine blk_drewN ?_ _ | refine blk_drew ?_ | refine blk_alloc ?_ _)); exact BK753.out) hb); have n3_ := Aside0.mk (below_step (by repeat (first | (with_reducible first | exact HB.out | apply below_alloc | apply pw_below_drewN | apply below_drew1 | refine below_set ?_ GE752.out | refine below_set ?_ GE753.out) | exact HB.out)) hb); clear BK752; clear BK753; clear HB; have HO756 := n0_; have BK752 := n1_; have BK753 := n2_; have HB := n3_; clear n0_ n1_ n2_ n3_; (try clear hb); (try clear hb2); (try clear hk); (try clear hi); (try clear ho0)) | ((with_reducible refine gate_builtin (b := .append) (xs := #[.tmp 8, .tmp 9]) rfl ?_); at_builtin; refine Kd.R_append_rows (Kd.int .i64) (w0 := w) w.heap.size rfl (.tmp 8) (.tmp 9) 61 2 (.int .i64 0) 8 rfl Try.underlying61 info2 rfl (by decide) (by omega) v755 t754 l1 _ _ _ (fun _ => True) (fun _ => False) rfl rfl ?aO ?aR (fun _ _ h => h) (fun _ h => h.elim) ?aF ?aB ?aS ?aL ?_; (case aR => repeat (first | exact (Kd.C_below HR1.out HB.out) | (with_reducible refine Kd.C_alloc ?_ _) | (with_reducible refine Kd.C_drewN ?_ _) | (with_reducible refine Kd.C_drew ?_))); (case aB => exact (by repeat (first | (with_reducible first | exact HB.out | apply below_alloc | apply pw_below_drewN | apply below_drew1 | refine below_set ?_ GE752.out | refine below_set ?_ GE753.out) | exact HB.out))); (case aF => exact (fun _ _ => trivial)); (case aO => exact (by (with_reducible repeat (first | apply Kd.R_alloc | apply Kd.R_drewN | apply Kd.R_drew)); exact HO756.out)); (case aS => exact (below_size (by repeat (first | (with_reducible first | exact HB.out | apply below_alloc | apply pw_below_drewN | apply below_drew1 | refine below_set ?_ GE752.out | refine below_set ?_ GE753.out) | exact HB.out)))); (case aL => have := LMc4.out; omega); intro v758 w12 ho hb hg hat; rw [← Ny757.out] at ho; have n0_ := Aside0.mk (blk_grown (g := gb752) (o := .cells #[.int .i64 a0_0, .int .i64 a0_1, .int .u32 a0_2] 35 (0, 0)) (by (with_reducible repeat (first | refine blk_drewN ?_ _ | refine blk_drew ?_ | refine blk_alloc ?_ _)); exact BK752.out) hg (Kd.R_ne HO756.out BK752.out (by decide))); have n1_ := Aside0.mk (blk_grown (g := gb753) (o := .cells #[.int .i64 0, .int .i64 0, .int .u32 0] 35 (0, 0)) (by (with_reducible repeat (first | refine blk_drewN ?_ _ | refine blk_drew ?_ | refine blk_alloc ?_ _)); exact BK753.out) hg (Kd.R_ne HO756.out BK753.out (by decide))); have n2_ := Aside0.mk (hb); have n3_ := Aside0.mk (ho); clear BK752; clear BK753; clear HB; clear HO756; have BK752 := n0_; have BK753 := n1_; have HB := n2_; have HO759 := n3_; clear n0_ n1_ n2_ n3_; clear ho hb hg hat))
    have n0_ := Aside0.mk (Kd.R_drew HO759.out)
    have n1_ := Aside0.mk (blk_drew BK752.out)
    have n2_ := Aside0.mk (blk_drew BK753.out)
    have n3_ := Aside0.mk (below_drew1 HB.out)
    clear HO759
    clear BK752
    clear BK753
    clear HB
    have HO759 := n0_
    have BK752 := n1_
    have BK753 := n2_
    have HB := n3_
    clear n0_ n1_ n2_ n3_
    obtain ⟨Ao14, co14, eo14⟩ := Kd.R_slice HO759.out
    (first | subst eo14 | (injection eo14 with f1_ f2_ f3_; have f4_ := f1_.symm; have f5_ := f3_.symm; clear f1_ f2_ f3_; subst f4_; subst f5_))
    refine start_ (n := 9) (S := fun w' => w'.cell? ⟨gb752, 0, none⟩ = some (.int .i64 a0_0) ∧ w'.cell? ⟨gb752, 1, none⟩ = some (.int .i64 a0_1) ∧ w'.cell? ⟨gb752, 2, none⟩ = some (.int .u32 a0_2)) (ds := []) #[false, false, false, false, false, false, false, false, false] (by kernel_rfl) rfl rfl ⟨(blk_cell BK752.out 0).trans rfl, (blk_cell BK752.out 1).trans rfl, (blk_cell BK752.out 2).trans rfl⟩ (fun hHeld => ?_); refine with_tabW spec_l03Part.tab2 spec_l03Part.bits2 (fun HT_ HW_ => ?_)
    generalize w12.drew = w13 at HO759 BK752 BK753 HB hHeld ⊢
    refine pure_ (i := 0) (N := some 11) (v := ?_) (a' := ?_) #[true, false, false, false, false, false, false, false, false] rfl rfl (any_of HT_.out (by kernel_rfl)) (fun _ _ _ h => h) (Or.inl ⟨by rfl, ?_⟩) ?_ ?_
    rotate_left
    · intro w'
      go_simp
      with_reducible rfl
    rotate_left
    · simp only [Act.put, List.setIfInBounds_toArray, List.set_cons_zero, List.set_cons_succ, i64_w, i32_w]
      rfl
    refine pure_ (i := 2) (N := some 13) (v := ?_) (a' := ?_) #[true, false, true, false, false, false, false, false, false] rfl rfl (any_of HT_.out (by kernel_rfl)) (fun _ _ _ h => h) (Or.inl ⟨by rfl, ?_⟩) ?_ ?_
    rotate_left
    · intro w'
      go_simp
      with_reducible rfl
    rotate_left
    · simp only [Act.put, List.setIfInBounds_toArray, List.set_cons_zero, List.set_cons_succ, i64_w, i32_w]
      rfl
    refine pure_ (i := 4) (N := some 15) (v := ?_) (a' := ?_) #[true, false, true, false, true, false, false, false, false] rfl rfl (any_of HT_.out (by kernel_rfl)) (fun _ _ _ h => h) (Or.inl ⟨by rfl, ?_⟩) ?_ ?_
    rotate_left
    · intro w'
      go_simp
      with_reducible rfl
    rotate_left
    · simp only [Act.put, List.setIfInBounds_toArray, List.set_cons_zero, List.set_cons_succ, i64_w, i32_w]
      rfl
    refine take_ (i := 1) (N := some 12) (v := ?_) (a' := ?_) #[true, true, true, false, true, false, false, false, false] rfl rfl (take_ofW HT_.out HW_.out (by kernel_rfl)) (fun _ _ _ h => h) (Or.inl ⟨by rfl, ?_⟩) hHeld ?_ ?_
    rotate_left
    · rintro w' ⟨s0, s1, s2⟩
      go_simp
      with_reducible rfl
    rotate_left
    · simp only [Act.put, List.setIfInBounds_toArray, List.set_cons_zero, List.set_cons_succ, i64_w, i32_w]
      rfl
    refine take_ (i := 3) (N := some 14) (v := ?_) (a' := ?_) #[true, true, true, true, true, false, false, false, false] rfl rfl (take_ofW HT_.out HW_.out (by kernel_rfl)) (fun _ _ _ h => h) (Or.inl ⟨by rfl, ?_⟩) hHeld ?_ ?_
    rotate_left
    · rintro w' ⟨s0, s1, s2⟩
      go_simp
      with_reducible rfl
    rotate_left
    · simp only [Act.put, List.setIfInBounds_toArray, List.set_cons_zero, List.set_cons_succ, i64_w, i32_w]
      rfl
    refine one_ (i := 5) (N := some 16) #[true, true, true, true, true, true, false, false, false] rfl rfl (one_of HT_.out (by kernel_rfl)) (by decide) (fun K hK => ?_)
    refine goes_ Try.func117 (by kernel_rfl) rfl #[.agg #[.int .i64 a0_1, .int .u32 a0_2], .slice Ao14 y757.length co14] (by rfl) rfl rfl (by (try simp only [List.map_toArray, List.map_cons, List.map_nil]); first | done | rfl | (simp only [List.length_drop, List.length_take]; rfl)) ?_
    with_reducible refine (spec_l01On.calls k a0_1 a0_2 _ _ y757 t760 t761 _ ?side1 ?side2 A5.out).mono ?_
    (case side1 => repeat (first | exact (Kd.R_reads' HO759.out).2.2 | (with_reducible refine Kd.C_alloc ?_ _) | (with_reducible refine Kd.C_drewN ?_ _) | (with_reducible refine Kd.C_drew ?_)))
    (case side2 => exact (Kd.R_reads' HO759.out).2.1)
    rintro e w15 ⟨rfl, hb⟩
    refine ⟨_, rfl, ?_⟩
    have n0_ := Aside0.mk (Kd.R_below (by (with_reducible repeat (first | apply Kd.R_alloc | apply Kd.R_drewN | apply Kd.R_drew)); exact HO759.out) hb)
    have n1_ := Aside0.mk (blk_below (g := gb752) (o := .cells #[.int .i64 a0_0, .int .i64 a0_1, .int .u32 a0_2] 35 (0, 0)) (by (with_reducible repeat (first | refine blk_drewN ?_ _ | refine blk_drew ?_ | refine blk_alloc ?_ _)); exact BK752.out) hb)
    have n2_ := Aside0.mk (blk_below (g := gb753) (o := .cells #[.int .i64 0, .int .i64 0, .int .u32 0] 35 (0, 0)) (by (with_reducible repeat (first | refine blk_drewN ?_ _ | refine blk_drew ?_ | refine blk_alloc ?_ _)); exact BK753.out) hb)
    have n3_ := Aside0.mk (below_step (by repeat (first | (with_reducible first | exact HB.out | apply below_alloc | apply pw_below_drewN | apply below_drew1 | refine below_set ?_ GE752.out | refine below_set ?_ GE753.out) | exact HB.out)) hb)
    clear HO759
    clear BK752
    clear BK753
    clear HB
    have HO759 := n0_
    have BK752 := n1_
    have BK753 := n2_
    have HB := n3_
    clear n0_ n1_ n2_ n3_
    (try clear hb)
    (try clear hb2)
    (try clear hk)
    (try clear hi)
    refine hK.out _ _ ⟨(blk_cell BK752.out 0).trans rfl, (blk_cell BK752.out 1).trans rfl, (blk_cell BK752.out 2).trans rfl⟩ (fun hHeld => ?_)
    clear hK K
    refine norm_ (a' := ?_) ?_ ?_
    rotate_left
    · show Act.put _ (some 16) _ = _
      simp only [Act.put, List.setIfInBounds_toArray, List.set_cons_zero, List.set_cons_succ, i64_w, i32_w]
      rfl
    refine pure_ (i := 6) (N := some 17) (v := ?_) (a' := ?_) #[true, true, true, true, true, true, true, false, false] rfl rfl (any_of HT_.out (by kernel_rfl)) (fun _ _ _ h => h) (Or.inl ⟨by rfl, ?_⟩) ?_ ?_
    rotate_left
    · intro w'
      go_simp
      with_reducible rfl
    rotate_left
    · simp only [Act.put, List.setIfInBounds_toArray, List.set_cons_zero, List.set_cons_succ, i64_w, i32_w]
      rfl
    refine one_ (i := 7) (N := some 18) #[true, true, true, true, true, true, true, true, false] rfl rfl (one_of HT_.out (by kernel_rfl)) (by decide) (fun K hK => ?_)
    refine goes_ Try.func69 (by kernel_rfl) rfl #[.agg #[.int .i64 a0_0, .int .i64 t760, .int .u32 t761]] (by rfl) rfl rfl (by (try simp only [List.map_toArray, List.map_cons, List.map_nil]); first | done | rfl | (simp only [List.length_drop, List.length_take]; rfl)) ?_
    with_reducible refine (spec_l03Least.calls k a0_0 t760 t761 t762 t763 t764 _ A6.out).mono ?_
    rintro e w16 ⟨rfl, hb⟩
    refine ⟨_, rfl, ?_⟩
    have n0_ := Aside0.mk (Kd.R_below (by (with_reducible repeat (first | apply Kd.R_alloc | apply Kd.R_drewN | apply Kd.R_drew)); exact HO759.out) hb)
    have n1_ := Aside0.mk (blk_below (g := gb752) (o := .cells #[.int .i64 a0_0, .int .i64 a0_1, .int .u32 a0_2] 35 (0, 0)) (by (with_reducible repeat (first | refine blk_drewN ?_ _ | refine blk_drew ?_ | refine blk_alloc ?_ _)); exact BK752.out) hb)
    have n2_ := Aside0.mk (blk_below (g := gb753) (o := .cells #[.int .i64 0, .int .i64 0, .int .u32 0] 35 (0, 0)) (by (with_reducible repeat (first | refine blk_drewN ?_ _ | refine blk_drew ?_ | refine blk_alloc ?_ _)); exact BK753.out) hb)
    have n3_ := Aside0.mk (below_step (by repeat (first | (with_reducible first | exact HB.out | apply below_alloc | apply pw_below_drewN | apply below_drew1 | refine below_set ?_ GE752.out | refine below_set ?_ GE753.out) | exact HB.out)) hb)
    clear HO759
    clear BK752
    clear BK753
    clear HB
    have HO759 := n0_
    have BK752 := n1_
    have BK753 := n2_
    have HB := n3_
    clear n0_ n1_ n2_ n3_
    (try clear hb)
    (try clear hb2)
    (try clear hk)
    (try clear hi)
    refine hK.out _ _ ⟨(blk_cell BK752.out 0).trans rfl, (blk_cell BK752.out 1).trans rfl, (blk_cell BK752.out 2).trans rfl⟩ (fun hHeld => ?_)
    clear hK K
    refine norm_ (a' := ?_) ?_ ?_
    rotate_left
    · show Act.put _ (some 18) _ = _
      simp only [Act.put, List.setIfInBounds_toArray, List.set_cons_zero, List.set_cons_succ, i64_w, i32_w]
      rfl
    refine one_ (i := 8) (N := none) #[true, true, true, true, true, true, true, true, true] rfl rfl (one_of HT_.out (by kernel_rfl)) (by decide) (fun K hK => ?_)
    have hs17 : w16.cell? ⟨gb753, 0, none⟩ = some (.int .i64 0) := (blk_cell BK753.out 0).trans rfl
    have hfs17 := blk_frozen BK753.out 0
    have hns17_0 := NB752_753.out
    have hms17_0 := NB753_752.out
    have hs18 : w16.cell? ⟨gb753, 1, none⟩ = some (.int .i64 0) := (blk_cell BK753.out 1).trans rfl
    have hfs18 := blk_frozen BK753.out 1
    have hns18_0 := NB752_753.out
    have hms18_0 := NB753_752.out
    have hs19 : w16.cell? ⟨gb753, 2, none⟩ = some (.int .u32 0) := (blk_cell BK753.out 2).trans rfl
    have hfs19 := blk_frozen BK753.out 2
    have hns19_0 := NB752_753.out
    have hms19_0 := NB753_752.out
    refine skip_ (w1 := ?_) (by rfl) rfl ?_ ?_
    rotate_left
    · go_simp
      rfl
    refine hK.out _ _ ⟨((cell_far (p := ⟨gb753, _, none⟩) NB752_753.out _).trans (((cell_far (p := ⟨gb753, _, none⟩) NB752_753.out _).trans (((cell_far (p := ⟨gb753, _, none⟩) NB752_753.out _).trans (hHeld.1)))))), ((cell_far (p := ⟨gb753, _, none⟩) NB752_753.out _).trans (((cell_far (p := ⟨gb753, _, none⟩) NB752_753.out _).trans (((cell_far (p := ⟨gb753, _, none⟩) NB752_753.out _).trans (hHeld.2.1)))))), ((cell_far (p := ⟨gb753, _, none⟩) NB752_753.out _).trans (((cell_far (p := ⟨gb753, _, none⟩) NB752_753.out _).trans (((cell_far (p := ⟨gb753, _, none⟩) NB752_753.out _).trans (hHeld.2.2))))))⟩ (fun hHeld => ?_)
    clear hK K
    refine done_ (done_of HT_.out (by kernel_rfl)) ?_
    try go_wp2
    refine bodyPost_ret (results_cell_row rfl _ _ gb753 35 #[.int .i64 t762, .int .i64 t763, .int .u32 t764] (0, 0) _ rfl (by (with_reducible repeat (first | refine blk_drewN ?_ _ | refine blk_drew ?_ | refine blk_alloc ?_ _)); refine blk_put (cs := #[.int .i64 t762, .int .i64 t763, .int .u32 0]) ?_ 2 _ rfl; (with_reducible repeat (first | refine blk_drewN ?_ _ | refine blk_drew ?_ | refine blk_alloc ?_ _)); refine blk_put (cs := #[.int .i64 t762, .int .i64 0, .int .u32 0]) ?_ 1 _ rfl; (with_reducible repeat (first | refine blk_drewN ?_ _ | refine blk_drew ?_ | refine blk_alloc ?_ _)); refine blk_put (cs := #[.int .i64 0, .int .i64 0, .int .u32 0]) ?_ 0 _ rfl; (with_reducible repeat (first | refine blk_drewN ?_ _ | refine blk_drew ?_ | refine blk_alloc ?_ _)); exact BK753.out) Try.underlying35 rfl (by kernel_rfl)) rfl ?_
    exact ⟨by first | rfl | (simp [errW_none, errW_some] <;> rfl) | (simp [*, errW_none, errW_some] <;> rfl), by repeat (first | (with_reducible first | exact HB.out | apply below_alloc | apply pw_below_drewN | apply below_drew1 | refine below_set ?_ GE752.out | refine below_set ?_ GE753.out) | exact HB.out)⟩
  · rw [if_neg c4] at H
    exact absurd H (by simp)

end Go.Proofs.Ytjemkdpffjneaaa.Q
end
