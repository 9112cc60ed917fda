/- Contracts of Go functions and plain lemmas over what they compute; printed by the kit's print program or written by hand, joined. -/
import Derived.Test.YtcepbgffnneagaaBFnExactJointDensity3
import Derived.Test.YtcepbgffnneagaaBFnExactJointDensity9
import Derived.Test.YtcepbgffnneagaaBFnExactJointDensity14
section
namespace Go.Proofs.Ytcepbgffnneagaa.Q
open Go.RowKit Go.Proofs.YtcepbgffnneagaaW.PrintWords Go.Proofs.YtcepbgffnneagaaW.PrintLast Go.Proofs.YtcepbgffnneagaaW.PrintMore
attribute [local go_sem] max2_int min2_int max_two min_two max_three min_three max_four min_four
set_option linter.unusedVariables false
set_option linter.unusedSimpArgs false
section
noncomputable def laws_FnExactJointDensity.f (k : Nat) (a0_0 : Int) (a0_1 : Int) (a0_2 : Int) (a1_0 : Int) (a1_1 : Int) (a1_2 : Int) (a2_0 : Int) (a2_1 : Int) (a2_2 : Int) : Option (Bool) := (laws_toFlag.f a0_0 a0_1 a0_2).bind fun bt749 => ((laws_toFlag.f a1_0 a1_1 a1_2).bind fun bt752 => ((laws_toFlag.f a2_0 a2_1 a2_2).bind fun bt755 => ((spec_JointDensity.f k bt749.1 bt749.2.1 bt749.2.2 bt752.1 bt752.2.1 bt752.2.2 bt755.1 bt755.2.1 bt755.2.2).bind fun bt758 => ((laws_toFlag.f a0_0 a0_1 a0_2).bind fun bt762 => ((laws_toFlag.f a1_0 a1_1 a1_2).bind fun bt765 => ((laws_toFlag.f a2_0 a2_1 a2_2).bind fun bt768 => ((impl_JointDensity.f k bt762.1 bt762.2.1 bt762.2.2 bt765.1 bt765.2.1 bt765.2.2 bt768.1 bt768.2.1 bt768.2.2).bind fun bt771 => ((laws_eqFraction.f bt771.1 bt771.2.1 bt758.1 bt758.2.1).bind fun t775 => (if t775 = true then (if bt771.2.2 = bt758.2.2 then (some true) else (some false)) else (some false))))))))))
noncomputable def laws_FnExactJointDensity.T1 : Bool × List (List Nat × List Nat) := (true, [([], []), ([0], [0]), ([], []), ([2, 1], [2]), ([], []), ([4, 3], [4]), ([1, 3, 5, 5], [1, 3, 5]), ([6], [6]), ([7], [7]), ([7], [7]), ([], []), ([10, 8, 6, 0, 1, 2, 3, 4, 5, 6, 7, 8, 10], [8, 10]), ([9, 11, 0, 1, 2, 3, 4, 5, 6, 7, 8, 9, 10, 11], [9])])
noncomputable def laws_FnExactJointDensity.B1 : List Nat := [0, 1, 0, 7, 0, 31, 63, 127, 255, 255, 0, 1535, 4095]
theorem laws_FnExactJointDensity.tab1 : rtab .any (opsOf Try.f8 1) = laws_FnExactJointDensity.T1 := by kernel_rfl
theorem laws_FnExactJointDensity.bits1 : waitsOk laws_FnExactJointDensity.T1.2 laws_FnExactJointDensity.B1 = true := by kernel_rfl
noncomputable def laws_FnExactJointDensity.T2 : Bool × List (List Nat × List Nat) := (true, [([], []), ([0], [0]), ([], []), ([2, 1], [2]), ([], []), ([4, 3], [4]), ([1, 3, 5, 5], [1, 3, 5]), ([6], [6]), ([7], [7]), ([7], [7]), ([], []), ([10, 8, 6, 0, 1, 2, 3, 4, 5, 6, 7, 8, 10], [8, 10]), ([9, 11, 0, 1, 2, 3, 4, 5, 6, 7, 8, 9, 10, 11], [9])])
noncomputable def laws_FnExactJointDensity.B2 : List Nat := [0, 1, 0, 7, 0, 31, 63, 127, 255, 255, 0, 1535, 4095]
theorem laws_FnExactJointDensity.tab2 : rtab .any (opsOf Try.f8 2) = laws_FnExactJointDensity.T2 := by kernel_rfl
theorem laws_FnExactJointDensity.bits2 : waitsOk laws_FnExactJointDensity.T2.2 laws_FnExactJointDensity.B2 = true := by kernel_rfl
set_option maxHeartbeats 8000000 in
set_option maxRecDepth 100000 in
theorem laws_FnExactJointDensity.calls (k : Nat) (a0_0 : Int) (a0_1 : Int) (a0_2 : Int) (a1_0 : Int) (a1_1 : Int) (a1_2 : Int) (a2_0 : Int) (a2_1 : Int) (a2_2 : Int) (r : Bool) (w : World) (h : laws_FnExactJointDensity.f k a0_0 a0_1 a0_2 a1_0 a1_1 a1_2 a2_0 a2_1 a2_2 = some true) :
  Calls Try.prog 8 #[.agg #[.int .i64 a0_0, .int .i64 a0_1, .int .u32 a0_2], .agg #[.int .i64 a1_0, .int .i64 a1_1, .int .u32 a1_2], .agg #[.int .i64 a2_0, .int .i64 a2_1, .int .u32 a2_2]] w fun e w' => e = .returned (.bool true) ∧ Below w.heap.size w w' := by
 have hu42 := Try.underlying42
 have hu31 := Try.underlying31
 have HB := Aside0.mk (Below.refl w.heap.size w)
 unfold laws_FnExactJointDensity.f at h
 have H := h
 clear h
 replace H := Option.bind_eq_some_iff.mp H
 obtain ⟨⟨t749, t750, t751⟩, A40, H⟩ := H
 (try dsimp only at H)
 have A4 := Aside0.mk A40
 clear A40
 replace H := Option.bind_eq_some_iff.mp H
 obtain ⟨⟨t752, t753, t754⟩, A50, H⟩ := H
 (try dsimp only at H)
 have A5 := Aside0.mk A50
 clear A50
 replace H := Option.bind_eq_some_iff.mp H
 obtain ⟨⟨t755, t756, t757⟩, A60, H⟩ := H
 (try dsimp only at H)
 have A6 := Aside0.mk A60
 clear A60
 replace H := Option.bind_eq_some_iff.mp H
 obtain ⟨⟨t758, t759, t760⟩, A70, H⟩ := H
 (try dsimp only at H)
 have A7 := Aside0.mk A70
 clear A70
 replace H := Option.bind_eq_some_iff.mp H
 obtain ⟨⟨t762, t763, t764⟩, A80, H⟩ := H
 (try dsimp only at H)
 have A8 := Aside0.mk A80
 clear A80
 replace H := Option.bind_eq_some_iff.mp H
 obtain ⟨⟨t765, t766, t767⟩, A90, H⟩ := H
 (try dsimp only at H)
 have A9 := Aside0.mk A90
 clear A90
 replace H := Option.bind_eq_some_iff.mp H
 obtain ⟨⟨t768, t769, t770⟩, A100, H⟩ := H
 (try dsimp only at H)
 have A10 := Aside0.mk A100
 clear A100
 replace H := Option.bind_eq_some_iff.mp H
 obtain ⟨⟨t771, t772, t773⟩, A110, H⟩ := H
 (try dsimp only at H)
 have A11 := Aside0.mk A110
 clear A110
 replace H := Option.bind_eq_some_iff.mp H
 obtain ⟨t775, A120, H⟩ := H
 (try dsimp only at H)
 have A12 := Aside0.mk A120
 clear A120
 by_cases c13 : t775 = true
 ·subst c13
  rw [if_pos rfl] at H
  by_cases c14 : t773 = t760
  ·rw [if_pos c14] at H
   have c14b0 : (t773 == t760) = true := beq_iff_eq.mpr c14
   have c14b1 : (t773 != t760) = false := bne_eq_false_iff_eq.mpr c14
   clear c14
   clear H
   go_enter Try.func8, Try.ntmps8
   try go_wp2_with (first | ((with_reducible refine gate_dst (N := 3) rfl ?_); refine box_event rfl (N := 3) rfl (cs := #[.int .i64 a0_0, .int .i64 a0_1, .int .u32 a0_2]) (t := 42) ?hr ?_; (case hr => first | (go_simp; done) | (go_simp; rfl)); intro gb746 hg w15 hbox hb; have BK746 := Aside0.mk (hbox); have GW746 := geA HB hg; replace HB := hbB HB hb; have GE746 := GW746; clear hb hbox hg) | ((with_reducible refine gate_dst (N := 4) rfl ?_); refine box_event rfl (N := 4) rfl (cs := #[.int .i64 a1_0, .int .i64 a1_1, .int .u32 a1_2]) (t := 42) ?hr ?_; (case hr => first | (go_simp; done) | (go_simp; rfl)); intro gb747 hg w16 hbox hb; have BK747 := Aside0.mk (hbox); have GW747 := geA HB hg; replace HB := hbB HB hb; have GE747 := GW747; have NB746_747 := nbA hg BK746; replace BK746 := bkB BK746 hb; have NB747_746 := neA NB746_747; clear hb hbox hg) | ((with_reducible refine gate_dst (N := 5) rfl ?_); refine box_event rfl (N := 5) rfl (cs := #[.int .i64 a2_0, .int .i64 a2_1, .int .u32 a2_2]) (t := 42) ?hr ?_; (case hr => first | (go_simp; done) | (go_simp; rfl)); intro gb748 hg w17 hbox hb; have BK748 := Aside0.mk (hbox); have GW748 := geA HB hg; replace HB := hbB HB hb; have GE748 := GW748; have NB746_748 := nbA hg BK746; replace BK746 := bkB BK746 hb; have NB748_746 := neA NB746_748; have NB747_748 := nbA hg BK747; replace BK747 := bkB BK747 hb; have NB748_747 := neA NB747_748; clear hb hbox hg))
   replace BK746 := Aside0.mk (blk_drew BK746.out)
   replace BK747 := Aside0.mk (blk_drew BK747.out)
   replace BK748 := Aside0.mk (blk_drew BK748.out)
   replace HB := Aside0.mk (below_drew1 HB.out)
   refine start_ (n := 13) (S := fun w' => w'.cell? ⟨gb746, 0, none⟩ = some (.int .i64 a0_0) ∧ w'.cell? ⟨gb746, 1, none⟩ = some (.int .i64 a0_1) ∧ w'.cell? ⟨gb746, 2, none⟩ = some (.int .u32 a0_2) ∧ w'.cell? ⟨gb747, 0, none⟩ = some (.int .i64 a1_0) ∧ w'.cell? ⟨gb747, 1, none⟩ = some (.int .i64 a1_1) ∧ w'.cell? ⟨gb747, 2, none⟩ = some (.int .u32 a1_2) ∧ w'.cell? ⟨gb748, 0, none⟩ = some (.int .i64 a2_0) ∧ w'.cell? ⟨gb748, 1, none⟩ = some (.int .i64 a2_1) ∧ w'.cell? ⟨gb748, 2, none⟩ = some (.int .u32 a2_2)) (ds := []) #[false, false, false, false, false, false, false, false, false, false, false, false, false] (by kernel_rfl) rfl rfl ⟨bcA BK746 0 rfl, bcA BK746 1 rfl, bcA BK746 2 rfl, bcA BK747 0 rfl, bcA BK747 1 rfl, bcA BK747 2 rfl, bcA BK748 0 rfl, bcA BK748 1 rfl, bcA BK748 2 rfl⟩ (fun hHeld => ?_); refine with_tabW laws_FnExactJointDensity.tab1 laws_FnExactJointDensity.bits1 (fun HT_ HW_ => ?_)
   generalize w17.drew = w18 at BK746 BK747 BK748 HB hHeld ⊢
   refine take_ (i := 0) (N := some 12) (v := ?_) (a' := ?_) #[true, false, false, false, false, false, false, false, false, false, false, false, false] rfl rfl (take_ofW HT_.out HW_.out (by kernel_rfl)) (fun _ _ _ h => h) (Or.inl ⟨by rfl, ?_⟩) hHeld ?_ ?_
   rotate_left;(rintro w' ⟨s0, s1, s2, s3, s4, s5, s6, s7, s8⟩;go_simp;with_reducible rfl);rotate_left;(simp only [Act.put, psA, pzA, pnA, i64_w, i32_w];rfl)
   refine take_ (i := 2) (N := some 14) (v := ?_) (a' := ?_) #[true, false, true, false, false, false, false, false, false, false, false, false, false] rfl rfl (take_ofW HT_.out HW_.out (by kernel_rfl)) (fun _ _ _ h => h) (Or.inl ⟨by rfl, ?_⟩) hHeld ?_ ?_
   rotate_left;(rintro w' ⟨s0, s1, s2, s3, s4, s5, s6, s7, s8⟩;go_simp;with_reducible rfl);rotate_left;(simp only [Act.put, psA, pzA, pnA, i64_w, i32_w];rfl)
   refine take_ (i := 4) (N := some 16) (v := ?_) (a' := ?_) #[true, false, true, false, true, false, false, false, false, false, false, false, false] rfl rfl (take_ofW HT_.out HW_.out (by kernel_rfl)) (fun _ _ _ h => h) (Or.inl ⟨by rfl, ?_⟩) hHeld ?_ ?_
   rotate_left;(rintro w' ⟨s0, s1, s2, s3, s4, s5, s6, s7, s8⟩;go_simp;with_reducible rfl);rotate_left;(simp only [Act.put, psA, pzA, pnA, i64_w, i32_w];rfl)
   refine join_ (σ := Nat) 2 #[true, true, true, true, true, true, true, true, true, true, true, false, false] (fun s_ => [(13, .agg #[.int .i64 t749, .int .i64 t750, .int .u32 t751]), (15, .agg #[.int .i64 t752, .int .i64 t753, .int .u32 t754]), (17, .agg #[.int .i64 t755, .int .i64 t756, .int .u32 t757]), (18, .tuple #[.agg #[.int .i64 t758, .int .i64 t759], .int .i64 t760]), (7, .pointer (some ⟨s_, 0, none⟩)), (11, .tuple #[.agg #[.int .i64 t758, .int .i64 t759], .int .i64 t760]), (19, .agg #[.int .i64 t758, .int .i64 t759]), (20, .int .i64 t760)]) (fun s_ w' => (w'.cell? ⟨gb746, 0, none⟩ = some (.int .i64 a0_0) ∧ w'.cell? ⟨gb746, 1, none⟩ = some (.int .i64 a0_1) ∧ w'.cell? ⟨gb746, 2, none⟩ = some (.int .u32 a0_2) ∧ w'.cell? ⟨gb747, 0, none⟩ = some (.int .i64 a1_0) ∧ w'.cell? ⟨gb747, 1, none⟩ = some (.int .i64 a1_1) ∧ w'.cell? ⟨gb747, 2, none⟩ = some (.int .u32 a1_2) ∧ w'.cell? ⟨gb748, 0, none⟩ = some (.int .i64 a2_0) ∧ w'.cell? ⟨gb748, 1, none⟩ = some (.int .i64 a2_1) ∧ w'.cell? ⟨gb748, 2, none⟩ = some (.int .u32 a2_2)) ∧ (w'.heap[gb746]? = some (.cells #[.int .i64 a0_0, .int .i64 a0_1, .int .u32 a0_2] 42 (0, 0))) ∧ (w'.heap[gb747]? = some (.cells #[.int .i64 a1_0, .int .i64 a1_1, .int .u32 a1_2] 42 (0, 0))) ∧ (w'.heap[gb748]? = some (.cells #[.int .i64 a2_0, .int .i64 a2_1, .int .u32 a2_2] 42 (0, 0))) ∧ (w'.heap[s_]? = some (.cells #[.int .i64 0, .int .i64 0] 31 (0, 0))) ∧ (w.heap.size ≤ s_) ∧ (w.heap.size ≤ s_) ∧ (gb746 ≠ s_) ∧ (s_ ≠ gb746) ∧ (gb747 ≠ s_) ∧ (s_ ≠ gb747) ∧ (gb748 ≠ s_) ∧ (s_ ≠ gb748) ∧ (Below w.heap.size w w')) ?_ ?_
   rotate_left
   ·intro hJ1_3_5_6_10
    refine join_ (σ := Unit) 3 #[true, true, true, true, true, true, true, true, true, true, false, false, false] (fun s_ => [(13, .agg #[.int .i64 t749, .int .i64 t750, .int .u32 t751]), (15, .agg #[.int .i64 t752, .int .i64 t753, .int .u32 t754]), (17, .agg #[.int .i64 t755, .int .i64 t756, .int .u32 t757]), (18, .tuple #[.agg #[.int .i64 t758, .int .i64 t759], .int .i64 t760]), (11, .tuple #[.agg #[.int .i64 t758, .int .i64 t759], .int .i64 t760]), (19, .agg #[.int .i64 t758, .int .i64 t759]), (20, .int .i64 t760)]) (fun s_ w' => (w'.cell? ⟨gb746, 0, none⟩ = some (.int .i64 a0_0) ∧ w'.cell? ⟨gb746, 1, none⟩ = some (.int .i64 a0_1) ∧ w'.cell? ⟨gb746, 2, none⟩ = some (.int .u32 a0_2) ∧ w'.cell? ⟨gb747, 0, none⟩ = some (.int .i64 a1_0) ∧ w'.cell? ⟨gb747, 1, none⟩ = some (.int .i64 a1_1) ∧ w'.cell? ⟨gb747, 2, none⟩ = some (.int .u32 a1_2) ∧ w'.cell? ⟨gb748, 0, none⟩ = some (.int .i64 a2_0) ∧ w'.cell? ⟨gb748, 1, none⟩ = some (.int .i64 a2_1) ∧ w'.cell? ⟨gb748, 2, none⟩ = some (.int .u32 a2_2)) ∧ (w'.heap[gb746]? = some (.cells #[.int .i64 a0_0, .int .i64 a0_1, .int .u32 a0_2] 42 (0, 0))) ∧ (w'.heap[gb747]? = some (.cells #[.int .i64 a1_0, .int .i64 a1_1, .int .u32 a1_2] 42 (0, 0))) ∧ (w'.heap[gb748]? = some (.cells #[.int .i64 a2_0, .int .i64 a2_1, .int .u32 a2_2] 42 (0, 0))) ∧ (Below w.heap.size w w')) ?_ ?_
    rotate_left
    ·intro hJ1_3_5_6
     refine join_ (σ := Nat) 6 #[true, true, true, true, true, true, false, false, false, false, true, false, false] (fun s_ => [(13, .agg #[.int .i64 t749, .int .i64 t750, .int .u32 t751]), (15, .agg #[.int .i64 t752, .int .i64 t753, .int .u32 t754]), (17, .agg #[.int .i64 t755, .int .i64 t756, .int .u32 t757]), (7, .pointer (some ⟨s_, 0, none⟩))]) (fun s_ w' => (w'.cell? ⟨gb746, 0, none⟩ = some (.int .i64 a0_0) ∧ w'.cell? ⟨gb746, 1, none⟩ = some (.int .i64 a0_1) ∧ w'.cell? ⟨gb746, 2, none⟩ = some (.int .u32 a0_2) ∧ w'.cell? ⟨gb747, 0, none⟩ = some (.int .i64 a1_0) ∧ w'.cell? ⟨gb747, 1, none⟩ = some (.int .i64 a1_1) ∧ w'.cell? ⟨gb747, 2, none⟩ = some (.int .u32 a1_2) ∧ w'.cell? ⟨gb748, 0, none⟩ = some (.int .i64 a2_0) ∧ w'.cell? ⟨gb748, 1, none⟩ = some (.int .i64 a2_1) ∧ w'.cell? ⟨gb748, 2, none⟩ = some (.int .u32 a2_2)) ∧ (w'.heap[gb746]? = some (.cells #[.int .i64 a0_0, .int .i64 a0_1, .int .u32 a0_2] 42 (0, 0))) ∧ (w'.heap[gb747]? = some (.cells #[.int .i64 a1_0, .int .i64 a1_1, .int .u32 a1_2] 42 (0, 0))) ∧ (w'.heap[gb748]? = some (.cells #[.int .i64 a2_0, .int .i64 a2_1, .int .u32 a2_2] 42 (0, 0))) ∧ (w'.heap[s_]? = some (.cells #[.int .i64 0, .int .i64 0] 31 (0, 0))) ∧ (w.heap.size ≤ s_) ∧ (w.heap.size ≤ s_) ∧ (gb746 ≠ s_) ∧ (s_ ≠ gb746) ∧ (gb747 ≠ s_) ∧ (s_ ≠ gb747) ∧ (gb748 ≠ s_) ∧ (s_ ≠ gb748) ∧ (Below w.heap.size w w')) ?_ ?_
     rotate_left
     ·intro hJ1_3_5_10
      refine join_ (σ := Unit) 7 #[true, true, true, true, true, true, false, false, false, false, false, false, false] (fun s_ => [(13, .agg #[.int .i64 t749, .int .i64 t750, .int .u32 t751]), (15, .agg #[.int .i64 t752, .int .i64 t753, .int .u32 t754]), (17, .agg #[.int .i64 t755, .int .i64 t756, .int .u32 t757])]) (fun s_ w' => (w'.cell? ⟨gb746, 0, none⟩ = some (.int .i64 a0_0) ∧ w'.cell? ⟨gb746, 1, none⟩ = some (.int .i64 a0_1) ∧ w'.cell? ⟨gb746, 2, none⟩ = some (.int .u32 a0_2) ∧ w'.cell? ⟨gb747, 0, none⟩ = some (.int .i64 a1_0) ∧ w'.cell? ⟨gb747, 1, none⟩ = some (.int .i64 a1_1) ∧ w'.cell? ⟨gb747, 2, none⟩ = some (.int .u32 a1_2) ∧ w'.cell? ⟨gb748, 0, none⟩ = some (.int .i64 a2_0) ∧ w'.cell? ⟨gb748, 1, none⟩ = some (.int .i64 a2_1) ∧ w'.cell? ⟨gb748, 2, none⟩ = some (.int .u32 a2_2)) ∧ (w'.heap[gb746]? = some (.cells #[.int .i64 a0_0, .int .i64 a0_1, .int .u32 a0_2] 42 (0, 0))) ∧ (w'.heap[gb747]? = some (.cells #[.int .i64 a1_0, .int .i64 a1_1, .int .u32 a1_2] 42 (0, 0))) ∧ (w'.heap[gb748]? = some (.cells #[.int .i64 a2_0, .int .i64 a2_1, .int .u32 a2_2] 42 (0, 0))) ∧ (Below w.heap.size w w')) ?_ ?_
      rotate_left
      ·intro hJ1_3_5
       refine join_ (σ := Nat) 7 #[true, true, true, true, true, false, false, false, false, false, true, false, false] (fun s_ => [(13, .agg #[.int .i64 t749, .int .i64 t750, .int .u32 t751]), (15, .agg #[.int .i64 t752, .int .i64 t753, .int .u32 t754]), (7, .pointer (some ⟨s_, 0, none⟩))]) (fun s_ w' => (w'.cell? ⟨gb746, 0, none⟩ = some (.int .i64 a0_0) ∧ w'.cell? ⟨gb746, 1, none⟩ = some (.int .i64 a0_1) ∧ w'.cell? ⟨gb746, 2, none⟩ = some (.int .u32 a0_2) ∧ w'.cell? ⟨gb747, 0, none⟩ = some (.int .i64 a1_0) ∧ w'.cell? ⟨gb747, 1, none⟩ = some (.int .i64 a1_1) ∧ w'.cell? ⟨gb747, 2, none⟩ = some (.int .u32 a1_2) ∧ w'.cell? ⟨gb748, 0, none⟩ = some (.int .i64 a2_0) ∧ w'.cell? ⟨gb748, 1, none⟩ = some (.int .i64 a2_1) ∧ w'.cell? ⟨gb748, 2, none⟩ = some (.int .u32 a2_2)) ∧ (w'.heap[gb746]? = some (.cells #[.int .i64 a0_0, .int .i64 a0_1, .int .u32 a0_2] 42 (0, 0))) ∧ (w'.heap[gb747]? = some (.cells #[.int .i64 a1_0, .int .i64 a1_1, .int .u32 a1_2] 42 (0, 0))) ∧ (w'.heap[gb748]? = some (.cells #[.int .i64 a2_0, .int .i64 a2_1, .int .u32 a2_2] 42 (0, 0))) ∧ (w'.heap[s_]? = some (.cells #[.int .i64 0, .int .i64 0] 31 (0, 0))) ∧ (w.heap.size ≤ s_) ∧ (w.heap.size ≤ s_) ∧ (gb746 ≠ s_) ∧ (s_ ≠ gb746) ∧ (gb747 ≠ s_) ∧ (s_ ≠ gb747) ∧ (gb748 ≠ s_) ∧ (s_ ≠ gb748) ∧ (Below w.heap.size w w')) ?_ ?_
       rotate_left
       ·intro hJ1_3_10
        refine join_ (σ := Unit) 8 #[true, true, true, true, true, false, false, false, false, false, false, false, false] (fun s_ => [(13, .agg #[.int .i64 t749, .int .i64 t750, .int .u32 t751]), (15, .agg #[.int .i64 t752, .int .i64 t753, .int .u32 t754])]) (fun s_ w' => (w'.cell? ⟨gb746, 0, none⟩ = some (.int .i64 a0_0) ∧ w'.cell? ⟨gb746, 1, none⟩ = some (.int .i64 a0_1) ∧ w'.cell? ⟨gb746, 2, none⟩ = some (.int .u32 a0_2) ∧ w'.cell? ⟨gb747, 0, none⟩ = some (.int .i64 a1_0) ∧ w'.cell? ⟨gb747, 1, none⟩ = some (.int .i64 a1_1) ∧ w'.cell? ⟨gb747, 2, none⟩ = some (.int .u32 a1_2) ∧ w'.cell? ⟨gb748, 0, none⟩ = some (.int .i64 a2_0) ∧ w'.cell? ⟨gb748, 1, none⟩ = some (.int .i64 a2_1) ∧ w'.cell? ⟨gb748, 2, none⟩ = some (.int .u32 a2_2)) ∧ (w'.heap[gb746]? = some (.cells #[.int .i64 a0_0, .int .i64 a0_1, .int .u32 a0_2] 42 (0, 0))) ∧ (w'.heap[gb747]? = some (.cells #[.int .i64 a1_0, .int .i64 a1_1, .int .u32 a1_2] 42 (0, 0))) ∧ (w'.heap[gb748]? = some (.cells #[.int .i64 a2_0, .int .i64 a2_1, .int .u32 a2_2] 42 (0, 0))) ∧ (Below w.heap.size w w')) ?_ ?_
        rotate_left
        ·intro hJ1_3
         refine join_ (σ := Nat) 8 #[true, true, true, false, true, false, false, false, false, false, true, false, false] (fun s_ => [(13, .agg #[.int .i64 t749, .int .i64 t750, .int .u32 t751]), (7, .pointer (some ⟨s_, 0, none⟩))]) (fun s_ w' => (w'.cell? ⟨gb746, 0, none⟩ = some (.int .i64 a0_0) ∧ w'.cell? ⟨gb746, 1, none⟩ = some (.int .i64 a0_1) ∧ w'.cell? ⟨gb746, 2, none⟩ = some (.int .u32 a0_2) ∧ w'.cell? ⟨gb747, 0, none⟩ = some (.int .i64 a1_0) ∧ w'.cell? ⟨gb747, 1, none⟩ = some (.int .i64 a1_1) ∧ w'.cell? ⟨gb747, 2, none⟩ = some (.int .u32 a1_2) ∧ w'.cell? ⟨gb748, 0, none⟩ = some (.int .i64 a2_0) ∧ w'.cell? ⟨gb748, 1, none⟩ = some (.int .i64 a2_1) ∧ w'.cell? ⟨gb748, 2, none⟩ = some (.int .u32 a2_2)) ∧ (w'.heap[gb746]? = some (.cells #[.int .i64 a0_0, .int .i64 a0_1, .int .u32 a0_2] 42 (0, 0))) ∧ (w'.heap[gb747]? = some (.cells #[.int .i64 a1_0, .int .i64 a1_1, .int .u32 a1_2] 42 (0, 0))) ∧ (w'.heap[gb748]? = some (.cells #[.int .i64 a2_0, .int .i64 a2_1, .int .u32 a2_2] 42 (0, 0))) ∧ (w'.heap[s_]? = some (.cells #[.int .i64 0, .int .i64 0] 31 (0, 0))) ∧ (w.heap.size ≤ s_) ∧ (w.heap.size ≤ s_) ∧ (gb746 ≠ s_) ∧ (s_ ≠ gb746) ∧ (gb747 ≠ s_) ∧ (s_ ≠ gb747) ∧ (gb748 ≠ s_) ∧ (s_ ≠ gb748) ∧ (Below w.heap.size w w')) ?_ ?_
         rotate_left
         ·intro hJ1_10
          refine join_ (σ := Unit) 9 #[true, true, true, false, true, false, false, false, false, false, false, false, false] (fun s_ => [(13, .agg #[.int .i64 t749, .int .i64 t750, .int .u32 t751])]) (fun s_ w' => (w'.cell? ⟨gb746, 0, none⟩ = some (.int .i64 a0_0) ∧ w'.cell? ⟨gb746, 1, none⟩ = some (.int .i64 a0_1) ∧ w'.cell? ⟨gb746, 2, none⟩ = some (.int .u32 a0_2) ∧ w'.cell? ⟨gb747, 0, none⟩ = some (.int .i64 a1_0) ∧ w'.cell? ⟨gb747, 1, none⟩ = some (.int .i64 a1_1) ∧ w'.cell? ⟨gb747, 2, none⟩ = some (.int .u32 a1_2) ∧ w'.cell? ⟨gb748, 0, none⟩ = some (.int .i64 a2_0) ∧ w'.cell? ⟨gb748, 1, none⟩ = some (.int .i64 a2_1) ∧ w'.cell? ⟨gb748, 2, none⟩ = some (.int .u32 a2_2)) ∧ (w'.heap[gb746]? = some (.cells #[.int .i64 a0_0, .int .i64 a0_1, .int .u32 a0_2] 42 (0, 0))) ∧ (w'.heap[gb747]? = some (.cells #[.int .i64 a1_0, .int .i64 a1_1, .int .u32 a1_2] 42 (0, 0))) ∧ (w'.heap[gb748]? = some (.cells #[.int .i64 a2_0, .int .i64 a2_1, .int .u32 a2_2] 42 (0, 0))) ∧ (Below w.heap.size w w')) ?_ ?_
          rotate_left
          ·intro hJ1
           refine join_ (σ := Nat) 9 #[true, false, true, false, true, false, false, false, false, false, true, false, false] (fun s_ => [(7, .pointer (some ⟨s_, 0, none⟩))]) (fun s_ w' => (w'.cell? ⟨gb746, 0, none⟩ = some (.int .i64 a0_0) ∧ w'.cell? ⟨gb746, 1, none⟩ = some (.int .i64 a0_1) ∧ w'.cell? ⟨gb746, 2, none⟩ = some (.int .u32 a0_2) ∧ w'.cell? ⟨gb747, 0, none⟩ = some (.int .i64 a1_0) ∧ w'.cell? ⟨gb747, 1, none⟩ = some (.int .i64 a1_1) ∧ w'.cell? ⟨gb747, 2, none⟩ = some (.int .u32 a1_2) ∧ w'.cell? ⟨gb748, 0, none⟩ = some (.int .i64 a2_0) ∧ w'.cell? ⟨gb748, 1, none⟩ = some (.int .i64 a2_1) ∧ w'.cell? ⟨gb748, 2, none⟩ = some (.int .u32 a2_2)) ∧ (w'.heap[gb746]? = some (.cells #[.int .i64 a0_0, .int .i64 a0_1, .int .u32 a0_2] 42 (0, 0))) ∧ (w'.heap[gb747]? = some (.cells #[.int .i64 a1_0, .int .i64 a1_1, .int .u32 a1_2] 42 (0, 0))) ∧ (w'.heap[gb748]? = some (.cells #[.int .i64 a2_0, .int .i64 a2_1, .int .u32 a2_2] 42 (0, 0))) ∧ (w'.heap[s_]? = some (.cells #[.int .i64 0, .int .i64 0] 31 (0, 0))) ∧ (w.heap.size ≤ s_) ∧ (w.heap.size ≤ s_) ∧ (gb746 ≠ s_) ∧ (s_ ≠ gb746) ∧ (gb747 ≠ s_) ∧ (s_ ≠ gb747) ∧ (gb748 ≠ s_) ∧ (s_ ≠ gb748) ∧ (Below w.heap.size w w')) ?_ ?_
           rotate_left
           ·intro hJ10
            refine two_ (i := 1) (j := 10) (Ni := some 13) (Nj := some 7) #[true, true, true, false, true, false, false, false, false, false, false, false, false] #[true, false, true, false, true, false, false, false, false, false, true, false, false] rfl rfl rfl rfl (two_of HT_.out (by kernel_rfl)) (by decide) (by decide) (fun K hK => ?_) (fun K hK => ?_)
            ·skip
             refine goes_ Try.func25 (by kernel_rfl) rfl #[.agg #[.int .i64 a0_0, .int .i64 a0_1, .int .u32 a0_2]] (by rfl) rfl rfl (by first | rfl | (simp only [List.map_toArray, List.map_cons, List.map_nil, List.length_drop, List.length_take]; rfl)) ?_
             with_reducible refine (laws_toFlag.calls a0_0 a0_1 a0_2 t749 t750 t751 _ A4.out).mono ?_
             rintro e w19 ⟨rfl, hb⟩
             refine ⟨_, rfl, ?_⟩
             replace BK746 := bkB BK746 hb
             replace BK747 := bkB BK747 hb
             replace BK748 := bkB BK748 hb
             replace HB := hbB HB hb
             (try clear hb)
             refine hK.out _ _ ⟨bcA BK746 0 rfl, bcA BK746 1 rfl, bcA BK746 2 rfl, bcA BK747 0 rfl, bcA BK747 1 rfl, bcA BK747 2 rfl, bcA BK748 0 rfl, bcA BK748 1 rfl, bcA BK748 2 rfl⟩ (fun hHeld => ?_)
             clear hK K
             refine norm_ (a' := ?_) ?_ ?_
             rotate_left;(show Act.put _ (some 13) _ = _;simp only [Act.put, psA, pzA, pnA, i64_w, i32_w];rfl)
             exact norm_ (by first | (simp only [putAll, Act.put, psA, pzA, pnA]; done) | (simp only [putAll, Act.put, psA, pzA, pnA]; rfl)) (hJ1 () _ ⟨hHeld, BK746.out, BK747.out, BK748.out, (by repeat (first | (with_reducible first | exact HB.out | apply below_alloc | apply pw_below_drewN | apply below_drew1 | refine below_set ?_ (Aside0.out (by assumption))) | exact HB.out))⟩)
            ·skip
             refine box_step ?hg (N := 7) ?hd (cs := #[.int .i64 0, .int .i64 0]) (t := 31) ?hr ?_; (case hd => rfl); (case hg => rfl); (case hr => first | (go_simp; done) | (go_simp; rfl))
             intro gb761 hg w19 hbox hb
             have BK761 := Aside0.mk (hbox)
             have GW761 := geA HB hg
             replace HB := hbB HB hb
             have GE761 := GW761
             have NB746_761 := nbA hg BK746
             replace BK746 := bkB BK746 hb
             have NB761_746 := neA NB746_761
             have NB747_761 := nbA hg BK747
             replace BK747 := bkB BK747 hb
             have NB761_747 := neA NB747_761
             have NB748_761 := nbA hg BK748
             replace BK748 := bkB BK748 hb
             have NB761_748 := neA NB748_761
             clear hb hbox hg
             refine hK.out _ _ ⟨bcA BK746 0 rfl, bcA BK746 1 rfl, bcA BK746 2 rfl, bcA BK747 0 rfl, bcA BK747 1 rfl, bcA BK747 2 rfl, bcA BK748 0 rfl, bcA BK748 1 rfl, bcA BK748 2 rfl⟩ (fun hHeld => ?_)
             clear hK K
             refine norm_ (a' := ?_) ?_ ?_
             rotate_left;(show Act.put _ (some 7) _ = _;simp only [Act.put, psA, pzA, pnA, i64_w, i32_w];rfl)
             exact norm_ (by first | (simp only [putAll, Act.put, psA, pzA, pnA]; done) | (simp only [putAll, Act.put, psA, pzA, pnA]; rfl)) (hJ10 (gb761) _ ⟨hHeld, BK746.out, BK747.out, BK748.out, BK761.out, GW761.out, GE761.out, NB746_761.out, NB761_746.out, NB747_761.out, NB761_747.out, NB748_761.out, NB761_748.out, (by repeat (first | (with_reducible first | exact HB.out | apply below_alloc | apply pw_below_drewN | apply below_drew1 | refine below_set ?_ (Aside0.out (by assumption))) | exact HB.out))⟩)
           ·skip
            rintro gb761 w20 ⟨hS_, h0_, h1_, h2_, h3_, h4_, h5_, h6_, h7_, h8_, h9_, h10_, h11_, h12_⟩
            have n0_ : Aside0 (w20.heap[gb746]? = some (.cells #[.int .i64 a0_0, .int .i64 a0_1, .int .u32 a0_2] 42 (0, 0))) := ⟨h0_⟩
            have n1_ : Aside0 (w20.heap[gb747]? = some (.cells #[.int .i64 a1_0, .int .i64 a1_1, .int .u32 a1_2] 42 (0, 0))) := ⟨h1_⟩
            have n2_ : Aside0 (w20.heap[gb748]? = some (.cells #[.int .i64 a2_0, .int .i64 a2_1, .int .u32 a2_2] 42 (0, 0))) := ⟨h2_⟩
            have n3_ : Aside0 (w20.heap[gb761]? = some (.cells #[.int .i64 0, .int .i64 0] 31 (0, 0))) := ⟨h3_⟩
            have n4_ : Aside0 (w.heap.size ≤ gb761) := ⟨h4_⟩
            have n5_ : Aside0 (w.heap.size ≤ gb761) := ⟨h5_⟩
            have n6_ : Aside0 (gb746 ≠ gb761) := ⟨h6_⟩
            have n7_ : Aside0 (gb761 ≠ gb746) := ⟨h7_⟩
            have n8_ : Aside0 (gb747 ≠ gb761) := ⟨h8_⟩
            have n9_ : Aside0 (gb761 ≠ gb747) := ⟨h9_⟩
            have n10_ : Aside0 (gb748 ≠ gb761) := ⟨h10_⟩
            have n11_ : Aside0 (gb761 ≠ gb748) := ⟨h11_⟩
            have n12_ : Aside0 (Below w.heap.size w w20) := ⟨h12_⟩
            clear BK746 BK747 BK748 HB
            clear h0_ h1_ h2_ h3_ h4_ h5_ h6_ h7_ h8_ h9_ h10_ h11_ h12_
            have BK746 := n0_
            have BK747 := n1_
            have BK748 := n2_
            have BK761 := n3_
            have GW761 := n4_
            have GE761 := n5_
            have NB746_761 := n6_
            have NB761_746 := n7_
            have NB747_761 := n8_
            have NB761_747 := n9_
            have NB748_761 := n10_
            have NB761_748 := n11_
            have HB := n12_
            clear n0_ n1_ n2_ n3_ n4_ n5_ n6_ n7_ n8_ n9_ n10_ n11_ n12_
            have hHeld : w20.cell? ⟨gb746, 0, none⟩ = some (.int .i64 a0_0) ∧ w20.cell? ⟨gb746, 1, none⟩ = some (.int .i64 a0_1) ∧ w20.cell? ⟨gb746, 2, none⟩ = some (.int .u32 a0_2) ∧ w20.cell? ⟨gb747, 0, none⟩ = some (.int .i64 a1_0) ∧ w20.cell? ⟨gb747, 1, none⟩ = some (.int .i64 a1_1) ∧ w20.cell? ⟨gb747, 2, none⟩ = some (.int .u32 a1_2) ∧ w20.cell? ⟨gb748, 0, none⟩ = some (.int .i64 a2_0) ∧ w20.cell? ⟨gb748, 1, none⟩ = some (.int .i64 a2_1) ∧ w20.cell? ⟨gb748, 2, none⟩ = some (.int .u32 a2_2) := hS_
            refine norm_ (a' := ?_) ?_ ?_
            rotate_left;(simp only [putAll, Act.put, psA, pzA, pnA];rfl)
            refine one_ (i := 1) (N := some 13) #[true, true, true, false, true, false, false, false, false, false, true, false, false] rfl rfl (one_of HT_.out (by kernel_rfl)) (by decide) (fun K hK => ?_)
            refine goes_ Try.func25 (by kernel_rfl) rfl #[.agg #[.int .i64 a0_0, .int .i64 a0_1, .int .u32 a0_2]] (by rfl) rfl rfl (by first | rfl | (simp only [List.map_toArray, List.map_cons, List.map_nil, List.length_drop, List.length_take]; rfl)) ?_
            with_reducible refine (laws_toFlag.calls a0_0 a0_1 a0_2 t749 t750 t751 _ A4.out).mono ?_
            rintro e w21 ⟨rfl, hb⟩
            refine ⟨_, rfl, ?_⟩
            replace BK746 := bkB BK746 hb
            replace BK747 := bkB BK747 hb
            replace BK748 := bkB BK748 hb
            replace BK761 := bkB BK761 hb
            replace HB := hbB HB hb
            (try clear hb)
            refine hK.out _ _ ⟨bcA BK746 0 rfl, bcA BK746 1 rfl, bcA BK746 2 rfl, bcA BK747 0 rfl, bcA BK747 1 rfl, bcA BK747 2 rfl, bcA BK748 0 rfl, bcA BK748 1 rfl, bcA BK748 2 rfl⟩ (fun hHeld => ?_)
            clear hK K
            refine norm_ (a' := ?_) ?_ ?_
            rotate_left;(show Act.put _ (some 13) _ = _;simp only [Act.put, psA, pzA, pnA, i64_w, i32_w];rfl)
            exact norm_ (by first | (simp only [putAll, Act.put, psA, pzA, pnA]; done) | (simp only [putAll, Act.put, psA, pzA, pnA]; rfl)) (hJ1_10 (gb761) _ ⟨hHeld, BK746.out, BK747.out, BK748.out, BK761.out, GW761.out, GE761.out, NB746_761.out, NB761_746.out, NB747_761.out, NB761_747.out, NB748_761.out, NB761_748.out, (by repeat (first | (with_reducible first | exact HB.out | apply below_alloc | apply pw_below_drewN | apply below_drew1 | refine below_set ?_ (Aside0.out (by assumption))) | exact HB.out))⟩)
          ·skip
           rintro _ w20 ⟨hS_, h0_, h1_, h2_, h3_⟩
           have n0_ : Aside0 (w20.heap[gb746]? = some (.cells #[.int .i64 a0_0, .int .i64 a0_1, .int .u32 a0_2] 42 (0, 0))) := ⟨h0_⟩
           have n1_ : Aside0 (w20.heap[gb747]? = some (.cells #[.int .i64 a1_0, .int .i64 a1_1, .int .u32 a1_2] 42 (0, 0))) := ⟨h1_⟩
           have n2_ : Aside0 (w20.heap[gb748]? = some (.cells #[.int .i64 a2_0, .int .i64 a2_1, .int .u32 a2_2] 42 (0, 0))) := ⟨h2_⟩
           have n3_ : Aside0 (Below w.heap.size w w20) := ⟨h3_⟩
           clear BK746 BK747 BK748 HB
           clear h0_ h1_ h2_ h3_
           have BK746 := n0_
           have BK747 := n1_
           have BK748 := n2_
           have HB := n3_
           clear n0_ n1_ n2_ n3_
           have hHeld : w20.cell? ⟨gb746, 0, none⟩ = some (.int .i64 a0_0) ∧ w20.cell? ⟨gb746, 1, none⟩ = some (.int .i64 a0_1) ∧ w20.cell? ⟨gb746, 2, none⟩ = some (.int .u32 a0_2) ∧ w20.cell? ⟨gb747, 0, none⟩ = some (.int .i64 a1_0) ∧ w20.cell? ⟨gb747, 1, none⟩ = some (.int .i64 a1_1) ∧ w20.cell? ⟨gb747, 2, none⟩ = some (.int .u32 a1_2) ∧ w20.cell? ⟨gb748, 0, none⟩ = some (.int .i64 a2_0) ∧ w20.cell? ⟨gb748, 1, none⟩ = some (.int .i64 a2_1) ∧ w20.cell? ⟨gb748, 2, none⟩ = some (.int .u32 a2_2) := hS_
           refine norm_ (a' := ?_) ?_ ?_
           rotate_left;(simp only [putAll, Act.put, psA, pzA, pnA];rfl)
           refine two_ (i := 3) (j := 10) (Ni := some 15) (Nj := some 7) #[true, true, true, true, true, false, false, false, false, false, false, false, false] #[true, true, true, false, true, false, false, false, false, false, true, false, false] rfl rfl rfl rfl (two_of HT_.out (by kernel_rfl)) (by decide) (by decide) (fun K hK => ?_) (fun K hK => ?_)
           ·skip
            refine goes_ Try.func25 (by kernel_rfl) rfl #[.agg #[.int .i64 a1_0, .int .i64 a1_1, .int .u32 a1_2]] (by rfl) rfl rfl (by first | rfl | (simp only [List.map_toArray, List.map_cons, List.map_nil, List.length_drop, List.length_take]; rfl)) ?_
            with_reducible refine (laws_toFlag.calls a1_0 a1_1 a1_2 t752 t753 t754 _ A5.out).mono ?_
            rintro e w21 ⟨rfl, hb⟩
            refine ⟨_, rfl, ?_⟩
            replace BK746 := bkB BK746 hb
            replace BK747 := bkB BK747 hb
            replace BK748 := bkB BK748 hb
            replace HB := hbB HB hb
            (try clear hb)
            refine hK.out _ _ ⟨bcA BK746 0 rfl, bcA BK746 1 rfl, bcA BK746 2 rfl, bcA BK747 0 rfl, bcA BK747 1 rfl, bcA BK747 2 rfl, bcA BK748 0 rfl, bcA BK748 1 rfl, bcA BK748 2 rfl⟩ (fun hHeld => ?_)
            clear hK K
            refine norm_ (a' := ?_) ?_ ?_
            rotate_left;(show Act.put _ (some 15) _ = _;simp only [Act.put, psA, pzA, pnA, i64_w, i32_w];rfl)
            exact norm_ (by first | (simp only [putAll, Act.put, psA, pzA, pnA]; done) | (simp only [putAll, Act.put, psA, pzA, pnA]; rfl)) (hJ1_3 () _ ⟨hHeld, BK746.out, BK747.out, BK748.out, (by repeat (first | (with_reducible first | exact HB.out | apply below_alloc | apply pw_below_drewN | apply below_drew1 | refine below_set ?_ (Aside0.out (by assumption))) | exact HB.out))⟩)
           ·skip
            refine box_step ?hg (N := 7) ?hd (cs := #[.int .i64 0, .int .i64 0]) (t := 31) ?hr ?_; (case hd => rfl); (case hg => rfl); (case hr => first | (go_simp; done) | (go_simp; rfl))
            intro gb761 hg w21 hbox hb
            have BK761 := Aside0.mk (hbox)
            have GW761 := geA HB hg
            replace HB := hbB HB hb
            have GE761 := GW761
            have NB746_761 := nbA hg BK746
            replace BK746 := bkB BK746 hb
            have NB761_746 := neA NB746_761
            have NB747_761 := nbA hg BK747
            replace BK747 := bkB BK747 hb
            have NB761_747 := neA NB747_761
            have NB748_761 := nbA hg BK748
            replace BK748 := bkB BK748 hb
            have NB761_748 := neA NB748_761
            clear hb hbox hg
            refine hK.out _ _ ⟨bcA BK746 0 rfl, bcA BK746 1 rfl, bcA BK746 2 rfl, bcA BK747 0 rfl, bcA BK747 1 rfl, bcA BK747 2 rfl, bcA BK748 0 rfl, bcA BK748 1 rfl, bcA BK748 2 rfl⟩ (fun hHeld => ?_)
            clear hK K
            refine norm_ (a' := ?_) ?_ ?_
            rotate_left;(show Act.put _ (some 7) _ = _;simp only [Act.put, psA, pzA, pnA, i64_w, i32_w];rfl)
            exact norm_ (by first | (simp only [putAll, Act.put, psA, pzA, pnA]; done) | (simp only [putAll, Act.put, psA, pzA, pnA]; rfl)) (hJ1_10 (gb761) _ ⟨hHeld, BK746.out, BK747.out, BK748.out, BK761.out, GW761.out, GE761.out, NB746_761.out, NB761_746.out, NB747_761.out, NB761_747.out, NB748_761.out, NB761_748.out, (by repeat (first | (with_reducible first | exact HB.out | apply below_alloc | apply pw_below_drewN | apply below_drew1 | refine below_set ?_ (Aside0.out (by assumption))) | exact HB.out))⟩)
         ·skip
          rintro gb761 w21 ⟨hS_, h0_, h1_, h2_, h3_, h4_, h5_, h6_, h7_, h8_, h9_, h10_, h11_, h12_⟩
          have n0_ : Aside0 (w21.heap[gb746]? = some (.cells #[.int .i64 a0_0, .int .i64 a0_1, .int .u32 a0_2] 42 (0, 0))) := ⟨h0_⟩
          have n1_ : Aside0 (w21.heap[gb747]? = some (.cells #[.int .i64 a1_0, .int .i64 a1_1, .int .u32 a1_2] 42 (0, 0))) := ⟨h1_⟩
          have n2_ : Aside0 (w21.heap[gb748]? = some (.cells #[.int .i64 a2_0, .int .i64 a2_1, .int .u32 a2_2] 42 (0, 0))) := ⟨h2_⟩
          have n3_ : Aside0 (w21.heap[gb761]? = some (.cells #[.int .i64 0, .int .i64 0] 31 (0, 0))) := ⟨h3_⟩
          have n4_ : Aside0 (w.heap.size ≤ gb761) := ⟨h4_⟩
          have n5_ : Aside0 (w.heap.size ≤ gb761) := ⟨h5_⟩
          have n6_ : Aside0 (gb746 ≠ gb761) := ⟨h6_⟩
          have n7_ : Aside0 (gb761 ≠ gb746) := ⟨h7_⟩
          have n8_ : Aside0 (gb747 ≠ gb761) := ⟨h8_⟩
          have n9_ : Aside0 (gb761 ≠ gb747) := ⟨h9_⟩
          have n10_ : Aside0 (gb748 ≠ gb761) := ⟨h10_⟩
          have n11_ : Aside0 (gb761 ≠ gb748) := ⟨h11_⟩
          have n12_ : Aside0 (Below w.heap.size w w21) := ⟨h12_⟩
          clear BK746 BK747 BK748 HB
          clear h0_ h1_ h2_ h3_ h4_ h5_ h6_ h7_ h8_ h9_ h10_ h11_ h12_
          have BK746 := n0_
          have BK747 := n1_
          have BK748 := n2_
          have BK761 := n3_
          have GW761 := n4_
          have GE761 := n5_
          have NB746_761 := n6_
          have NB761_746 := n7_
          have NB747_761 := n8_
          have NB761_747 := n9_
          have NB748_761 := n10_
          have NB761_748 := n11_
          have HB := n12_
          clear n0_ n1_ n2_ n3_ n4_ n5_ n6_ n7_ n8_ n9_ n10_ n11_ n12_
          have hHeld : w21.cell? ⟨gb746, 0, none⟩ = some (.int .i64 a0_0) ∧ w21.cell? ⟨gb746, 1, none⟩ = some (.int .i64 a0_1) ∧ w21.cell? ⟨gb746, 2, none⟩ = some (.int .u32 a0_2) ∧ w21.cell? ⟨gb747, 0, none⟩ = some (.int .i64 a1_0) ∧ w21.cell? ⟨gb747, 1, none⟩ = some (.int .i64 a1_1) ∧ w21.cell? ⟨gb747, 2, none⟩ = some (.int .u32 a1_2) ∧ w21.cell? ⟨gb748, 0, none⟩ = some (.int .i64 a2_0) ∧ w21.cell? ⟨gb748, 1, none⟩ = some (.int .i64 a2_1) ∧ w21.cell? ⟨gb748, 2, none⟩ = some (.int .u32 a2_2) := hS_
          refine norm_ (a' := ?_) ?_ ?_
          rotate_left;(simp only [putAll, Act.put, psA, pzA, pnA];rfl)
          refine one_ (i := 3) (N := some 15) #[true, true, true, true, true, false, false, false, false, false, true, false, false] rfl rfl (one_of HT_.out (by kernel_rfl)) (by decide) (fun K hK => ?_)
          refine goes_ Try.func25 (by kernel_rfl) rfl #[.agg #[.int .i64 a1_0, .int .i64 a1_1, .int .u32 a1_2]] (by rfl) rfl rfl (by first | rfl | (simp only [List.map_toArray, List.map_cons, List.map_nil, List.length_drop, List.length_take]; rfl)) ?_
          with_reducible refine (laws_toFlag.calls a1_0 a1_1 a1_2 t752 t753 t754 _ A5.out).mono ?_
          rintro e w22 ⟨rfl, hb⟩
          refine ⟨_, rfl, ?_⟩
          replace BK746 := bkB BK746 hb
          replace BK747 := bkB BK747 hb
          replace BK748 := bkB BK748 hb
          replace BK761 := bkB BK761 hb
          replace HB := hbB HB hb
          (try clear hb)
          refine hK.out _ _ ⟨bcA BK746 0 rfl, bcA BK746 1 rfl, bcA BK746 2 rfl, bcA BK747 0 rfl, bcA BK747 1 rfl, bcA BK747 2 rfl, bcA BK748 0 rfl, bcA BK748 1 rfl, bcA BK748 2 rfl⟩ (fun hHeld => ?_)
          clear hK K
          refine norm_ (a' := ?_) ?_ ?_
          rotate_left;(show Act.put _ (some 15) _ = _;simp only [Act.put, psA, pzA, pnA, i64_w, i32_w];rfl)
          exact norm_ (by first | (simp only [putAll, Act.put, psA, pzA, pnA]; done) | (simp only [putAll, Act.put, psA, pzA, pnA]; rfl)) (hJ1_3_10 (gb761) _ ⟨hHeld, BK746.out, BK747.out, BK748.out, BK761.out, GW761.out, GE761.out, NB746_761.out, NB761_746.out, NB747_761.out, NB761_747.out, NB748_761.out, NB761_748.out, (by repeat (first | (with_reducible first | exact HB.out | apply below_alloc | apply pw_below_drewN | apply below_drew1 | refine below_set ?_ (Aside0.out (by assumption))) | exact HB.out))⟩)
        ·skip
         rintro _ w21 ⟨hS_, h0_, h1_, h2_, h3_⟩
         have n0_ : Aside0 (w21.heap[gb746]? = some (.cells #[.int .i64 a0_0, .int .i64 a0_1, .int .u32 a0_2] 42 (0, 0))) := ⟨h0_⟩
         have n1_ : Aside0 (w21.heap[gb747]? = some (.cells #[.int .i64 a1_0, .int .i64 a1_1, .int .u32 a1_2] 42 (0, 0))) := ⟨h1_⟩
         have n2_ : Aside0 (w21.heap[gb748]? = some (.cells #[.int .i64 a2_0, .int .i64 a2_1, .int .u32 a2_2] 42 (0, 0))) := ⟨h2_⟩
         have n3_ : Aside0 (Below w.heap.size w w21) := ⟨h3_⟩
         clear BK746 BK747 BK748 HB
         clear h0_ h1_ h2_ h3_
         have BK746 := n0_
         have BK747 := n1_
         have BK748 := n2_
         have HB := n3_
         clear n0_ n1_ n2_ n3_
         have hHeld : w21.cell? ⟨gb746, 0, none⟩ = some (.int .i64 a0_0) ∧ w21.cell? ⟨gb746, 1, none⟩ = some (.int .i64 a0_1) ∧ w21.cell? ⟨gb746, 2, none⟩ = some (.int .u32 a0_2) ∧ w21.cell? ⟨gb747, 0, none⟩ = some (.int .i64 a1_0) ∧ w21.cell? ⟨gb747, 1, none⟩ = some (.int .i64 a1_1) ∧ w21.cell? ⟨gb747, 2, none⟩ = some (.int .u32 a1_2) ∧ w21.cell? ⟨gb748, 0, none⟩ = some (.int .i64 a2_0) ∧ w21.cell? ⟨gb748, 1, none⟩ = some (.int .i64 a2_1) ∧ w21.cell? ⟨gb748, 2, none⟩ = some (.int .u32 a2_2) := hS_
         refine norm_ (a' := ?_) ?_ ?_
         rotate_left;(simp only [putAll, Act.put, psA, pzA, pnA];rfl)
         refine two_ (i := 5) (j := 10) (Ni := some 17) (Nj := some 7) #[true, true, true, true, true, true, false, false, false, false, false, false, false] #[true, true, true, true, true, false, false, false, false, false, true, false, false] rfl rfl rfl rfl (two_of HT_.out (by kernel_rfl)) (by decide) (by decide) (fun K hK => ?_) (fun K hK => ?_)
         ·skip
          refine goes_ Try.func25 (by kernel_rfl) rfl #[.agg #[.int .i64 a2_0, .int .i64 a2_1, .int .u32 a2_2]] (by rfl) rfl rfl (by first | rfl | (simp only [List.map_toArray, List.map_cons, List.map_nil, List.length_drop, List.length_take]; rfl)) ?_
          with_reducible refine (laws_toFlag.calls a2_0 a2_1 a2_2 t755 t756 t757 _ A6.out).mono ?_
          rintro e w22 ⟨rfl, hb⟩
          refine ⟨_, rfl, ?_⟩
          replace BK746 := bkB BK746 hb
          replace BK747 := bkB BK747 hb
          replace BK748 := bkB BK748 hb
          replace HB := hbB HB hb
          (try clear hb)
          refine hK.out _ _ ⟨bcA BK746 0 rfl, bcA BK746 1 rfl, bcA BK746 2 rfl, bcA BK747 0 rfl, bcA BK747 1 rfl, bcA BK747 2 rfl, bcA BK748 0 rfl, bcA BK748 1 rfl, bcA BK748 2 rfl⟩ (fun hHeld => ?_)
          clear hK K
          refine norm_ (a' := ?_) ?_ ?_
          rotate_left;(show Act.put _ (some 17) _ = _;simp only [Act.put, psA, pzA, pnA, i64_w, i32_w];rfl)
          exact norm_ (by first | (simp only [putAll, Act.put, psA, pzA, pnA]; done) | (simp only [putAll, Act.put, psA, pzA, pnA]; rfl)) (hJ1_3_5 () _ ⟨hHeld, BK746.out, BK747.out, BK748.out, (by repeat (first | (with_reducible first | exact HB.out | apply below_alloc | apply pw_below_drewN | apply below_drew1 | refine below_set ?_ (Aside0.out (by assumption))) | exact HB.out))⟩)
         ·skip
          refine box_step ?hg (N := 7) ?hd (cs := #[.int .i64 0, .int .i64 0]) (t := 31) ?hr ?_; (case hd => rfl); (case hg => rfl); (case hr => first | (go_simp; done) | (go_simp; rfl))
          intro gb761 hg w22 hbox hb
          have BK761 := Aside0.mk (hbox)
          have GW761 := geA HB hg
          replace HB := hbB HB hb
          have GE761 := GW761
          have NB746_761 := nbA hg BK746
          replace BK746 := bkB BK746 hb
          have NB761_746 := neA NB746_761
          have NB747_761 := nbA hg BK747
          replace BK747 := bkB BK747 hb
          have NB761_747 := neA NB747_761
          have NB748_761 := nbA hg BK748
          replace BK748 := bkB BK748 hb
          have NB761_748 := neA NB748_761
          clear hb hbox hg
          refine hK.out _ _ ⟨bcA BK746 0 rfl, bcA BK746 1 rfl, bcA BK746 2 rfl, bcA BK747 0 rfl, bcA BK747 1 rfl, bcA BK747 2 rfl, bcA BK748 0 rfl, bcA BK748 1 rfl, bcA BK748 2 rfl⟩ (fun hHeld => ?_)
          clear hK K
          refine norm_ (a' := ?_) ?_ ?_
          rotate_left;(show Act.put _ (some 7) _ = _;simp only [Act.put, psA, pzA, pnA, i64_w, i32_w];rfl)
          exact norm_ (by first | (simp only [putAll, Act.put, psA, pzA, pnA]; done) | (simp only [putAll, Act.put, psA, pzA, pnA]; rfl)) (hJ1_3_10 (gb761) _ ⟨hHeld, BK746.out, BK747.out, BK748.out, BK761.out, GW761.out, GE761.out, NB746_761.out, NB761_746.out, NB747_761.out, NB761_747.out, NB748_761.out, NB761_748.out, (by repeat (first | (with_reducible first | exact HB.out | apply below_alloc | apply pw_below_drewN | apply below_drew1 | refine below_set ?_ (Aside0.out (by assumption))) | exact HB.out))⟩)
       ·skip
        rintro gb761 w22 ⟨hS_, h0_, h1_, h2_, h3_, h4_, h5_, h6_, h7_, h8_, h9_, h10_, h11_, h12_⟩
        have n0_ : Aside0 (w22.heap[gb746]? = some (.cells #[.int .i64 a0_0, .int .i64 a0_1, .int .u32 a0_2] 42 (0, 0))) := ⟨h0_⟩
        have n1_ : Aside0 (w22.heap[gb747]? = some (.cells #[.int .i64 a1_0, .int .i64 a1_1, .int .u32 a1_2] 42 (0, 0))) := ⟨h1_⟩
        have n2_ : Aside0 (w22.heap[gb748]? = some (.cells #[.int .i64 a2_0, .int .i64 a2_1, .int .u32 a2_2] 42 (0, 0))) := ⟨h2_⟩
        have n3_ : Aside0 (w22.heap[gb761]? = some (.cells #[.int .i64 0, .int .i64 0] 31 (0, 0))) := ⟨h3_⟩
        have n4_ : Aside0 (w.heap.size ≤ gb761) := ⟨h4_⟩
        have n5_ : Aside0 (w.heap.size ≤ gb761) := ⟨h5_⟩
        have n6_ : Aside0 (gb746 ≠ gb761) := ⟨h6_⟩
        have n7_ : Aside0 (gb761 ≠ gb746) := ⟨h7_⟩
        have n8_ : Aside0 (gb747 ≠ gb761) := ⟨h8_⟩
        have n9_ : Aside0 (gb761 ≠ gb747) := ⟨h9_⟩
        have n10_ : Aside0 (gb748 ≠ gb761) := ⟨h10_⟩
        have n11_ : Aside0 (gb761 ≠ gb748) := ⟨h11_⟩
        have n12_ : Aside0 (Below w.heap.size w w22) := ⟨h12_⟩
        clear BK746 BK747 BK748 HB
        clear h0_ h1_ h2_ h3_ h4_ h5_ h6_ h7_ h8_ h9_ h10_ h11_ h12_
        have BK746 := n0_
        have BK747 := n1_
        have BK748 := n2_
        have BK761 := n3_
        have GW761 := n4_
        have GE761 := n5_
        have NB746_761 := n6_
        have NB761_746 := n7_
        have NB747_761 := n8_
        have NB761_747 := n9_
        have NB748_761 := n10_
        have NB761_748 := n11_
        have HB := n12_
        clear n0_ n1_ n2_ n3_ n4_ n5_ n6_ n7_ n8_ n9_ n10_ n11_ n12_
        have hHeld : w22.cell? ⟨gb746, 0, none⟩ = some (.int .i64 a0_0) ∧ w22.cell? ⟨gb746, 1, none⟩ = some (.int .i64 a0_1) ∧ w22.cell? ⟨gb746, 2, none⟩ = some (.int .u32 a0_2) ∧ w22.cell? ⟨gb747, 0, none⟩ = some (.int .i64 a1_0) ∧ w22.cell? ⟨gb747, 1, none⟩ = some (.int .i64 a1_1) ∧ w22.cell? ⟨gb747, 2, none⟩ = some (.int .u32 a1_2) ∧ w22.cell? ⟨gb748, 0, none⟩ = some (.int .i64 a2_0) ∧ w22.cell? ⟨gb748, 1, none⟩ = some (.int .i64 a2_1) ∧ w22.cell? ⟨gb748, 2, none⟩ = some (.int .u32 a2_2) := hS_
        refine norm_ (a' := ?_) ?_ ?_
        rotate_left;(simp only [putAll, Act.put, psA, pzA, pnA];rfl)
        refine one_ (i := 5) (N := some 17) #[true, true, true, true, true, true, false, false, false, false, true, false, false] rfl rfl (one_of HT_.out (by kernel_rfl)) (by decide) (fun K hK => ?_)
        refine goes_ Try.func25 (by kernel_rfl) rfl #[.agg #[.int .i64 a2_0, .int .i64 a2_1, .int .u32 a2_2]] (by rfl) rfl rfl (by first | rfl | (simp only [List.map_toArray, List.map_cons, List.map_nil, List.length_drop, List.length_take]; rfl)) ?_
        with_reducible refine (laws_toFlag.calls a2_0 a2_1 a2_2 t755 t756 t757 _ A6.out).mono ?_
        rintro e w23 ⟨rfl, hb⟩
        refine ⟨_, rfl, ?_⟩
        replace BK746 := bkB BK746 hb
        replace BK747 := bkB BK747 hb
        replace BK748 := bkB BK748 hb
        replace BK761 := bkB BK761 hb
        replace HB := hbB HB hb
        (try clear hb)
        refine hK.out _ _ ⟨bcA BK746 0 rfl, bcA BK746 1 rfl, bcA BK746 2 rfl, bcA BK747 0 rfl, bcA BK747 1 rfl, bcA BK747 2 rfl, bcA BK748 0 rfl, bcA BK748 1 rfl, bcA BK748 2 rfl⟩ (fun hHeld => ?_)
        clear hK K
        refine norm_ (a' := ?_) ?_ ?_
        rotate_left;(show Act.put _ (some 17) _ = _;simp only [Act.put, psA, pzA, pnA, i64_w, i32_w];rfl)
        exact norm_ (by first | (simp only [putAll, Act.put, psA, pzA, pnA]; done) | (simp only [putAll, Act.put, psA, pzA, pnA]; rfl)) (hJ1_3_5_10 (gb761) _ ⟨hHeld, BK746.out, BK747.out, BK748.out, BK761.out, GW761.out, GE761.out, NB746_761.out, NB761_746.out, NB747_761.out, NB761_747.out, NB748_761.out, NB761_748.out, (by repeat (first | (with_reducible first | exact HB.out | apply below_alloc | apply pw_below_drewN | apply below_drew1 | refine below_set ?_ (Aside0.out (by assumption))) | exact HB.out))⟩)
      ·skip
       rintro _ w22 ⟨hS_, h0_, h1_, h2_, h3_⟩
       have n0_ : Aside0 (w22.heap[gb746]? = some (.cells #[.int .i64 a0_0, .int .i64 a0_1, .int .u32 a0_2] 42 (0, 0))) := ⟨h0_⟩
       have n1_ : Aside0 (w22.heap[gb747]? = some (.cells #[.int .i64 a1_0, .int .i64 a1_1, .int .u32 a1_2] 42 (0, 0))) := ⟨h1_⟩
       have n2_ : Aside0 (w22.heap[gb748]? = some (.cells #[.int .i64 a2_0, .int .i64 a2_1, .int .u32 a2_2] 42 (0, 0))) := ⟨h2_⟩
       have n3_ : Aside0 (Below w.heap.size w w22) := ⟨h3_⟩
       clear BK746 BK747 BK748 HB
       clear h0_ h1_ h2_ h3_
       have BK746 := n0_
       have BK747 := n1_
       have BK748 := n2_
       have HB := n3_
       clear n0_ n1_ n2_ n3_
       have hHeld : w22.cell? ⟨gb746, 0, none⟩ = some (.int .i64 a0_0) ∧ w22.cell? ⟨gb746, 1, none⟩ = some (.int .i64 a0_1) ∧ w22.cell? ⟨gb746, 2, none⟩ = some (.int .u32 a0_2) ∧ w22.cell? ⟨gb747, 0, none⟩ = some (.int .i64 a1_0) ∧ w22.cell? ⟨gb747, 1, none⟩ = some (.int .i64 a1_1) ∧ w22.cell? ⟨gb747, 2, none⟩ = some (.int .u32 a1_2) ∧ w22.cell? ⟨gb748, 0, none⟩ = some (.int .i64 a2_0) ∧ w22.cell? ⟨gb748, 1, none⟩ = some (.int .i64 a2_1) ∧ w22.cell? ⟨gb748, 2, none⟩ = some (.int .u32 a2_2) := hS_
       refine norm_ (a' := ?_) ?_ ?_
       rotate_left;(simp only [putAll, Act.put, psA, pzA, pnA];rfl)
       refine two_ (i := 6) (j := 10) (Ni := some 18) (Nj := some 7) #[true, true, true, true, true, true, true, false, false, false, false, false, false] #[true, true, true, true, true, true, false, false, false, false, true, false, false] rfl rfl rfl rfl (two_of HT_.out (by kernel_rfl)) (by decide) (by decide) (fun K hK => ?_) (fun K hK => ?_)
       ·skip
        refine goes_ Try.func29 (by kernel_rfl) rfl #[.agg #[.int .i64 t749, .int .i64 t750, .int .u32 t751], .agg #[.int .i64 t752, .int .i64 t753, .int .u32 t754], .agg #[.int .i64 t755, .int .i64 t756, .int .u32 t757]] (by rfl) rfl rfl (by first | rfl | (simp only [List.map_toArray, List.map_cons, List.map_nil, List.length_drop, List.length_take]; rfl)) ?_
        with_reducible refine (spec_JointDensity.calls k t749 t750 t751 t752 t753 t754 t755 t756 t757 t758 t759 t760 _ A7.out).mono ?_
        rintro e w23 ⟨rfl, hb⟩
        refine ⟨_, rfl, ?_⟩
        replace BK746 := bkB BK746 hb
        replace BK747 := bkB BK747 hb
        replace BK748 := bkB BK748 hb
        replace HB := hbB HB hb
        (try clear hb)
        refine hK.out _ _ ⟨bcA BK746 0 rfl, bcA BK746 1 rfl, bcA BK746 2 rfl, bcA BK747 0 rfl, bcA BK747 1 rfl, bcA BK747 2 rfl, bcA BK748 0 rfl, bcA BK748 1 rfl, bcA BK748 2 rfl⟩ (fun hHeld => ?_)
        clear hK K
        refine norm_ (a' := ?_) ?_ ?_
        rotate_left;(show Act.put _ (some 18) _ = _;simp only [Act.put, psA, pzA, pnA, i64_w, i32_w];rfl)
        refine pure_ (i := 7) (N := some 11) (v := ?_) (a' := ?_) #[true, true, true, true, true, true, true, true, false, false, false, false, false] rfl rfl (any_of HT_.out (by kernel_rfl)) (fun _ _ _ h => h) (Or.inl ⟨by rfl, ?_⟩) ?_ ?_
        rotate_left;(intro w';go_simp;with_reducible rfl);rotate_left;(simp only [Act.put, psA, pzA, pnA, i64_w, i32_w];rfl)
        refine pure_ (i := 8) (N := some 19) (v := ?_) (a' := ?_) #[true, true, true, true, true, true, true, true, true, false, false, false, false] rfl rfl (any_of HT_.out (by kernel_rfl)) (fun _ _ _ h => h) (Or.inl ⟨by rfl, ?_⟩) ?_ ?_
        rotate_left;(intro w';go_simp;with_reducible rfl);rotate_left;(simp only [Act.put, psA, pzA, pnA, i64_w, i32_w];rfl)
        refine pure_ (i := 9) (N := some 20) (v := ?_) (a' := ?_) #[true, true, true, true, true, true, true, true, true, true, false, false, false] rfl rfl (any_of HT_.out (by kernel_rfl)) (fun _ _ _ h => h) (Or.inl ⟨by rfl, ?_⟩) ?_ ?_
        rotate_left;(intro w';go_simp;with_reducible rfl);rotate_left;(simp only [Act.put, psA, pzA, pnA, i64_w, i32_w];rfl)
        exact norm_ (by first | (simp only [putAll, Act.put, psA, pzA, pnA]; done) | (simp only [putAll, Act.put, psA, pzA, pnA]; rfl)) (hJ1_3_5_6 () _ ⟨hHeld, BK746.out, BK747.out, BK748.out, (by repeat (first | (with_reducible first | exact HB.out | apply below_alloc | apply pw_below_drewN | apply below_drew1 | refine below_set ?_ (Aside0.out (by assumption))) | exact HB.out))⟩)
       ·skip
        refine box_step ?hg (N := 7) ?hd (cs := #[.int .i64 0, .int .i64 0]) (t := 31) ?hr ?_; (case hd => rfl); (case hg => rfl); (case hr => first | (go_simp; done) | (go_simp; rfl))
        intro gb761 hg w23 hbox hb
        have BK761 := Aside0.mk (hbox)
        have GW761 := geA HB hg
        replace HB := hbB HB hb
        have GE761 := GW761
        have NB746_761 := nbA hg BK746
        replace BK746 := bkB BK746 hb
        have NB761_746 := neA NB746_761
        have NB747_761 := nbA hg BK747
        replace BK747 := bkB BK747 hb
        have NB761_747 := neA NB747_761
        have NB748_761 := nbA hg BK748
        replace BK748 := bkB BK748 hb
        have NB761_748 := neA NB748_761
        clear hb hbox hg
        refine hK.out _ _ ⟨bcA BK746 0 rfl, bcA BK746 1 rfl, bcA BK746 2 rfl, bcA BK747 0 rfl, bcA BK747 1 rfl, bcA BK747 2 rfl, bcA BK748 0 rfl, bcA BK748 1 rfl, bcA BK748 2 rfl⟩ (fun hHeld => ?_)
        clear hK K
        refine norm_ (a' := ?_) ?_ ?_
        rotate_left;(show Act.put _ (some 7) _ = _;simp only [Act.put, psA, pzA, pnA, i64_w, i32_w];rfl)
        exact norm_ (by first | (simp only [putAll, Act.put, psA, pzA, pnA]; done) | (simp only [putAll, Act.put, psA, pzA, pnA]; rfl)) (hJ1_3_5_10 (gb761) _ ⟨hHeld, BK746.out, BK747.out, BK748.out, BK761.out, GW761.out, GE761.out, NB746_761.out, NB761_746.out, NB747_761.out, NB761_747.out, NB748_761.out, NB761_748.out, (by repeat (first | (with_reducible first | exact HB.out | apply below_alloc | apply pw_below_drewN | apply below_drew1 | refine below_set ?_ (Aside0.out (by assumption))) | exact HB.out))⟩)
     ·skip
      rintro gb761 w23 ⟨hS_, h0_, h1_, h2_, h3_, h4_, h5_, h6_, h7_, h8_, h9_, h10_, h11_, h12_⟩
      have n0_ : Aside0 (w23.heap[gb746]? = some (.cells #[.int .i64 a0_0, .int .i64 a0_1, .int .u32 a0_2] 42 (0, 0))) := ⟨h0_⟩
      have n1_ : Aside0 (w23.heap[gb747]? = some (.cells #[.int .i64 a1_0, .int .i64 a1_1, .int .u32 a1_2] 42 (0, 0))) := ⟨h1_⟩
      have n2_ : Aside0 (w23.heap[gb748]? = some (.cells #[.int .i64 a2_0, .int .i64 a2_1, .int .u32 a2_2] 42 (0, 0))) := ⟨h2_⟩
      have n3_ : Aside0 (w23.heap[gb761]? = some (.cells #[.int .i64 0, .int .i64 0] 31 (0, 0))) := ⟨h3_⟩
      have n4_ : Aside0 (w.heap.size ≤ gb761) := ⟨h4_⟩
      have n5_ : Aside0 (w.heap.size ≤ gb761) := ⟨h5_⟩
      have n6_ : Aside0 (gb746 ≠ gb761) := ⟨h6_⟩
      have n7_ : Aside0 (gb761 ≠ gb746) := ⟨h7_⟩
      have n8_ : Aside0 (gb747 ≠ gb761) := ⟨h8_⟩
      have n9_ : Aside0 (gb761 ≠ gb747) := ⟨h9_⟩
      have n10_ : Aside0 (gb748 ≠ gb761) := ⟨h10_⟩
      have n11_ : Aside0 (gb761 ≠ gb748) := ⟨h11_⟩
      have n12_ : Aside0 (Below w.heap.size w w23) := ⟨h12_⟩
      clear BK746 BK747 BK748 HB
      clear h0_ h1_ h2_ h3_ h4_ h5_ h6_ h7_ h8_ h9_ h10_ h11_ h12_
      have BK746 := n0_
      have BK747 := n1_
      have BK748 := n2_
      have BK761 := n3_
      have GW761 := n4_
      have GE761 := n5_
      have NB746_761 := n6_
      have NB761_746 := n7_
      have NB747_761 := n8_
      have NB761_747 := n9_
      have NB748_761 := n10_
      have NB761_748 := n11_
      have HB := n12_
      clear n0_ n1_ n2_ n3_ n4_ n5_ n6_ n7_ n8_ n9_ n10_ n11_ n12_
      have hHeld : w23.cell? ⟨gb746, 0, none⟩ = some (.int .i64 a0_0) ∧ w23.cell? ⟨gb746, 1, none⟩ = some (.int .i64 a0_1) ∧ w23.cell? ⟨gb746, 2, none⟩ = some (.int .u32 a0_2) ∧ w23.cell? ⟨gb747, 0, none⟩ = some (.int .i64 a1_0) ∧ w23.cell? ⟨gb747, 1, none⟩ = some (.int .i64 a1_1) ∧ w23.cell? ⟨gb747, 2, none⟩ = some (.int .u32 a1_2) ∧ w23.cell? ⟨gb748, 0, none⟩ = some (.int .i64 a2_0) ∧ w23.cell? ⟨gb748, 1, none⟩ = some (.int .i64 a2_1) ∧ w23.cell? ⟨gb748, 2, none⟩ = some (.int .u32 a2_2) := hS_
      refine norm_ (a' := ?_) ?_ ?_
      rotate_left;(simp only [putAll, Act.put, psA, pzA, pnA];rfl)
      refine one_ (i := 6) (N := some 18) #[true, true, true, true, true, true, true, false, false, false, true, false, false] rfl rfl (one_of HT_.out (by kernel_rfl)) (by decide) (fun K hK => ?_)
      refine goes_ Try.func29 (by kernel_rfl) rfl #[.agg #[.int .i64 t749, .int .i64 t750, .int .u32 t751], .agg #[.int .i64 t752, .int .i64 t753, .int .u32 t754], .agg #[.int .i64 t755, .int .i64 t756, .int .u32 t757]] (by rfl) rfl rfl (by first | rfl | (simp only [List.map_toArray, List.map_cons, List.map_nil, List.length_drop, List.length_take]; rfl)) ?_
      with_reducible refine (spec_JointDensity.calls k t749 t750 t751 t752 t753 t754 t755 t756 t757 t758 t759 t760 _ A7.out).mono ?_
      rintro e w24 ⟨rfl, hb⟩
      refine ⟨_, rfl, ?_⟩
      replace BK746 := bkB BK746 hb
      replace BK747 := bkB BK747 hb
      replace BK748 := bkB BK748 hb
      replace BK761 := bkB BK761 hb
      replace HB := hbB HB hb
      (try clear hb)
      refine hK.out _ _ ⟨bcA BK746 0 rfl, bcA BK746 1 rfl, bcA BK746 2 rfl, bcA BK747 0 rfl, bcA BK747 1 rfl, bcA BK747 2 rfl, bcA BK748 0 rfl, bcA BK748 1 rfl, bcA BK748 2 rfl⟩ (fun hHeld => ?_)
      clear hK K
      refine norm_ (a' := ?_) ?_ ?_
      rotate_left;(show Act.put _ (some 18) _ = _;simp only [Act.put, psA, pzA, pnA, i64_w, i32_w];rfl)
      refine pure_ (i := 7) (N := some 11) (v := ?_) (a' := ?_) #[true, true, true, true, true, true, true, true, false, false, true, false, false] rfl rfl (any_of HT_.out (by kernel_rfl)) (fun _ _ _ h => h) (Or.inl ⟨by rfl, ?_⟩) ?_ ?_
      rotate_left;(intro w';go_simp;with_reducible rfl);rotate_left;(simp only [Act.put, psA, pzA, pnA, i64_w, i32_w];rfl)
      refine pure_ (i := 8) (N := some 19) (v := ?_) (a' := ?_) #[true, true, true, true, true, true, true, true, true, false, true, false, false] rfl rfl (any_of HT_.out (by kernel_rfl)) (fun _ _ _ h => h) (Or.inl ⟨by rfl, ?_⟩) ?_ ?_
      rotate_left;(intro w';go_simp;with_reducible rfl);rotate_left;(simp only [Act.put, psA, pzA, pnA, i64_w, i32_w];rfl)
      refine pure_ (i := 9) (N := some 20) (v := ?_) (a' := ?_) #[true, true, true, true, true, true, true, true, true, true, true, false, false] rfl rfl (any_of HT_.out (by kernel_rfl)) (fun _ _ _ h => h) (Or.inl ⟨by rfl, ?_⟩) ?_ ?_
      rotate_left;(intro w';go_simp;with_reducible rfl);rotate_left;(simp only [Act.put, psA, pzA, pnA, i64_w, i32_w];rfl)
      exact norm_ (by first | (simp only [putAll, Act.put, psA, pzA, pnA]; done) | (simp only [putAll, Act.put, psA, pzA, pnA]; rfl)) (hJ1_3_5_6_10 (gb761) _ ⟨hHeld, BK746.out, BK747.out, BK748.out, BK761.out, GW761.out, GE761.out, NB746_761.out, NB761_746.out, NB747_761.out, NB761_747.out, NB748_761.out, NB761_748.out, (by repeat (first | (with_reducible first | exact HB.out | apply below_alloc | apply pw_below_drewN | apply below_drew1 | refine below_set ?_ (Aside0.out (by assumption))) | exact HB.out))⟩)
    ·skip
     rintro _ w23 ⟨hS_, h0_, h1_, h2_, h3_⟩
     have n0_ : Aside0 (w23.heap[gb746]? = some (.cells #[.int .i64 a0_0, .int .i64 a0_1, .int .u32 a0_2] 42 (0, 0))) := ⟨h0_⟩
     have n1_ : Aside0 (w23.heap[gb747]? = some (.cells #[.int .i64 a1_0, .int .i64 a1_1, .int .u32 a1_2] 42 (0, 0))) := ⟨h1_⟩
     have n2_ : Aside0 (w23.heap[gb748]? = some (.cells #[.int .i64 a2_0, .int .i64 a2_1, .int .u32 a2_2] 42 (0, 0))) := ⟨h2_⟩
     have n3_ : Aside0 (Below w.heap.size w w23) := ⟨h3_⟩
     clear BK746 BK747 BK748 HB
     clear h0_ h1_ h2_ h3_
     have BK746 := n0_
     have BK747 := n1_
     have BK748 := n2_
     have HB := n3_
     clear n0_ n1_ n2_ n3_
     have hHeld : w23.cell? ⟨gb746, 0, none⟩ = some (.int .i64 a0_0) ∧ w23.cell? ⟨gb746, 1, none⟩ = some (.int .i64 a0_1) ∧ w23.cell? ⟨gb746, 2, none⟩ = some (.int .u32 a0_2) ∧ w23.cell? ⟨gb747, 0, none⟩ = some (.int .i64 a1_0) ∧ w23.cell? ⟨gb747, 1, none⟩ = some (.int .i64 a1_1) ∧ w23.cell? ⟨gb747, 2, none⟩ = some (.int .u32 a1_2) ∧ w23.cell? ⟨gb748, 0, none⟩ = some (.int .i64 a2_0) ∧ w23.cell? ⟨gb748, 1, none⟩ = some (.int .i64 a2_1) ∧ w23.cell? ⟨gb748, 2, none⟩ = some (.int .u32 a2_2) := hS_
     refine norm_ (a' := ?_) ?_ ?_
     rotate_left;(simp only [putAll, Act.put, psA, pzA, pnA];rfl)
     refine one_ (i := 10) (N := some 7) #[true, true, true, true, true, true, true, true, true, true, true, false, false] rfl rfl (one_of HT_.out (by kernel_rfl)) (by decide) (fun K hK => ?_)
     refine box_step ?hg (N := 7) ?hd (cs := #[.int .i64 0, .int .i64 0]) (t := 31) ?hr ?_; (case hd => rfl); (case hg => rfl); (case hr => first | (go_simp; done) | (go_simp; rfl))
     intro gb761 hg w24 hbox hb
     have BK761 := Aside0.mk (hbox)
     have GW761 := geA HB hg
     replace HB := hbB HB hb
     have GE761 := GW761
     have NB746_761 := nbA hg BK746
     replace BK746 := bkB BK746 hb
     have NB761_746 := neA NB746_761
     have NB747_761 := nbA hg BK747
     replace BK747 := bkB BK747 hb
     have NB761_747 := neA NB747_761
     have NB748_761 := nbA hg BK748
     replace BK748 := bkB BK748 hb
     have NB761_748 := neA NB748_761
     clear hb hbox hg
     refine hK.out _ _ ⟨bcA BK746 0 rfl, bcA BK746 1 rfl, bcA BK746 2 rfl, bcA BK747 0 rfl, bcA BK747 1 rfl, bcA BK747 2 rfl, bcA BK748 0 rfl, bcA BK748 1 rfl, bcA BK748 2 rfl⟩ (fun hHeld => ?_)
     clear hK K
     refine norm_ (a' := ?_) ?_ ?_
     rotate_left;(show Act.put _ (some 7) _ = _;simp only [Act.put, psA, pzA, pnA, i64_w, i32_w];rfl)
     exact norm_ (by first | (simp only [putAll, Act.put, psA, pzA, pnA]; done) | (simp only [putAll, Act.put, psA, pzA, pnA]; rfl)) (hJ1_3_5_6_10 (gb761) _ ⟨hHeld, BK746.out, BK747.out, BK748.out, BK761.out, GW761.out, GE761.out, NB746_761.out, NB761_746.out, NB747_761.out, NB761_747.out, NB748_761.out, NB761_748.out, (by repeat (first | (with_reducible first | exact HB.out | apply below_alloc | apply pw_below_drewN | apply below_drew1 | refine below_set ?_ (Aside0.out (by assumption))) | exact HB.out))⟩)
   rintro gb761 w24 ⟨hS_, h0_, h1_, h2_, h3_, h4_, h5_, h6_, h7_, h8_, h9_, h10_, h11_, h12_⟩
   have n0_ : Aside0 (w24.heap[gb746]? = some (.cells #[.int .i64 a0_0, .int .i64 a0_1, .int .u32 a0_2] 42 (0, 0))) := ⟨h0_⟩
   have n1_ : Aside0 (w24.heap[gb747]? = some (.cells #[.int .i64 a1_0, .int .i64 a1_1, .int .u32 a1_2] 42 (0, 0))) := ⟨h1_⟩
   have n2_ : Aside0 (w24.heap[gb748]? = some (.cells #[.int .i64 a2_0, .int .i64 a2_1, .int .u32 a2_2] 42 (0, 0))) := ⟨h2_⟩
   have n3_ : Aside0 (w24.heap[gb761]? = some (.cells #[.int .i64 0, .int .i64 0] 31 (0, 0))) := ⟨h3_⟩
   have n4_ : Aside0 (w.heap.size ≤ gb761) := ⟨h4_⟩
   have n5_ : Aside0 (w.heap.size ≤ gb761) := ⟨h5_⟩
   have n6_ : Aside0 (gb746 ≠ gb761) := ⟨h6_⟩
   have n7_ : Aside0 (gb761 ≠ gb746) := ⟨h7_⟩
   have n8_ : Aside0 (gb747 ≠ gb761) := ⟨h8_⟩
   have n9_ : Aside0 (gb761 ≠ gb747) := ⟨h9_⟩
   have n10_ : Aside0 (gb748 ≠ gb761) := ⟨h10_⟩
   have n11_ : Aside0 (gb761 ≠ gb748) := ⟨h11_⟩
   have n12_ : Aside0 (Below w.heap.size w w24) := ⟨h12_⟩
   clear BK746 BK747 BK748 HB
   clear h0_ h1_ h2_ h3_ h4_ h5_ h6_ h7_ h8_ h9_ h10_ h11_ h12_
   have BK746 := n0_
   have BK747 := n1_
   have BK748 := n2_
   have BK761 := n3_
   have GW761 := n4_
   have GE761 := n5_
   have NB746_761 := n6_
   have NB761_746 := n7_
   have NB747_761 := n8_
   have NB761_747 := n9_
   have NB748_761 := n10_
   have NB761_748 := n11_
   have HB := n12_
   clear n0_ n1_ n2_ n3_ n4_ n5_ n6_ n7_ n8_ n9_ n10_ n11_ n12_
   have hHeld : w24.cell? ⟨gb746, 0, none⟩ = some (.int .i64 a0_0) ∧ w24.cell? ⟨gb746, 1, none⟩ = some (.int .i64 a0_1) ∧ w24.cell? ⟨gb746, 2, none⟩ = some (.int .u32 a0_2) ∧ w24.cell? ⟨gb747, 0, none⟩ = some (.int .i64 a1_0) ∧ w24.cell? ⟨gb747, 1, none⟩ = some (.int .i64 a1_1) ∧ w24.cell? ⟨gb747, 2, none⟩ = some (.int .u32 a1_2) ∧ w24.cell? ⟨gb748, 0, none⟩ = some (.int .i64 a2_0) ∧ w24.cell? ⟨gb748, 1, none⟩ = some (.int .i64 a2_1) ∧ w24.cell? ⟨gb748, 2, none⟩ = some (.int .u32 a2_2) := hS_
   refine norm_ (a' := ?_) ?_ ?_
   rotate_left;(simp only [putAll, Act.put, psA, pzA, pnA];rfl)
   refine one_ (i := 11) (N := none) #[true, true, true, true, true, true, true, true, true, true, true, true, false] rfl rfl (one_of HT_.out (by kernel_rfl)) (by decide) (fun K hK => ?_)
   have hs25 : w24.cell? ⟨gb761, 0, none⟩ = some (.int .i64 0) := bcA BK761 0 rfl
   have hfs25 := blk_frozen BK761.out 0
   have hns25_0 := NB746_761.out
   have hns25_1 := NB747_761.out
   have hns25_2 := NB748_761.out
   have hms25_0 := NB761_746.out
   have hms25_1 := NB761_747.out
   have hms25_2 := NB761_748.out
   have hs26 : w24.cell? ⟨gb761, 1, none⟩ = some (.int .i64 0) := bcA BK761 1 rfl
   have hfs26 := blk_frozen BK761.out 1
   have hns26_0 := NB746_761.out
   have hns26_1 := NB747_761.out
   have hns26_2 := NB748_761.out
   have hms26_0 := NB761_746.out
   have hms26_1 := NB761_747.out
   have hms26_2 := NB761_748.out
   refine skip_ (w1 := ?_) (by rfl) rfl ?_ ?_
   rotate_left
   ·go_simp
    rfl
   refine hK.out _ _ ⟨((cell_far (p := ⟨gb761, _, none⟩) NB746_761.out _).trans (((cell_far (p := ⟨gb761, _, none⟩) NB746_761.out _).trans (hHeld.1)))), ((cell_far (p := ⟨gb761, _, none⟩) NB746_761.out _).trans (((cell_far (p := ⟨gb761, _, none⟩) NB746_761.out _).trans (hHeld.2.1)))), ((cell_far (p := ⟨gb761, _, none⟩) NB746_761.out _).trans (((cell_far (p := ⟨gb761, _, none⟩) NB746_761.out _).trans (hHeld.2.2.1)))), ((cell_far (p := ⟨gb761, _, none⟩) NB747_761.out _).trans (((cell_far (p := ⟨gb761, _, none⟩) NB747_761.out _).trans (hHeld.2.2.2.1)))), ((cell_far (p := ⟨gb761, _, none⟩) NB747_761.out _).trans (((cell_far (p := ⟨gb761, _, none⟩) NB747_761.out _).trans (hHeld.2.2.2.2.1)))), ((cell_far (p := ⟨gb761, _, none⟩) NB747_761.out _).trans (((cell_far (p := ⟨gb761, _, none⟩) NB747_761.out _).trans (hHeld.2.2.2.2.2.1)))), ((cell_far (p := ⟨gb761, _, none⟩) NB748_761.out _).trans (((cell_far (p := ⟨gb761, _, none⟩) NB748_761.out _).trans (hHeld.2.2.2.2.2.2.1)))), ((cell_far (p := ⟨gb761, _, none⟩) NB748_761.out _).trans (((cell_far (p := ⟨gb761, _, none⟩) NB748_761.out _).trans (hHeld.2.2.2.2.2.2.2.1)))), ((cell_far (p := ⟨gb761, _, none⟩) NB748_761.out _).trans (((cell_far (p := ⟨gb761, _, none⟩) NB748_761.out _).trans (hHeld.2.2.2.2.2.2.2.2))))⟩ (fun hHeld => ?_)
   clear hK K
   refine pure_ (i := 12) (N := some 8) (v := ?_) (a' := ?_) #[true, true, true, true, true, true, true, true, true, true, true, true, true] rfl rfl (any_of HT_.out (by kernel_rfl)) (fun _ _ _ h => h) (Or.inl ⟨by rfl, ?_⟩) ?_ ?_
   rotate_left;(intro w';go_simp;with_reducible rfl);rotate_left;(simp only [Act.put, psA, pzA, pnA, i64_w, i32_w];rfl)
   refine done_ (done_of HT_.out (by kernel_rfl)) ?_
   try go_wp2
   have n0_ : Aside0 (((w24.setCell ⟨gb761, 0, none⟩ (.int .i64 t758)).setCell ⟨gb761, 1, none⟩ (.int .i64 t759)).heap[gb746]? = some (.cells #[.int .i64 a0_0, .int .i64 a0_1, .int .u32 a0_2] 42 (0, 0))) := ⟨by (with_reducible repeat (first | refine blk_drewN ?_ _ | refine blk_drew ?_ | refine blk_alloc ?_ _)); refine blk_far ?_ NB746_761.out _; (with_reducible repeat (first | refine blk_drewN ?_ _ | refine blk_drew ?_ | refine blk_alloc ?_ _)); refine blk_far ?_ NB746_761.out _; (with_reducible repeat (first | refine blk_drewN ?_ _ | refine blk_drew ?_ | refine blk_alloc ?_ _)); exact BK746.out⟩
   have n1_ : Aside0 (((w24.setCell ⟨gb761, 0, none⟩ (.int .i64 t758)).setCell ⟨gb761, 1, none⟩ (.int .i64 t759)).heap[gb747]? = some (.cells #[.int .i64 a1_0, .int .i64 a1_1, .int .u32 a1_2] 42 (0, 0))) := ⟨by (with_reducible repeat (first | refine blk_drewN ?_ _ | refine blk_drew ?_ | refine blk_alloc ?_ _)); refine blk_far ?_ NB747_761.out _; (with_reducible repeat (first | refine blk_drewN ?_ _ | refine blk_drew ?_ | refine blk_alloc ?_ _)); refine blk_far ?_ NB747_761.out _; (with_reducible repeat (first | refine blk_drewN ?_ _ | refine blk_drew ?_ | refine blk_alloc ?_ _)); exact BK747.out⟩
   have n2_ : Aside0 (((w24.setCell ⟨gb761, 0, none⟩ (.int .i64 t758)).setCell ⟨gb761, 1, none⟩ (.int .i64 t759)).heap[gb748]? = some (.cells #[.int .i64 a2_0, .int .i64 a2_1, .int .u32 a2_2] 42 (0, 0))) := ⟨by (with_reducible repeat (first | refine blk_drewN ?_ _ | refine blk_drew ?_ | refine blk_alloc ?_ _)); refine blk_far ?_ NB748_761.out _; (with_reducible repeat (first | refine blk_drewN ?_ _ | refine blk_drew ?_ | refine blk_alloc ?_ _)); refine blk_far ?_ NB748_761.out _; (with_reducible repeat (first | refine blk_drewN ?_ _ | refine blk_drew ?_ | refine blk_alloc ?_ _)); exact BK748.out⟩
   have n3_ : Aside0 (((w24.setCell ⟨gb761, 0, none⟩ (.int .i64 t758)).setCell ⟨gb761, 1, none⟩ (.int .i64 t759)).heap[gb761]? = some (.cells #[.int .i64 t758, .int .i64 t759] 31 (0, 0))) := ⟨by (with_reducible repeat (first | refine blk_drewN ?_ _ | refine blk_drew ?_ | refine blk_alloc ?_ _)); refine blk_put (cs := #[.int .i64 t758, .int .i64 0]) ?_ 1 _ rfl; (with_reducible repeat (first | refine blk_drewN ?_ _ | refine blk_drew ?_ | refine blk_alloc ?_ _)); refine blk_put (cs := #[.int .i64 0, .int .i64 0]) ?_ 0 _ rfl; (with_reducible repeat (first | refine blk_drewN ?_ _ | refine blk_drew ?_ | refine blk_alloc ?_ _)); exact BK761.out⟩
   have n4_ : Aside0 (Below w.heap.size w ((w24.setCell ⟨gb761, 0, none⟩ (.int .i64 t758)).setCell ⟨gb761, 1, none⟩ (.int .i64 t759))) := ⟨by repeat (first | (with_reducible first | exact HB.out | apply below_alloc | apply pw_below_drewN | apply below_drew1 | refine below_set ?_ (Aside0.out (by assumption))) | exact HB.out)⟩
   (try clear BK746)
   (try clear BK747)
   (try clear BK748)
   (try clear BK761)
   (try clear HB)
   generalize ((w24.setCell ⟨gb761, 0, none⟩ (.int .i64 t758)).setCell ⟨gb761, 1, none⟩ (.int .i64 t759)) = w27 at n0_ n1_ n2_ n3_ n4_ ⊢
   have BK746 := n0_
   have BK747 := n1_
   have BK748 := n2_
   have BK761 := n3_
   have HB := n4_
   clear n0_ n1_ n2_ n3_ n4_
   replace BK746 := Aside0.mk (blk_drew BK746.out)
   replace BK747 := Aside0.mk (blk_drew BK747.out)
   replace BK748 := Aside0.mk (blk_drew BK748.out)
   replace BK761 := Aside0.mk (blk_drew BK761.out)
   replace HB := Aside0.mk (below_drew1 HB.out)
   refine start_ (n := 13) (S := fun w' => w'.cell? ⟨gb746, 0, none⟩ = some (.int .i64 a0_0) ∧ w'.cell? ⟨gb746, 1, none⟩ = some (.int .i64 a0_1) ∧ w'.cell? ⟨gb746, 2, none⟩ = some (.int .u32 a0_2) ∧ w'.cell? ⟨gb747, 0, none⟩ = some (.int .i64 a1_0) ∧ w'.cell? ⟨gb747, 1, none⟩ = some (.int .i64 a1_1) ∧ w'.cell? ⟨gb747, 2, none⟩ = some (.int .u32 a1_2) ∧ w'.cell? ⟨gb748, 0, none⟩ = some (.int .i64 a2_0) ∧ w'.cell? ⟨gb748, 1, none⟩ = some (.int .i64 a2_1) ∧ w'.cell? ⟨gb748, 2, none⟩ = some (.int .u32 a2_2)) (ds := []) #[false, false, false, false, false, false, false, false, false, false, false, false, false] (by kernel_rfl) rfl rfl ⟨bcA BK746 0 rfl, bcA BK746 1 rfl, bcA BK746 2 rfl, bcA BK747 0 rfl, bcA BK747 1 rfl, bcA BK747 2 rfl, bcA BK748 0 rfl, bcA BK748 1 rfl, bcA BK748 2 rfl⟩ (fun hHeld => ?_); refine with_tabW laws_FnExactJointDensity.tab2 laws_FnExactJointDensity.bits2 (fun HT_ HW_ => ?_)
   generalize w27.drew = w28 at BK746 BK747 BK748 BK761 HB hHeld ⊢
   refine take_ (i := 0) (N := some 22) (v := ?_) (a' := ?_) #[true, false, false, false, false, false, false, false, false, false, false, false, false] rfl rfl (take_ofW HT_.out HW_.out (by kernel_rfl)) (fun _ _ _ h => h) (Or.inl ⟨by rfl, ?_⟩) hHeld ?_ ?_
   rotate_left;(rintro w' ⟨s0, s1, s2, s3, s4, s5, s6, s7, s8⟩;go_simp;with_reducible rfl);rotate_left;(simp only [Act.put, psA, pzA, pnA, i64_w, i32_w];rfl)
   refine take_ (i := 2) (N := some 24) (v := ?_) (a' := ?_) #[true, false, true, false, false, false, false, false, false, false, false, false, false] rfl rfl (take_ofW HT_.out HW_.out (by kernel_rfl)) (fun _ _ _ h => h) (Or.inl ⟨by rfl, ?_⟩) hHeld ?_ ?_
   rotate_left;(rintro w' ⟨s0, s1, s2, s3, s4, s5, s6, s7, s8⟩;go_simp;with_reducible rfl);rotate_left;(simp only [Act.put, psA, pzA, pnA, i64_w, i32_w];rfl)
   refine take_ (i := 4) (N := some 26) (v := ?_) (a' := ?_) #[true, false, true, false, true, false, false, false, false, false, false, false, false] rfl rfl (take_ofW HT_.out HW_.out (by kernel_rfl)) (fun _ _ _ h => h) (Or.inl ⟨by rfl, ?_⟩) hHeld ?_ ?_
   rotate_left;(rintro w' ⟨s0, s1, s2, s3, s4, s5, s6, s7, s8⟩;go_simp;with_reducible rfl);rotate_left;(simp only [Act.put, psA, pzA, pnA, i64_w, i32_w];rfl)
   refine join_ (σ := Nat) 2 #[true, true, true, true, true, true, true, true, true, true, true, false, false] (fun s_ => [(23, .agg #[.int .i64 t762, .int .i64 t763, .int .u32 t764]), (25, .agg #[.int .i64 t765, .int .i64 t766, .int .u32 t767]), (27, .agg #[.int .i64 t768, .int .i64 t769, .int .u32 t770]), (28, .tuple #[.agg #[.int .i64 t771, .int .i64 t772], .int .i64 t773]), (9, .pointer (some ⟨s_, 0, none⟩)), (21, .tuple #[.agg #[.int .i64 t771, .int .i64 t772], .int .i64 t773]), (29, .agg #[.int .i64 t771, .int .i64 t772]), (30, .int .i64 t773)]) (fun s_ w' => (w'.cell? ⟨gb746, 0, none⟩ = some (.int .i64 a0_0) ∧ w'.cell? ⟨gb746, 1, none⟩ = some (.int .i64 a0_1) ∧ w'.cell? ⟨gb746, 2, none⟩ = some (.int .u32 a0_2) ∧ w'.cell? ⟨gb747, 0, none⟩ = some (.int .i64 a1_0) ∧ w'.cell? ⟨gb747, 1, none⟩ = some (.int .i64 a1_1) ∧ w'.cell? ⟨gb747, 2, none⟩ = some (.int .u32 a1_2) ∧ w'.cell? ⟨gb748, 0, none⟩ = some (.int .i64 a2_0) ∧ w'.cell? ⟨gb748, 1, none⟩ = some (.int .i64 a2_1) ∧ w'.cell? ⟨gb748, 2, none⟩ = some (.int .u32 a2_2)) ∧ (w'.heap[gb746]? = some (.cells #[.int .i64 a0_0, .int .i64 a0_1, .int .u32 a0_2] 42 (0, 0))) ∧ (w'.heap[gb747]? = some (.cells #[.int .i64 a1_0, .int .i64 a1_1, .int .u32 a1_2] 42 (0, 0))) ∧ (w'.heap[gb748]? = some (.cells #[.int .i64 a2_0, .int .i64 a2_1, .int .u32 a2_2] 42 (0, 0))) ∧ (w'.heap[gb761]? = some (.cells #[.int .i64 t758, .int .i64 t759] 31 (0, 0))) ∧ (w'.heap[s_]? = some (.cells #[.int .i64 0, .int .i64 0] 31 (0, 0))) ∧ (w.heap.size ≤ s_) ∧ (w.heap.size ≤ s_) ∧ (gb746 ≠ s_) ∧ (s_ ≠ gb746) ∧ (gb747 ≠ s_) ∧ (s_ ≠ gb747) ∧ (gb748 ≠ s_) ∧ (s_ ≠ gb748) ∧ (gb761 ≠ s_) ∧ (s_ ≠ gb761) ∧ (Below w.heap.size w w')) ?_ ?_
   rotate_left
   ·intro hJ1_3_5_6_10
    refine join_ (σ := Unit) 3 #[true, true, true, true, true, true, true, true, true, true, false, false, false] (fun s_ => [(23, .agg #[.int .i64 t762, .int .i64 t763, .int .u32 t764]), (25, .agg #[.int .i64 t765, .int .i64 t766, .int .u32 t767]), (27, .agg #[.int .i64 t768, .int .i64 t769, .int .u32 t770]), (28, .tuple #[.agg #[.int .i64 t771, .int .i64 t772], .int .i64 t773]), (21, .tuple #[.agg #[.int .i64 t771, .int .i64 t772], .int .i64 t773]), (29, .agg #[.int .i64 t771, .int .i64 t772]), (30, .int .i64 t773)]) (fun s_ w' => (w'.cell? ⟨gb746, 0, none⟩ = some (.int .i64 a0_0) ∧ w'.cell? ⟨gb746, 1, none⟩ = some (.int .i64 a0_1) ∧ w'.cell? ⟨gb746, 2, none⟩ = some (.int .u32 a0_2) ∧ w'.cell? ⟨gb747, 0, none⟩ = some (.int .i64 a1_0) ∧ w'.cell? ⟨gb747, 1, none⟩ = some (.int .i64 a1_1) ∧ w'.cell? ⟨gb747, 2, none⟩ = some (.int .u32 a1_2) ∧ w'.cell? ⟨gb748, 0, none⟩ = some (.int .i64 a2_0) ∧ w'.cell? ⟨gb748, 1, none⟩ = some (.int .i64 a2_1) ∧ w'.cell? ⟨gb748, 2, none⟩ = some (.int .u32 a2_2)) ∧ (w'.heap[gb746]? = some (.cells #[.int .i64 a0_0, .int .i64 a0_1, .int .u32 a0_2] 42 (0, 0))) ∧ (w'.heap[gb747]? = some (.cells #[.int .i64 a1_0, .int .i64 a1_1, .int .u32 a1_2] 42 (0, 0))) ∧ (w'.heap[gb748]? = some (.cells #[.int .i64 a2_0, .int .i64 a2_1, .int .u32 a2_2] 42 (0, 0))) ∧ (w'.heap[gb761]? = some (.cells #[.int .i64 t758, .int .i64 t759] 31 (0, 0))) ∧ (Below w.heap.size w w')) ?_ ?_
    rotate_left
    ·intro hJ1_3_5_6
     refine join_ (σ := Nat) 6 #[true, true, true, true, true, true, false, false, false, false, true, false, false] (fun s_ => [(23, .agg #[.int .i64 t762, .int .i64 t763, .int .u32 t764]), (25, .agg #[.int .i64 t765, .int .i64 t766, .int .u32 t767]), (27, .agg #[.int .i64 t768, .int .i64 t769, .int .u32 t770]), (9, .pointer (some ⟨s_, 0, none⟩))]) (fun s_ w' => (w'.cell? ⟨gb746, 0, none⟩ = some (.int .i64 a0_0) ∧ w'.cell? ⟨gb746, 1, none⟩ = some (.int .i64 a0_1) ∧ w'.cell? ⟨gb746, 2, none⟩ = some (.int .u32 a0_2) ∧ w'.cell? ⟨gb747, 0, none⟩ = some (.int .i64 a1_0) ∧ w'.cell? ⟨gb747, 1, none⟩ = some (.int .i64 a1_1) ∧ w'.cell? ⟨gb747, 2, none⟩ = some (.int .u32 a1_2) ∧ w'.cell? ⟨gb748, 0, none⟩ = some (.int .i64 a2_0) ∧ w'.cell? ⟨gb748, 1, none⟩ = some (.int .i64 a2_1) ∧ w'.cell? ⟨gb748, 2, none⟩ = some (.int .u32 a2_2)) ∧ (w'.heap[gb746]? = some (.cells #[.int .i64 a0_0, .int .i64 a0_1, .int .u32 a0_2] 42 (0, 0))) ∧ (w'.heap[gb747]? = some (.cells #[.int .i64 a1_0, .int .i64 a1_1, .int .u32 a1_2] 42 (0, 0))) ∧ (w'.heap[gb748]? = some (.cells #[.int .i64 a2_0, .int .i64 a2_1, .int .u32 a2_2] 42 (0, 0))) ∧ (w'.heap[gb761]? = some (.cells #[.int .i64 t758, .int .i64 t759] 31 (0, 0))) ∧ (w'.heap[s_]? = some (.cells #[.int .i64 0, .int .i64 0] 31 (0, 0))) ∧ (w.heap.size ≤ s_) ∧ (w.heap.size ≤ s_) ∧ (gb746 ≠ s_) ∧ (s_ ≠ gb746) ∧ (gb747 ≠ s_) ∧ (s_ ≠ gb747) ∧ (gb748 ≠ s_) ∧ (s_ ≠ gb748) ∧ (gb761 ≠ s_) ∧ (s_ ≠ gb761) ∧ (Below w.heap.size w w')) ?_ ?_
     rotate_left
     ·intro hJ1_3_5_10
      refine join_ (σ := Unit) 7 #[true, true, true, true, true, true, false, false, false, false, false, false, false] (fun s_ => [(23, .agg #[.int .i64 t762, .int .i64 t763, .int .u32 t764]), (25, .agg #[.int .i64 t765, .int .i64 t766, .int .u32 t767]), (27, .agg #[.int .i64 t768, .int .i64 t769, .int .u32 t770])]) (fun s_ w' => (w'.cell? ⟨gb746, 0, none⟩ = some (.int .i64 a0_0) ∧ w'.cell? ⟨gb746, 1, none⟩ = some (.int .i64 a0_1) ∧ w'.cell? ⟨gb746, 2, none⟩ = some (.int .u32 a0_2) ∧ w'.cell? ⟨gb747, 0, none⟩ = some (.int .i64 a1_0) ∧ w'.cell? ⟨gb747, 1, none⟩ = some (.int .i64 a1_1) ∧ w'.cell? ⟨gb747, 2, none⟩ = some (.int .u32 a1_2) ∧ w'.cell? ⟨gb748, 0, none⟩ = some (.int .i64 a2_0) ∧ w'.cell? ⟨gb748, 1, none⟩ = some (.int .i64 a2_1) ∧ w'.cell? ⟨gb748, 2, none⟩ = some (.int .u32 a2_2)) ∧ (w'.heap[gb746]? = some (.cells #[.int .i64 a0_0, .int .i64 a0_1, .int .u32 a0_2] 42 (0, 0))) ∧ (w'.heap[gb747]? = some (.cells #[.int .i64 a1_0, .int .i64 a1_1, .int .u32 a1_2] 42 (0, 0))) ∧ (w'.heap[gb748]? = some (.cells #[.int .i64 a2_0, .int .i64 a2_1, .int .u32 a2_2] 42 (0, 0))) ∧ (w'.heap[gb761]? = some (.cells #[.int .i64 t758, .int .i64 t759] 31 (0, 0))) ∧ (Below w.heap.size w w')) ?_ ?_
      rotate_left
      ·intro hJ1_3_5
       refine join_ (σ := Nat) 7 #[true, true, true, true, true, false, false, false, false, false, true, false, false] (fun s_ => [(23, .agg #[.int .i64 t762, .int .i64 t763, .int .u32 t764]), (25, .agg #[.int .i64 t765, .int .i64 t766, .int .u32 t767]), (9, .pointer (some ⟨s_, 0, none⟩))]) (fun s_ w' => (w'.cell? ⟨gb746, 0, none⟩ = some (.int .i64 a0_0) ∧ w'.cell? ⟨gb746, 1, none⟩ = some (.int .i64 a0_1) ∧ w'.cell? ⟨gb746, 2, none⟩ = some (.int .u32 a0_2) ∧ w'.cell? ⟨gb747, 0, none⟩ = some (.int .i64 a1_0) ∧ w'.cell? ⟨gb747, 1, none⟩ = some (.int .i64 a1_1) ∧ w'.cell? ⟨gb747, 2, none⟩ = some (.int .u32 a1_2) ∧ w'.cell? ⟨gb748, 0, none⟩ = some (.int .i64 a2_0) ∧ w'.cell? ⟨gb748, 1, none⟩ = some (.int .i64 a2_1) ∧ w'.cell? ⟨gb748, 2, none⟩ = some (.int .u32 a2_2)) ∧ (w'.heap[gb746]? = some (.cells #[.int .i64 a0_0, .int .i64 a0_1, .int .u32 a0_2] 42 (0, 0))) ∧ (w'.heap[gb747]? = some (.cells #[.int .i64 a1_0, .int .i64 a1_1, .int .u32 a1_2] 42 (0, 0))) ∧ (w'.heap[gb748]? = some (.cells #[.int .i64 a2_0, .int .i64 a2_1, .int .u32 a2_2] 42 (0, 0))) ∧ (w'.heap[gb761]? = some (.cells #[.int .i64 t758, .int .i64 t759] 31 (0, 0))) ∧ (w'.heap[s_]? = some (.cells #[.int .i64 0, .int .i64 0] 31 (0, 0))) ∧ (w.heap.size ≤ s_) ∧ (w.heap.size ≤ s_) ∧ (gb746 ≠ s_) ∧ (s_ ≠ gb746) ∧ (gb747 ≠ s_) ∧ (s_ ≠ gb747) ∧ (gb748 ≠ s_) ∧ (s_ ≠ gb748) ∧ (gb761 ≠ s_) ∧ (s_ ≠ gb761) ∧ (Below w.heap.size w w')) ?_ ?_
       rotate_left
       ·intro hJ1_3_10
        refine join_ (σ := Unit) 8 #[true, true, true, true, true, false, false, false, false, false, false, false, false] (fun s_ => [(23, .agg #[.int .i64 t762, .int .i64 t763, .int .u32 t764]), (25, .agg #[.int .i64 t765, .int .i64 t766, .int .u32 t767])]) (fun s_ w' => (w'.cell? ⟨gb746, 0, none⟩ = some (.int .i64 a0_0) ∧ w'.cell? ⟨gb746, 1, none⟩ = some (.int .i64 a0_1) ∧ w'.cell? ⟨gb746, 2, none⟩ = some (.int .u32 a0_2) ∧ w'.cell? ⟨gb747, 0, none⟩ = some (.int .i64 a1_0) ∧ w'.cell? ⟨gb747, 1, none⟩ = some (.int .i64 a1_1) ∧ w'.cell? ⟨gb747, 2, none⟩ = some (.int .u32 a1_2) ∧ w'.cell? ⟨gb748, 0, none⟩ = some (.int .i64 a2_0) ∧ w'.cell? ⟨gb748, 1, none⟩ = some (.int .i64 a2_1) ∧ w'.cell? ⟨gb748, 2, none⟩ = some (.int .u32 a2_2)) ∧ (w'.heap[gb746]? = some (.cells #[.int .i64 a0_0, .int .i64 a0_1, .int .u32 a0_2] 42 (0, 0))) ∧ (w'.heap[gb747]? = some (.cells #[.int .i64 a1_0, .int .i64 a1_1, .int .u32 a1_2] 42 (0, 0))) ∧ (w'.heap[gb748]? = some (.cells #[.int .i64 a2_0, .int .i64 a2_1, .int .u32 a2_2] 42 (0, 0))) ∧ (w'.heap[gb761]? = some (.cells #[.int .i64 t758, .int .i64 t759] 31 (0, 0))) ∧ (Below w.heap.size w w')) ?_ ?_
        rotate_left
        ·intro hJ1_3
         refine join_ (σ := Nat) 8 #[true, true, true, false, true, false, false, false, false, false, true, false, false] (fun s_ => [(23, .agg #[.int .i64 t762, .int .i64 t763, .int .u32 t764]), (9, .pointer (some ⟨s_, 0, none⟩))]) (fun s_ w' => (w'.cell? ⟨gb746, 0, none⟩ = some (.int .i64 a0_0) ∧ w'.cell? ⟨gb746, 1, none⟩ = some (.int .i64 a0_1) ∧ w'.cell? ⟨gb746, 2, none⟩ = some (.int .u32 a0_2) ∧ w'.cell? ⟨gb747, 0, none⟩ = some (.int .i64 a1_0) ∧ w'.cell? ⟨gb747, 1, none⟩ = some (.int .i64 a1_1) ∧ w'.cell? ⟨gb747, 2, none⟩ = some (.int .u32 a1_2) ∧ w'.cell? ⟨gb748, 0, none⟩ = some (.int .i64 a2_0) ∧ w'.cell? ⟨gb748, 1, none⟩ = some (.int .i64 a2_1) ∧ w'.cell? ⟨gb748, 2, none⟩ = some (.int .u32 a2_2)) ∧ (w'.heap[gb746]? = some (.cells #[.int .i64 a0_0, .int .i64 a0_1, .int .u32 a0_2] 42 (0, 0))) ∧ (w'.heap[gb747]? = some (.cells #[.int .i64 a1_0, .int .i64 a1_1, .int .u32 a1_2] 42 (0, 0))) ∧ (w'.heap[gb748]? = some (.cells #[.int .i64 a2_0, .int .i64 a2_1, .int .u32 a2_2] 42 (0, 0))) ∧ (w'.heap[gb761]? = some (.cells #[.int .i64 t758, .int .i64 t759] 31 (0, 0))) ∧ (w'.heap[s_]? = some (.cells #[.int .i64 0, .int .i64 0] 31 (0, 0))) ∧ (w.heap.size ≤ s_) ∧ (w.heap.size ≤ s_) ∧ (gb746 ≠ s_) ∧ (s_ ≠ gb746) ∧ (gb747 ≠ s_) ∧ (s_ ≠ gb747) ∧ (gb748 ≠ s_) ∧ (s_ ≠ gb748) ∧ (gb761 ≠ s_) ∧ (s_ ≠ gb761) ∧ (Below w.heap.size w w')) ?_ ?_
         rotate_left
         ·intro hJ1_10
          refine join_ (σ := Unit) 9 #[true, true, true, false, true, false, false, false, false, false, false, false, false] (fun s_ => [(23, .agg #[.int .i64 t762, .int .i64 t763, .int .u32 t764])]) (fun s_ w' => (w'.cell? ⟨gb746, 0, none⟩ = some (.int .i64 a0_0) ∧ w'.cell? ⟨gb746, 1, none⟩ = some (.int .i64 a0_1) ∧ w'.cell? ⟨gb746, 2, none⟩ = some (.int .u32 a0_2) ∧ w'.cell? ⟨gb747, 0, none⟩ = some (.int .i64 a1_0) ∧ w'.cell? ⟨gb747, 1, none⟩ = some (.int .i64 a1_1) ∧ w'.cell? ⟨gb747, 2, none⟩ = some (.int .u32 a1_2) ∧ w'.cell? ⟨gb748, 0, none⟩ = some (.int .i64 a2_0) ∧ w'.cell? ⟨gb748, 1, none⟩ = some (.int .i64 a2_1) ∧ w'.cell? ⟨gb748, 2, none⟩ = some (.int .u32 a2_2)) ∧ (w'.heap[gb746]? = some (.cells #[.int .i64 a0_0, .int .i64 a0_1, .int .u32 a0_2] 42 (0, 0))) ∧ (w'.heap[gb747]? = some (.cells #[.int .i64 a1_0, .int .i64 a1_1, .int .u32 a1_2] 42 (0, 0))) ∧ (w'.heap[gb748]? = some (.cells #[.int .i64 a2_0, .int .i64 a2_1, .int .u32 a2_2] 42 (0, 0))) ∧ (w'.heap[gb761]? = some (.cells #[.int .i64 t758, .int .i64 t759] 31 (0, 0))) ∧ (Below w.heap.size w w')) ?_ ?_
          rotate_left
          ·intro hJ1
           refine join_ (σ := Nat) 9 #[true, false, true, false, true, false, false, false, false, false, true, false, false] (fun s_ => [(9, .pointer (some ⟨s_, 0, none⟩))]) (fun s_ w' => (w'.cell? ⟨gb746, 0, none⟩ = some (.int .i64 a0_0) ∧ w'.cell? ⟨gb746, 1, none⟩ = some (.int .i64 a0_1) ∧ w'.cell? ⟨gb746, 2, none⟩ = some (.int .u32 a0_2) ∧ w'.cell? ⟨gb747, 0, none⟩ = some (.int .i64 a1_0) ∧ w'.cell? ⟨gb747, 1, none⟩ = some (.int .i64 a1_1) ∧ w'.cell? ⟨gb747, 2, none⟩ = some (.int .u32 a1_2) ∧ w'.cell? ⟨gb748, 0, none⟩ = some (.int .i64 a2_0) ∧ w'.cell? ⟨gb748, 1, none⟩ = some (.int .i64 a2_1) ∧ w'.cell? ⟨gb748, 2, none⟩ = some (.int .u32 a2_2)) ∧ (w'.heap[gb746]? = some (.cells #[.int .i64 a0_0, .int .i64 a0_1, .int .u32 a0_2] 42 (0, 0))) ∧ (w'.heap[gb747]? = some (.cells #[.int .i64 a1_0, .int .i64 a1_1, .int .u32 a1_2] 42 (0, 0))) ∧ (w'.heap[gb748]? = some (.cells #[.int .i64 a2_0, .int .i64 a2_1, .int .u32 a2_2] 42 (0, 0))) ∧ (w'.heap[gb761]? = some (.cells #[.int .i64 t758, .int .i64 t759] 31 (0, 0))) ∧ (w'.heap[s_]? = some (.cells #[.int .i64 0, .int .i64 0] 31 (0, 0))) ∧ (w.heap.size ≤ s_) ∧ (w.heap.size ≤ s_) ∧ (gb746 ≠ s_) ∧ (s_ ≠ gb746) ∧ (gb747 ≠ s_) ∧ (s_ ≠ gb747) ∧ (gb748 ≠ s_) ∧ (s_ ≠ gb748) ∧ (gb761 ≠ s_) ∧ (s_ ≠ gb761) ∧ (Below w.heap.size w w')) ?_ ?_
           rotate_left
           ·intro hJ10
            refine two_ (i := 1) (j := 10) (Ni := some 23) (Nj := some 9) #[true, true, true, false, true, false, false, false, false, false, false, false, false] #[true, false, true, false, true, false, false, false, false, false, true, false, false] rfl rfl rfl rfl (two_of HT_.out (by kernel_rfl)) (by decide) (by decide) (fun K hK => ?_) (fun K hK => ?_)
            ·skip
             refine goes_ Try.func25 (by kernel_rfl) rfl #[.agg #[.int .i64 a0_0, .int .i64 a0_1, .int .u32 a0_2]] (by rfl) rfl rfl (by first | rfl | (simp only [List.map_toArray, List.map_cons, List.map_nil, List.length_drop, List.length_take]; rfl)) ?_
             with_reducible refine (laws_toFlag.calls a0_0 a0_1 a0_2 t762 t763 t764 _ A8.out).mono ?_
             rintro e w29 ⟨rfl, hb⟩
             refine ⟨_, rfl, ?_⟩
             replace BK746 := bkB BK746 hb
             replace BK747 := bkB BK747 hb
             replace BK748 := bkB BK748 hb
             replace BK761 := bkB BK761 hb
             replace HB := hbB HB hb
             (try clear hb)
             refine hK.out _ _ ⟨bcA BK746 0 rfl, bcA BK746 1 rfl, bcA BK746 2 rfl, bcA BK747 0 rfl, bcA BK747 1 rfl, bcA BK747 2 rfl, bcA BK748 0 rfl, bcA BK748 1 rfl, bcA BK748 2 rfl⟩ (fun hHeld => ?_)
             clear hK K
             refine norm_ (a' := ?_) ?_ ?_
             rotate_left;(show Act.put _ (some 23) _ = _;simp only [Act.put, psA, pzA, pnA, i64_w, i32_w];rfl)
             exact norm_ (by first | (simp only [putAll, Act.put, psA, pzA, pnA]; done) | (simp only [putAll, Act.put, psA, pzA, pnA]; rfl)) (hJ1 () _ ⟨hHeld, BK746.out, BK747.out, BK748.out, BK761.out, (by repeat (first | (with_reducible first | exact HB.out | apply below_alloc | apply pw_below_drewN | apply below_drew1 | refine below_set ?_ (Aside0.out (by assumption))) | exact HB.out))⟩)
            ·skip
             refine box_step ?hg (N := 9) ?hd (cs := #[.int .i64 0, .int .i64 0]) (t := 31) ?hr ?_; (case hd => rfl); (case hg => rfl); (case hr => first | (go_simp; done) | (go_simp; rfl))
             intro gb774 hg w29 hbox hb
             have BK774 := Aside0.mk (hbox)
             have GW774 := geA HB hg
             replace HB := hbB HB hb
             have GE774 := GW774
             have NB746_774 := nbA hg BK746
             replace BK746 := bkB BK746 hb
             have NB774_746 := neA NB746_774
             have NB747_774 := nbA hg BK747
             replace BK747 := bkB BK747 hb
             have NB774_747 := neA NB747_774
             have NB748_774 := nbA hg BK748
             replace BK748 := bkB BK748 hb
             have NB774_748 := neA NB748_774
             have NB761_774 := nbA hg BK761
             replace BK761 := bkB BK761 hb
             have NB774_761 := neA NB761_774
             clear hb hbox hg
             refine hK.out _ _ ⟨bcA BK746 0 rfl, bcA BK746 1 rfl, bcA BK746 2 rfl, bcA BK747 0 rfl, bcA BK747 1 rfl, bcA BK747 2 rfl, bcA BK748 0 rfl, bcA BK748 1 rfl, bcA BK748 2 rfl⟩ (fun hHeld => ?_)
             clear hK K
             refine norm_ (a' := ?_) ?_ ?_
             rotate_left;(show Act.put _ (some 9) _ = _;simp only [Act.put, psA, pzA, pnA, i64_w, i32_w];rfl)
             exact norm_ (by first | (simp only [putAll, Act.put, psA, pzA, pnA]; done) | (simp only [putAll, Act.put, psA, pzA, pnA]; rfl)) (hJ10 (gb774) _ ⟨hHeld, BK746.out, BK747.out, BK748.out, BK761.out, BK774.out, GW774.out, GE774.out, NB746_774.out, NB774_746.out, NB747_774.out, NB774_747.out, NB748_774.out, NB774_748.out, NB761_774.out, NB774_761.out, (by repeat (first | (with_reducible first | exact HB.out | apply below_alloc | apply pw_below_drewN | apply below_drew1 | refine below_set ?_ (Aside0.out (by assumption))) | exact HB.out))⟩)
           ·skip
            rintro gb774 w30 ⟨hS_, h0_, h1_, h2_, h3_, h4_, h5_, h6_, h7_, h8_, h9_, h10_, h11_, h12_, h13_, h14_, h15_⟩
            have n0_ : Aside0 (w30.heap[gb746]? = some (.cells #[.int .i64 a0_0, .int .i64 a0_1, .int .u32 a0_2] 42 (0, 0))) := ⟨h0_⟩
            have n1_ : Aside0 (w30.heap[gb747]? = some (.cells #[.int .i64 a1_0, .int .i64 a1_1, .int .u32 a1_2] 42 (0, 0))) := ⟨h1_⟩
            have n2_ : Aside0 (w30.heap[gb748]? = some (.cells #[.int .i64 a2_0, .int .i64 a2_1, .int .u32 a2_2] 42 (0, 0))) := ⟨h2_⟩
            have n3_ : Aside0 (w30.heap[gb761]? = some (.cells #[.int .i64 t758, .int .i64 t759] 31 (0, 0))) := ⟨h3_⟩
            have n4_ : Aside0 (w30.heap[gb774]? = some (.cells #[.int .i64 0, .int .i64 0] 31 (0, 0))) := ⟨h4_⟩
            have n5_ : Aside0 (w.heap.size ≤ gb774) := ⟨h5_⟩
            have n6_ : Aside0 (w.heap.size ≤ gb774) := ⟨h6_⟩
            have n7_ : Aside0 (gb746 ≠ gb774) := ⟨h7_⟩
            have n8_ : Aside0 (gb774 ≠ gb746) := ⟨h8_⟩
            have n9_ : Aside0 (gb747 ≠ gb774) := ⟨h9_⟩
            have n10_ : Aside0 (gb774 ≠ gb747) := ⟨h10_⟩
            have n11_ : Aside0 (gb748 ≠ gb774) := ⟨h11_⟩
            have n12_ : Aside0 (gb774 ≠ gb748) := ⟨h12_⟩
            have n13_ : Aside0 (gb761 ≠ gb774) := ⟨h13_⟩
            have n14_ : Aside0 (gb774 ≠ gb761) := ⟨h14_⟩
            have n15_ : Aside0 (Below w.heap.size w w30) := ⟨h15_⟩
            clear BK746 BK747 BK748 BK761 HB
            clear h0_ h1_ h2_ h3_ h4_ h5_ h6_ h7_ h8_ h9_ h10_ h11_ h12_ h13_ h14_ h15_
            have BK746 := n0_
            have BK747 := n1_
            have BK748 := n2_
            have BK761 := n3_
            have BK774 := n4_
            have GW774 := n5_
            have GE774 := n6_
            have NB746_774 := n7_
            have NB774_746 := n8_
            have NB747_774 := n9_
            have NB774_747 := n10_
            have NB748_774 := n11_
            have NB774_748 := n12_
            have NB761_774 := n13_
            have NB774_761 := n14_
            have HB := n15_
            clear n0_ n1_ n2_ n3_ n4_ n5_ n6_ n7_ n8_ n9_ n10_ n11_ n12_ n13_ n14_ n15_
            have hHeld : w30.cell? ⟨gb746, 0, none⟩ = some (.int .i64 a0_0) ∧ w30.cell? ⟨gb746, 1, none⟩ = some (.int .i64 a0_1) ∧ w30.cell? ⟨gb746, 2, none⟩ = some (.int .u32 a0_2) ∧ w30.cell? ⟨gb747, 0, none⟩ = some (.int .i64 a1_0) ∧ w30.cell? ⟨gb747, 1, none⟩ = some (.int .i64 a1_1) ∧ w30.cell? ⟨gb747, 2, none⟩ = some (.int .u32 a1_2) ∧ w30.cell? ⟨gb748, 0, none⟩ = some (.int .i64 a2_0) ∧ w30.cell? ⟨gb748, 1, none⟩ = some (.int .i64 a2_1) ∧ w30.cell? ⟨gb748, 2, none⟩ = some (.int .u32 a2_2) := hS_
            refine norm_ (a' := ?_) ?_ ?_
            rotate_left;(simp only [putAll, Act.put, psA, pzA, pnA];rfl)
            refine one_ (i := 1) (N := some 23) #[true, true, true, false, true, false, false, false, false, false, true, false, false] rfl rfl (one_of HT_.out (by kernel_rfl)) (by decide) (fun K hK => ?_)
            refine goes_ Try.func25 (by kernel_rfl) rfl #[.agg #[.int .i64 a0_0, .int .i64 a0_1, .int .u32 a0_2]] (by rfl) rfl rfl (by first | rfl | (simp only [List.map_toArray, List.map_cons, List.map_nil, List.length_drop, List.length_take]; rfl)) ?_
            with_reducible refine (laws_toFlag.calls a0_0 a0_1 a0_2 t762 t763 t764 _ A8.out).mono ?_
            rintro e w31 ⟨rfl, hb⟩
            refine ⟨_, rfl, ?_⟩
            replace BK746 := bkB BK746 hb
            replace BK747 := bkB BK747 hb
            replace BK748 := bkB BK748 hb
            replace BK761 := bkB BK761 hb
            replace BK774 := bkB BK774 hb
            replace HB := hbB HB hb
            (try clear hb)
            refine hK.out _ _ ⟨bcA BK746 0 rfl, bcA BK746 1 rfl, bcA BK746 2 rfl, bcA BK747 0 rfl, bcA BK747 1 rfl, bcA BK747 2 rfl, bcA BK748 0 rfl, bcA BK748 1 rfl, bcA BK748 2 rfl⟩ (fun hHeld => ?_)
            clear hK K
            refine norm_ (a' := ?_) ?_ ?_
            rotate_left;(show Act.put _ (some 23) _ = _;simp only [Act.put, psA, pzA, pnA, i64_w, i32_w];rfl)
            exact norm_ (by first | (simp only [putAll, Act.put, psA, pzA, pnA]; done) | (simp only [putAll, Act.put, psA, pzA, pnA]; rfl)) (hJ1_10 (gb774) _ ⟨hHeld, BK746.out, BK747.out, BK748.out, BK761.out, BK774.out, GW774.out, GE774.out, NB746_774.out, NB774_746.out, NB747_774.out, NB774_747.out, NB748_774.out, NB774_748.out, NB761_774.out, NB774_761.out, (by repeat (first | (with_reducible first | exact HB.out | apply below_alloc | apply pw_below_drewN | apply below_drew1 | refine below_set ?_ (Aside0.out (by assumption))) | exact HB.out))⟩)
          ·skip
           rintro _ w30 ⟨hS_, h0_, h1_, h2_, h3_, h4_⟩
           have n0_ : Aside0 (w30.heap[gb746]? = some (.cells #[.int .i64 a0_0, .int .i64 a0_1, .int .u32 a0_2] 42 (0, 0))) := ⟨h0_⟩
           have n1_ : Aside0 (w30.heap[gb747]? = some (.cells #[.int .i64 a1_0, .int .i64 a1_1, .int .u32 a1_2] 42 (0, 0))) := ⟨h1_⟩
           have n2_ : Aside0 (w30.heap[gb748]? = some (.cells #[.int .i64 a2_0, .int .i64 a2_1, .int .u32 a2_2] 42 (0, 0))) := ⟨h2_⟩
           have n3_ : Aside0 (w30.heap[gb761]? = some (.cells #[.int .i64 t758, .int .i64 t759] 31 (0, 0))) := ⟨h3_⟩
           have n4_ : Aside0 (Below w.heap.size w w30) := ⟨h4_⟩
           clear BK746 BK747 BK748 BK761 HB
           clear h0_ h1_ h2_ h3_ h4_
           have BK746 := n0_
           have BK747 := n1_
           have BK748 := n2_
           have BK761 := n3_
           have HB := n4_
           clear n0_ n1_ n2_ n3_ n4_
           have hHeld : w30.cell? ⟨gb746, 0, none⟩ = some (.int .i64 a0_0) ∧ w30.cell? ⟨gb746, 1, none⟩ = some (.int .i64 a0_1) ∧ w30.cell? ⟨gb746, 2, none⟩ = some (.int .u32 a0_2) ∧ w30.cell? ⟨gb747, 0, none⟩ = some (.int .i64 a1_0) ∧ w30.cell? ⟨gb747, 1, none⟩ = some (.int .i64 a1_1) ∧ w30.cell? ⟨gb747, 2, none⟩ = some (.int .u32 a1_2) ∧ w30.cell? ⟨gb748, 0, none⟩ = some (.int .i64 a2_0) ∧ w30.cell? ⟨gb748, 1, none⟩ = some (.int .i64 a2_1) ∧ w30.cell? ⟨gb748, 2, none⟩ = some (.int .u32 a2_2) := hS_
           refine norm_ (a' := ?_) ?_ ?_
           rotate_left;(simp only [putAll, Act.put, psA, pzA, pnA];rfl)
           refine two_ (i := 3) (j := 10) (Ni := some 25) (Nj := some 9) #[true, true, true, true, true, false, false, false, false, false, false, false, false] #[true, true, true, false, true, false, false, false, false, false, true, false, false] rfl rfl rfl rfl (two_of HT_.out (by kernel_rfl)) (by decide) (by decide) (fun K hK => ?_) (fun K hK => ?_)
           ·skip
            refine goes_ Try.func25 (by kernel_rfl) rfl #[.agg #[.int .i64 a1_0, .int .i64 a1_1, .int .u32 a1_2]] (by rfl) rfl rfl (by first | rfl | (simp only [List.map_toArray, List.map_cons, List.map_nil, List.length_drop, List.length_take]; rfl)) ?_
            with_reducible refine (laws_toFlag.calls a1_0 a1_1 a1_2 t765 t766 t767 _ A9.out).mono ?_
            rintro e w31 ⟨rfl, hb⟩
            refine ⟨_, rfl, ?_⟩
            replace BK746 := bkB BK746 hb
            replace BK747 := bkB BK747 hb
            replace BK748 := bkB BK748 hb
            replace BK761 := bkB BK761 hb
            replace HB := hbB HB hb
            (try clear hb)
            refine hK.out _ _ ⟨bcA BK746 0 rfl, bcA BK746 1 rfl, bcA BK746 2 rfl, bcA BK747 0 rfl, bcA BK747 1 rfl, bcA BK747 2 rfl, bcA BK748 0 rfl, bcA BK748 1 rfl, bcA BK748 2 rfl⟩ (fun hHeld => ?_)
            clear hK K
            refine norm_ (a' := ?_) ?_ ?_
            rotate_left;(show Act.put _ (some 25) _ = _;simp only [Act.put, psA, pzA, pnA, i64_w, i32_w];rfl)
            exact norm_ (by first | (simp only [putAll, Act.put, psA, pzA, pnA]; done) | (simp only [putAll, Act.put, psA, pzA, pnA]; rfl)) (hJ1_3 () _ ⟨hHeld, BK746.out, BK747.out, BK748.out, BK761.out, (by repeat (first | (with_reducible first | exact HB.out | apply below_alloc | apply pw_below_drewN | apply below_drew1 | refine below_set ?_ (Aside0.out (by assumption))) | exact HB.out))⟩)
           ·skip
            refine box_step ?hg (N := 9) ?hd (cs := #[.int .i64 0, .int .i64 0]) (t := 31) ?hr ?_; (case hd => rfl); (case hg => rfl); (case hr => first | (go_simp; done) | (go_simp; rfl))
            intro gb774 hg w31 hbox hb
            have BK774 := Aside0.mk (hbox)
            have GW774 := geA HB hg
            replace HB := hbB HB hb
            have GE774 := GW774
            have NB746_774 := nbA hg BK746
            replace BK746 := bkB BK746 hb
            have NB774_746 := neA NB746_774
            have NB747_774 := nbA hg BK747
            replace BK747 := bkB BK747 hb
            have NB774_747 := neA NB747_774
            have NB748_774 := nbA hg BK748
            replace BK748 := bkB BK748 hb
            have NB774_748 := neA NB748_774
            have NB761_774 := nbA hg BK761
            replace BK761 := bkB BK761 hb
            have NB774_761 := neA NB761_774
            clear hb hbox hg
            refine hK.out _ _ ⟨bcA BK746 0 rfl, bcA BK746 1 rfl, bcA BK746 2 rfl, bcA BK747 0 rfl, bcA BK747 1 rfl, bcA BK747 2 rfl, bcA BK748 0 rfl, bcA BK748 1 rfl, bcA BK748 2 rfl⟩ (fun hHeld => ?_)
            clear hK K
            refine norm_ (a' := ?_) ?_ ?_
            rotate_left;(show Act.put _ (some 9) _ = _;simp only [Act.put, psA, pzA, pnA, i64_w, i32_w];rfl)
            exact norm_ (by first | (simp only [putAll, Act.put, psA, pzA, pnA]; done) | (simp only [putAll, Act.put, psA, pzA, pnA]; rfl)) (hJ1_10 (gb774) _ ⟨hHeld, BK746.out, BK747.out, BK748.out, BK761.out, BK774.out, GW774.out, GE774.out, NB746_774.out, NB774_746.out, NB747_774.out, NB774_747.out, NB748_774.out, NB774_748.out, NB761_774.out, NB774_761.out, (by repeat (first | (with_reducible first | exact HB.out | apply below_alloc | apply pw_below_drewN | apply below_drew1 | refine below_set ?_ (Aside0.out (by assumption))) | exact HB.out))⟩)
         ·skip
          rintro gb774 w31 ⟨hS_, h0_, h1_, h2_, h3_, h4_, h5_, h6_, h7_, h8_, h9_, h10_, h11_, h12_, h13_, h14_, h15_⟩
          have n0_ : Aside0 (w31.heap[gb746]? = some (.cells #[.int .i64 a0_0, .int .i64 a0_1, .int .u32 a0_2] 42 (0, 0))) := ⟨h0_⟩
          have n1_ : Aside0 (w31.heap[gb747]? = some (.cells #[.int .i64 a1_0, .int .i64 a1_1, .int .u32 a1_2] 42 (0, 0))) := ⟨h1_⟩
          have n2_ : Aside0 (w31.heap[gb748]? = some (.cells #[.int .i64 a2_0, .int .i64 a2_1, .int .u32 a2_2] 42 (0, 0))) := ⟨h2_⟩
          have n3_ : Aside0 (w31.heap[gb761]? = some (.cells #[.int .i64 t758, .int .i64 t759] 31 (0, 0))) := ⟨h3_⟩
          have n4_ : Aside0 (w31.heap[gb774]? = some (.cells #[.int .i64 0, .int .i64 0] 31 (0, 0))) := ⟨h4_⟩
          have n5_ : Aside0 (w.heap.size ≤ gb774) := ⟨h5_⟩
          have n6_ : Aside0 (w.heap.size ≤ gb774) := ⟨h6_⟩
          have n7_ : Aside0 (gb746 ≠ gb774) := ⟨h7_⟩
          have n8_ : Aside0 (gb774 ≠ gb746) := ⟨h8_⟩
          have n9_ : Aside0 (gb747 ≠ gb774) := ⟨h9_⟩
          have n10_ : Aside0 (gb774 ≠ gb747) := ⟨h10_⟩
          have n11_ : Aside0 (gb748 ≠ gb774) := ⟨h11_⟩
          have n12_ : Aside0 (gb774 ≠ gb748) := ⟨h12_⟩
          have n13_ : Aside0 (gb761 ≠ gb774) := ⟨h13_⟩
          have n14_ : Aside0 (gb774 ≠ gb761) := ⟨h14_⟩
          have n15_ : Aside0 (Below w.heap.size w w31) := ⟨h15_⟩
          clear BK746 BK747 BK748 BK761 HB
          clear h0_ h1_ h2_ h3_ h4_ h5_ h6_ h7_ h8_ h9_ h10_ h11_ h12_ h13_ h14_ h15_
          have BK746 := n0_
          have BK747 := n1_
          have BK748 := n2_
          have BK761 := n3_
          have BK774 := n4_
          have GW774 := n5_
          have GE774 := n6_
          have NB746_774 := n7_
          have NB774_746 := n8_
          have NB747_774 := n9_
          have NB774_747 := n10_
          have NB748_774 := n11_
          have NB774_748 := n12_
          have NB761_774 := n13_
          have NB774_761 := n14_
          have HB := n15_
          clear n0_ n1_ n2_ n3_ n4_ n5_ n6_ n7_ n8_ n9_ n10_ n11_ n12_ n13_ n14_ n15_
          have hHeld : w31.cell? ⟨gb746, 0, none⟩ = some (.int .i64 a0_0) ∧ w31.cell? ⟨gb746, 1, none⟩ = some (.int .i64 a0_1) ∧ w31.cell? ⟨gb746, 2, none⟩ = some (.int .u32 a0_2) ∧ w31.cell? ⟨gb747, 0, none⟩ = some (.int .i64 a1_0) ∧ w31.cell? ⟨gb747, 1, none⟩ = some (.int .i64 a1_1) ∧ w31.cell? ⟨gb747, 2, none⟩ = some (.int .u32 a1_2) ∧ w31.cell? ⟨gb748, 0, none⟩ = some (.int .i64 a2_0) ∧ w31.cell? ⟨gb748, 1, none⟩ = some (.int .i64 a2_1) ∧ w31.cell? ⟨gb748, 2, none⟩ = some (.int .u32 a2_2) := hS_
          refine norm_ (a' := ?_) ?_ ?_
          rotate_left;(simp only [putAll, Act.put, psA, pzA, pnA];rfl)
          refine one_ (i := 3) (N := some 25) #[true, true, true, true, true, false, false, false, false, false, true, false, false] rfl rfl (one_of HT_.out (by kernel_rfl)) (by decide) (fun K hK => ?_)
          refine goes_ Try.func25 (by kernel_rfl) rfl #[.agg #[.int .i64 a1_0, .int .i64 a1_1, .int .u32 a1_2]] (by rfl) rfl rfl (by first | rfl | (simp only [List.map_toArray, List.map_cons, List.map_nil, List.length_drop, List.length_take]; rfl)) ?_
          with_reducible refine (laws_toFlag.calls a1_0 a1_1 a1_2 t765 t766 t767 _ A9.out).mono ?_
          rintro e w32 ⟨rfl, hb⟩
          refine ⟨_, rfl, ?_⟩
          replace BK746 := bkB BK746 hb
          replace BK747 := bkB BK747 hb
          replace BK748 := bkB BK748 hb
          replace BK761 := bkB BK761 hb
          replace BK774 := bkB BK774 hb
          replace HB := hbB HB hb
          (try clear hb)
          refine hK.out _ _ ⟨bcA BK746 0 rfl, bcA BK746 1 rfl, bcA BK746 2 rfl, bcA BK747 0 rfl, bcA BK747 1 rfl, bcA BK747 2 rfl, bcA BK748 0 rfl, bcA BK748 1 rfl, bcA BK748 2 rfl⟩ (fun hHeld => ?_)
          clear hK K
          refine norm_ (a' := ?_) ?_ ?_
          rotate_left;(show Act.put _ (some 25) _ = _;simp only [Act.put, psA, pzA, pnA, i64_w, i32_w];rfl)
          exact norm_ (by first | (simp only [putAll, Act.put, psA, pzA, pnA]; done) | (simp only [putAll, Act.put, psA, pzA, pnA]; rfl)) (hJ1_3_10 (gb774) _ ⟨hHeld, BK746.out, BK747.out, BK748.out, BK761.out, BK774.out, GW774.out, GE774.out, NB746_774.out, NB774_746.out, NB747_774.out, NB774_747.out, NB748_774.out, NB774_748.out, NB761_774.out, NB774_761.out, (by repeat (first | (with_reducible first | exact HB.out | apply below_alloc | apply pw_below_drewN | apply below_drew1 | refine below_set ?_ (Aside0.out (by assumption))) | exact HB.out))⟩)
        ·skip
         rintro _ w31 ⟨hS_, h0_, h1_, h2_, h3_, h4_⟩
         have n0_ : Aside0 (w31.heap[gb746]? = some (.cells #[.int .i64 a0_0, .int .i64 a0_1, .int .u32 a0_2] 42 (0, 0))) := ⟨h0_⟩
         have n1_ : Aside0 (w31.heap[gb747]? = some (.cells #[.int .i64 a1_0, .int .i64 a1_1, .int .u32 a1_2] 42 (0, 0))) := ⟨h1_⟩
         have n2_ : Aside0 (w31.heap[gb748]? = some (.cells #[.int .i64 a2_0, .int .i64 a2_1, .int .u32 a2_2] 42 (0, 0))) := ⟨h2_⟩
         have n3_ : Aside0 (w31.heap[gb761]? = some (.cells #[.int .i64 t758, .int .i64 t759] 31 (0, 0))) := ⟨h3_⟩
         have n4_ : Aside0 (Below w.heap.size w w31) := ⟨h4_⟩
         clear BK746 BK747 BK748 BK761 HB
         clear h0_ h1_ h2_ h3_ h4_
         have BK746 := n0_
         have BK747 := n1_
         have BK748 := n2_
         have BK761 := n3_
         have HB := n4_
         clear n0_ n1_ n2_ n3_ n4_
         have hHeld : w31.cell? ⟨gb746, 0, none⟩ = some (.int .i64 a0_0) ∧ w31.cell? ⟨gb746, 1, none⟩ = some (.int .i64 a0_1) ∧ w31.cell? ⟨gb746, 2, none⟩ = some (.int .u32 a0_2) ∧ w31.cell? ⟨gb747, 0, none⟩ = some (.int .i64 a1_0) ∧ w31.cell? ⟨gb747, 1, none⟩ = some (.int .i64 a1_1) ∧ w31.cell? ⟨gb747, 2, none⟩ = some (.int .u32 a1_2) ∧ w31.cell? ⟨gb748, 0, none⟩ = some (.int .i64 a2_0) ∧ w31.cell? ⟨gb748, 1, none⟩ = some (.int .i64 a2_1) ∧ w31.cell? ⟨gb748, 2, none⟩ = some (.int .u32 a2_2) := hS_
         refine norm_ (a' := ?_) ?_ ?_
         rotate_left;(simp only [putAll, Act.put, psA, pzA, pnA];rfl)
         refine two_ (i := 5) (j := 10) (Ni := some 27) (Nj := some 9) #[true, true, true, true, true, true, false, false, false, false, false, false, false] #[true, true, true, true, true, false, false, false, false, false, true, false, false] rfl rfl rfl rfl (two_of HT_.out (by kernel_rfl)) (by decide) (by decide) (fun K hK => ?_) (fun K hK => ?_)
         ·skip
          refine goes_ Try.func25 (by kernel_rfl) rfl #[.agg #[.int .i64 a2_0, .int .i64 a2_1, .int .u32 a2_2]] (by rfl) rfl rfl (by first | rfl | (simp only [List.map_toArray, List.map_cons, List.map_nil, List.length_drop, List.length_take]; rfl)) ?_
          with_reducible refine (laws_toFlag.calls a2_0 a2_1 a2_2 t768 t769 t770 _ A10.out).mono ?_
          rintro e w32 ⟨rfl, hb⟩
          refine ⟨_, rfl, ?_⟩
          replace BK746 := bkB BK746 hb
          replace BK747 := bkB BK747 hb
          replace BK748 := bkB BK748 hb
          replace BK761 := bkB BK761 hb
          replace HB := hbB HB hb
          (try clear hb)
          refine hK.out _ _ ⟨bcA BK746 0 rfl, bcA BK746 1 rfl, bcA BK746 2 rfl, bcA BK747 0 rfl, bcA BK747 1 rfl, bcA BK747 2 rfl, bcA BK748 0 rfl, bcA BK748 1 rfl, bcA BK748 2 rfl⟩ (fun hHeld => ?_)
          clear hK K
          refine norm_ (a' := ?_) ?_ ?_
          rotate_left;(show Act.put _ (some 27) _ = _;simp only [Act.put, psA, pzA, pnA, i64_w, i32_w];rfl)
          exact norm_ (by first | (simp only [putAll, Act.put, psA, pzA, pnA]; done) | (simp only [putAll, Act.put, psA, pzA, pnA]; rfl)) (hJ1_3_5 () _ ⟨hHeld, BK746.out, BK747.out, BK748.out, BK761.out, (by repeat (first | (with_reducible first | exact HB.out | apply below_alloc | apply pw_below_drewN | apply below_drew1 | refine below_set ?_ (Aside0.out (by assumption))) | exact HB.out))⟩)
         ·skip
          refine box_step ?hg (N := 9) ?hd (cs := #[.int .i64 0, .int .i64 0]) (t := 31) ?hr ?_; (case hd => rfl); (case hg => rfl); (case hr => first | (go_simp; done) | (go_simp; rfl))
          intro gb774 hg w32 hbox hb
          have BK774 := Aside0.mk (hbox)
          have GW774 := geA HB hg
          replace HB := hbB HB hb
          have GE774 := GW774
          have NB746_774 := nbA hg BK746
          replace BK746 := bkB BK746 hb
          have NB774_746 := neA NB746_774
          have NB747_774 := nbA hg BK747
          replace BK747 := bkB BK747 hb
          have NB774_747 := neA NB747_774
          have NB748_774 := nbA hg BK748
          replace BK748 := bkB BK748 hb
          have NB774_748 := neA NB748_774
          have NB761_774 := nbA hg BK761
          replace BK761 := bkB BK761 hb
          have NB774_761 := neA NB761_774
          clear hb hbox hg
          refine hK.out _ _ ⟨bcA BK746 0 rfl, bcA BK746 1 rfl, bcA BK746 2 rfl, bcA BK747 0 rfl, bcA BK747 1 rfl, bcA BK747 2 rfl, bcA BK748 0 rfl, bcA BK748 1 rfl, bcA BK748 2 rfl⟩ (fun hHeld => ?_)
          clear hK K
          refine norm_ (a' := ?_) ?_ ?_
          rotate_left;(show Act.put _ (some 9) _ = _;simp only [Act.put, psA, pzA, pnA, i64_w, i32_w];rfl)
          exact norm_ (by first | (simp only [putAll, Act.put, psA, pzA, pnA]; done) | (simp only [putAll, Act.put, psA, pzA, pnA]; rfl)) (hJ1_3_10 (gb774) _ ⟨hHeld, BK746.out, BK747.out, BK748.out, BK761.out, BK774.out, GW774.out, GE774.out, NB746_774.out, NB774_746.out, NB747_774.out, NB774_747.out, NB748_774.out, NB774_748.out, NB761_774.out, NB774_761.out, (by repeat (first | (with_reducible first | exact HB.out | apply below_alloc | apply pw_below_drewN | apply below_drew1 | refine below_set ?_ (Aside0.out (by assumption))) | exact HB.out))⟩)
       ·skip
        rintro gb774 w32 ⟨hS_, h0_, h1_, h2_, h3_, h4_, h5_, h6_, h7_, h8_, h9_, h10_, h11_, h12_, h13_, h14_, h15_⟩
        have n0_ : Aside0 (w32.heap[gb746]? = some (.cells #[.int .i64 a0_0, .int .i64 a0_1, .int .u32 a0_2] 42 (0, 0))) := ⟨h0_⟩
        have n1_ : Aside0 (w32.heap[gb747]? = some (.cells #[.int .i64 a1_0, .int .i64 a1_1, .int .u32 a1_2] 42 (0, 0))) := ⟨h1_⟩
        have n2_ : Aside0 (w32.heap[gb748]? = some (.cells #[.int .i64 a2_0, .int .i64 a2_1, .int .u32 a2_2] 42 (0, 0))) := ⟨h2_⟩
        have n3_ : Aside0 (w32.heap[gb761]? = some (.cells #[.int .i64 t758, .int .i64 t759] 31 (0, 0))) := ⟨h3_⟩
        have n4_ : Aside0 (w32.heap[gb774]? = some (.cells #[.int .i64 0, .int .i64 0] 31 (0, 0))) := ⟨h4_⟩
        have n5_ : Aside0 (w.heap.size ≤ gb774) := ⟨h5_⟩
        have n6_ : Aside0 (w.heap.size ≤ gb774) := ⟨h6_⟩
        have n7_ : Aside0 (gb746 ≠ gb774) := ⟨h7_⟩
        have n8_ : Aside0 (gb774 ≠ gb746) := ⟨h8_⟩
        have n9_ : Aside0 (gb747 ≠ gb774) := ⟨h9_⟩
        have n10_ : Aside0 (gb774 ≠ gb747) := ⟨h10_⟩
        have n11_ : Aside0 (gb748 ≠ gb774) := ⟨h11_⟩
        have n12_ : Aside0 (gb774 ≠ gb748) := ⟨h12_⟩
        have n13_ : Aside0 (gb761 ≠ gb774) := ⟨h13_⟩
        have n14_ : Aside0 (gb774 ≠ gb761) := ⟨h14_⟩
        have n15_ : Aside0 (Below w.heap.size w w32) := ⟨h15_⟩
        clear BK746 BK747 BK748 BK761 HB
        clear h0_ h1_ h2_ h3_ h4_ h5_ h6_ h7_ h8_ h9_ h10_ h11_ h12_ h13_ h14_ h15_
        have BK746 := n0_
        have BK747 := n1_
        have BK748 := n2_
        have BK761 := n3_
        have BK774 := n4_
        have GW774 := n5_
        have GE774 := n6_
        have NB746_774 := n7_
        have NB774_746 := n8_
        have NB747_774 := n9_
        have NB774_747 := n10_
        have NB748_774 := n11_
        have NB774_748 := n12_
        have NB761_774 := n13_
        have NB774_761 := n14_
        have HB := n15_
        clear n0_ n1_ n2_ n3_ n4_ n5_ n6_ n7_ n8_ n9_ n10_ n11_ n12_ n13_ n14_ n15_
        have hHeld : w32.cell? ⟨gb746, 0, none⟩ = some (.int .i64 a0_0) ∧ w32.cell? ⟨gb746, 1, none⟩ = some (.int .i64 a0_1) ∧ w32.cell? ⟨gb746, 2, none⟩ = some (.int .u32 a0_2) ∧ w32.cell? ⟨gb747, 0, none⟩ = some (.int .i64 a1_0) ∧ w32.cell? ⟨gb747, 1, none⟩ = some (.int .i64 a1_1) ∧ w32.cell? ⟨gb747, 2, none⟩ = some (.int .u32 a1_2) ∧ w32.cell? ⟨gb748, 0, none⟩ = some (.int .i64 a2_0) ∧ w32.cell? ⟨gb748, 1, none⟩ = some (.int .i64 a2_1) ∧ w32.cell? ⟨gb748, 2, none⟩ = some (.int .u32 a2_2) := hS_
        refine norm_ (a' := ?_) ?_ ?_
        rotate_left;(simp only [putAll, Act.put, psA, pzA, pnA];rfl)
        refine one_ (i := 5) (N := some 27) #[true, true, true, true, true, true, false, false, false, false, true, false, false] rfl rfl (one_of HT_.out (by kernel_rfl)) (by decide) (fun K hK => ?_)
        refine goes_ Try.func25 (by kernel_rfl) rfl #[.agg #[.int .i64 a2_0, .int .i64 a2_1, .int .u32 a2_2]] (by rfl) rfl rfl (by first | rfl | (simp only [List.map_toArray, List.map_cons, List.map_nil, List.length_drop, List.length_take]; rfl)) ?_
        with_reducible refine (laws_toFlag.calls a2_0 a2_1 a2_2 t768 t769 t770 _ A10.out).mono ?_
        rintro e w33 ⟨rfl, hb⟩
        refine ⟨_, rfl, ?_⟩
        replace BK746 := bkB BK746 hb
        replace BK747 := bkB BK747 hb
        replace BK748 := bkB BK748 hb
        replace BK761 := bkB BK761 hb
        replace BK774 := bkB BK774 hb
        replace HB := hbB HB hb
        (try clear hb)
        refine hK.out _ _ ⟨bcA BK746 0 rfl, bcA BK746 1 rfl, bcA BK746 2 rfl, bcA BK747 0 rfl, bcA BK747 1 rfl, bcA BK747 2 rfl, bcA BK748 0 rfl, bcA BK748 1 rfl, bcA BK748 2 rfl⟩ (fun hHeld => ?_)
        clear hK K
        refine norm_ (a' := ?_) ?_ ?_
        rotate_left;(show Act.put _ (some 27) _ = _;simp only [Act.put, psA, pzA, pnA, i64_w, i32_w];rfl)
        exact norm_ (by first | (simp only [putAll, Act.put, psA, pzA, pnA]; done) | (simp only [putAll, Act.put, psA, pzA, pnA]; rfl)) (hJ1_3_5_10 (gb774) _ ⟨hHeld, BK746.out, BK747.out, BK748.out, BK761.out, BK774.out, GW774.out, GE774.out, NB746_774.out, NB774_746.out, NB747_774.out, NB774_747.out, NB748_774.out, NB774_748.out, NB761_774.out, NB774_761.out, (by repeat (first | (with_reducible first | exact HB.out | apply below_alloc | apply pw_below_drewN | apply below_drew1 | refine below_set ?_ (Aside0.out (by assumption))) | exact HB.out))⟩)
      ·skip
       rintro _ w32 ⟨hS_, h0_, h1_, h2_, h3_, h4_⟩
       have n0_ : Aside0 (w32.heap[gb746]? = some (.cells #[.int .i64 a0_0, .int .i64 a0_1, .int .u32 a0_2] 42 (0, 0))) := ⟨h0_⟩
       have n1_ : Aside0 (w32.heap[gb747]? = some (.cells #[.int .i64 a1_0, .int .i64 a1_1, .int .u32 a1_2] 42 (0, 0))) := ⟨h1_⟩
       have n2_ : Aside0 (w32.heap[gb748]? = some (.cells #[.int .i64 a2_0, .int .i64 a2_1, .int .u32 a2_2] 42 (0, 0))) := ⟨h2_⟩
       have n3_ : Aside0 (w32.heap[gb761]? = some (.cells #[.int .i64 t758, .int .i64 t759] 31 (0, 0))) := ⟨h3_⟩
       have n4_ : Aside0 (Below w.heap.size w w32) := ⟨h4_⟩
       clear BK746 BK747 BK748 BK761 HB
       clear h0_ h1_ h2_ h3_ h4_
       have BK746 := n0_
       have BK747 := n1_
       have BK748 := n2_
       have BK761 := n3_
       have HB := n4_
       clear n0_ n1_ n2_ n3_ n4_
       have hHeld : w32.cell? ⟨gb746, 0, none⟩ = some (.int .i64 a0_0) ∧ w32.cell? ⟨gb746, 1, none⟩ = some (.int .i64 a0_1) ∧ w32.cell? ⟨gb746, 2, none⟩ = some (.int .u32 a0_2) ∧ w32.cell? ⟨gb747, 0, none⟩ = some (.int .i64 a1_0) ∧ w32.cell? ⟨gb747, 1, none⟩ = some (.int .i64 a1_1) ∧ w32.cell? ⟨gb747, 2, none⟩ = some (.int .u32 a1_2) ∧ w32.cell? ⟨gb748, 0, none⟩ = some (.int .i64 a2_0) ∧ w32.cell? ⟨gb748, 1, none⟩ = some (.int .i64 a2_1) ∧ w32.cell? ⟨gb748, 2, none⟩ = some (.int .u32 a2_2) := hS_
       refine norm_ (a' := ?_) ?_ ?_
       rotate_left;(simp only [putAll, Act.put, psA, pzA, pnA];rfl)
       refine two_ (i := 6) (j := 10) (Ni := some 28) (Nj := some 9) #[true, true, true, true, true, true, true, false, false, false, false, false, false] #[true, true, true, true, true, true, false, false, false, false, true, false, false] rfl rfl rfl rfl (two_of HT_.out (by kernel_rfl)) (by decide) (by decide) (fun K hK => ?_) (fun K hK => ?_)
       ·skip
        refine goes_ Try.func30 (by kernel_rfl) rfl #[.agg #[.int .i64 t762, .int .i64 t763, .int .u32 t764], .agg #[.int .i64 t765, .int .i64 t766, .int .u32 t767], .agg #[.int .i64 t768, .int .i64 t769, .int .u32 t770]] (by rfl) rfl rfl (by first | rfl | (simp only [List.map_toArray, List.map_cons, List.map_nil, List.length_drop, List.length_take]; rfl)) ?_
        with_reducible refine (impl_JointDensity.calls k t762 t763 t764 t765 t766 t767 t768 t769 t770 t771 t772 t773 _ A11.out).mono ?_
        rintro e w33 ⟨rfl, hb⟩
        refine ⟨_, rfl, ?_⟩
        replace BK746 := bkB BK746 hb
        replace BK747 := bkB BK747 hb
        replace BK748 := bkB BK748 hb
        replace BK761 := bkB BK761 hb
        replace HB := hbB HB hb
        (try clear hb)
        refine hK.out _ _ ⟨bcA BK746 0 rfl, bcA BK746 1 rfl, bcA BK746 2 rfl, bcA BK747 0 rfl, bcA BK747 1 rfl, bcA BK747 2 rfl, bcA BK748 0 rfl, bcA BK748 1 rfl, bcA BK748 2 rfl⟩ (fun hHeld => ?_)
        clear hK K
        refine norm_ (a' := ?_) ?_ ?_
        rotate_left;(show Act.put _ (some 28) _ = _;simp only [Act.put, psA, pzA, pnA, i64_w, i32_w];rfl)
        refine pure_ (i := 7) (N := some 21) (v := ?_) (a' := ?_) #[true, true, true, true, true, true, true, true, false, false, false, false, false] rfl rfl (any_of HT_.out (by kernel_rfl)) (fun _ _ _ h => h) (Or.inl ⟨by rfl, ?_⟩) ?_ ?_
        rotate_left;(intro w';go_simp;with_reducible rfl);rotate_left;(simp only [Act.put, psA, pzA, pnA, i64_w, i32_w];rfl)
        refine pure_ (i := 8) (N := some 29) (v := ?_) (a' := ?_) #[true, true, true, true, true, true, true, true, true, false, false, false, false] rfl rfl (any_of HT_.out (by kernel_rfl)) (fun _ _ _ h => h) (Or.inl ⟨by rfl, ?_⟩) ?_ ?_
        rotate_left;(intro w';go_simp;with_reducible rfl);rotate_left;(simp only [Act.put, psA, pzA, pnA, i64_w, i32_w];rfl)
        refine pure_ (i := 9) (N := some 30) (v := ?_) (a' := ?_) #[true, true, true, true, true, true, true, true, true, true, false, false, false] rfl rfl (any_of HT_.out (by kernel_rfl)) (fun _ _ _ h => h) (Or.inl ⟨by rfl, ?_⟩) ?_ ?_
        rotate_left;(intro w';go_simp;with_reducible rfl);rotate_left;(simp only [Act.put, psA, pzA, pnA, i64_w, i32_w];rfl)
        exact norm_ (by first | (simp only [putAll, Act.put, psA, pzA, pnA]; done) | (simp only [putAll, Act.put, psA, pzA, pnA]; rfl)) (hJ1_3_5_6 () _ ⟨hHeld, BK746.out, BK747.out, BK748.out, BK761.out, (by repeat (first | (with_reducible first | exact HB.out | apply below_alloc | apply pw_below_drewN | apply below_drew1 | refine below_set ?_ (Aside0.out (by assumption))) | exact HB.out))⟩)
       ·skip
        refine box_step ?hg (N := 9) ?hd (cs := #[.int .i64 0, .int .i64 0]) (t := 31) ?hr ?_; (case hd => rfl); (case hg => rfl); (case hr => first | (go_simp; done) | (go_simp; rfl))
        intro gb774 hg w33 hbox hb
        have BK774 := Aside0.mk (hbox)
        have GW774 := geA HB hg
        replace HB := hbB HB hb
        have GE774 := GW774
        have NB746_774 := nbA hg BK746
        replace BK746 := bkB BK746 hb
        have NB774_746 := neA NB746_774
        have NB747_774 := nbA hg BK747
        replace BK747 := bkB BK747 hb
        have NB774_747 := neA NB747_774
        have NB748_774 := nbA hg BK748
        replace BK748 := bkB BK748 hb
        have NB774_748 := neA NB748_774
        have NB761_774 := nbA hg BK761
        replace BK761 := bkB BK761 hb
        have NB774_761 := neA NB761_774
        clear hb hbox hg
        refine hK.out _ _ ⟨bcA BK746 0 rfl, bcA BK746 1 rfl, bcA BK746 2 rfl, bcA BK747 0 rfl, bcA BK747 1 rfl, bcA BK747 2 rfl, bcA BK748 0 rfl, bcA BK748 1 rfl, bcA BK748 2 rfl⟩ (fun hHeld => ?_)
        clear hK K
        refine norm_ (a' := ?_) ?_ ?_
        rotate_left;(show Act.put _ (some 9) _ = _;simp only [Act.put, psA, pzA, pnA, i64_w, i32_w];rfl)
        exact norm_ (by first | (simp only [putAll, Act.put, psA, pzA, pnA]; done) | (simp only [putAll, Act.put, psA, pzA, pnA]; rfl)) (hJ1_3_5_10 (gb774) _ ⟨hHeld, BK746.out, BK747.out, BK748.out, BK761.out, BK774.out, GW774.out, GE774.out, NB746_774.out, NB774_746.out, NB747_774.out, NB774_747.out, NB748_774.out, NB774_748.out, NB761_774.out, NB774_761.out, (by repeat (first | (with_reducible first | exact HB.out | apply below_alloc | apply pw_below_drewN | apply below_drew1 | refine below_set ?_ (Aside0.out (by assumption))) | exact HB.out))⟩)
     ·skip
      rintro gb774 w33 ⟨hS_, h0_, h1_, h2_, h3_, h4_, h5_, h6_, h7_, h8_, h9_, h10_, h11_, h12_, h13_, h14_, h15_⟩
      have n0_ : Aside0 (w33.heap[gb746]? = some (.cells #[.int .i64 a0_0, .int .i64 a0_1, .int .u32 a0_2] 42 (0, 0))) := ⟨h0_⟩
      have n1_ : Aside0 (w33.heap[gb747]? = some (.cells #[.int .i64 a1_0, .int .i64 a1_1, .int .u32 a1_2] 42 (0, 0))) := ⟨h1_⟩
      have n2_ : Aside0 (w33.heap[gb748]? = some (.cells #[.int .i64 a2_0, .int .i64 a2_1, .int .u32 a2_2] 42 (0, 0))) := ⟨h2_⟩
      have n3_ : Aside0 (w33.heap[gb761]? = some (.cells #[.int .i64 t758, .int .i64 t759] 31 (0, 0))) := ⟨h3_⟩
      have n4_ : Aside0 (w33.heap[gb774]? = some (.cells #[.int .i64 0, .int .i64 0] 31 (0, 0))) := ⟨h4_⟩
      have n5_ : Aside0 (w.heap.size ≤ gb774) := ⟨h5_⟩
      have n6_ : Aside0 (w.heap.size ≤ gb774) := ⟨h6_⟩
      have n7_ : Aside0 (gb746 ≠ gb774) := ⟨h7_⟩
      have n8_ : Aside0 (gb774 ≠ gb746) := ⟨h8_⟩
      have n9_ : Aside0 (gb747 ≠ gb774) := ⟨h9_⟩
      have n10_ : Aside0 (gb774 ≠ gb747) := ⟨h10_⟩
      have n11_ : Aside0 (gb748 ≠ gb774) := ⟨h11_⟩
      have n12_ : Aside0 (gb774 ≠ gb748) := ⟨h12_⟩
      have n13_ : Aside0 (gb761 ≠ gb774) := ⟨h13_⟩
      have n14_ : Aside0 (gb774 ≠ gb761) := ⟨h14_⟩
      have n15_ : Aside0 (Below w.heap.size w w33) := ⟨h15_⟩
      clear BK746 BK747 BK748 BK761 HB
      clear h0_ h1_ h2_ h3_ h4_ h5_ h6_ h7_ h8_ h9_ h10_ h11_ h12_ h13_ h14_ h15_
      have BK746 := n0_
      have BK747 := n1_
      have BK748 := n2_
      have BK761 := n3_
      have BK774 := n4_
      have GW774 := n5_
      have GE774 := n6_
      have NB746_774 := n7_
      have NB774_746 := n8_
      have NB747_774 := n9_
      have NB774_747 := n10_
      have NB748_774 := n11_
      have NB774_748 := n12_
      have NB761_774 := n13_
      have NB774_761 := n14_
      have HB := n15_
      clear n0_ n1_ n2_ n3_ n4_ n5_ n6_ n7_ n8_ n9_ n10_ n11_ n12_ n13_ n14_ n15_
      have hHeld : w33.cell? ⟨gb746, 0, none⟩ = some (.int .i64 a0_0) ∧ w33.cell? ⟨gb746, 1, none⟩ = some (.int .i64 a0_1) ∧ w33.cell? ⟨gb746, 2, none⟩ = some (.int .u32 a0_2) ∧ w33.cell? ⟨gb747, 0, none⟩ = some (.int .i64 a1_0) ∧ w33.cell? ⟨gb747, 1, none⟩ = some (.int .i64 a1_1) ∧ w33.cell? ⟨gb747, 2, none⟩ = some (.int .u32 a1_2) ∧ w33.cell? ⟨gb748, 0, none⟩ = some (.int .i64 a2_0) ∧ w33.cell? ⟨gb748, 1, none⟩ = some (.int .i64 a2_1) ∧ w33.cell? ⟨gb748, 2, none⟩ = some (.int .u32 a2_2) := hS_
      refine norm_ (a' := ?_) ?_ ?_
      rotate_left;(simp only [putAll, Act.put, psA, pzA, pnA];rfl)
      refine one_ (i := 6) (N := some 28) #[true, true, true, true, true, true, true, false, false, false, true, false, false] rfl rfl (one_of HT_.out (by kernel_rfl)) (by decide) (fun K hK => ?_)
      refine goes_ Try.func30 (by kernel_rfl) rfl #[.agg #[.int .i64 t762, .int .i64 t763, .int .u32 t764], .agg #[.int .i64 t765, .int .i64 t766, .int .u32 t767], .agg #[.int .i64 t768, .int .i64 t769, .int .u32 t770]] (by rfl) rfl rfl (by first | rfl | (simp only [List.map_toArray, List.map_cons, List.map_nil, List.length_drop, List.length_take]; rfl)) ?_
      with_reducible refine (impl_JointDensity.calls k t762 t763 t764 t765 t766 t767 t768 t769 t770 t771 t772 t773 _ A11.out).mono ?_
      rintro e w34 ⟨rfl, hb⟩
      refine ⟨_, rfl, ?_⟩
      replace BK746 := bkB BK746 hb
      replace BK747 := bkB BK747 hb
      replace BK748 := bkB BK748 hb
      replace BK761 := bkB BK761 hb
      replace BK774 := bkB BK774 hb
      replace HB := hbB HB hb
      (try clear hb)
      refine hK.out _ _ ⟨bcA BK746 0 rfl, bcA BK746 1 rfl, bcA BK746 2 rfl, bcA BK747 0 rfl, bcA BK747 1 rfl, bcA BK747 2 rfl, bcA BK748 0 rfl, bcA BK748 1 rfl, bcA BK748 2 rfl⟩ (fun hHeld => ?_)
      clear hK K
      refine norm_ (a' := ?_) ?_ ?_
      rotate_left;(show Act.put _ (some 28) _ = _;simp only [Act.put, psA, pzA, pnA, i64_w, i32_w];rfl)
      refine pure_ (i := 7) (N := some 21) (v := ?_) (a' := ?_) #[true, true, true, true, true, true, true, true, false, false, true, false, false] rfl rfl (any_of HT_.out (by kernel_rfl)) (fun _ _ _ h => h) (Or.inl ⟨by rfl, ?_⟩) ?_ ?_
      rotate_left;(intro w';go_simp;with_reducible rfl);rotate_left;(simp only [Act.put, psA, pzA, pnA, i64_w, i32_w];rfl)
      refine pure_ (i := 8) (N := some 29) (v := ?_) (a' := ?_) #[true, true, true, true, true, true, true, true, true, false, true, false, false] rfl rfl (any_of HT_.out (by kernel_rfl)) (fun _ _ _ h => h) (Or.inl ⟨by rfl, ?_⟩) ?_ ?_
      rotate_left;(intro w';go_simp;with_reducible rfl);rotate_left;(simp only [Act.put, psA, pzA, pnA, i64_w, i32_w];rfl)
      refine pure_ (i := 9) (N := some 30) (v := ?_) (a' := ?_) #[true, true, true, true, true, true, true, true, true, true, true, false, false] rfl rfl (any_of HT_.out (by kernel_rfl)) (fun _ _ _ h => h) (Or.inl ⟨by rfl, ?_⟩) ?_ ?_
      rotate_left;(intro w';go_simp;with_reducible rfl);rotate_left;(simp only [Act.put, psA, pzA, pnA, i64_w, i32_w];rfl)
      exact norm_ (by first | (simp only [putAll, Act.put, psA, pzA, pnA]; done) | (simp only [putAll, Act.put, psA, pzA, pnA]; rfl)) (hJ1_3_5_6_10 (gb774) _ ⟨hHeld, BK746.out, BK747.out, BK748.out, BK761.out, BK774.out, GW774.out, GE774.out, NB746_774.out, NB774_746.out, NB747_774.out, NB774_747.out, NB748_774.out, NB774_748.out, NB761_774.out, NB774_761.out, (by repeat (first | (with_reducible first | exact HB.out | apply below_alloc | apply pw_below_drewN | apply below_drew1 | refine below_set ?_ (Aside0.out (by assumption))) | exact HB.out))⟩)
    ·skip
     rintro _ w33 ⟨hS_, h0_, h1_, h2_, h3_, h4_⟩
     have n0_ : Aside0 (w33.heap[gb746]? = some (.cells #[.int .i64 a0_0, .int .i64 a0_1, .int .u32 a0_2] 42 (0, 0))) := ⟨h0_⟩
     have n1_ : Aside0 (w33.heap[gb747]? = some (.cells #[.int .i64 a1_0, .int .i64 a1_1, .int .u32 a1_2] 42 (0, 0))) := ⟨h1_⟩
     have n2_ : Aside0 (w33.heap[gb748]? = some (.cells #[.int .i64 a2_0, .int .i64 a2_1, .int .u32 a2_2] 42 (0, 0))) := ⟨h2_⟩
     have n3_ : Aside0 (w33.heap[gb761]? = some (.cells #[.int .i64 t758, .int .i64 t759] 31 (0, 0))) := ⟨h3_⟩
     have n4_ : Aside0 (Below w.heap.size w w33) := ⟨h4_⟩
     clear BK746 BK747 BK748 BK761 HB
     clear h0_ h1_ h2_ h3_ h4_
     have BK746 := n0_
     have BK747 := n1_
     have BK748 := n2_
     have BK761 := n3_
     have HB := n4_
     clear n0_ n1_ n2_ n3_ n4_
     have hHeld : w33.cell? ⟨gb746, 0, none⟩ = some (.int .i64 a0_0) ∧ w33.cell? ⟨gb746, 1, none⟩ = some (.int .i64 a0_1) ∧ w33.cell? ⟨gb746, 2, none⟩ = some (.int .u32 a0_2) ∧ w33.cell? ⟨gb747, 0, none⟩ = some (.int .i64 a1_0) ∧ w33.cell? ⟨gb747, 1, none⟩ = some (.int .i64 a1_1) ∧ w33.cell? ⟨gb747, 2, none⟩ = some (.int .u32 a1_2) ∧ w33.cell? ⟨gb748, 0, none⟩ = some (.int .i64 a2_0) ∧ w33.cell? ⟨gb748, 1, none⟩ = some (.int .i64 a2_1) ∧ w33.cell? ⟨gb748, 2, none⟩ = some (.int .u32 a2_2) := hS_
     refine norm_ (a' := ?_) ?_ ?_
     rotate_left;(simp only [putAll, Act.put, psA, pzA, pnA];rfl)
     refine one_ (i := 10) (N := some 9) #[true, true, true, true, true, true, true, true, true, true, true, false, false] rfl rfl (one_of HT_.out (by kernel_rfl)) (by decide) (fun K hK => ?_)
     refine box_step ?hg (N := 9) ?hd (cs := #[.int .i64 0, .int .i64 0]) (t := 31) ?hr ?_; (case hd => rfl); (case hg => rfl); (case hr => first | (go_simp; done) | (go_simp; rfl))
     intro gb774 hg w34 hbox hb
     have BK774 := Aside0.mk (hbox)
     have GW774 := geA HB hg
     replace HB := hbB HB hb
     have GE774 := GW774
     have NB746_774 := nbA hg BK746
     replace BK746 := bkB BK746 hb
     have NB774_746 := neA NB746_774
     have NB747_774 := nbA hg BK747
     replace BK747 := bkB BK747 hb
     have NB774_747 := neA NB747_774
     have NB748_774 := nbA hg BK748
     replace BK748 := bkB BK748 hb
     have NB774_748 := neA NB748_774
     have NB761_774 := nbA hg BK761
     replace BK761 := bkB BK761 hb
     have NB774_761 := neA NB761_774
     clear hb hbox hg
     refine hK.out _ _ ⟨bcA BK746 0 rfl, bcA BK746 1 rfl, bcA BK746 2 rfl, bcA BK747 0 rfl, bcA BK747 1 rfl, bcA BK747 2 rfl, bcA BK748 0 rfl, bcA BK748 1 rfl, bcA BK748 2 rfl⟩ (fun hHeld => ?_)
     clear hK K
     refine norm_ (a' := ?_) ?_ ?_
     rotate_left;(show Act.put _ (some 9) _ = _;simp only [Act.put, psA, pzA, pnA, i64_w, i32_w];rfl)
     exact norm_ (by first | (simp only [putAll, Act.put, psA, pzA, pnA]; done) | (simp only [putAll, Act.put, psA, pzA, pnA]; rfl)) (hJ1_3_5_6_10 (gb774) _ ⟨hHeld, BK746.out, BK747.out, BK748.out, BK761.out, BK774.out, GW774.out, GE774.out, NB746_774.out, NB774_746.out, NB747_774.out, NB774_747.out, NB748_774.out, NB774_748.out, NB761_774.out, NB774_761.out, (by repeat (first | (with_reducible first | exact HB.out | apply below_alloc | apply pw_below_drewN | apply below_drew1 | refine below_set ?_ (Aside0.out (by assumption))) | exact HB.out))⟩)
   rintro gb774 w34 ⟨hS_, h0_, h1_, h2_, h3_, h4_, h5_, h6_, h7_, h8_, h9_, h10_, h11_, h12_, h13_, h14_, h15_⟩
   have n0_ : Aside0 (w34.heap[gb746]? = some (.cells #[.int .i64 a0_0, .int .i64 a0_1, .int .u32 a0_2] 42 (0, 0))) := ⟨h0_⟩
   have n1_ : Aside0 (w34.heap[gb747]? = some (.cells #[.int .i64 a1_0, .int .i64 a1_1, .int .u32 a1_2] 42 (0, 0))) := ⟨h1_⟩
   have n2_ : Aside0 (w34.heap[gb748]? = some (.cells #[.int .i64 a2_0, .int .i64 a2_1, .int .u32 a2_2] 42 (0, 0))) := ⟨h2_⟩
   have n3_ : Aside0 (w34.heap[gb761]? = some (.cells #[.int .i64 t758, .int .i64 t759] 31 (0, 0))) := ⟨h3_⟩
   have n4_ : Aside0 (w34.heap[gb774]? = some (.cells #[.int .i64 0, .int .i64 0] 31 (0, 0))) := ⟨h4_⟩
   have n5_ : Aside0 (w.heap.size ≤ gb774) := ⟨h5_⟩
   have n6_ : Aside0 (w.heap.size ≤ gb774) := ⟨h6_⟩
   have n7_ : Aside0 (gb746 ≠ gb774) := ⟨h7_⟩
   have n8_ : Aside0 (gb774 ≠ gb746) := ⟨h8_⟩
   have n9_ : Aside0 (gb747 ≠ gb774) := ⟨h9_⟩
   have n10_ : Aside0 (gb774 ≠ gb747) := ⟨h10_⟩
   have n11_ : Aside0 (gb748 ≠ gb774) := ⟨h11_⟩
   have n12_ : Aside0 (gb774 ≠ gb748) := ⟨h12_⟩
   have n13_ : Aside0 (gb761 ≠ gb774) := ⟨h13_⟩
   have n14_ : Aside0 (gb774 ≠ gb761) := ⟨h14_⟩
   have n15_ : Aside0 (Below w.heap.size w w34) := ⟨h15_⟩
   clear BK746 BK747 BK748 BK761 HB
   clear h0_ h1_ h2_ h3_ h4_ h5_ h6_ h7_ h8_ h9_ h10_ h11_ h12_ h13_ h14_ h15_
   have BK746 := n0_
   have BK747 := n1_
   have BK748 := n2_
   have BK761 := n3_
   have BK774 := n4_
   have GW774 := n5_
   have GE774 := n6_
   have NB746_774 := n7_
   have NB774_746 := n8_
   have NB747_774 := n9_
   have NB774_747 := n10_
   have NB748_774 := n11_
   have NB774_748 := n12_
   have NB761_774 := n13_
   have NB774_761 := n14_
   have HB := n15_
   clear n0_ n1_ n2_ n3_ n4_ n5_ n6_ n7_ n8_ n9_ n10_ n11_ n12_ n13_ n14_ n15_
   have hHeld : w34.cell? ⟨gb746, 0, none⟩ = some (.int .i64 a0_0) ∧ w34.cell? ⟨gb746, 1, none⟩ = some (.int .i64 a0_1) ∧ w34.cell? ⟨gb746, 2, none⟩ = some (.int .u32 a0_2) ∧ w34.cell? ⟨gb747, 0, none⟩ = some (.int .i64 a1_0) ∧ w34.cell? ⟨gb747, 1, none⟩ = some (.int .i64 a1_1) ∧ w34.cell? ⟨gb747, 2, none⟩ = some (.int .u32 a1_2) ∧ w34.cell? ⟨gb748, 0, none⟩ = some (.int .i64 a2_0) ∧ w34.cell? ⟨gb748, 1, none⟩ = some (.int .i64 a2_1) ∧ w34.cell? ⟨gb748, 2, none⟩ = some (.int .u32 a2_2) := hS_
   refine norm_ (a' := ?_) ?_ ?_
   rotate_left;(simp only [putAll, Act.put, psA, pzA, pnA];rfl)
   refine one_ (i := 11) (N := none) #[true, true, true, true, true, true, true, true, true, true, true, true, false] rfl rfl (one_of HT_.out (by kernel_rfl)) (by decide) (fun K hK => ?_)
   have hs35 : w34.cell? ⟨gb774, 0, none⟩ = some (.int .i64 0) := bcA BK774 0 rfl
   have hfs35 := blk_frozen BK774.out 0
   have hns35_0 := NB746_774.out
   have hns35_1 := NB747_774.out
   have hns35_2 := NB748_774.out
   have hns35_3 := NB761_774.out
   have hms35_0 := NB774_746.out
   have hms35_1 := NB774_747.out
   have hms35_2 := NB774_748.out
   have hms35_3 := NB774_761.out
   have hs36 : w34.cell? ⟨gb774, 1, none⟩ = some (.int .i64 0) := bcA BK774 1 rfl
   have hfs36 := blk_frozen BK774.out 1
   have hns36_0 := NB746_774.out
   have hns36_1 := NB747_774.out
   have hns36_2 := NB748_774.out
   have hns36_3 := NB761_774.out
   have hms36_0 := NB774_746.out
   have hms36_1 := NB774_747.out
   have hms36_2 := NB774_748.out
   have hms36_3 := NB774_761.out
   refine skip_ (w1 := ?_) (by rfl) rfl ?_ ?_
   rotate_left
   ·go_simp
    rfl
   refine hK.out _ _ ⟨((cell_far (p := ⟨gb774, _, none⟩) NB746_774.out _).trans (((cell_far (p := ⟨gb774, _, none⟩) NB746_774.out _).trans (hHeld.1)))), ((cell_far (p := ⟨gb774, _, none⟩) NB746_774.out _).trans (((cell_far (p := ⟨gb774, _, none⟩) NB746_774.out _).trans (hHeld.2.1)))), ((cell_far (p := ⟨gb774, _, none⟩) NB746_774.out _).trans (((cell_far (p := ⟨gb774, _, none⟩) NB746_774.out _).trans (hHeld.2.2.1)))), ((cell_far (p := ⟨gb774, _, none⟩) NB747_774.out _).trans (((cell_far (p := ⟨gb774, _, none⟩) NB747_774.out _).trans (hHeld.2.2.2.1)))), ((cell_far (p := ⟨gb774, _, none⟩) NB747_774.out _).trans (((cell_far (p := ⟨gb774, _, none⟩) NB747_774.out _).trans (hHeld.2.2.2.2.1)))), ((cell_far (p := ⟨gb774, _, none⟩) NB747_774.out _).trans (((cell_far (p := ⟨gb774, _, none⟩) NB747_774.out _).trans (hHeld.2.2.2.2.2.1)))), ((cell_far (p := ⟨gb774, _, none⟩) NB748_774.out _).trans (((cell_far (p := ⟨gb774, _, none⟩) NB748_774.out _).trans (hHeld.2.2.2.2.2.2.1)))), ((cell_far (p := ⟨gb774, _, none⟩) NB748_774.out _).trans (((cell_far (p := ⟨gb774, _, none⟩) NB748_774.out _).trans (hHeld.2.2.2.2.2.2.2.1)))), ((cell_far (p := ⟨gb774, _, none⟩) NB748_774.out _).trans (((cell_far (p := ⟨gb774, _, none⟩) NB748_774.out _).trans (hHeld.2.2.2.2.2.2.2.2))))⟩ (fun hHeld => ?_)
   clear hK K
   refine pure_ (i := 12) (N := some 10) (v := ?_) (a' := ?_) #[true, true, true, true, true, true, true, true, true, true, true, true, true] rfl rfl (any_of HT_.out (by kernel_rfl)) (fun _ _ _ h => h) (Or.inl ⟨by rfl, ?_⟩) ?_ ?_
   rotate_left;(intro w';go_simp;with_reducible rfl);rotate_left;(simp only [Act.put, psA, pzA, pnA, i64_w, i32_w];rfl)
   refine done_ (done_of HT_.out (by kernel_rfl)) ?_
   have hnb37 := NB774_746.out
   have hnc37 := NB746_774.out
   have hnb38 := NB774_747.out
   have hnc38 := NB747_774.out
   have hnb39 := NB774_748.out
   have hnc39 := NB748_774.out
   have hnb40 := NB774_761.out
   have hnc40 := NB761_774.out
   have hcz41_0 : w34.cell? ⟨gb774, 0, none⟩ = some (.int .i64 0) := bcA BK774 0 rfl
   have hcz41_1 : w34.cell? ⟨gb774, 1, none⟩ = some (.int .i64 0) := bcA BK774 1 rfl
   have hfz41_0 := blk_frozen BK774.out 0
   have hfz41_1 := blk_frozen BK774.out 1
   have hnb42 := NB761_746.out
   have hnc42 := NB746_761.out
   have hnb43 := NB761_747.out
   have hnc43 := NB747_761.out
   have hnb44 := NB761_748.out
   have hnc44 := NB748_761.out
   have hcz45_0 : w34.cell? ⟨gb761, 0, none⟩ = some (.int .i64 t758) := bcA BK761 0 rfl
   have hcz45_1 : w34.cell? ⟨gb761, 1, none⟩ = some (.int .i64 t759) := bcA BK761 1 rfl
   have hfz45_0 := blk_frozen BK761.out 0
   have hfz45_1 := blk_frozen BK761.out 1
   try go_wp2_with (first | ((with_reducible refine gate_callee (f := 18) rfl ?_); refine goesL_ (some 33) rfl rfl Try.func18 (by kernel_rfl) rfl #[.agg #[.int .i64 t771, .int .i64 t772], .agg #[.int .i64 t758, .int .i64 t759]] rfl (by (try simp only [maA, mbA, mcA]); first | done | rfl | (simp only [List.length_drop, List.length_take]; rfl)) ?_; (with_reducible refine (laws_eqFraction.calls t771 t772 t758 t759 true _ A12.out).mono ?_); rintro e w46 ⟨rfl, hb⟩; refine ⟨_, rfl, ?_⟩; replace BK746 := Aside0.mk (blk_below (g := gb746) (o := .cells #[.int .i64 a0_0, .int .i64 a0_1, .int .u32 a0_2] 42 (0, 0)) (by (with_reducible repeat (first | refine blk_drewN ?_ _ | refine blk_drew ?_ | refine blk_alloc ?_ _)); refine blk_far ?_ NB746_774.out _; (with_reducible repeat (first | refine blk_drewN ?_ _ | refine blk_drew ?_ | refine blk_alloc ?_ _)); refine blk_far ?_ NB746_774.out _; (with_reducible repeat (first | refine blk_drewN ?_ _ | refine blk_drew ?_ | refine blk_alloc ?_ _)); exact BK746.out) hb); replace BK747 := Aside0.mk (blk_below (g := gb747) (o := .cells #[.int .i64 a1_0, .int .i64 a1_1, .int .u32 a1_2] 42 (0, 0)) (by (with_reducible repeat (first | refine blk_drewN ?_ _ | refine blk_drew ?_ | refine blk_alloc ?_ _)); refine blk_far ?_ NB747_774.out _; (with_reducible repeat (first | refine blk_drewN ?_ _ | refine blk_drew ?_ | refine blk_alloc ?_ _)); refine blk_far ?_ NB747_774.out _; (with_reducible repeat (first | refine blk_drewN ?_ _ | refine blk_drew ?_ | refine blk_alloc ?_ _)); exact BK747.out) hb); replace BK748 := Aside0.mk (blk_below (g := gb748) (o := .cells #[.int .i64 a2_0, .int .i64 a2_1, .int .u32 a2_2] 42 (0, 0)) (by (with_reducible repeat (first | refine blk_drewN ?_ _ | refine blk_drew ?_ | refine blk_alloc ?_ _)); refine blk_far ?_ NB748_774.out _; (with_reducible repeat (first | refine blk_drewN ?_ _ | refine blk_drew ?_ | refine blk_alloc ?_ _)); refine blk_far ?_ NB748_774.out _; (with_reducible repeat (first | refine blk_drewN ?_ _ | refine blk_drew ?_ | refine blk_alloc ?_ _)); exact BK748.out) hb); replace BK761 := Aside0.mk (blk_below (g := gb761) (o := .cells #[.int .i64 t758, .int .i64 t759] 31 (0, 0)) (by (with_reducible repeat (first | refine blk_drewN ?_ _ | refine blk_drew ?_ | refine blk_alloc ?_ _)); refine blk_far ?_ NB761_774.out _; (with_reducible repeat (first | refine blk_drewN ?_ _ | refine blk_drew ?_ | refine blk_alloc ?_ _)); refine blk_far ?_ NB761_774.out _; (with_reducible repeat (first | refine blk_drewN ?_ _ | refine blk_drew ?_ | refine blk_alloc ?_ _)); exact BK761.out) hb); replace BK774 := Aside0.mk (blk_below (g := gb774) (o := .cells #[.int .i64 t771, .int .i64 t772] 31 (0, 0)) (by (with_reducible repeat (first | refine blk_drewN ?_ _ | refine blk_drew ?_ | refine blk_alloc ?_ _)); refine blk_put (cs := #[.int .i64 t771, .int .i64 0]) ?_ 1 _ rfl; (with_reducible repeat (first | refine blk_drewN ?_ _ | refine blk_drew ?_ | refine blk_alloc ?_ _)); refine blk_put (cs := #[.int .i64 0, .int .i64 0]) ?_ 0 _ rfl; (with_reducible repeat (first | refine blk_drewN ?_ _ | refine blk_drew ?_ | refine blk_alloc ?_ _)); exact BK774.out) hb); replace HB := Aside0.mk (below_step (by repeat (first | (with_reducible first | exact HB.out | apply below_alloc | apply pw_below_drewN | apply below_drew1 | refine below_set ?_ (Aside0.out (by assumption))) | exact HB.out)) hb); (try clear hb)))
   go_ret
   exact ⟨by first | rfl | (simp [*, errW_none, errW_some] <;> rfl), by repeat (first | (with_reducible first | exact HB.out | apply below_alloc | apply pw_below_drewN | apply below_drew1 | refine below_set ?_ (Aside0.out (by assumption))) | exact HB.out)⟩
  ·rw [if_neg c14] at H
   have c14b0 : (t773 == t760) = false := beq_eq_false_iff_ne.mpr c14
   have c14b1 : (t773 != t760) = true := bne_iff_ne.mpr c14
   exact absurd H (by simp)
 ·replace c13 := Bool.eq_false_iff.mpr c13
  subst c13
  rw [if_neg (show ¬ (false = true) by decide)] at H
  exact absurd H (by simp)
end
end Go.Proofs.Ytcepbgffnneagaa.Q
end
