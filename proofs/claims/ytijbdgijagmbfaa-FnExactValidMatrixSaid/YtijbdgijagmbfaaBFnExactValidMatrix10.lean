/- Contracts of Go functions and plain lemmas over what they compute; printed by the kit's print program or written by hand, joined. -/
import Derived.Test.YtijbdgijagmbfaaBFnExactValidMatrix1
import Derived.Test.YtijbdgijagmbfaaBFnExactValidMatrix5
import Derived.Test.YtijbdgijagmbfaaBFnExactValidMatrix8
import Derived.Test.YtijbdgijagmbfaaBFnExactValidMatrix9
section
/- A contract of one Go function: what it returns for its arguments; printed by the kit's print program or written by hand. -/
namespace Go.Proofs.Ytijbdgijagmbfaa.Q
open Go.RowKit Go.Proofs.YtijbdgijagmbfaaW.PrintWords Go.Proofs.YtijbdgijagmbfaaW.PrintLast Go.Proofs.YtijbdgijagmbfaaW.PrintMore
attribute [local go_sem] max2_int min2_int max_two min_two max_three min_three max_four min_four   -- for this text's walks alone
set_option linter.unusedVariables false
set_option linter.unusedSimpArgs false

attribute [local go_sem high] eqA42
/-! ### impl_ValidMatrix: function 45 -/
mutual
noncomputable def impl_ValidMatrix.j0 : Nat → Bool → List (List (S42)) → Option (Bool)
  | 0, _, _ => none
  | k + 1, x14, x427000 => if x14 = true then (some false) else (impl_ValidMatrix.l0 k x427000 (x427000.length : Int) 0 x427000)
noncomputable def impl_ValidMatrix.l0 : Nat → List (List (S42)) → Int → Int → List (List (S42)) → Option (Bool)
  | 0, _, _, _, _ => none
  | k + 1, x15, x16, x17, x427000 => if x17 < x16 then (if 0 ≤ x17 then (if x17 < (x15.length : Int) then (impl_ValidMatrix.l1 k x17 x15 x16 x17 (rd_L9 x15 x17) ((rd_L9 x15 x17).length : Int) 0 x427000) else (none)) else (none)) else (some true)
noncomputable def impl_ValidMatrix.l1 : Nat → Int → List (List (S42)) → Int → Int → List (S42) → Int → Int → List (List (S42)) → Option (Bool)
  | 0, _, _, _, _, _, _, _, _ => none
  | k + 1, x3, x15, x16, x17, x22, x23, x24, x427000 => if x24 < x23 then (if 0 ≤ x24 then (if x24 < (x22.length : Int) then (if x24 < (x427000.length : Int) then (if 0 ≤ x3 then (if x3 < ((rd_L9 x427000 x24).length : Int) then (if (!(((rd_T42 (rd_L9 x427000 x24) x3).f0) == ((rd_T42 x22 x24).f0)) || (!(((rd_T42 (rd_L9 x427000 x24) x3).f1) == ((rd_T42 x22 x24).f1)))) = true then (some false) else (impl_ValidMatrix.l1 k x3 x15 x16 x17 x22 x23 (wrap64 (x24 + 1)) x427000)) else (none)) else (none)) else (none)) else (none)) else (none)) else (impl_ValidMatrix.l0 k x15 x16 (wrap64 (x17 + 1)) x427000)
end
noncomputable def impl_ValidMatrix.f (k : Nat) (l0 : List (List (S42))) : Option (Bool) := if (l0.length : Int) > 8 then (impl_ValidMatrix.j0 k true l0) else ((impl_Fraction_73.f (fun y0 => impl_ValidMatrix_1T.f y0 l0) k l0).bind fun t427 => (impl_ValidMatrix.j0 k t427 l0))
theorem impl_ValidMatrix.mono_l : ∀ k, (∀ y0 y1, LeO (impl_ValidMatrix.j0 k y0 y1) (impl_ValidMatrix.j0 (k + 1) y0 y1)) ∧ (∀ y0 y1 y2 y3, LeO (impl_ValidMatrix.l0 k y0 y1 y2 y3) (impl_ValidMatrix.l0 (k + 1) y0 y1 y2 y3)) ∧ (∀ y0 y1 y2 y3 y4 y5 y6 y7, LeO (impl_ValidMatrix.l1 k y0 y1 y2 y3 y4 y5 y6 y7) (impl_ValidMatrix.l1 (k + 1) y0 y1 y2 y3 y4 y5 y6 y7))
  | 0 => ⟨fun _ _ r h => by simp [impl_ValidMatrix.j0] at h, fun _ _ _ _ r h => by simp [impl_ValidMatrix.l0] at h, fun _ _ _ _ _ _ _ _ r h => by simp [impl_ValidMatrix.l1] at h⟩
  | k + 1 => by
    obtain ⟨ih0, ih1, ih2⟩ := impl_ValidMatrix.mono_l k
    refine ⟨?_, ?_, ?_⟩
    · intro y0 y1
      unfold impl_ValidMatrix.j0
      repeat' first
      | (with_reducible exact ih0 _ _)
      | (with_reducible exact ih1 _ _ _ _)
      | (with_reducible exact ih2 _ _ _ _ _ _ _ _)
      | (with_reducible exact impl_Fraction_73.mono _ _ _)
      | (with_reducible exact LeO.refl _)
      | (with_reducible exact LeO.none _)
      | (with_reducible refine LeO.ite ?_ ?_)
      | (with_reducible refine LeO.bind ?_ (fun _ => ?_))
      | exact ih0 _ _
      | exact ih1 _ _ _ _
      | exact ih2 _ _ _ _ _ _ _ _
      | exact impl_Fraction_73.mono _ _ _
      | exact LeO.none _
      | refine LeO.ite ?_ ?_
      | refine LeO.bind ?_ (fun _ => ?_)
    · intro y0 y1 y2 y3
      unfold impl_ValidMatrix.l0
      repeat' first
      | (with_reducible exact ih0 _ _)
      | (with_reducible exact ih1 _ _ _ _)
      | (with_reducible exact ih2 _ _ _ _ _ _ _ _)
      | (with_reducible exact impl_Fraction_73.mono _ _ _)
      | (with_reducible exact LeO.refl _)
      | (with_reducible exact LeO.none _)
      | (with_reducible refine LeO.ite ?_ ?_)
      | (with_reducible refine LeO.bind ?_ (fun _ => ?_))
      | exact ih0 _ _
      | exact ih1 _ _ _ _
      | exact ih2 _ _ _ _ _ _ _ _
      | exact impl_Fraction_73.mono _ _ _
      | exact LeO.none _
      | refine LeO.ite ?_ ?_
      | refine LeO.bind ?_ (fun _ => ?_)
    · intro y0 y1 y2 y3 y4 y5 y6 y7
      unfold impl_ValidMatrix.l1
      repeat' first
      | (with_reducible exact ih0 _ _)
      | (with_reducible exact ih1 _ _ _ _)
      | (with_reducible exact ih2 _ _ _ _ _ _ _ _)
      | (with_reducible exact impl_Fraction_73.mono _ _ _)
      | (with_reducible exact LeO.refl _)
      | (with_reducible exact LeO.none _)
      | (with_reducible refine LeO.ite ?_ ?_)
      | (with_reducible refine LeO.bind ?_ (fun _ => ?_))
      | exact ih0 _ _
      | exact ih1 _ _ _ _
      | exact ih2 _ _ _ _ _ _ _ _
      | exact impl_Fraction_73.mono _ _ _
      | exact LeO.none _
      | refine LeO.ite ?_ ?_
      | refine LeO.bind ?_ (fun _ => ?_)
theorem impl_ValidMatrix.mono : ∀ a0 k, LeO (impl_ValidMatrix.f k a0) (impl_ValidMatrix.f (k + 1) a0) := by
  intro a0 k
  obtain ⟨ih0, ih1, ih2⟩ := impl_ValidMatrix.mono_l k
  unfold impl_ValidMatrix.f
  repeat' first
      | (with_reducible exact ih0 _ _)
      | (with_reducible exact ih1 _ _ _ _)
      | (with_reducible exact ih2 _ _ _ _ _ _ _ _)
      | (with_reducible exact impl_Fraction_73.mono _ _ _)
      | (with_reducible exact LeO.refl _)
      | (with_reducible exact LeO.none _)
      | (with_reducible refine LeO.ite ?_ ?_)
      | (with_reducible refine LeO.bind ?_ (fun _ => ?_))
      | exact ih0 _ _
      | exact ih1 _ _ _ _
      | exact ih2 _ _ _ _ _ _ _ _
      | exact impl_Fraction_73.mono _ _ _
      | exact LeO.none _
      | refine LeO.ite ?_ ?_
      | refine LeO.bind ?_ (fun _ => ?_)
set_option maxHeartbeats 8000000 in
set_option maxRecDepth 100000 in
theorem impl_ValidMatrix.calls (k : Nat) (A0 : Option Addr) (c0 : Nat) (l0 : List (List (S42))) (r : Bool) (w : World) (hr0 : Kd.C (Kd.slice 42 k42) w A0 l0.length l0) (hc0 : l0.length ≤ c0) (h : impl_ValidMatrix.f k l0 = some r) :
    Calls Try.prog 45 #[.slice A0 l0.length c0] w fun e w' => e = .returned (.bool r) ∧ Below w.heap.size w w' := by
  have hu42 := Try.underlying42
  have HR0 := Aside0.mk hr0
  have HC0 := Aside0.mk hc0
  clear hr0 hc0
  have HB := Aside0.mk (Below.refl w.heap.size w)
  have H : (if (l0.length : Int) > 8 then (impl_ValidMatrix.j0 k true l0) else ((impl_Fraction_73.f (fun y0 => impl_ValidMatrix_1T.f y0 l0) k l0).bind fun t427 => (impl_ValidMatrix.j0 k t427 l0))) = some r := h
  clear h
  have HC2 := Aside0.mk H
  clear H
  go_enter Try.func45, Try.ntmps45
  go_upto_region 1 with (first | ((with_reducible refine gate_dst (N := 1) rfl ?_); refine box_event ?hg (N := 1) ?hd (cs := #[.slice A0 l0.length c0]) (t := 59) ?hr ?_; (case hd => rfl); (case hg => rfl); (case hr => first | (go_simp; done) | (go_simp; rfl)); intro gb426 hg w3 hbox hb; have n0_ := Aside0.mk (below_step (by repeat (first | (with_reducible first | exact HB.out | apply below_alloc | apply pw_below_drewN | apply below_drew1) | exact HB.out)) hb); have n1_ := Aside0.mk (hbox); have n2_ := Aside0.mk ((by rw [hg]; exact (below_size (by repeat (first | (with_reducible first | exact HB.out | apply below_alloc | apply pw_below_drewN | apply below_drew1) | exact HB.out))) : w.heap.size ≤ gb426)); have n3_ := Aside0.mk ((by rw [hg]; exact (below_size (by repeat (first | (with_reducible first | exact HB.out | apply below_alloc | apply pw_below_drewN | apply below_drew1) | exact HB.out))) : w.heap.size ≤ gb426)); clear HB; have HB := n0_; have BK426 := n1_; have GW426 := n2_; have GE426 := n3_; clear n0_ n1_ n2_ n3_; clear hb hbox hg))
  repeat (go_quiet (first | ((with_reducible refine gate_dst (N := 1) rfl ?_); refine box_event ?hg (N := 1) ?hd (cs := #[.slice A0 l0.length c0]) (t := 59) ?hr ?_; (case hd => rfl); (case hg => rfl); (case hr => first | (go_simp; done) | (go_simp; rfl)); intro gb426 hg w3 hbox hb; have n0_ := Aside0.mk (below_step (by repeat (first | (with_reducible first | exact HB.out | apply below_alloc | apply pw_below_drewN | apply below_drew1) | exact HB.out)) hb); have n1_ := Aside0.mk (hbox); have n2_ := Aside0.mk ((by rw [hg]; exact (below_size (by repeat (first | (with_reducible first | exact HB.out | apply below_alloc | apply pw_below_drewN | apply below_drew1) | exact HB.out))) : w.heap.size ≤ gb426)); have n3_ := Aside0.mk ((by rw [hg]; exact (below_size (by repeat (first | (with_reducible first | exact HB.out | apply below_alloc | apply pw_below_drewN | apply below_drew1) | exact HB.out))) : w.heap.size ≤ gb426)); clear HB; have HB := n0_; have BK426 := n1_; have GW426 := n2_; have GE426 := n3_; clear n0_ n1_ n2_ n3_; clear hb hbox hg)); go_upto_region 1 with (first | ((with_reducible refine gate_dst (N := 1) rfl ?_); refine box_event ?hg (N := 1) ?hd (cs := #[.slice A0 l0.length c0]) (t := 59) ?hr ?_; (case hd => rfl); (case hg => rfl); (case hr => first | (go_simp; done) | (go_simp; rfl)); intro gb426 hg w3 hbox hb; have n0_ := Aside0.mk (below_step (by repeat (first | (with_reducible first | exact HB.out | apply below_alloc | apply pw_below_drewN | apply below_drew1) | exact HB.out)) hb); have n1_ := Aside0.mk (hbox); have n2_ := Aside0.mk ((by rw [hg]; exact (below_size (by repeat (first | (with_reducible first | exact HB.out | apply below_alloc | apply pw_below_drewN | apply below_drew1) | exact HB.out))) : w.heap.size ≤ gb426)); have n3_ := Aside0.mk ((by rw [hg]; exact (below_size (by repeat (first | (with_reducible first | exact HB.out | apply below_alloc | apply pw_below_drewN | apply below_drew1) | exact HB.out))) : w.heap.size ≤ gb426)); clear HB; have HB := n0_; have BK426 := n1_; have GW426 := n2_; have GE426 := n3_; clear n0_ n1_ n2_ n3_; clear hb hbox hg)))
  (try simp only [Act.put, List.setIfInBounds_toArray, List.set_cons_zero, List.set_cons_succ])
  go_cut [14] (fun v14 wc => ∃ (kq : Nat) (x14_1 : Bool), v14 = .bool x14_1 ∧ Aside0 (impl_ValidMatrix.j0 kq x14_1 l0 = some r) ∧ Aside0 (kq ≤ k) ∧ Aside0 (wc.heap[gb426]? = some (.cells #[(.slice A0 l0.length c0)] 59 (0, 0))) ∧ Aside0 (Below w.heap.size w wc))
  case first =>
    have H := HC2.out
    clear HC2
    by_cases c4 : (l0.length : Int) > 8
    · rw [if_pos c4] at H
      have c4b0 : decide (8 < (l0.length : Int)) = true := decide_eq_true c4
      have c4b1 : decide (8 < l0.length) = true := decide_eq_true (by omega)
      clear c4
      (first | rw [c4b0] | (simp only [i64_w, i32_w]; rw [c4b0]) | skip)
      have H' := Aside0.mk H
      clear H
      have hcz5_0 : w3.cell? ⟨gb426, 0, none⟩ = some (.slice A0 l0.length c0) := (blk_cell BK426.out 0).trans rfl
      have hfz5_0 := blk_frozen BK426.out 0
      go_wp2
      repeat (go_quiet (fail); try go_wp2)
      go_meet
      case rel => exact ⟨_, (true), (by first | rfl | (simp; done) | (simp [*]; done)), H', ⟨by first | omega | exact Nat.le_refl _⟩, ⟨by (with_reducible repeat (first | refine blk_drewN ?_ _ | refine blk_drew ?_ | refine blk_alloc ?_ _)); exact BK426.out⟩, ⟨by repeat (first | (with_reducible first | exact HB.out | apply below_alloc | apply pw_below_drewN | apply below_drew1 | refine below_set ?_ GE426.out) | exact HB.out)⟩⟩
    · rw [if_neg c4] at H
      have c4b0 : decide (8 < (l0.length : Int)) = false := decide_eq_false c4
      have c4b1 : decide (8 < l0.length) = false := decide_eq_false (by omega)
      clear c4
      (first | rw [c4b0] | (simp only [i64_w, i32_w]; rw [c4b0]) | skip)
      replace H := Option.bind_eq_some_iff.mp H
      obtain ⟨t427, A60, H⟩ := H
      replace H : (impl_ValidMatrix.j0 k t427 l0) = some r := H
      have A6 := Aside0.mk A60
      clear A60
      have H' := Aside0.mk H
      clear H
      have hcz7_0 : w3.cell? ⟨gb426, 0, none⟩ = some (.slice A0 l0.length c0) := (blk_cell BK426.out 0).trans rfl
      have hfz7_0 := blk_frozen BK426.out 0
      go_wp2_with (first | (go_at_call 73; (refine (impl_Fraction_73.calls (fun y0 => impl_ValidMatrix_1T.f y0 l0) 74 #[.pointer (some ⟨gb426, 0, none⟩)] (EnterF.of Try.func74 (by kernel_rfl) rfl) _ ⟨fun A0_ c0_ y0 r_ W_ hr0_ hc0_ hc_ hB_ => (impl_ValidMatrix_1T.calls A0_ c0_ y0 r_ gb426 _ _ l0 W_ (blk_below (by (with_reducible repeat (first | refine blk_drewN ?_ _ | refine blk_drew ?_ | refine blk_alloc ?_ _)); exact BK426.out) hB_) (Kd.C_below HR0.out (below_via (by repeat (first | (with_reducible first | exact HB.out | apply below_alloc | apply pw_below_drewN | apply below_drew1 | refine below_set ?_ GE426.out) | exact HB.out)) hB_)) HC0.out hr0_ hc0_ hc_)⟩ k _ _ l0 t427 _ ?side1 ?side2 A6.out ⟨Below.refl _ _⟩).mono ?_); (case side1 => repeat (first | exact (Kd.C_below HR0.out HB.out) | (with_reducible refine Kd.C_alloc ?_ _) | (with_reducible refine Kd.C_drewN ?_ _) | (with_reducible refine Kd.C_drew ?_))); (case side2 => exact HC0.out); rintro e w8 ⟨rfl, hb⟩; have n0_ := Aside0.mk (blk_below (g := gb426) (o := .cells #[.slice A0 l0.length c0] 59 (0, 0)) (by (with_reducible repeat (first | refine blk_drewN ?_ _ | refine blk_drew ?_ | refine blk_alloc ?_ _)); exact BK426.out) hb); have n1_ := Aside0.mk (below_step (by repeat (first | (with_reducible first | exact HB.out | apply below_alloc | apply pw_below_drewN | apply below_drew1 | refine below_set ?_ GE426.out) | exact HB.out)) hb); clear BK426; clear HB; have BK426 := n0_; have HB := n1_; clear n0_ n1_; (try clear hb); (try clear hb2); (try clear hk); (try clear hi)))
      repeat (go_quiet (first | (go_at_call 73; (refine (impl_Fraction_73.calls (fun y0 => impl_ValidMatrix_1T.f y0 l0) 74 #[.pointer (some ⟨gb426, 0, none⟩)] (EnterF.of Try.func74 (by kernel_rfl) rfl) _ ⟨fun A0_ c0_ y0 r_ W_ hr0_ hc0_ hc_ hB_ => (impl_ValidMatrix_1T.calls A0_ c0_ y0 r_ gb426 _ _ l0 W_ (blk_below (by (with_reducible repeat (first | refine blk_drewN ?_ _ | refine blk_drew ?_ | refine blk_alloc ?_ _)); exact BK426.out) hB_) (Kd.C_below HR0.out (below_via (by repeat (first | (with_reducible first | exact HB.out | apply below_alloc | apply pw_below_drewN | apply below_drew1 | refine below_set ?_ GE426.out) | exact HB.out)) hB_)) HC0.out hr0_ hc0_ hc_)⟩ k _ _ l0 t427 _ ?side1 ?side2 A6.out ⟨Below.refl _ _⟩).mono ?_); (case side1 => repeat (first | exact (Kd.C_below HR0.out HB.out) | (with_reducible refine Kd.C_alloc ?_ _) | (with_reducible refine Kd.C_drewN ?_ _) | (with_reducible refine Kd.C_drew ?_))); (case side2 => exact HC0.out); rintro e w8 ⟨rfl, hb⟩; have n0_ := Aside0.mk (blk_below (g := gb426) (o := .cells #[.slice A0 l0.length c0] 59 (0, 0)) (by (with_reducible repeat (first | refine blk_drewN ?_ _ | refine blk_drew ?_ | refine blk_alloc ?_ _)); exact BK426.out) hb); have n1_ := Aside0.mk (below_step (by repeat (first | (with_reducible first | exact HB.out | apply below_alloc | apply pw_below_drewN | apply below_drew1 | refine below_set ?_ GE426.out) | exact HB.out)) hb); clear BK426; clear HB; have BK426 := n0_; have HB := n1_; clear n0_ n1_; (try clear hb); (try clear hb2); (try clear hk); (try clear hi))); try go_wp2_with (first | (go_at_call 73; (refine (impl_Fraction_73.calls (fun y0 => impl_ValidMatrix_1T.f y0 l0) 74 #[.pointer (some ⟨gb426, 0, none⟩)] (EnterF.of Try.func74 (by kernel_rfl) rfl) _ ⟨fun A0_ c0_ y0 r_ W_ hr0_ hc0_ hc_ hB_ => (impl_ValidMatrix_1T.calls A0_ c0_ y0 r_ gb426 _ _ l0 W_ (blk_below (by (with_reducible repeat (first | refine blk_drewN ?_ _ | refine blk_drew ?_ | refine blk_alloc ?_ _)); exact BK426.out) hB_) (Kd.C_below HR0.out (below_via (by repeat (first | (with_reducible first | exact HB.out | apply below_alloc | apply pw_below_drewN | apply below_drew1 | refine below_set ?_ GE426.out) | exact HB.out)) hB_)) HC0.out hr0_ hc0_ hc_)⟩ k _ _ l0 t427 _ ?side1 ?side2 A6.out ⟨Below.refl _ _⟩).mono ?_); (case side1 => repeat (first | exact (Kd.C_below HR0.out HB.out) | (with_reducible refine Kd.C_alloc ?_ _) | (with_reducible refine Kd.C_drewN ?_ _) | (with_reducible refine Kd.C_drew ?_))); (case side2 => exact HC0.out); rintro e w8 ⟨rfl, hb⟩; have n0_ := Aside0.mk (blk_below (g := gb426) (o := .cells #[.slice A0 l0.length c0] 59 (0, 0)) (by (with_reducible repeat (first | refine blk_drewN ?_ _ | refine blk_drew ?_ | refine blk_alloc ?_ _)); exact BK426.out) hb); have n1_ := Aside0.mk (below_step (by repeat (first | (with_reducible first | exact HB.out | apply below_alloc | apply pw_below_drewN | apply below_drew1 | refine below_set ?_ GE426.out) | exact HB.out)) hb); clear BK426; clear HB; have BK426 := n0_; have HB := n1_; clear n0_ n1_; (try clear hb); (try clear hb2); (try clear hk); (try clear hi))))
      go_meet
      case rel => exact ⟨_, (t427), (by first | rfl | (simp; done) | (simp [*]; done)), H', ⟨by first | omega | exact Nat.le_refl _⟩, ⟨by (with_reducible repeat (first | refine blk_drewN ?_ _ | refine blk_drew ?_ | refine blk_alloc ?_ _)); exact BK426.out⟩, ⟨by repeat (first | (with_reducible first | exact HB.out | apply below_alloc | apply pw_below_drewN | apply below_drew1 | refine below_set ?_ GE426.out) | exact HB.out)⟩⟩
  case rest =>
    clear HC2
    try clear p2
    try clear c4
    try clear c4b0
    try clear c4b1
    try clear hcz5_0
    try clear hcz7_0
    try clear hfz5_0
    try clear hfz7_0
    obtain ⟨kq, x14_1, rfl, HA, HJ1, BK426, HB⟩ := hcut
    cases kq with
    | zero => exact absurd HA.out (by simp [impl_ValidMatrix.j0])
    | succ kj1 =>
      have H := HA.out
      clear HA
      simp only [impl_ValidMatrix.j0] at H
      by_cases c9 : x14_1 = true
      · subst c9
        have H1 : (some false) = some r := by rw [if_pos rfl] at H; exact H
        clear H
        have H := H1
        clear H1
        obtain rfl := Option.some.inj H
        go_wp2
        repeat (go_quiet (fail); try go_wp2)
        go_ret
        exact ⟨by first | rfl | (simp [errW_none, errW_some] <;> rfl) | (simp [*, errW_none, errW_some] <;> rfl), by repeat (first | (with_reducible first | exact HB.out | apply below_alloc | apply pw_below_drewN | apply below_drew1 | refine below_set ?_ GE426.out) | exact HB.out)⟩
      · replace c9 := Bool.eq_false_iff.mpr c9
        subst c9
        have H1 : (impl_ValidMatrix.l0 kj1 l0 (l0.length : Int) 0 l0) = some r := by rw [if_neg (show ¬ (false = true) by decide)] at H; exact H
        clear H
        have H := H1
        clear H1
        have H' := Aside0.mk H
        clear H
        have hcz10_0 : wc.cell? ⟨gb426, 0, none⟩ = some (.slice A0 l0.length c0) := (blk_cell BK426.out 0).trans rfl
        have hfz10_0 := blk_frozen BK426.out 0
        go_wp2
        repeat (go_quiet (fail); try go_wp2)
        go_loopg [17] kj1 (fun kq v17 w' => ∃ (x17_2 : Int), v17 = .int .i64 x17_2 ∧ Aside0 (impl_ValidMatrix.l0 kq l0 (l0.length : Int) x17_2 l0 = some r) ∧ Aside0 (kq ≤ kj1) ∧ Aside0 (w'.heap[gb426]? = some (.cells #[(.slice A0 l0.length c0)] 59 (0, 0))) ∧ Aside0 (Below w.heap.size w w'))
        case atStart => exact ⟨(0), (by first | rfl | (simp; done) | (simp [*]; done)), H', ⟨Nat.le_refl _⟩, ⟨by (with_reducible repeat (first | refine blk_drewN ?_ _ | refine blk_drew ?_ | refine blk_alloc ?_ _)); exact BK426.out⟩, ⟨by repeat (first | (with_reducible first | exact HB.out | apply below_alloc | apply pw_below_drewN | apply below_drew1 | refine below_set ?_ GE426.out) | exact HB.out)⟩⟩
        case round =>
          clear H'
          try clear p2
          try clear c4
          try clear c4b0
          try clear c4b1
          try clear c9
          try clear hcz10_0
          try clear hcz5_0
          try clear hcz7_0
          try clear hfz10_0
          try clear hfz5_0
          try clear hfz7_0
          try clear p2
          obtain ⟨x17_2, rfl, HA, HK2, BK426, HB⟩ := hrel
          cases gk with
          | zero => exact absurd HA.out (by simp [impl_ValidMatrix.l0])
          | succ k2 =>
            have H := HA.out
            clear HA
            simp only [impl_ValidMatrix.l0] at H
            by_cases c11 : x17_2 < (l0.length : Int)
            · rw [if_pos c11] at H
              have c11b0 : decide (x17_2 < (l0.length : Int)) = true := decide_eq_true c11
              clear c11
              by_cases c12 : 0 ≤ x17_2
              · rw [if_pos c12] at H
                have c12b0 : decide (0 ≤ x17_2) = true := decide_eq_true c12
                clear c12
                by_cases c13 : x17_2 < (l0.length : Int)
                · rw [if_pos c13] at H
                  have c13b0 : decide (x17_2 < (l0.length : Int)) = true := decide_eq_true c13
                  clear c13
                  have H' := Aside0.mk H
                  clear H
                  have p428 : 0 ≤ (x17_2 : Int) := of_decide_eq_true (by first | (with_reducible assumption) | assumption)
                  have q428 : x17_2 < (l0.length : Int) := of_decide_eq_true (by first | (with_reducible assumption) | assumption)
                  obtain ⟨ad428, A428_0, c428_0, e428, hx428_0, hl428_0, hi428_0⟩ := at_L9 HR0.out x17_2 p428 q428
                  cases e428
                  replace hx428_0 := (HB.out.cell (World.block_lt_of_cell? w _ hx428_0)).trans hx428_0
                  have HR428_0 := Aside0.mk hi428_0
                  have HC428_0 := Aside0.mk hl428_0
                  clear hi428_0 hl428_0
                  replace p428 := eq_true p428
                  replace q428 := eq_true q428
                  go_wp2
                  repeat (go_quiet (fail); try go_wp2)
                  go_loopg [24] k2 (fun kq v24 w' => ∃ (x24_3 : Int), v24 = .int .i64 x24_3 ∧ Aside0 (impl_ValidMatrix.l1 kq x17_2 l0 (l0.length : Int) x17_2 (rd_L9 l0 x17_2) ((rd_L9 l0 x17_2).length : Int) x24_3 l0 = some r) ∧ Aside0 (kq ≤ k2) ∧ Aside0 (w'.heap[gb426]? = some (.cells #[(.slice (some ad428) l0.length c0)] 59 (0, 0))) ∧ Aside0 (Below w.heap.size w w'))
                  case atStart => exact ⟨(0), (by first | rfl | (simp; done) | (simp [*]; done)), H', ⟨Nat.le_refl _⟩, ⟨by (with_reducible repeat (first | refine blk_drewN ?_ _ | refine blk_drew ?_ | refine blk_alloc ?_ _)); exact BK426.out⟩, ⟨by repeat (first | (with_reducible first | exact HB.out | apply below_alloc | apply pw_below_drewN | apply below_drew1 | refine below_set ?_ GE426.out) | exact HB.out)⟩⟩
                  case round =>
                    clear H'
                    try clear c1
                    try clear p2
                    try clear c4
                    try clear c4b0
                    try clear c4b1
                    try clear p4
                    try clear q4
                    try clear hx4
                    try clear c9
                    try clear c11
                    try clear c11b0
                    try clear c12
                    try clear c12b0
                    try clear c13
                    try clear c13b0
                    try clear hcz10_0
                    try clear hcz5_0
                    try clear hcz7_0
                    try clear hfz10_0
                    try clear hfz5_0
                    try clear hfz7_0
                    try clear hx428_0
                    try clear p2
                    try clear p428
                    try clear q428
                    obtain ⟨x24_3, rfl, HA, HK3, BK426, HB⟩ := hrel
                    cases gk with
                    | zero => exact absurd HA.out (by simp [impl_ValidMatrix.l1])
                    | succ k3 =>
                      have H := HA.out
                      clear HA
                      simp only [impl_ValidMatrix.l1] at H
                      by_cases c14 : x24_3 < ((rd_L9 l0 x17_2).length : Int)
                      · rw [if_pos c14] at H
                        have c14b0 : decide (x24_3 < ((rd_L9 l0 x17_2).length : Int)) = true := decide_eq_true c14
                        clear c14
                        by_cases c15 : 0 ≤ x24_3
                        · rw [if_pos c15] at H
                          have c15b0 : decide (0 ≤ x24_3) = true := decide_eq_true c15
                          clear c15
                          by_cases c16 : x24_3 < ((rd_L9 l0 x17_2).length : Int)
                          · rw [if_pos c16] at H
                            have c16b0 : decide (x24_3 < ((rd_L9 l0 x17_2).length : Int)) = true := decide_eq_true c16
                            clear c16
                            by_cases c17 : x24_3 < (l0.length : Int)
                            · rw [if_pos c17] at H
                              have c17b0 : decide (x24_3 < (l0.length : Int)) = true := decide_eq_true c17
                              clear c17
                              by_cases c18 : 0 ≤ x17_2
                              · rw [if_pos c18] at H
                                have c18b0 : decide (0 ≤ x17_2) = true := decide_eq_true c18
                                clear c18
                                by_cases c19 : x17_2 < ((rd_L9 l0 x24_3).length : Int)
                                · rw [if_pos c19] at H
                                  have c19b0 : decide (x17_2 < ((rd_L9 l0 x24_3).length : Int)) = true := decide_eq_true c19
                                  clear c19
                                  by_cases c20 : (!(((rd_T42 (rd_L9 l0 x24_3) x17_2).f0) == ((rd_T42 (rd_L9 l0 x17_2) x24_3).f0)) || (!(((rd_T42 (rd_L9 l0 x24_3) x17_2).f1) == ((rd_T42 (rd_L9 l0 x17_2) x24_3).f1)))) = true
                                  · rw [if_pos c20] at H
                                    have c20b0 : (!(((rd_T42 (rd_L9 l0 x24_3) x17_2).f0) == ((rd_T42 (rd_L9 l0 x17_2) x24_3).f0)) || (!(((rd_T42 (rd_L9 l0 x24_3) x17_2).f1) == ((rd_T42 (rd_L9 l0 x17_2) x24_3).f1)))) = true := c20
                                    clear c20
                                    obtain rfl := Option.some.inj H
                                    have p429 : 0 ≤ (x24_3 : Int) := of_decide_eq_true (by first | (with_reducible assumption) | assumption)
                                    have q429 : x24_3 < ((rd_L9 l0 x17_2).length : Int) := of_decide_eq_true (by first | (with_reducible assumption) | assumption)
                                    obtain ⟨ad429, e429, hx429_0, hx429_1⟩ := at_T42 HR428_0.out x24_3 p429 q429
                                    cases e429
                                    replace hx429_0 := (HB.out.cell (World.block_lt_of_cell? w _ hx429_0)).trans hx429_0
                                    replace hx429_1 := (HB.out.cell (World.block_lt_of_cell? w _ hx429_1)).trans hx429_1
                                    replace p429 := eq_true p429
                                    replace q429 := eq_true q429
                                    go_wp2_with (first | ((with_reducible refine gate_dst (N := 6) rfl ?_); refine box_event ?hg (N := 6) ?hd (cs := #[.int .i64 0, .int .i64 0]) (t := 42) ?hr ?_; (case hd => rfl); (case hg => rfl); (case hr => first | (go_simp; done) | (go_simp; rfl)); intro gb430 hg w21 hbox hb; have n0_ := Aside0.mk (blk_below (g := gb426) (o := .cells #[.slice (some ad428) l0.length c0] 59 (0, 0)) (by (with_reducible repeat (first | refine blk_drewN ?_ _ | refine blk_drew ?_ | refine blk_alloc ?_ _)); exact BK426.out) hb); have n1_ := Aside0.mk (below_step (by repeat (first | (with_reducible first | exact HB.out | apply below_alloc | apply pw_below_drewN | apply below_drew1 | refine below_set ?_ GE426.out) | exact HB.out)) hb); have n2_ := Aside0.mk (hbox); have n3_ := Aside0.mk ((by rw [hg]; exact (below_size (by repeat (first | (with_reducible first | exact HB.out | apply below_alloc | apply pw_below_drewN | apply below_drew1 | refine below_set ?_ GE426.out) | exact HB.out))) : w.heap.size ≤ gb430)); have n4_ := Aside0.mk ((by rw [hg]; exact (below_size (by repeat (first | (with_reducible first | exact HB.out | apply below_alloc | apply pw_below_drewN | apply below_drew1 | refine below_set ?_ GE426.out) | exact HB.out))) : w.heap.size ≤ gb430)); have n5_ := Aside0.mk ((by rw [hg]; exact Nat.ne_of_lt (blk_lt (g := gb426) (o := .cells #[.slice (some ad428) l0.length c0] 59 (0, 0)) (by (with_reducible repeat (first | refine blk_drewN ?_ _ | refine blk_drew ?_ | refine blk_alloc ?_ _)); exact BK426.out)) : gb426 ≠ gb430)); have n6_ := Aside0.mk ((by rw [hg]; exact Nat.ne_of_gt (blk_lt (g := gb426) (o := .cells #[.slice (some ad428) l0.length c0] 59 (0, 0)) (by (with_reducible repeat (first | refine blk_drewN ?_ _ | refine blk_drew ?_ | refine blk_alloc ?_ _)); exact BK426.out)) : gb430 ≠ gb426)); clear BK426; clear HB; have BK426 := n0_; have HB := n1_; have BK430 := n2_; have GW430 := n3_; have GE430 := n4_; have NB426_430 := n5_; have NB430_426 := n6_; clear n0_ n1_ n2_ n3_ n4_ n5_ n6_; clear hb hbox hg; have hnb22 := NB430_426.out; have hnc22 := NB426_430.out; have hcz23_0 : w21.cell? ⟨gb430, 0, none⟩ = some (.int .i64 0) := (blk_cell BK430.out 0).trans rfl; have hcz23_1 : w21.cell? ⟨gb430, 1, none⟩ = some (.int .i64 0) := (blk_cell BK430.out 1).trans rfl; have hfz23_0 := blk_frozen BK430.out 0; have hfz23_1 := blk_frozen BK430.out 1; have hcz24_0 : w21.cell? ⟨gb426, 0, none⟩ = some (.slice (some ad428) l0.length c0) := (blk_cell BK426.out 0).trans rfl; have hfz24_0 := blk_frozen BK426.out 0; have p431 : 0 ≤ (x24_3 : Int) := of_decide_eq_true (by first | (with_reducible assumption) | assumption); have q431 : x24_3 < (l0.length : Int) := of_decide_eq_true (by first | (with_reducible assumption) | assumption); obtain ⟨ad431, A431_0, c431_0, e431, hx431_0, hl431_0, hi431_0⟩ := at_L9 HR0.out x24_3 p431 q431; obtain rfl : ad428 = ad431 := (by injection e431); have hn431_0 : ad428.block ≠ gb430 := Nat.ne_of_lt (Nat.lt_of_lt_of_le (by have := World.block_lt_of_cell? _ _ hx431_0; first | rwa [add_block] at this | exact this) GW430.out); have hn431_1 : ad428.block ≠ gb430 := Nat.ne_of_lt (Nat.lt_of_lt_of_le (by have := World.block_lt_of_cell? _ _ hx431_0; first | rwa [add_block] at this | exact this) GW430.out); replace hx431_0 := (HB.out.cell (World.block_lt_of_cell? w _ hx431_0)).trans hx431_0; have HR431_0 := Aside0.mk hi431_0; have HC431_0 := Aside0.mk hl431_0; clear hi431_0 hl431_0; replace hx431_0 := (cell_far (p := ⟨gb430, 0, none⟩) (by first | (rw [add_block]; exact hn431_0) | (show (Addr.add _ _).block ≠ _; rw [add_block]; exact hn431_0) | exact hn431_0) (.int .i64 ((rd_T42 (rd_L9 l0 x17_2) x24_3).f0))).trans hx431_0; replace hx431_0 := (cell_far (p := ⟨gb430, 1, none⟩) (by first | (rw [add_block]; exact hn431_1) | (show (Addr.add _ _).block ≠ _; rw [add_block]; exact hn431_1) | exact hn431_1) (.int .i64 ((rd_T42 (rd_L9 l0 x17_2) x24_3).f1))).trans hx431_0; (try have hy431_0 := fun (n_ : Nat) => (show ((((w21.drewN n_).setCell ⟨gb430, 0, none⟩ (.int .i64 ((rd_T42 (rd_L9 l0 x17_2) x24_3).f0))).setCell ⟨gb430, 1, none⟩ (.int .i64 ((rd_T42 (rd_L9 l0 x17_2) x24_3).f1)))).cell? _ = some _ from hx431_0)); clear hn431_0; clear hn431_1; replace p431 := eq_true p431; replace q431 := eq_true q431; have p432 : 0 ≤ (x17_2 : Int) := of_decide_eq_true (by first | (with_reducible assumption) | assumption); have q432 : x17_2 < ((rd_L9 l0 x24_3).length : Int) := of_decide_eq_true (by first | (with_reducible assumption) | assumption); obtain ⟨ad432, e432, hx432_0, hx432_1⟩ := at_T42 HR431_0.out x17_2 p432 q432; cases e432; have hn432_0 : ad432.block ≠ gb430 := Nat.ne_of_lt (Nat.lt_of_lt_of_le (by have := World.block_lt_of_cell? _ _ hx432_0; first | rwa [add_block] at this | exact this) GW430.out); have hn432_1 : ad432.block ≠ gb430 := Nat.ne_of_lt (Nat.lt_of_lt_of_le (by have := World.block_lt_of_cell? _ _ hx432_0; first | rwa [add_block] at this | exact this) GW430.out); replace hx432_0 := (HB.out.cell (World.block_lt_of_cell? w _ hx432_0)).trans hx432_0; replace hx432_1 := (HB.out.cell (World.block_lt_of_cell? w _ hx432_1)).trans hx432_1; replace hx432_0 := (cell_far (p := ⟨gb430, 0, none⟩) (by first | (rw [add_block]; exact hn432_0) | (show (Addr.add _ _).block ≠ _; rw [add_block]; exact hn432_0) | exact hn432_0) (.int .i64 ((rd_T42 (rd_L9 l0 x17_2) x24_3).f0))).trans hx432_0; replace hx432_1 := (cell_far (p := ⟨gb430, 0, none⟩) (by first | (rw [add_block]; exact hn432_0) | (show (Addr.add _ _).block ≠ _; rw [add_block]; exact hn432_0) | exact hn432_0) (.int .i64 ((rd_T42 (rd_L9 l0 x17_2) x24_3).f0))).trans hx432_1; replace hx432_0 := (cell_far (p := ⟨gb430, 1, none⟩) (by first | (rw [add_block]; exact hn432_1) | (show (Addr.add _ _).block ≠ _; rw [add_block]; exact hn432_1) | exact hn432_1) (.int .i64 ((rd_T42 (rd_L9 l0 x17_2) x24_3).f1))).trans hx432_0; replace hx432_1 := (cell_far (p := ⟨gb430, 1, none⟩) (by first | (rw [add_block]; exact hn432_1) | (show (Addr.add _ _).block ≠ _; rw [add_block]; exact hn432_1) | exact hn432_1) (.int .i64 ((rd_T42 (rd_L9 l0 x17_2) x24_3).f1))).trans hx432_1; (try have hy432_0 := fun (n_ : Nat) => (show ((((w21.drewN n_).setCell ⟨gb430, 0, none⟩ (.int .i64 ((rd_T42 (rd_L9 l0 x17_2) x24_3).f0))).setCell ⟨gb430, 1, none⟩ (.int .i64 ((rd_T42 (rd_L9 l0 x17_2) x24_3).f1)))).cell? _ = some _ from hx432_0)); (try have hy432_1 := fun (n_ : Nat) => (show ((((w21.drewN n_).setCell ⟨gb430, 0, none⟩ (.int .i64 ((rd_T42 (rd_L9 l0 x17_2) x24_3).f0))).setCell ⟨gb430, 1, none⟩ (.int .i64 ((rd_T42 (rd_L9 l0 x17_2) x24_3).f1)))).cell? _ = some _ from hx432_1)); clear hn432_0; clear hn432_1; replace p432 := eq_true p432; replace q432 := eq_true q432))
                                    repeat (go_quiet (first | ((with_reducible refine gate_dst (N := 6) rfl ?_); refine box_event ?hg (N := 6) ?hd (cs := #[.int .i64 0, .int .i64 0]) (t := 42) ?hr ?_; (case hd => rfl); (case hg => rfl); (case hr => first | (go_simp; done) | (go_simp; rfl)); intro gb430 hg w21 hbox hb; have n0_ := Aside0.mk (blk_below (g := gb426) (o := .cells #[.slice (some ad428) l0.length c0] 59 (0, 0)) (by (with_reducible repeat (first | refine blk_drewN ?_ _ | refine blk_drew ?_ | refine blk_alloc ?_ _)); exact BK426.out) hb); have n1_ := Aside0.mk (below_step (by repeat (first | (with_reducible first | exact HB.out | apply below_alloc | apply pw_below_drewN | apply below_drew1 | refine below_set ?_ GE426.out) | exact HB.out)) hb); have n2_ := Aside0.mk (hbox); have n3_ := Aside0.mk ((by rw [hg]; exact (below_size (by repeat (first | (with_reducible first | exact HB.out | apply below_alloc | apply pw_below_drewN | apply below_drew1 | refine below_set ?_ GE426.out) | exact HB.out))) : w.heap.size ≤ gb430)); have n4_ := Aside0.mk ((by rw [hg]; exact (below_size (by repeat (first | (with_reducible first | exact HB.out | apply below_alloc | apply pw_below_drewN | apply below_drew1 | refine below_set ?_ GE426.out) | exact HB.out))) : w.heap.size ≤ gb430)); have n5_ := Aside0.mk ((by rw [hg]; exact Nat.ne_of_lt (blk_lt (g := gb426) (o := .cells #[.slice (some ad428) l0.length c0] 59 (0, 0)) (by (with_reducible repeat (first | refine blk_drewN ?_ _ | refine blk_drew ?_ | refine blk_alloc ?_ _)); exact BK426.out)) : gb426 ≠ gb430)); have n6_ := Aside0.mk ((by rw [hg]; exact Nat.ne_of_gt (blk_lt (g := gb426) (o := .cells #[.slice (some ad428) l0.length c0] 59 (0, 0)) (by (with_reducible repeat (first | refine blk_drewN ?_ _ | refine blk_drew ?_ | refine blk_alloc ?_ _)); exact BK426.out)) : gb430 ≠ gb426)); clear BK426; clear HB; have BK426 := n0_; have HB := n1_; have BK430 := n2_; have GW430 := n3_; have GE430 := n4_; have NB426_430 := n5_; have NB430_426 := n6_; clear n0_ n1_ n2_ n3_ n4_ n5_ n6_; clear hb hbox hg; have hnb22 := NB430_426.out; have hnc22 := NB426_430.out; have hcz23_0 : w21.cell? ⟨gb430, 0, none⟩ = some (.int .i64 0) := (blk_cell BK430.out 0).trans rfl; have hcz23_1 : w21.cell? ⟨gb430, 1, none⟩ = some (.int .i64 0) := (blk_cell BK430.out 1).trans rfl; have hfz23_0 := blk_frozen BK430.out 0; have hfz23_1 := blk_frozen BK430.out 1; have hcz24_0 : w21.cell? ⟨gb426, 0, none⟩ = some (.slice (some ad428) l0.length c0) := (blk_cell BK426.out 0).trans rfl; have hfz24_0 := blk_frozen BK426.out 0; have p431 : 0 ≤ (x24_3 : Int) := of_decide_eq_true (by first | (with_reducible assumption) | assumption); have q431 : x24_3 < (l0.length : Int) := of_decide_eq_true (by first | (with_reducible assumption) | assumption); obtain ⟨ad431, A431_0, c431_0, e431, hx431_0, hl431_0, hi431_0⟩ := at_L9 HR0.out x24_3 p431 q431; obtain rfl : ad428 = ad431 := (by injection e431); have hn431_0 : ad428.block ≠ gb430 := Nat.ne_of_lt (Nat.lt_of_lt_of_le (by have := World.block_lt_of_cell? _ _ hx431_0; first | rwa [add_block] at this | exact this) GW430.out); have hn431_1 : ad428.block ≠ gb430 := Nat.ne_of_lt (Nat.lt_of_lt_of_le (by have := World.block_lt_of_cell? _ _ hx431_0; first | rwa [add_block] at this | exact this) GW430.out); replace hx431_0 := (HB.out.cell (World.block_lt_of_cell? w _ hx431_0)).trans hx431_0; have HR431_0 := Aside0.mk hi431_0; have HC431_0 := Aside0.mk hl431_0; clear hi431_0 hl431_0; replace hx431_0 := (cell_far (p := ⟨gb430, 0, none⟩) (by first | (rw [add_block]; exact hn431_0) | (show (Addr.add _ _).block ≠ _; rw [add_block]; exact hn431_0) | exact hn431_0) (.int .i64 ((rd_T42 (rd_L9 l0 x17_2) x24_3).f0))).trans hx431_0; replace hx431_0 := (cell_far (p := ⟨gb430, 1, none⟩) (by first | (rw [add_block]; exact hn431_1) | (show (Addr.add _ _).block ≠ _; rw [add_block]; exact hn431_1) | exact hn431_1) (.int .i64 ((rd_T42 (rd_L9 l0 x17_2) x24_3).f1))).trans hx431_0; (try have hy431_0 := fun (n_ : Nat) => (show ((((w21.drewN n_).setCell ⟨gb430, 0, none⟩ (.int .i64 ((rd_T42 (rd_L9 l0 x17_2) x24_3).f0))).setCell ⟨gb430, 1, none⟩ (.int .i64 ((rd_T42 (rd_L9 l0 x17_2) x24_3).f1)))).cell? _ = some _ from hx431_0)); clear hn431_0; clear hn431_1; replace p431 := eq_true p431; replace q431 := eq_true q431; have p432 : 0 ≤ (x17_2 : Int) := of_decide_eq_true (by first | (with_reducible assumption) | assumption); have q432 : x17_2 < ((rd_L9 l0 x24_3).length : Int) := of_decide_eq_true (by first | (with_reducible assumption) | assumption); obtain ⟨ad432, e432, hx432_0, hx432_1⟩ := at_T42 HR431_0.out x17_2 p432 q432; cases e432; have hn432_0 : ad432.block ≠ gb430 := Nat.ne_of_lt (Nat.lt_of_lt_of_le (by have := World.block_lt_of_cell? _ _ hx432_0; first | rwa [add_block] at this | exact this) GW430.out); have hn432_1 : ad432.block ≠ gb430 := Nat.ne_of_lt (Nat.lt_of_lt_of_le (by have := World.block_lt_of_cell? _ _ hx432_0; first | rwa [add_block] at this | exact this) GW430.out); replace hx432_0 := (HB.out.cell (World.block_lt_of_cell? w _ hx432_0)).trans hx432_0; replace hx432_1 := (HB.out.cell (World.block_lt_of_cell? w _ hx432_1)).trans hx432_1; replace hx432_0 := (cell_far (p := ⟨gb430, 0, none⟩) (by first | (rw [add_block]; exact hn432_0) | (show (Addr.add _ _).block ≠ _; rw [add_block]; exact hn432_0) | exact hn432_0) (.int .i64 ((rd_T42 (rd_L9 l0 x17_2) x24_3).f0))).trans hx432_0; replace hx432_1 := (cell_far (p := ⟨gb430, 0, none⟩) (by first | (rw [add_block]; exact hn432_0) | (show (Addr.add _ _).block ≠ _; rw [add_block]; exact hn432_0) | exact hn432_0) (.int .i64 ((rd_T42 (rd_L9 l0 x17_2) x24_3).f0))).trans hx432_1; replace hx432_0 := (cell_far (p := ⟨gb430, 1, none⟩) (by first | (rw [add_block]; exact hn432_1) | (show (Addr.add _ _).block ≠ _; rw [add_block]; exact hn432_1) | exact hn432_1) (.int .i64 ((rd_T42 (rd_L9 l0 x17_2) x24_3).f1))).trans hx432_0; replace hx432_1 := (cell_far (p := ⟨gb430, 1, none⟩) (by first | (rw [add_block]; exact hn432_1) | (show (Addr.add _ _).block ≠ _; rw [add_block]; exact hn432_1) | exact hn432_1) (.int .i64 ((rd_T42 (rd_L9 l0 x17_2) x24_3).f1))).trans hx432_1; (try have hy432_0 := fun (n_ : Nat) => (show ((((w21.drewN n_).setCell ⟨gb430, 0, none⟩ (.int .i64 ((rd_T42 (rd_L9 l0 x17_2) x24_3).f0))).setCell ⟨gb430, 1, none⟩ (.int .i64 ((rd_T42 (rd_L9 l0 x17_2) x24_3).f1)))).cell? _ = some _ from hx432_0)); (try have hy432_1 := fun (n_ : Nat) => (show ((((w21.drewN n_).setCell ⟨gb430, 0, none⟩ (.int .i64 ((rd_T42 (rd_L9 l0 x17_2) x24_3).f0))).setCell ⟨gb430, 1, none⟩ (.int .i64 ((rd_T42 (rd_L9 l0 x17_2) x24_3).f1)))).cell? _ = some _ from hx432_1)); clear hn432_0; clear hn432_1; replace p432 := eq_true p432; replace q432 := eq_true q432)); try go_wp2_with (first | ((with_reducible refine gate_dst (N := 6) rfl ?_); refine box_event ?hg (N := 6) ?hd (cs := #[.int .i64 0, .int .i64 0]) (t := 42) ?hr ?_; (case hd => rfl); (case hg => rfl); (case hr => first | (go_simp; done) | (go_simp; rfl)); intro gb430 hg w21 hbox hb; have n0_ := Aside0.mk (blk_below (g := gb426) (o := .cells #[.slice (some ad428) l0.length c0] 59 (0, 0)) (by (with_reducible repeat (first | refine blk_drewN ?_ _ | refine blk_drew ?_ | refine blk_alloc ?_ _)); exact BK426.out) hb); have n1_ := Aside0.mk (below_step (by repeat (first | (with_reducible first | exact HB.out | apply below_alloc | apply pw_below_drewN | apply below_drew1 | refine below_set ?_ GE426.out) | exact HB.out)) hb); have n2_ := Aside0.mk (hbox); have n3_ := Aside0.mk ((by rw [hg]; exact (below_size (by repeat (first | (with_reducible first | exact HB.out | apply below_alloc | apply pw_below_drewN | apply below_drew1 | refine below_set ?_ GE426.out) | exact HB.out))) : w.heap.size ≤ gb430)); have n4_ := Aside0.mk ((by rw [hg]; exact (below_size (by repeat (first | (with_reducible first | exact HB.out | apply below_alloc | apply pw_below_drewN | apply below_drew1 | refine below_set ?_ GE426.out) | exact HB.out))) : w.heap.size ≤ gb430)); have n5_ := Aside0.mk ((by rw [hg]; exact Nat.ne_of_lt (blk_lt (g := gb426) (o := .cells #[.slice (some ad428) l0.length c0] 59 (0, 0)) (by (with_reducible repeat (first | refine blk_drewN ?_ _ | refine blk_drew ?_ | refine blk_alloc ?_ _)); exact BK426.out)) : gb426 ≠ gb430)); have n6_ := Aside0.mk ((by rw [hg]; exact Nat.ne_of_gt (blk_lt (g := gb426) (o := .cells #[.slice (some ad428) l0.length c0] 59 (0, 0)) (by (with_reducible repeat (first | refine blk_drewN ?_ _ | refine blk_drew ?_ | refine blk_alloc ?_ _)); exact BK426.out)) : gb430 ≠ gb426)); clear BK426; clear HB; have BK426 := n0_; have HB := n1_; have BK430 := n2_; have GW430 := n3_; have GE430 := n4_; have NB426_430 := n5_; have NB430_426 := n6_; clear n0_ n1_ n2_ n3_ n4_ n5_ n6_; clear hb hbox hg; have hnb22 := NB430_426.out; have hnc22 := NB426_430.out; have hcz23_0 : w21.cell? ⟨gb430, 0, none⟩ = some (.int .i64 0) := (blk_cell BK430.out 0).trans rfl; have hcz23_1 : w21.cell? ⟨gb430, 1, none⟩ = some (.int .i64 0) := (blk_cell BK430.out 1).trans rfl; have hfz23_0 := blk_frozen BK430.out 0; have hfz23_1 := blk_frozen BK430.out 1; have hcz24_0 : w21.cell? ⟨gb426, 0, none⟩ = some (.slice (some ad428) l0.length c0) := (blk_cell BK426.out 0).trans rfl; have hfz24_0 := blk_frozen BK426.out 0; have p431 : 0 ≤ (x24_3 : Int) := of_decide_eq_true (by first | (with_reducible assumption) | assumption); have q431 : x24_3 < (l0.length : Int) := of_decide_eq_true (by first | (with_reducible assumption) | assumption); obtain ⟨ad431, A431_0, c431_0, e431, hx431_0, hl431_0, hi431_0⟩ := at_L9 HR0.out x24_3 p431 q431; obtain rfl : ad428 = ad431 := (by injection e431); have hn431_0 : ad428.block ≠ gb430 := Nat.ne_of_lt (Nat.lt_of_lt_of_le (by have := World.block_lt_of_cell? _ _ hx431_0; first | rwa [add_block] at this | exact this) GW430.out); have hn431_1 : ad428.block ≠ gb430 := Nat.ne_of_lt (Nat.lt_of_lt_of_le (by have := World.block_lt_of_cell? _ _ hx431_0; first | rwa [add_block] at this | exact this) GW430.out); replace hx431_0 := (HB.out.cell (World.block_lt_of_cell? w _ hx431_0)).trans hx431_0; have HR431_0 := Aside0.mk hi431_0; have HC431_0 := Aside0.mk hl431_0; clear hi431_0 hl431_0; replace hx431_0 := (cell_far (p := ⟨gb430, 0, none⟩) (by first | (rw [add_block]; exact hn431_0) | (show (Addr.add _ _).block ≠ _; rw [add_block]; exact hn431_0) | exact hn431_0) (.int .i64 ((rd_T42 (rd_L9 l0 x17_2) x24_3).f0))).trans hx431_0; replace hx431_0 := (cell_far (p := ⟨gb430, 1, none⟩) (by first | (rw [add_block]; exact hn431_1) | (show (Addr.add _ _).block ≠ _; rw [add_block]; exact hn431_1) | exact hn431_1) (.int .i64 ((rd_T42 (rd_L9 l0 x17_2) x24_3).f1))).trans hx431_0; (try have hy431_0 := fun (n_ : Nat) => (show ((((w21.drewN n_).setCell ⟨gb430, 0, none⟩ (.int .i64 ((rd_T42 (rd_L9 l0 x17_2) x24_3).f0))).setCell ⟨gb430, 1, none⟩ (.int .i64 ((rd_T42 (rd_L9 l0 x17_2) x24_3).f1)))).cell? _ = some _ from hx431_0)); clear hn431_0; clear hn431_1; replace p431 := eq_true p431; replace q431 := eq_true q431; have p432 : 0 ≤ (x17_2 : Int) := of_decide_eq_true (by first | (with_reducible assumption) | assumption); have q432 : x17_2 < ((rd_L9 l0 x24_3).length : Int) := of_decide_eq_true (by first | (with_reducible assumption) | assumption); obtain ⟨ad432, e432, hx432_0, hx432_1⟩ := at_T42 HR431_0.out x17_2 p432 q432; cases e432; have hn432_0 : ad432.block ≠ gb430 := Nat.ne_of_lt (Nat.lt_of_lt_of_le (by have := World.block_lt_of_cell? _ _ hx432_0; first | rwa [add_block] at this | exact this) GW430.out); have hn432_1 : ad432.block ≠ gb430 := Nat.ne_of_lt (Nat.lt_of_lt_of_le (by have := World.block_lt_of_cell? _ _ hx432_0; first | rwa [add_block] at this | exact this) GW430.out); replace hx432_0 := (HB.out.cell (World.block_lt_of_cell? w _ hx432_0)).trans hx432_0; replace hx432_1 := (HB.out.cell (World.block_lt_of_cell? w _ hx432_1)).trans hx432_1; replace hx432_0 := (cell_far (p := ⟨gb430, 0, none⟩) (by first | (rw [add_block]; exact hn432_0) | (show (Addr.add _ _).block ≠ _; rw [add_block]; exact hn432_0) | exact hn432_0) (.int .i64 ((rd_T42 (rd_L9 l0 x17_2) x24_3).f0))).trans hx432_0; replace hx432_1 := (cell_far (p := ⟨gb430, 0, none⟩) (by first | (rw [add_block]; exact hn432_0) | (show (Addr.add _ _).block ≠ _; rw [add_block]; exact hn432_0) | exact hn432_0) (.int .i64 ((rd_T42 (rd_L9 l0 x17_2) x24_3).f0))).trans hx432_1; replace hx432_0 := (cell_far (p := ⟨gb430, 1, none⟩) (by first | (rw [add_block]; exact hn432_1) | (show (Addr.add _ _).block ≠ _; rw [add_block]; exact hn432_1) | exact hn432_1) (.int .i64 ((rd_T42 (rd_L9 l0 x17_2) x24_3).f1))).trans hx432_0; replace hx432_1 := (cell_far (p := ⟨gb430, 1, none⟩) (by first | (rw [add_block]; exact hn432_1) | (show (Addr.add _ _).block ≠ _; rw [add_block]; exact hn432_1) | exact hn432_1) (.int .i64 ((rd_T42 (rd_L9 l0 x17_2) x24_3).f1))).trans hx432_1; (try have hy432_0 := fun (n_ : Nat) => (show ((((w21.drewN n_).setCell ⟨gb430, 0, none⟩ (.int .i64 ((rd_T42 (rd_L9 l0 x17_2) x24_3).f0))).setCell ⟨gb430, 1, none⟩ (.int .i64 ((rd_T42 (rd_L9 l0 x17_2) x24_3).f1)))).cell? _ = some _ from hx432_0)); (try have hy432_1 := fun (n_ : Nat) => (show ((((w21.drewN n_).setCell ⟨gb430, 0, none⟩ (.int .i64 ((rd_T42 (rd_L9 l0 x17_2) x24_3).f0))).setCell ⟨gb430, 1, none⟩ (.int .i64 ((rd_T42 (rd_L9 l0 x17_2) x24_3).f1)))).cell? _ = some _ from hx432_1)); clear hn432_0; clear hn432_1; replace p432 := eq_true p432; replace q432 := eq_true q432)))
                                    go_ret
                                    exact ⟨by first | rfl | (simp [errW_none, errW_some] <;> rfl) | (simp [*, errW_none, errW_some] <;> rfl), by repeat (first | (with_reducible first | exact HB.out | apply below_alloc | apply pw_below_drewN | apply below_drew1 | refine below_set ?_ GE426.out | refine below_set ?_ GE430.out) | exact HB.out)⟩
                                  · rw [if_neg c20] at H
                                    have c20b0 : (!(((rd_T42 (rd_L9 l0 x24_3) x17_2).f0) == ((rd_T42 (rd_L9 l0 x17_2) x24_3).f0)) || (!(((rd_T42 (rd_L9 l0 x24_3) x17_2).f1) == ((rd_T42 (rd_L9 l0 x17_2) x24_3).f1)))) = false := by simpa using c20
                                    clear c20
                                    have H' := Aside0.mk H
                                    clear H
                                    have p429 : 0 ≤ (x24_3 : Int) := of_decide_eq_true (by first | (with_reducible assumption) | assumption)
                                    have q429 : x24_3 < ((rd_L9 l0 x17_2).length : Int) := of_decide_eq_true (by first | (with_reducible assumption) | assumption)
                                    obtain ⟨ad429, e429, hx429_0, hx429_1⟩ := at_T42 HR428_0.out x24_3 p429 q429
                                    cases e429
                                    replace hx429_0 := (HB.out.cell (World.block_lt_of_cell? w _ hx429_0)).trans hx429_0
                                    replace hx429_1 := (HB.out.cell (World.block_lt_of_cell? w _ hx429_1)).trans hx429_1
                                    replace p429 := eq_true p429
                                    replace q429 := eq_true q429
                                    go_wp2_with (first | ((with_reducible refine gate_dst (N := 6) rfl ?_); refine box_event ?hg (N := 6) ?hd (cs := #[.int .i64 0, .int .i64 0]) (t := 42) ?hr ?_; (case hd => rfl); (case hg => rfl); (case hr => first | (go_simp; done) | (go_simp; rfl)); intro gb430 hg w25 hbox hb; have n0_ := Aside0.mk (blk_below (g := gb426) (o := .cells #[.slice (some ad428) l0.length c0] 59 (0, 0)) (by (with_reducible repeat (first | refine blk_drewN ?_ _ | refine blk_drew ?_ | refine blk_alloc ?_ _)); exact BK426.out) hb); have n1_ := Aside0.mk (below_step (by repeat (first | (with_reducible first | exact HB.out | apply below_alloc | apply pw_below_drewN | apply below_drew1 | refine below_set ?_ GE426.out) | exact HB.out)) hb); have n2_ := Aside0.mk (hbox); have n3_ := Aside0.mk ((by rw [hg]; exact (below_size (by repeat (first | (with_reducible first | exact HB.out | apply below_alloc | apply pw_below_drewN | apply below_drew1 | refine below_set ?_ GE426.out) | exact HB.out))) : w.heap.size ≤ gb430)); have n4_ := Aside0.mk ((by rw [hg]; exact (below_size (by repeat (first | (with_reducible first | exact HB.out | apply below_alloc | apply pw_below_drewN | apply below_drew1 | refine below_set ?_ GE426.out) | exact HB.out))) : w.heap.size ≤ gb430)); have n5_ := Aside0.mk ((by rw [hg]; exact Nat.ne_of_lt (blk_lt (g := gb426) (o := .cells #[.slice (some ad428) l0.length c0] 59 (0, 0)) (by (with_reducible repeat (first | refine blk_drewN ?_ _ | refine blk_drew ?_ | refine blk_alloc ?_ _)); exact BK426.out)) : gb426 ≠ gb430)); have n6_ := Aside0.mk ((by rw [hg]; exact Nat.ne_of_gt (blk_lt (g := gb426) (o := .cells #[.slice (some ad428) l0.length c0] 59 (0, 0)) (by (with_reducible repeat (first | refine blk_drewN ?_ _ | refine blk_drew ?_ | refine blk_alloc ?_ _)); exact BK426.out)) : gb430 ≠ gb426)); clear BK426; clear HB; have BK426 := n0_; have HB := n1_; have BK430 := n2_; have GW430 := n3_; have GE430 := n4_; have NB426_430 := n5_; have NB430_426 := n6_; clear n0_ n1_ n2_ n3_ n4_ n5_ n6_; clear hb hbox hg; have hnb26 := NB430_426.out; have hnc26 := NB426_430.out; have hcz27_0 : w25.cell? ⟨gb430, 0, none⟩ = some (.int .i64 0) := (blk_cell BK430.out 0).trans rfl; have hcz27_1 : w25.cell? ⟨gb430, 1, none⟩ = some (.int .i64 0) := (blk_cell BK430.out 1).trans rfl; have hfz27_0 := blk_frozen BK430.out 0; have hfz27_1 := blk_frozen BK430.out 1; have hcz28_0 : w25.cell? ⟨gb426, 0, none⟩ = some (.slice (some ad428) l0.length c0) := (blk_cell BK426.out 0).trans rfl; have hfz28_0 := blk_frozen BK426.out 0; have p431 : 0 ≤ (x24_3 : Int) := of_decide_eq_true (by first | (with_reducible assumption) | assumption); have q431 : x24_3 < (l0.length : Int) := of_decide_eq_true (by first | (with_reducible assumption) | assumption); obtain ⟨ad431, A431_0, c431_0, e431, hx431_0, hl431_0, hi431_0⟩ := at_L9 HR0.out x24_3 p431 q431; obtain rfl : ad428 = ad431 := (by injection e431); have hn431_0 : ad428.block ≠ gb430 := Nat.ne_of_lt (Nat.lt_of_lt_of_le (by have := World.block_lt_of_cell? _ _ hx431_0; first | rwa [add_block] at this | exact this) GW430.out); have hn431_1 : ad428.block ≠ gb430 := Nat.ne_of_lt (Nat.lt_of_lt_of_le (by have := World.block_lt_of_cell? _ _ hx431_0; first | rwa [add_block] at this | exact this) GW430.out); replace hx431_0 := (HB.out.cell (World.block_lt_of_cell? w _ hx431_0)).trans hx431_0; have HR431_0 := Aside0.mk hi431_0; have HC431_0 := Aside0.mk hl431_0; clear hi431_0 hl431_0; replace hx431_0 := (cell_far (p := ⟨gb430, 0, none⟩) (by first | (rw [add_block]; exact hn431_0) | (show (Addr.add _ _).block ≠ _; rw [add_block]; exact hn431_0) | exact hn431_0) (.int .i64 ((rd_T42 (rd_L9 l0 x17_2) x24_3).f0))).trans hx431_0; replace hx431_0 := (cell_far (p := ⟨gb430, 1, none⟩) (by first | (rw [add_block]; exact hn431_1) | (show (Addr.add _ _).block ≠ _; rw [add_block]; exact hn431_1) | exact hn431_1) (.int .i64 ((rd_T42 (rd_L9 l0 x17_2) x24_3).f1))).trans hx431_0; (try have hy431_0 := fun (n_ : Nat) => (show ((((w25.drewN n_).setCell ⟨gb430, 0, none⟩ (.int .i64 ((rd_T42 (rd_L9 l0 x17_2) x24_3).f0))).setCell ⟨gb430, 1, none⟩ (.int .i64 ((rd_T42 (rd_L9 l0 x17_2) x24_3).f1)))).cell? _ = some _ from hx431_0)); clear hn431_0; clear hn431_1; replace p431 := eq_true p431; replace q431 := eq_true q431; have p432 : 0 ≤ (x17_2 : Int) := of_decide_eq_true (by first | (with_reducible assumption) | assumption); have q432 : x17_2 < ((rd_L9 l0 x24_3).length : Int) := of_decide_eq_true (by first | (with_reducible assumption) | assumption); obtain ⟨ad432, e432, hx432_0, hx432_1⟩ := at_T42 HR431_0.out x17_2 p432 q432; cases e432; have hn432_0 : ad432.block ≠ gb430 := Nat.ne_of_lt (Nat.lt_of_lt_of_le (by have := World.block_lt_of_cell? _ _ hx432_0; first | rwa [add_block] at this | exact this) GW430.out); have hn432_1 : ad432.block ≠ gb430 := Nat.ne_of_lt (Nat.lt_of_lt_of_le (by have := World.block_lt_of_cell? _ _ hx432_0; first | rwa [add_block] at this | exact this) GW430.out); replace hx432_0 := (HB.out.cell (World.block_lt_of_cell? w _ hx432_0)).trans hx432_0; replace hx432_1 := (HB.out.cell (World.block_lt_of_cell? w _ hx432_1)).trans hx432_1; replace hx432_0 := (cell_far (p := ⟨gb430, 0, none⟩) (by first | (rw [add_block]; exact hn432_0) | (show (Addr.add _ _).block ≠ _; rw [add_block]; exact hn432_0) | exact hn432_0) (.int .i64 ((rd_T42 (rd_L9 l0 x17_2) x24_3).f0))).trans hx432_0; replace hx432_1 := (cell_far (p := ⟨gb430, 0, none⟩) (by first | (rw [add_block]; exact hn432_0) | (show (Addr.add _ _).block ≠ _; rw [add_block]; exact hn432_0) | exact hn432_0) (.int .i64 ((rd_T42 (rd_L9 l0 x17_2) x24_3).f0))).trans hx432_1; replace hx432_0 := (cell_far (p := ⟨gb430, 1, none⟩) (by first | (rw [add_block]; exact hn432_1) | (show (Addr.add _ _).block ≠ _; rw [add_block]; exact hn432_1) | exact hn432_1) (.int .i64 ((rd_T42 (rd_L9 l0 x17_2) x24_3).f1))).trans hx432_0; replace hx432_1 := (cell_far (p := ⟨gb430, 1, none⟩) (by first | (rw [add_block]; exact hn432_1) | (show (Addr.add _ _).block ≠ _; rw [add_block]; exact hn432_1) | exact hn432_1) (.int .i64 ((rd_T42 (rd_L9 l0 x17_2) x24_3).f1))).trans hx432_1; (try have hy432_0 := fun (n_ : Nat) => (show ((((w25.drewN n_).setCell ⟨gb430, 0, none⟩ (.int .i64 ((rd_T42 (rd_L9 l0 x17_2) x24_3).f0))).setCell ⟨gb430, 1, none⟩ (.int .i64 ((rd_T42 (rd_L9 l0 x17_2) x24_3).f1)))).cell? _ = some _ from hx432_0)); (try have hy432_1 := fun (n_ : Nat) => (show ((((w25.drewN n_).setCell ⟨gb430, 0, none⟩ (.int .i64 ((rd_T42 (rd_L9 l0 x17_2) x24_3).f0))).setCell ⟨gb430, 1, none⟩ (.int .i64 ((rd_T42 (rd_L9 l0 x17_2) x24_3).f1)))).cell? _ = some _ from hx432_1)); clear hn432_0; clear hn432_1; replace p432 := eq_true p432; replace q432 := eq_true q432))
                                    repeat (go_quiet (first | ((with_reducible refine gate_dst (N := 6) rfl ?_); refine box_event ?hg (N := 6) ?hd (cs := #[.int .i64 0, .int .i64 0]) (t := 42) ?hr ?_; (case hd => rfl); (case hg => rfl); (case hr => first | (go_simp; done) | (go_simp; rfl)); intro gb430 hg w25 hbox hb; have n0_ := Aside0.mk (blk_below (g := gb426) (o := .cells #[.slice (some ad428) l0.length c0] 59 (0, 0)) (by (with_reducible repeat (first | refine blk_drewN ?_ _ | refine blk_drew ?_ | refine blk_alloc ?_ _)); exact BK426.out) hb); have n1_ := Aside0.mk (below_step (by repeat (first | (with_reducible first | exact HB.out | apply below_alloc | apply pw_below_drewN | apply below_drew1 | refine below_set ?_ GE426.out) | exact HB.out)) hb); have n2_ := Aside0.mk (hbox); have n3_ := Aside0.mk ((by rw [hg]; exact (below_size (by repeat (first | (with_reducible first | exact HB.out | apply below_alloc | apply pw_below_drewN | apply below_drew1 | refine below_set ?_ GE426.out) | exact HB.out))) : w.heap.size ≤ gb430)); have n4_ := Aside0.mk ((by rw [hg]; exact (below_size (by repeat (first | (with_reducible first | exact HB.out | apply below_alloc | apply pw_below_drewN | apply below_drew1 | refine below_set ?_ GE426.out) | exact HB.out))) : w.heap.size ≤ gb430)); have n5_ := Aside0.mk ((by rw [hg]; exact Nat.ne_of_lt (blk_lt (g := gb426) (o := .cells #[.slice (some ad428) l0.length c0] 59 (0, 0)) (by (with_reducible repeat (first | refine blk_drewN ?_ _ | refine blk_drew ?_ | refine blk_alloc ?_ _)); exact BK426.out)) : gb426 ≠ gb430)); have n6_ := Aside0.mk ((by rw [hg]; exact Nat.ne_of_gt (blk_lt (g := gb426) (o := .cells #[.slice (some ad428) l0.length c0] 59 (0, 0)) (by (with_reducible repeat (first | refine blk_drewN ?_ _ | refine blk_drew ?_ | refine blk_alloc ?_ _)); exact BK426.out)) : gb430 ≠ gb426)); clear BK426; clear HB; have BK426 := n0_; have HB := n1_; have BK430 := n2_; have GW430 := n3_; have GE430 := n4_; have NB426_430 := n5_; have NB430_426 := n6_; clear n0_ n1_ n2_ n3_ n4_ n5_ n6_; clear hb hbox hg; have hnb26 := NB430_426.out; have hnc26 := NB426_430.out; have hcz27_0 : w25.cell? ⟨gb430, 0, none⟩ = some (.int .i64 0) := (blk_cell BK430.out 0).trans rfl; have hcz27_1 : w25.cell? ⟨gb430, 1, none⟩ = some (.int .i64 0) := (blk_cell BK430.out 1).trans rfl; have hfz27_0 := blk_frozen BK430.out 0; have hfz27_1 := blk_frozen BK430.out 1; have hcz28_0 : w25.cell? ⟨gb426, 0, none⟩ = some (.slice (some ad428) l0.length c0) := (blk_cell BK426.out 0).trans rfl; have hfz28_0 := blk_frozen BK426.out 0; have p431 : 0 ≤ (x24_3 : Int) := of_decide_eq_true (by first | (with_reducible assumption) | assumption); have q431 : x24_3 < (l0.length : Int) := of_decide_eq_true (by first | (with_reducible assumption) | assumption); obtain ⟨ad431, A431_0, c431_0, e431, hx431_0, hl431_0, hi431_0⟩ := at_L9 HR0.out x24_3 p431 q431; obtain rfl : ad428 = ad431 := (by injection e431); have hn431_0 : ad428.block ≠ gb430 := Nat.ne_of_lt (Nat.lt_of_lt_of_le (by have := World.block_lt_of_cell? _ _ hx431_0; first | rwa [add_block] at this | exact this) GW430.out); have hn431_1 : ad428.block ≠ gb430 := Nat.ne_of_lt (Nat.lt_of_lt_of_le (by have := World.block_lt_of_cell? _ _ hx431_0; first | rwa [add_block] at this | exact this) GW430.out); replace hx431_0 := (HB.out.cell (World.block_lt_of_cell? w _ hx431_0)).trans hx431_0; have HR431_0 := Aside0.mk hi431_0; have HC431_0 := Aside0.mk hl431_0; clear hi431_0 hl431_0; replace hx431_0 := (cell_far (p := ⟨gb430, 0, none⟩) (by first | (rw [add_block]; exact hn431_0) | (show (Addr.add _ _).block ≠ _; rw [add_block]; exact hn431_0) | exact hn431_0) (.int .i64 ((rd_T42 (rd_L9 l0 x17_2) x24_3).f0))).trans hx431_0; replace hx431_0 := (cell_far (p := ⟨gb430, 1, none⟩) (by first | (rw [add_block]; exact hn431_1) | (show (Addr.add _ _).block ≠ _; rw [add_block]; exact hn431_1) | exact hn431_1) (.int .i64 ((rd_T42 (rd_L9 l0 x17_2) x24_3).f1))).trans hx431_0; (try have hy431_0 := fun (n_ : Nat) => (show ((((w25.drewN n_).setCell ⟨gb430, 0, none⟩ (.int .i64 ((rd_T42 (rd_L9 l0 x17_2) x24_3).f0))).setCell ⟨gb430, 1, none⟩ (.int .i64 ((rd_T42 (rd_L9 l0 x17_2) x24_3).f1)))).cell? _ = some _ from hx431_0)); clear hn431_0; clear hn431_1; replace p431 := eq_true p431; replace q431 := eq_true q431; have p432 : 0 ≤ (x17_2 : Int) := of_decide_eq_true (by first | (with_reducible assumption) | assumption); have q432 : x17_2 < ((rd_L9 l0 x24_3).length : Int) := of_decide_eq_true (by first | (with_reducible assumption) | assumption); obtain ⟨ad432, e432, hx432_0, hx432_1⟩ := at_T42 HR431_0.out x17_2 p432 q432; cases e432; have hn432_0 : ad432.block ≠ gb430 := Nat.ne_of_lt (Nat.lt_of_lt_of_le (by have := World.block_lt_of_cell? _ _ hx432_0; first | rwa [add_block] at this | exact this) GW430.out); have hn432_1 : ad432.block ≠ gb430 := Nat.ne_of_lt (Nat.lt_of_lt_of_le (by have := World.block_lt_of_cell? _ _ hx432_0; first | rwa [add_block] at this | exact this) GW430.out); replace hx432_0 := (HB.out.cell (World.block_lt_of_cell? w _ hx432_0)).trans hx432_0; replace hx432_1 := (HB.out.cell (World.block_lt_of_cell? w _ hx432_1)).trans hx432_1; replace hx432_0 := (cell_far (p := ⟨gb430, 0, none⟩) (by first | (rw [add_block]; exact hn432_0) | (show (Addr.add _ _).block ≠ _; rw [add_block]; exact hn432_0) | exact hn432_0) (.int .i64 ((rd_T42 (rd_L9 l0 x17_2) x24_3).f0))).trans hx432_0; replace hx432_1 := (cell_far (p := ⟨gb430, 0, none⟩) (by first | (rw [add_block]; exact hn432_0) | (show (Addr.add _ _).block ≠ _; rw [add_block]; exact hn432_0) | exact hn432_0) (.int .i64 ((rd_T42 (rd_L9 l0 x17_2) x24_3).f0))).trans hx432_1; replace hx432_0 := (cell_far (p := ⟨gb430, 1, none⟩) (by first | (rw [add_block]; exact hn432_1) | (show (Addr.add _ _).block ≠ _; rw [add_block]; exact hn432_1) | exact hn432_1) (.int .i64 ((rd_T42 (rd_L9 l0 x17_2) x24_3).f1))).trans hx432_0; replace hx432_1 := (cell_far (p := ⟨gb430, 1, none⟩) (by first | (rw [add_block]; exact hn432_1) | (show (Addr.add _ _).block ≠ _; rw [add_block]; exact hn432_1) | exact hn432_1) (.int .i64 ((rd_T42 (rd_L9 l0 x17_2) x24_3).f1))).trans hx432_1; (try have hy432_0 := fun (n_ : Nat) => (show ((((w25.drewN n_).setCell ⟨gb430, 0, none⟩ (.int .i64 ((rd_T42 (rd_L9 l0 x17_2) x24_3).f0))).setCell ⟨gb430, 1, none⟩ (.int .i64 ((rd_T42 (rd_L9 l0 x17_2) x24_3).f1)))).cell? _ = some _ from hx432_0)); (try have hy432_1 := fun (n_ : Nat) => (show ((((w25.drewN n_).setCell ⟨gb430, 0, none⟩ (.int .i64 ((rd_T42 (rd_L9 l0 x17_2) x24_3).f0))).setCell ⟨gb430, 1, none⟩ (.int .i64 ((rd_T42 (rd_L9 l0 x17_2) x24_3).f1)))).cell? _ = some _ from hx432_1)); clear hn432_0; clear hn432_1; replace p432 := eq_true p432; replace q432 := eq_true q432)); try go_wp2_with (first | ((with_reducible refine gate_dst (N := 6) rfl ?_); refine box_event ?hg (N := 6) ?hd (cs := #[.int .i64 0, .int .i64 0]) (t := 42) ?hr ?_; (case hd => rfl); (case hg => rfl); (case hr => first | (go_simp; done) | (go_simp; rfl)); intro gb430 hg w25 hbox hb; have n0_ := Aside0.mk (blk_below (g := gb426) (o := .cells #[.slice (some ad428) l0.length c0] 59 (0, 0)) (by (with_reducible repeat (first | refine blk_drewN ?_ _ | refine blk_drew ?_ | refine blk_alloc ?_ _)); exact BK426.out) hb); have n1_ := Aside0.mk (below_step (by repeat (first | (with_reducible first | exact HB.out | apply below_alloc | apply pw_below_drewN | apply below_drew1 | refine below_set ?_ GE426.out) | exact HB.out)) hb); have n2_ := Aside0.mk (hbox); have n3_ := Aside0.mk ((by rw [hg]; exact (below_size (by repeat (first | (with_reducible first | exact HB.out | apply below_alloc | apply pw_below_drewN | apply below_drew1 | refine below_set ?_ GE426.out) | exact HB.out))) : w.heap.size ≤ gb430)); have n4_ := Aside0.mk ((by rw [hg]; exact (below_size (by repeat (first | (with_reducible first | exact HB.out | apply below_alloc | apply pw_below_drewN | apply below_drew1 | refine below_set ?_ GE426.out) | exact HB.out))) : w.heap.size ≤ gb430)); have n5_ := Aside0.mk ((by rw [hg]; exact Nat.ne_of_lt (blk_lt (g := gb426) (o := .cells #[.slice (some ad428) l0.length c0] 59 (0, 0)) (by (with_reducible repeat (first | refine blk_drewN ?_ _ | refine blk_drew ?_ | refine blk_alloc ?_ _)); exact BK426.out)) : gb426 ≠ gb430)); have n6_ := Aside0.mk ((by rw [hg]; exact Nat.ne_of_gt (blk_lt (g := gb426) (o := .cells #[.slice (some ad428) l0.length c0] 59 (0, 0)) (by (with_reducible repeat (first | refine blk_drewN ?_ _ | refine blk_drew ?_ | refine blk_alloc ?_ _)); exact BK426.out)) : gb430 ≠ gb426)); clear BK426; clear HB; have BK426 := n0_; have HB := n1_; have BK430 := n2_; have GW430 := n3_; have GE430 := n4_; have NB426_430 := n5_; have NB430_426 := n6_; clear n0_ n1_ n2_ n3_ n4_ n5_ n6_; clear hb hbox hg; have hnb26 := NB430_426.out; have hnc26 := NB426_430.out; have hcz27_0 : w25.cell? ⟨gb430, 0, none⟩ = some (.int .i64 0) := (blk_cell BK430.out 0).trans rfl; have hcz27_1 : w25.cell? ⟨gb430, 1, none⟩ = some (.int .i64 0) := (blk_cell BK430.out 1).trans rfl; have hfz27_0 := blk_frozen BK430.out 0; have hfz27_1 := blk_frozen BK430.out 1; have hcz28_0 : w25.cell? ⟨gb426, 0, none⟩ = some (.slice (some ad428) l0.length c0) := (blk_cell BK426.out 0).trans rfl; have hfz28_0 := blk_frozen BK426.out 0; have p431 : 0 ≤ (x24_3 : Int) := of_decide_eq_true (by first | (with_reducible assumption) | assumption); have q431 : x24_3 < (l0.length : Int) := of_decide_eq_true (by first | (with_reducible assumption) | assumption); obtain ⟨ad431, A431_0, c431_0, e431, hx431_0, hl431_0, hi431_0⟩ := at_L9 HR0.out x24_3 p431 q431; obtain rfl : ad428 = ad431 := (by injection e431); have hn431_0 : ad428.block ≠ gb430 := Nat.ne_of_lt (Nat.lt_of_lt_of_le (by have := World.block_lt_of_cell? _ _ hx431_0; first | rwa [add_block] at this | exact this) GW430.out); have hn431_1 : ad428.block ≠ gb430 := Nat.ne_of_lt (Nat.lt_of_lt_of_le (by have := World.block_lt_of_cell? _ _ hx431_0; first | rwa [add_block] at this | exact this) GW430.out); replace hx431_0 := (HB.out.cell (World.block_lt_of_cell? w _ hx431_0)).trans hx431_0; have HR431_0 := Aside0.mk hi431_0; have HC431_0 := Aside0.mk hl431_0; clear hi431_0 hl431_0; replace hx431_0 := (cell_far (p := ⟨gb430, 0, none⟩) (by first | (rw [add_block]; exact hn431_0) | (show (Addr.add _ _).block ≠ _; rw [add_block]; exact hn431_0) | exact hn431_0) (.int .i64 ((rd_T42 (rd_L9 l0 x17_2) x24_3).f0))).trans hx431_0; replace hx431_0 := (cell_far (p := ⟨gb430, 1, none⟩) (by first | (rw [add_block]; exact hn431_1) | (show (Addr.add _ _).block ≠ _; rw [add_block]; exact hn431_1) | exact hn431_1) (.int .i64 ((rd_T42 (rd_L9 l0 x17_2) x24_3).f1))).trans hx431_0; (try have hy431_0 := fun (n_ : Nat) => (show ((((w25.drewN n_).setCell ⟨gb430, 0, none⟩ (.int .i64 ((rd_T42 (rd_L9 l0 x17_2) x24_3).f0))).setCell ⟨gb430, 1, none⟩ (.int .i64 ((rd_T42 (rd_L9 l0 x17_2) x24_3).f1)))).cell? _ = some _ from hx431_0)); clear hn431_0; clear hn431_1; replace p431 := eq_true p431; replace q431 := eq_true q431; have p432 : 0 ≤ (x17_2 : Int) := of_decide_eq_true (by first | (with_reducible assumption) | assumption); have q432 : x17_2 < ((rd_L9 l0 x24_3).length : Int) := of_decide_eq_true (by first | (with_reducible assumption) | assumption); obtain ⟨ad432, e432, hx432_0, hx432_1⟩ := at_T42 HR431_0.out x17_2 p432 q432; cases e432; have hn432_0 : ad432.block ≠ gb430 := Nat.ne_of_lt (Nat.lt_of_lt_of_le (by have := World.block_lt_of_cell? _ _ hx432_0; first | rwa [add_block] at this | exact this) GW430.out); have hn432_1 : ad432.block ≠ gb430 := Nat.ne_of_lt (Nat.lt_of_lt_of_le (by have := World.block_lt_of_cell? _ _ hx432_0; first | rwa [add_block] at this | exact this) GW430.out); replace hx432_0 := (HB.out.cell (World.block_lt_of_cell? w _ hx432_0)).trans hx432_0; replace hx432_1 := (HB.out.cell (World.block_lt_of_cell? w _ hx432_1)).trans hx432_1; replace hx432_0 := (cell_far (p := ⟨gb430, 0, none⟩) (by first | (rw [add_block]; exact hn432_0) | (show (Addr.add _ _).block ≠ _; rw [add_block]; exact hn432_0) | exact hn432_0) (.int .i64 ((rd_T42 (rd_L9 l0 x17_2) x24_3).f0))).trans hx432_0; replace hx432_1 := (cell_far (p := ⟨gb430, 0, none⟩) (by first | (rw [add_block]; exact hn432_0) | (show (Addr.add _ _).block ≠ _; rw [add_block]; exact hn432_0) | exact hn432_0) (.int .i64 ((rd_T42 (rd_L9 l0 x17_2) x24_3).f0))).trans hx432_1; replace hx432_0 := (cell_far (p := ⟨gb430, 1, none⟩) (by first | (rw [add_block]; exact hn432_1) | (show (Addr.add _ _).block ≠ _; rw [add_block]; exact hn432_1) | exact hn432_1) (.int .i64 ((rd_T42 (rd_L9 l0 x17_2) x24_3).f1))).trans hx432_0; replace hx432_1 := (cell_far (p := ⟨gb430, 1, none⟩) (by first | (rw [add_block]; exact hn432_1) | (show (Addr.add _ _).block ≠ _; rw [add_block]; exact hn432_1) | exact hn432_1) (.int .i64 ((rd_T42 (rd_L9 l0 x17_2) x24_3).f1))).trans hx432_1; (try have hy432_0 := fun (n_ : Nat) => (show ((((w25.drewN n_).setCell ⟨gb430, 0, none⟩ (.int .i64 ((rd_T42 (rd_L9 l0 x17_2) x24_3).f0))).setCell ⟨gb430, 1, none⟩ (.int .i64 ((rd_T42 (rd_L9 l0 x17_2) x24_3).f1)))).cell? _ = some _ from hx432_0)); (try have hy432_1 := fun (n_ : Nat) => (show ((((w25.drewN n_).setCell ⟨gb430, 0, none⟩ (.int .i64 ((rd_T42 (rd_L9 l0 x17_2) x24_3).f0))).setCell ⟨gb430, 1, none⟩ (.int .i64 ((rd_T42 (rd_L9 l0 x17_2) x24_3).f1)))).cell? _ = some _ from hx432_1)); clear hn432_0; clear hn432_1; replace p432 := eq_true p432; replace q432 := eq_true q432)))
                                    go_roundg k3
                                    case measure => have := HJ1.out; have := HK2.out; have := HK3.out; omega
                                    case rel => exact ⟨(wrap64 (x24_3 + 1)), (by first | rfl | (simp; done) | (simp [*]; done)), H', ⟨by have := HJ1.out; have := HK2.out; have := HK3.out; omega⟩, ⟨by (with_reducible repeat (first | refine blk_drewN ?_ _ | refine blk_drew ?_ | refine blk_alloc ?_ _)); refine blk_far ?_ NB426_430.out _; (with_reducible repeat (first | refine blk_drewN ?_ _ | refine blk_drew ?_ | refine blk_alloc ?_ _)); refine blk_far ?_ NB426_430.out _; (with_reducible repeat (first | refine blk_drewN ?_ _ | refine blk_drew ?_ | refine blk_alloc ?_ _)); exact BK426.out⟩, ⟨by repeat (first | (with_reducible first | exact HB.out | apply below_alloc | apply pw_below_drewN | apply below_drew1 | refine below_set ?_ GE426.out | refine below_set ?_ GE430.out) | exact HB.out)⟩⟩
                                · rw [if_neg c19] at H
                                  exact absurd H (by simp)
                              · rw [if_neg c18] at H
                                exact absurd H (by simp)
                            · rw [if_neg c17] at H
                              exact absurd H (by simp)
                          · rw [if_neg c16] at H
                            exact absurd H (by simp)
                        · rw [if_neg c15] at H
                          exact absurd H (by simp)
                      · rw [if_neg c14] at H
                        have c14b0 : decide (x24_3 < ((rd_L9 l0 x17_2).length : Int)) = false := decide_eq_false c14
                        clear c14
                        have H' := Aside0.mk H
                        clear H
                        go_wp2
                        repeat (go_quiet (fail); try go_wp2)
                        go_roundg k3
                        case measure => have := HJ1.out; have := HK2.out; have := HK3.out; omega
                        case rel => exact ⟨(wrap64 (x17_2 + 1)), (by first | rfl | (simp; done) | (simp [*]; done)), H', ⟨by have := HJ1.out; have := HK2.out; have := HK3.out; omega⟩, ⟨by (with_reducible repeat (first | refine blk_drewN ?_ _ | refine blk_drew ?_ | refine blk_alloc ?_ _)); exact BK426.out⟩, ⟨by repeat (first | (with_reducible first | exact HB.out | apply below_alloc | apply pw_below_drewN | apply below_drew1 | refine below_set ?_ GE426.out) | exact HB.out)⟩⟩
                · rw [if_neg c13] at H
                  exact absurd H (by simp)
              · rw [if_neg c12] at H
                exact absurd H (by simp)
            · rw [if_neg c11] at H
              have c11b0 : decide (x17_2 < (l0.length : Int)) = false := decide_eq_false c11
              clear c11
              obtain rfl := Option.some.inj H
              go_wp2
              repeat (go_quiet (fail); try go_wp2)
              go_ret
              exact ⟨by first | rfl | (simp [errW_none, errW_some] <;> rfl) | (simp [*, errW_none, errW_some] <;> rfl), by repeat (first | (with_reducible first | exact HB.out | apply below_alloc | apply pw_below_drewN | apply below_drew1 | refine below_set ?_ GE426.out) | exact HB.out)⟩

end Go.Proofs.Ytijbdgijagmbfaa.Q
end
