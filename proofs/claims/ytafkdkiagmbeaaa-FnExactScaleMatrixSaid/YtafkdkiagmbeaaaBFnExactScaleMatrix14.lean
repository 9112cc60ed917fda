/- Contracts of Go functions and plain lemmas over what they compute; printed by the kit's print program or written by hand, joined. -/
import Derived.Test.YtafkdkiagmbeaaaBFnExactScaleMatrix4
import Derived.Test.YtafkdkiagmbeaaaBFnExactScaleMatrix13
import Derived.Test.YtafkdkiagmbeaaaBFnExactScaleMatrix10
import Derived.Test.YtafkdkiagmbeaaaBFnExactScaleMatrix11
import Derived.Test.YtafkdkiagmbeaaaBFnExactScaleMatrix12
section
namespace Go.Proofs.Ytafkdkiagmbeaaa.Q
open Go.RowKit Go.Proofs.YtafkdkiagmbeaaaW.PrintWords Go.Proofs.YtafkdkiagmbeaaaW.PrintLast Go.Proofs.YtafkdkiagmbeaaaW.PrintMore
attribute [local go_sem] max2_int min2_int max_two min_two max_three min_three max_four min_four   -- for this text's walks alone
set_option linter.unusedVariables false
set_option linter.unusedSimpArgs false

theorem impl_ScaleMatrix_1.kb {W w' : World} {g gx : Nat} {o : Obj} (hk : KeepBut W w' g none) (h : W.heap[gx]? = some o) (hn : gx ≠ g) : w'.heap[gx]? = some o := (hk.2 gx (blk_lt h) hn (by simp)).trans h
theorem impl_ScaleMatrix_1.bt {n g : Nat} {w0 W w' : World} (h0 : Below n w0 W) (h1 : Below n w0 w') (hk : KeepBut W w' g none) : But (fun k => k = g) W w' := ⟨h1.os.trans h0.os.symm, h1.tape.trans h0.tape.symm, h1.output.trans h0.output.symm, hk.1, fun i hi hm => hk.2 i hi hm (by simp)⟩
theorem impl_ScaleMatrix_1.bc {g : Nat} {w w' : World} (h : But (fun k => k = g) w w') {p : Addr} {v : Value} (hc : w.cell? p = some v) (hn : p.block ≠ g) : w'.cell? p = some v := keep_cell (show KeepBut w w' g none from ⟨h.size, fun i hi hn _ => h.block i hi hn⟩) hc hn
def impl_ScaleMatrix_1.f (k : Nat) (a0 : Int) (a1 : Int) (s702_0 : Bool) (l703 : List (List (S40))) (s704_0 : Int) (s704_1 : Int) : Option (Int × Int × Bool) := if 0 ≤ a0 then (if a0 < (l703.length : Int) then (if 0 ≤ a1 then (if a1 < ((rd_L3 l703 a0).length : Int) then ((impl_sums_mul.f k s702_0 ((rd_T40 (rd_L3 l703 a0) a1).f0) ((rd_T40 (rd_L3 l703 a0) a1).f1) s704_0 s704_1).bind fun bt337 => (some (bt337.1, bt337.2.1, bt337.2.2))) else (none)) else (none)) else (none)) else (none)
theorem impl_ScaleMatrix_1.mono : ∀ a0 a1 s702_0 l703 s704_0 s704_1 k, LeO (impl_ScaleMatrix_1.f k a0 a1 s702_0 l703 s704_0 s704_1) (impl_ScaleMatrix_1.f (k + 1) a0 a1 s702_0 l703 s704_0 s704_1) := by
  intro a0 a1 s702_0 l703 s704_0 s704_1 k
  unfold impl_ScaleMatrix_1.f
  repeat' first
      | (with_reducible exact impl_sums_mul.mono _ _ _ _ _ _)
      | (with_reducible exact LeO.refl _)
      | (with_reducible exact LeO.none _)
      | (with_reducible refine LeO.ite ?_ ?_)
      | (with_reducible refine LeO.bind ?_ (fun _ => ?_))
      | exact impl_sums_mul.mono _ _ _ _ _ _
      | exact LeO.none _
      | refine LeO.ite ?_ ?_
      | refine LeO.bind ?_ (fun _ => ?_)
def impl_ScaleMatrix_1.T1 : Bool × List (List Nat × List Nat) := (true, [([], []), ([], []), ([0, 1], [0, 1]), ([2], [2]), ([], []), ([3, 4], [3, 4]), ([5], [5]), ([], []), ([6, 7], [6, 7]), ([8, 8, 0, 1, 2, 3, 4, 5, 6, 7, 8], [8])])
def impl_ScaleMatrix_1.B1 : List Nat := [0, 0, 3, 7, 0, 31, 63, 0, 255, 511]
theorem impl_ScaleMatrix_1.tab1 : rtab .any (opsOf Try.f72 1) = impl_ScaleMatrix_1.T1 := by kernel_rfl
theorem impl_ScaleMatrix_1.bits1 : waitsOk impl_ScaleMatrix_1.T1.2 impl_ScaleMatrix_1.B1 = true := by kernel_rfl
set_option maxHeartbeats 8000000 in
set_option maxRecDepth 100000 in
theorem impl_ScaleMatrix_1.calls (k : Nat) (a0 : Int) (a1 : Int) (r1 : Int) (r2 : Int) (s1_ : Bool) (gb702 : Nat) (s702_0 : Bool) (gb703 : Nat) (A703 : Option Addr) (c703 : Nat) (l703 : List (List (S40))) (gb704 : Nat) (s704_0 : Int) (s704_1 : Int) (w0 w : World) (hg0 : w0.heap.size ≤ gb702) (hB0 : Below w0.heap.size w0 w) (hne3 : gb703 ≠ gb702) (hne4 : gb704 ≠ gb702) (hb702 : w.heap[gb702]? = some (.cells #[.bool s702_0] 84 (0, 0))) (hb703 : w.heap[gb703]? = some (.cells #[.slice A703 l703.length c703] 24 (0, 0))) (hr703 : Kd.C (Kd.slice 40 k40) w0 A703 l703.length l703) (hc703 : l703.length ≤ c703) (hb704 : w.heap[gb704]? = some (.cells #[.int .i64 s704_0, .int .i64 s704_1] 40 (0, 0))) (h : impl_ScaleMatrix_1.f k a0 a1 s702_0 l703 s704_0 s704_1 = some (r1, r2, s1_)) :
    Calls Try.prog 72 #[.int .i64 a0, .int .i64 a1, .pointer (some ⟨gb702, 0, none⟩), .pointer (some ⟨gb703, 0, none⟩), .pointer (some ⟨gb704, 0, none⟩)] w fun e w' => e = .returned (.agg #[.int .i64 r1, .int .i64 r2]) ∧ w'.heap[gb702]? = some (.cells #[.bool s1_] 84 (0, 0)) ∧ But (fun k => k = gb702) w w' := by
  have HG0 := Aside0.mk hg0
  have HB0 := Aside0.mk hB0
  clear hg0 hB0
  have NB703_702 := Aside0.mk hne3
  clear hne3
  have NB704_702 := Aside0.mk hne4
  clear hne4
  have hu40 := Try.underlying40
  have BK702 := Aside0.mk hb702
  clear hb702
  have HR703 := Aside0.mk hr703
  have HC703 := Aside0.mk hc703
  clear hr703 hc703
  have BK703 := Aside0.mk hb703
  clear hb703
  have BK704 := Aside0.mk hb704
  clear hb704
  have HB := Aside0.mk (Below.refl w.heap.size w)
  have H : (if 0 ≤ a0 then (if a0 < (l703.length : Int) then (if 0 ≤ a1 then (if a1 < ((rd_L3 l703 a0).length : Int) then ((impl_sums_mul.f k s702_0 ((rd_T40 (rd_L3 l703 a0) a1).f0) ((rd_T40 (rd_L3 l703 a0) a1).f1) s704_0 s704_1).bind fun bt337 => (some (bt337.1, bt337.2.1, bt337.2.2))) else (none)) else (none)) else (none)) else (none)) = some (r1, r2, s1_) := h
  clear h
  by_cases c3 : 0 ≤ a0
  · rw [if_pos c3] at H
    have c3b0 : decide (0 ≤ a0) = true := decide_eq_true c3
    clear c3
    by_cases c4 : a0 < (l703.length : Int)
    · rw [if_pos c4] at H
      have c4b0 : decide (a0 < (l703.length : Int)) = true := decide_eq_true c4
      clear c4
      by_cases c5 : 0 ≤ a1
      · rw [if_pos c5] at H
        have c5b0 : decide (0 ≤ a1) = true := decide_eq_true c5
        clear c5
        by_cases c6 : a1 < ((rd_L3 l703 a0).length : Int)
        · rw [if_pos c6] at H
          have c6b0 : decide (a1 < ((rd_L3 l703 a0).length : Int)) = true := decide_eq_true c6
          clear c6
          replace H := Option.bind_eq_some_iff.mp H
          obtain ⟨⟨t337, t338, s1x_⟩, A70, H⟩ := H
          replace H : (some (t337, t338, s1x_)) = some (r1, r2, s1_) := H
          have A7 := Aside0.mk A70
          clear A70
          simp only [Option.some.injEq, Prod.mk.injEq] at H
          obtain ⟨rfl, rfl, rfl⟩ := H
          go_enter Try.func72, Try.ntmps72
          try go_wp2_with (first | ((with_reducible refine gate_dst (N := 7) rfl ?_); refine box_event ?hg (N := 7) ?hd (cs := #[.int .i64 0, .int .i64 0]) (t := 40) ?hr ?_; (case hd => rfl); (case hg => rfl); (case hr => first | (go_simp; done) | (go_simp; rfl)); intro gb334 hg w8 hbox hb; have n0_ := Aside0.mk (blk_below (g := gb702) (o := .cells #[.bool s702_0] 84 (0, 0)) (by (with_reducible repeat (first | refine blk_drewN ?_ _ | refine blk_drew ?_ | refine blk_alloc ?_ _)); exact BK702.out) hb); have n1_ := Aside0.mk (blk_below (g := gb703) (o := .cells #[.slice A703 l703.length c703] 24 (0, 0)) (by (with_reducible repeat (first | refine blk_drewN ?_ _ | refine blk_drew ?_ | refine blk_alloc ?_ _)); exact BK703.out) hb); have n2_ := Aside0.mk (blk_below (g := gb704) (o := .cells #[.int .i64 s704_0, .int .i64 s704_1] 40 (0, 0)) (by (with_reducible repeat (first | refine blk_drewN ?_ _ | refine blk_drew ?_ | refine blk_alloc ?_ _)); exact BK704.out) hb); have n3_ := Aside0.mk (below_step (by repeat (first | (with_reducible first | exact HB.out | apply below_alloc | apply pw_below_drewN | apply below_drew1 | refine below_set ?_ GE702.out | refine below_set ?_ GE703.out | refine below_set ?_ GE704.out) | exact HB.out)) hb); have n4_ := Aside0.mk (hbox); have n5_ := Aside0.mk ((by rw [hg]; exact (below_size (by repeat (first | (with_reducible first | exact HB.out | apply below_alloc | apply pw_below_drewN | apply below_drew1 | refine below_set ?_ GE702.out | refine below_set ?_ GE703.out | refine below_set ?_ GE704.out) | exact HB.out))) : w.heap.size ≤ gb334)); have n6_ := Aside0.mk ((by rw [hg]; exact (below_size (by repeat (first | (with_reducible first | exact HB.out | apply below_alloc | apply pw_below_drewN | apply below_drew1 | refine below_set ?_ GE702.out | refine below_set ?_ GE703.out | refine below_set ?_ GE704.out) | exact HB.out))) : w.heap.size ≤ gb334)); have n7_ := Aside0.mk ((by rw [hg]; exact Nat.ne_of_lt (blk_lt (g := gb702) (o := .cells #[.bool s702_0] 84 (0, 0)) (by (with_reducible repeat (first | refine blk_drewN ?_ _ | refine blk_drew ?_ | refine blk_alloc ?_ _)); exact BK702.out)) : gb702 ≠ gb334)); have n8_ := Aside0.mk ((by rw [hg]; exact Nat.ne_of_gt (blk_lt (g := gb702) (o := .cells #[.bool s702_0] 84 (0, 0)) (by (with_reducible repeat (first | refine blk_drewN ?_ _ | refine blk_drew ?_ | refine blk_alloc ?_ _)); exact BK702.out)) : gb334 ≠ gb702)); have n9_ := Aside0.mk ((by rw [hg]; exact Nat.ne_of_lt (blk_lt (g := gb703) (o := .cells #[.slice A703 l703.length c703] 24 (0, 0)) (by (with_reducible repeat (first | refine blk_drewN ?_ _ | refine blk_drew ?_ | refine blk_alloc ?_ _)); exact BK703.out)) : gb703 ≠ gb334)); have n10_ := Aside0.mk ((by rw [hg]; exact Nat.ne_of_gt (blk_lt (g := gb703) (o := .cells #[.slice A703 l703.length c703] 24 (0, 0)) (by (with_reducible repeat (first | refine blk_drewN ?_ _ | refine blk_drew ?_ | refine blk_alloc ?_ _)); exact BK703.out)) : gb334 ≠ gb703)); have n11_ := Aside0.mk ((by rw [hg]; exact Nat.ne_of_lt (blk_lt (g := gb704) (o := .cells #[.int .i64 s704_0, .int .i64 s704_1] 40 (0, 0)) (by (with_reducible repeat (first | refine blk_drewN ?_ _ | refine blk_drew ?_ | refine blk_alloc ?_ _)); exact BK704.out)) : gb704 ≠ gb334)); have n12_ := Aside0.mk ((by rw [hg]; exact Nat.ne_of_gt (blk_lt (g := gb704) (o := .cells #[.int .i64 s704_0, .int .i64 s704_1] 40 (0, 0)) (by (with_reducible repeat (first | refine blk_drewN ?_ _ | refine blk_drew ?_ | refine blk_alloc ?_ _)); exact BK704.out)) : gb334 ≠ gb704)); clear BK702; clear BK703; clear BK704; clear HB; have BK702 := n0_; have BK703 := n1_; have BK704 := n2_; have HB := n3_; have BK334 := n4_; have GW334 := n5_; have GE334 := n6_; have NB702_334 := n7_; have NB334_702 := n8_; have NB703_334 := n9_; have NB334_703 := n10_; have NB704_334 := n11_; have NB334_704 := n12_; clear n0_ n1_ n2_ n3_ n4_ n5_ n6_ n7_ n8_ n9_ n10_ n11_ n12_; clear hb hbox hg))
          have n0_ := Aside0.mk (blk_drew BK702.out)
          have n1_ := Aside0.mk (blk_drew BK703.out)
          have n2_ := Aside0.mk (blk_drew BK704.out)
          have n3_ := Aside0.mk (blk_drew BK334.out)
          have n4_ := Aside0.mk (below_drew1 HB.out)
          clear BK702
          clear BK703
          clear BK704
          clear BK334
          clear HB
          have BK702 := n0_
          have BK703 := n1_
          have BK704 := n2_
          have BK334 := n3_
          have HB := n4_
          clear n0_ n1_ n2_ n3_ n4_
          have p335 : 0 ≤ (a0 : Int) := of_decide_eq_true (by first | (with_reducible assumption) | assumption)
          have q335 : a0 < (l703.length : Int) := of_decide_eq_true (by first | (with_reducible assumption) | assumption)
          obtain ⟨ad335, A335_0, c335_0, e335, hx335_0, hl335_0, hi335_0⟩ := at_L3 HR703.out a0 p335 q335
          have hz335_0 := Nat.ne_of_lt (Nat.lt_of_lt_of_le (World.block_lt_of_cell? w0 _ hx335_0) HG0.out)
          replace hx335_0 := (HB0.out.cell (World.block_lt_of_cell? w0 _ hx335_0)).trans hx335_0
          have hw335_0 := hx335_0
          cases e335
          replace hx335_0 := (HB.out.cell (World.block_lt_of_cell? w _ hx335_0)).trans hx335_0
          have HR335_0 := Aside0.mk hi335_0
          have HC335_0 := Aside0.mk hl335_0
          clear hi335_0 hl335_0
          replace p335 := eq_true p335
          replace q335 := eq_true q335
          have p336 : 0 ≤ (a1 : Int) := of_decide_eq_true (by first | (with_reducible assumption) | assumption)
          have q336 : a1 < ((rd_L3 l703 a0).length : Int) := of_decide_eq_true (by first | (with_reducible assumption) | assumption)
          obtain ⟨ad336, e336, hx336_0, hx336_1⟩ := at_T40 HR335_0.out a1 p336 q336
          have hz336_0 := Nat.ne_of_lt (Nat.lt_of_lt_of_le (World.block_lt_of_cell? w0 _ hx336_0) HG0.out)
          replace hx336_0 := (HB0.out.cell (World.block_lt_of_cell? w0 _ hx336_0)).trans hx336_0
          have hz336_1 := Nat.ne_of_lt (Nat.lt_of_lt_of_le (World.block_lt_of_cell? w0 _ hx336_1) HG0.out)
          replace hx336_1 := (HB0.out.cell (World.block_lt_of_cell? w0 _ hx336_1)).trans hx336_1
          have hw336_1 := hx336_1
          have hw336_0 := hx336_0
          cases e336
          replace hx336_0 := (HB.out.cell (World.block_lt_of_cell? w _ hx336_0)).trans hx336_0
          replace hx336_1 := (HB.out.cell (World.block_lt_of_cell? w _ hx336_1)).trans hx336_1
          replace p336 := eq_true p336
          replace q336 := eq_true q336
          refine start_ (n := 10) (S := fun w' => w'.cell? ⟨gb703, 0, none⟩ = some (.slice (some ad335) l703.length c703) ∧ w'.cell? ⟨gb704, 0, none⟩ = some (.int .i64 s704_0) ∧ w'.cell? ⟨gb704, 1, none⟩ = some (.int .i64 s704_1) ∧ w'.cell? (ad335.add (a0).toNat) = some (.slice (some ad336) (rd_L3 l703 a0).length c335_0) ∧ w'.cell? (ad336.add ((a1).toNat * 2)) = some (.int .i64 ((rd_T40 (rd_L3 l703 a0) a1).f0)) ∧ w'.cell? ⟨(ad336.add ((a1).toNat * 2)).block, (ad336.add ((a1).toNat * 2)).off + 1, none⟩ = some (.int .i64 ((rd_T40 (rd_L3 l703 a0) a1).f1))) (ds := []) #[false, false, false, false, false, false, false, false, false, false] (by kernel_rfl) rfl rfl ⟨(blk_cell BK703.out 0).trans rfl, (blk_cell BK704.out 0).trans rfl, (blk_cell BK704.out 1).trans rfl, ((HB.out.cell (World.block_lt_of_cell? w _ hw335_0)).trans hw335_0), ((HB.out.cell (World.block_lt_of_cell? w _ hw336_0)).trans hw336_0), ((HB.out.cell (World.block_lt_of_cell? w _ hw336_1)).trans hw336_1)⟩ (fun hHeld => ?_); refine with_tabW impl_ScaleMatrix_1.tab1 impl_ScaleMatrix_1.bits1 (fun HT_ HW_ => ?_)
          generalize w8.drew = w9 at BK702 BK703 BK704 BK334 HB HR335_0 hx335_0 hx336_0 hx336_1 hHeld ⊢
          refine pure_ (i := 1) (N := some 9) (v := ?_) (a' := ?_) #[false, true, false, false, false, false, false, false, false, false] rfl rfl (any_of HT_.out (by kernel_rfl)) (fun _ _ _ h => h) (Or.inl ⟨by rfl, ?_⟩) ?_ ?_
          rotate_left
          · intro w'
            go_simp
            with_reducible rfl
          rotate_left
          · simp only [Act.put, List.setIfInBounds_toArray, List.set_cons_zero, List.set_cons_succ, i64_w, i32_w]
            rfl
          refine pure_ (i := 4) (N := some 12) (v := ?_) (a' := ?_) #[false, true, false, false, true, false, false, false, false, false] rfl rfl (any_of HT_.out (by kernel_rfl)) (fun _ _ _ h => h) (Or.inl ⟨by rfl, ?_⟩) ?_ ?_
          rotate_left
          · intro w'
            go_simp
            with_reducible rfl
          rotate_left
          · simp only [Act.put, List.setIfInBounds_toArray, List.set_cons_zero, List.set_cons_succ, i64_w, i32_w]
            rfl
          refine take_ (i := 0) (N := some 8) (v := ?_) (a' := ?_) #[true, true, false, false, true, false, false, false, false, false] rfl rfl (take_ofW HT_.out HW_.out (by kernel_rfl)) (fun _ _ _ h => h) (Or.inl ⟨by rfl, ?_⟩) hHeld ?_ ?_
          rotate_left
          · rintro w' ⟨s0, s1, s2, s3, s4, s5⟩
            go_simp
            with_reducible rfl
          rotate_left
          · simp only [Act.put, List.setIfInBounds_toArray, List.set_cons_zero, List.set_cons_succ, i64_w, i32_w]
            rfl
          refine pure_ (i := 2) (N := some 10) (v := ?_) (a' := ?_) #[true, true, true, false, true, false, false, false, false, false] rfl rfl (any_of HT_.out (by kernel_rfl)) (fun _ _ _ h => h) (Or.inl ⟨by rfl, ?_⟩) ?_ ?_
          rotate_left
          · intro w'
            go_simp
            with_reducible rfl
          rotate_left
          · simp only [Act.put, List.setIfInBounds_toArray, List.set_cons_zero, List.set_cons_succ, i64_w, i32_w]
            rfl
          refine take_ (i := 3) (N := some 11) (v := ?_) (a' := ?_) #[true, true, true, true, true, false, false, false, false, false] rfl rfl (take_ofW HT_.out HW_.out (by kernel_rfl)) (fun _ _ _ h => h) (Or.inl ⟨by rfl, ?_⟩) hHeld ?_ ?_
          rotate_left
          · rintro w' ⟨s0, s1, s2, s3, s4, s5⟩
            go_simp
            with_reducible rfl
          rotate_left
          · simp only [Act.put, List.setIfInBounds_toArray, List.set_cons_zero, List.set_cons_succ, i64_w, i32_w]
            rfl
          refine pure_ (i := 5) (N := some 13) (v := ?_) (a' := ?_) #[true, true, true, true, true, true, false, false, false, false] rfl rfl (any_of HT_.out (by kernel_rfl)) (fun _ _ _ h => h) (Or.inl ⟨by rfl, ?_⟩) ?_ ?_
          rotate_left
          · intro w'
            go_simp
            with_reducible rfl
          rotate_left
          · simp only [Act.put, List.setIfInBounds_toArray, List.set_cons_zero, List.set_cons_succ, i64_w, i32_w]
            rfl
          refine take_ (i := 6) (N := some 14) (v := ?_) (a' := ?_) #[true, true, true, true, true, true, true, false, false, false] rfl rfl (take_ofW HT_.out HW_.out (by kernel_rfl)) (fun _ _ _ h => h) (Or.inl ⟨by rfl, ?_⟩) hHeld ?_ ?_
          rotate_left
          · rintro w' ⟨s0, s1, s2, s3, s4, s5⟩
            go_simp
            with_reducible rfl
          rotate_left
          · simp only [Act.put, List.setIfInBounds_toArray, List.set_cons_zero, List.set_cons_succ, i64_w, i32_w]
            rfl
          refine take_ (i := 7) (N := some 15) (v := ?_) (a' := ?_) #[true, true, true, true, true, true, true, true, false, false] rfl rfl (take_ofW HT_.out HW_.out (by kernel_rfl)) (fun _ _ _ h => h) (Or.inl ⟨by rfl, ?_⟩) hHeld ?_ ?_
          rotate_left
          · rintro w' ⟨s0, s1, s2, s3, s4, s5⟩
            go_simp
            with_reducible rfl
          rotate_left
          · simp only [Act.put, List.setIfInBounds_toArray, List.set_cons_zero, List.set_cons_succ, i64_w, i32_w]
            rfl
          refine one_ (i := 8) (N := some 16) #[true, true, true, true, true, true, true, true, true, false] rfl rfl (one_of HT_.out (by kernel_rfl)) (by decide) (fun K hK => ?_)
          refine goes_ Try.func64 (by kernel_rfl) rfl #[.pointer (some ⟨gb702, 0, none⟩), .agg #[.int .i64 ((rd_T40 (rd_L3 l703 a0) a1).f0), .int .i64 ((rd_T40 (rd_L3 l703 a0) a1).f1)], .agg #[.int .i64 s704_0, .int .i64 s704_1]] (by rfl) rfl rfl (by (try simp only [List.map_toArray, List.map_cons, List.map_nil]); first | done | rfl | (simp only [List.length_drop, List.length_take]; rfl)) ?_
          refine (impl_sums_mul.calls k gb702 s702_0 ((rd_T40 (rd_L3 l703 a0) a1).f0) ((rd_T40 (rd_L3 l703 a0) a1).f1) s704_0 s704_1 t337 t338 s1x_ w0 _ ⟨(by (with_reducible repeat (first | refine blk_drewN ?_ _ | refine blk_drew ?_ | refine blk_alloc ?_ _)); exact BK702.out), HG0.out⟩ (below_via HB0.out (by repeat (first | (with_reducible first | exact HB.out | apply below_alloc | apply pw_below_drewN | apply below_drew1 | refine below_set ?_ GE702.out | refine below_set ?_ GE703.out | refine below_set ?_ GE704.out | refine below_set ?_ GE334.out) | exact HB.out))) A7.out).mono ?_
          rintro e w10 ⟨rfl, hI1_, hb0_, hkb_⟩
          refine ⟨_, rfl, ?_⟩
          have n0_ := Aside0.mk (hI1_.1)
          have n1_ := Aside0.mk (impl_ScaleMatrix_1.kb hkb_ (by (with_reducible repeat (first | refine blk_drewN ?_ _ | refine blk_drew ?_ | refine blk_alloc ?_ _)); exact BK703.out) NB703_702.out)
          have n2_ := Aside0.mk (impl_ScaleMatrix_1.kb hkb_ (by (with_reducible repeat (first | refine blk_drewN ?_ _ | refine blk_drew ?_ | refine blk_alloc ?_ _)); exact BK704.out) NB704_702.out)
          have n3_ := Aside0.mk (impl_ScaleMatrix_1.kb hkb_ (by (with_reducible repeat (first | refine blk_drewN ?_ _ | refine blk_drew ?_ | refine blk_alloc ?_ _)); exact BK334.out) NB334_702.out)
          have n4_ := Aside0.mk (But.trans (But.of_below (by repeat (first | (with_reducible first | exact HB.out | apply below_alloc | apply pw_below_drewN | apply below_drew1 | refine below_set ?_ GE702.out | refine below_set ?_ GE703.out | refine below_set ?_ GE704.out | refine below_set ?_ GE334.out) | exact HB.out))) (impl_ScaleMatrix_1.bt (below_via HB0.out (by repeat (first | (with_reducible first | exact HB.out | apply below_alloc | apply pw_below_drewN | apply below_drew1 | refine below_set ?_ GE702.out | refine below_set ?_ GE703.out | refine below_set ?_ GE704.out | refine below_set ?_ GE334.out) | exact HB.out))) hb0_ hkb_))
          clear BK702
          clear BK703
          clear BK704
          clear BK334
          clear HB
          have BK702 := n0_
          have BK703 := n1_
          have BK704 := n2_
          have BK334 := n3_
          have HB := n4_
          clear n0_ n1_ n2_ n3_ n4_
          (try clear hb)
          (try clear hb2)
          (try clear hk)
          (try clear hi)
          refine hK.out _ _ ⟨(blk_cell BK703.out 0).trans rfl, (blk_cell BK704.out 0).trans rfl, (blk_cell BK704.out 1).trans rfl, (impl_ScaleMatrix_1.bc HB.out hw335_0 hz335_0), (impl_ScaleMatrix_1.bc HB.out hw336_0 hz336_0), (impl_ScaleMatrix_1.bc HB.out hw336_1 hz336_1)⟩ (fun hHeld => ?_)
          clear hK K
          refine norm_ (a' := ?_) ?_ ?_
          rotate_left
          · show Act.put _ (some 16) _ = _
            simp only [Act.put, List.setIfInBounds_toArray, List.set_cons_zero, List.set_cons_succ, i64_w, i32_w]
            rfl
          refine one_ (i := 9) (N := none) #[true, true, true, true, true, true, true, true, true, true] rfl rfl (one_of HT_.out (by kernel_rfl)) (by decide) (fun K hK => ?_)
          have hs11 : w10.cell? ⟨gb334, 0, none⟩ = some (.int .i64 0) := (blk_cell BK334.out 0).trans rfl
          have hfs11 := blk_frozen BK334.out 0
          have hns11_0 := NB702_334.out
          have hns11_1 := NB703_334.out
          have hns11_2 := NB704_334.out
          have hms11_0 := NB334_702.out
          have hms11_1 := NB334_703.out
          have hms11_2 := NB334_704.out
          have hs12 : w10.cell? ⟨gb334, 1, none⟩ = some (.int .i64 0) := (blk_cell BK334.out 1).trans rfl
          have hfs12 := blk_frozen BK334.out 1
          have hns12_0 := NB702_334.out
          have hns12_1 := NB703_334.out
          have hns12_2 := NB704_334.out
          have hms12_0 := NB334_702.out
          have hms12_1 := NB334_703.out
          have hms12_2 := NB334_704.out
          refine skip_ (w1 := ?_) (by rfl) rfl ?_ ?_
          rotate_left
          · go_simp
            rfl
          refine hK.out _ _ ⟨((cell_far (p := ⟨gb334, _, none⟩) NB703_334.out _).trans (((cell_far (p := ⟨gb334, _, none⟩) NB703_334.out _).trans (hHeld.1)))), ((cell_far (p := ⟨gb334, _, none⟩) NB704_334.out _).trans (((cell_far (p := ⟨gb334, _, none⟩) NB704_334.out _).trans (hHeld.2.1)))), ((cell_far (p := ⟨gb334, _, none⟩) NB704_334.out _).trans (((cell_far (p := ⟨gb334, _, none⟩) NB704_334.out _).trans (hHeld.2.2.1)))), ((cell_far (p := ⟨gb334, _, none⟩) (by first | exact Nat.ne_of_lt (Nat.lt_of_lt_of_le (by have := World.block_lt_of_cell? _ _ hw335_0; first | rwa [add_block] at this | exact this) GW334.out) | (rw [add_block]; exact Nat.ne_of_lt (Nat.lt_of_lt_of_le (by have := World.block_lt_of_cell? _ _ hw335_0; first | rwa [add_block] at this | exact this) GW334.out)) | (show (Addr.add _ _).block ≠ _; rw [add_block]; exact Nat.ne_of_lt (Nat.lt_of_lt_of_le (by have := World.block_lt_of_cell? _ _ hw335_0; first | rwa [add_block] at this | exact this) GW334.out)) | (dsimp only; exact Nat.ne_of_lt (Nat.lt_of_lt_of_le (by have := World.block_lt_of_cell? _ _ hw335_0; first | rwa [add_block] at this | exact this) GW334.out))) _).trans (((cell_far (p := ⟨gb334, _, none⟩) (by first | exact Nat.ne_of_lt (Nat.lt_of_lt_of_le (by have := World.block_lt_of_cell? _ _ hw335_0; first | rwa [add_block] at this | exact this) GW334.out) | (rw [add_block]; exact Nat.ne_of_lt (Nat.lt_of_lt_of_le (by have := World.block_lt_of_cell? _ _ hw335_0; first | rwa [add_block] at this | exact this) GW334.out)) | (show (Addr.add _ _).block ≠ _; rw [add_block]; exact Nat.ne_of_lt (Nat.lt_of_lt_of_le (by have := World.block_lt_of_cell? _ _ hw335_0; first | rwa [add_block] at this | exact this) GW334.out)) | (dsimp only; exact Nat.ne_of_lt (Nat.lt_of_lt_of_le (by have := World.block_lt_of_cell? _ _ hw335_0; first | rwa [add_block] at this | exact this) GW334.out))) _).trans (hHeld.2.2.2.1)))), ((cell_far (p := ⟨gb334, _, none⟩) (by first | exact Nat.ne_of_lt (Nat.lt_of_lt_of_le (by have := World.block_lt_of_cell? _ _ hw336_0; first | rwa [add_block] at this | exact this) GW334.out) | (rw [add_block]; exact Nat.ne_of_lt (Nat.lt_of_lt_of_le (by have := World.block_lt_of_cell? _ _ hw336_0; first | rwa [add_block] at this | exact this) GW334.out)) | (show (Addr.add _ _).block ≠ _; rw [add_block]; exact Nat.ne_of_lt (Nat.lt_of_lt_of_le (by have := World.block_lt_of_cell? _ _ hw336_0; first | rwa [add_block] at this | exact this) GW334.out)) | (dsimp only; exact Nat.ne_of_lt (Nat.lt_of_lt_of_le (by have := World.block_lt_of_cell? _ _ hw336_0; first | rwa [add_block] at this | exact this) GW334.out))) _).trans (((cell_far (p := ⟨gb334, _, none⟩) (by first | exact Nat.ne_of_lt (Nat.lt_of_lt_of_le (by have := World.block_lt_of_cell? _ _ hw336_0; first | rwa [add_block] at this | exact this) GW334.out) | (rw [add_block]; exact Nat.ne_of_lt (Nat.lt_of_lt_of_le (by have := World.block_lt_of_cell? _ _ hw336_0; first | rwa [add_block] at this | exact this) GW334.out)) | (show (Addr.add _ _).block ≠ _; rw [add_block]; exact Nat.ne_of_lt (Nat.lt_of_lt_of_le (by have := World.block_lt_of_cell? _ _ hw336_0; first | rwa [add_block] at this | exact this) GW334.out)) | (dsimp only; exact Nat.ne_of_lt (Nat.lt_of_lt_of_le (by have := World.block_lt_of_cell? _ _ hw336_0; first | rwa [add_block] at this | exact this) GW334.out))) _).trans (hHeld.2.2.2.2.1)))), ((cell_far (p := ⟨gb334, _, none⟩) (by first | exact Nat.ne_of_lt (Nat.lt_of_lt_of_le (by have := World.block_lt_of_cell? _ _ hw336_1; first | rwa [add_block] at this | exact this) GW334.out) | (rw [add_block]; exact Nat.ne_of_lt (Nat.lt_of_lt_of_le (by have := World.block_lt_of_cell? _ _ hw336_1; first | rwa [add_block] at this | exact this) GW334.out)) | (show (Addr.add _ _).block ≠ _; rw [add_block]; exact Nat.ne_of_lt (Nat.lt_of_lt_of_le (by have := World.block_lt_of_cell? _ _ hw336_1; first | rwa [add_block] at this | exact this) GW334.out)) | (dsimp only; exact Nat.ne_of_lt (Nat.lt_of_lt_of_le (by have := World.block_lt_of_cell? _ _ hw336_1; first | rwa [add_block] at this | exact this) GW334.out))) _).trans (((cell_far (p := ⟨gb334, _, none⟩) (by first | exact Nat.ne_of_lt (Nat.lt_of_lt_of_le (by have := World.block_lt_of_cell? _ _ hw336_1; first | rwa [add_block] at this | exact this) GW334.out) | (rw [add_block]; exact Nat.ne_of_lt (Nat.lt_of_lt_of_le (by have := World.block_lt_of_cell? _ _ hw336_1; first | rwa [add_block] at this | exact this) GW334.out)) | (show (Addr.add _ _).block ≠ _; rw [add_block]; exact Nat.ne_of_lt (Nat.lt_of_lt_of_le (by have := World.block_lt_of_cell? _ _ hw336_1; first | rwa [add_block] at this | exact this) GW334.out)) | (dsimp only; exact Nat.ne_of_lt (Nat.lt_of_lt_of_le (by have := World.block_lt_of_cell? _ _ hw336_1; first | rwa [add_block] at this | exact this) GW334.out))) _).trans (hHeld.2.2.2.2.2))))⟩ (fun hHeld => ?_)
          clear hK K
          refine done_ (done_of HT_.out (by kernel_rfl)) ?_
          try go_wp2
          refine bodyPost_ret (results_cell_row rfl _ _ gb334 40 #[.int .i64 t337, .int .i64 t338] (0, 0) _ rfl (by (with_reducible repeat (first | refine blk_drewN ?_ _ | refine blk_drew ?_ | refine blk_alloc ?_ _)); refine blk_put (cs := #[.int .i64 t337, .int .i64 0]) ?_ 1 _ rfl; (with_reducible repeat (first | refine blk_drewN ?_ _ | refine blk_drew ?_ | refine blk_alloc ?_ _)); refine blk_put (cs := #[.int .i64 0, .int .i64 0]) ?_ 0 _ rfl; (with_reducible repeat (first | refine blk_drewN ?_ _ | refine blk_drew ?_ | refine blk_alloc ?_ _)); exact BK334.out) Try.underlying40 rfl (by kernel_rfl)) rfl ?_
          exact ⟨by first | rfl | (simp [errW_none, errW_some] <;> rfl) | (simp [*, errW_none, errW_some] <;> rfl), by (with_reducible repeat (first | refine blk_drewN ?_ _ | refine blk_drew ?_ | refine blk_alloc ?_ _ | refine blk_far ?_ NB702_334.out _)); exact BK702.out, by repeat (first | exact HB.out | refine But.set ?_ (Or.inr GW334.out) _ _ | exact HB.out.trans (But.of_below (by repeat (first | exact Below.refl _ _ | apply pw_below_drewN | apply below_drew1))))⟩
        · rw [if_neg c6] at H
          exact absurd H (by simp)
      · rw [if_neg c5] at H
        exact absurd H (by simp)
    · rw [if_neg c4] at H
      exact absurd H (by simp)
  · rw [if_neg c3] at H
    exact absurd H (by simp)

end Go.Proofs.Ytafkdkiagmbeaaa.Q
end

section
namespace Go.Proofs.Ytafkdkiagmbeaaa.Q
open Go.RowKit Go.Proofs.YtafkdkiagmbeaaaW.PrintWords Go.Proofs.YtafkdkiagmbeaaaW.PrintLast Go.Proofs.YtafkdkiagmbeaaaW.PrintMore
attribute [local go_sem] max2_int min2_int max_two min_two max_three min_three max_four min_four   -- for this text's walks alone
set_option linter.unusedVariables false
set_option linter.unusedSimpArgs false

noncomputable def impl_ScaleMatrix_1T.f (a0 : Int) (a1 : Int) (s702_0 : Bool) (l703 : List (List (S40))) (s704_0 : Int) (s704_1 : Int) : Option (Int × Int × Bool) := tot (fun k => impl_ScaleMatrix_1.f k a0 a1 s702_0 l703 s704_0 s704_1)
theorem impl_ScaleMatrix_1T.of (a0 : Int) (a1 : Int) (s702_0 : Bool) (l703 : List (List (S40))) (s704_0 : Int) (s704_1 : Int) {k : Nat} {r_ : (Int × Int × Bool)} (h : impl_ScaleMatrix_1.f k a0 a1 s702_0 l703 s704_0 s704_1 = some r_) : impl_ScaleMatrix_1T.f a0 a1 s702_0 l703 s704_0 s704_1 = some r_ := tot_of (F := (fun k => impl_ScaleMatrix_1.f k a0 a1 s702_0 l703 s704_0 s704_1)) (fun k => impl_ScaleMatrix_1.mono  a0 a1 s702_0 l703 s704_0 s704_1 k) h
theorem impl_ScaleMatrix_1T.calls (a0 : Int) (a1 : Int) (r1 : Int) (r2 : Int) (s1_ : Bool) (gb702 : Nat) (s702_0 : Bool) (gb703 : Nat) (A703 : Option Addr) (c703 : Nat) (l703 : List (List (S40))) (gb704 : Nat) (s704_0 : Int) (s704_1 : Int) (w0 w : World) (hg0 : w0.heap.size ≤ gb702) (hB0 : Below w0.heap.size w0 w) (hne3 : gb703 ≠ gb702) (hne4 : gb704 ≠ gb702) (hb702 : w.heap[gb702]? = some (.cells #[.bool s702_0] 84 (0, 0))) (hb703 : w.heap[gb703]? = some (.cells #[.slice A703 l703.length c703] 24 (0, 0))) (hr703 : Kd.C (Kd.slice 40 k40) w0 A703 l703.length l703) (hc703 : l703.length ≤ c703) (hb704 : w.heap[gb704]? = some (.cells #[.int .i64 s704_0, .int .i64 s704_1] 40 (0, 0))) (h : impl_ScaleMatrix_1T.f a0 a1 s702_0 l703 s704_0 s704_1 = some (r1, r2, s1_)) :
    Calls Try.prog 72 #[.int .i64 a0, .int .i64 a1, .pointer (some ⟨gb702, 0, none⟩), .pointer (some ⟨gb703, 0, none⟩), .pointer (some ⟨gb704, 0, none⟩)] w fun e w' => e = .returned (.agg #[.int .i64 r1, .int .i64 r2]) ∧ w'.heap[gb702]? = some (.cells #[.bool s1_] 84 (0, 0)) ∧ But (fun k => k = gb702) w w' := by
  obtain ⟨k, hk⟩ := tot_get h
  exact impl_ScaleMatrix_1.calls k a0 a1 r1 r2 s1_ gb702 s702_0 gb703 A703 c703 l703 gb704 s704_0 s704_1 w0 w hg0 hB0 hne3 hne4 hb702 hb703 hr703 hc703 hb704 hk

end Go.Proofs.Ytafkdkiagmbeaaa.Q
end

section
namespace Go.Proofs.Ytafkdkiagmbeaaa.Q
open Go.RowKit Go.Proofs.YtafkdkiagmbeaaaW.PrintWords Go.Proofs.YtafkdkiagmbeaaaW.PrintLast Go.Proofs.YtafkdkiagmbeaaaW.PrintMore
attribute [local go_sem] max2_int min2_int max_two min_two max_three min_three max_four min_four   -- for this text's walks alone
set_option linter.unusedVariables false
set_option linter.unusedSimpArgs false

theorem impl_ScaleMatrix.with {P : Program} {f : FuncId} {args : Array Value} {W : World} {Q : Ending → World → Prop} (p : World → Prop) (h : p W) (k : p W → Calls P f args W Q) : Calls P f args W Q := k h
noncomputable def impl_ScaleMatrix.j0 : Nat → Bool → List (List (S40)) → Int → Int → Option ((List (List (S40))) × Int)
  | 0, _, _, _, _ => none
  | k + 1, x14, x340000, a1_0, a1_1 => if x14 = true then (some (([] : List (List (S40))), 1)) else ((impl_matrix.fs (fun y0 y1 s_ => impl_ScaleMatrix_1T.f y0 y1 s_ x340000 a1_0 a1_1) k (x340000.length : Int) false).bind fun bt344 => ((impl_sums_toldMatrix.f bt344.2 bt344.1).bind fun bt347 => (some (bt347.1, bt347.2.1))))
noncomputable def impl_ScaleMatrix.f (k : Nat) (l0 : List (List (S40))) (a1_0 : Int) (a1_1 : Int) : Option ((List (List (S40))) × Int) := (impl_ValidMatrix.f k l0).bind fun t341 => (if t341 = true then ((impl_ValidFraction.f k a1_0 a1_1).bind fun t342 => (impl_ScaleMatrix.j0 k (!t342) l0 a1_0 a1_1)) else (impl_ScaleMatrix.j0 k true l0 a1_0 a1_1))
set_option maxHeartbeats 8000000 in
set_option maxRecDepth 100000 in
theorem impl_ScaleMatrix.calls (k : Nat) (A0 : Option Addr) (c0 : Nat) (l0 : List (List (S40))) (a1_0 : Int) (a1_1 : Int) (r1 : List (List (S40))) (r2 : Int) (w : World) (hr0 : Kd.C (Kd.slice 40 k40) w A0 l0.length l0) (hc0 : l0.length ≤ c0) (h : impl_ScaleMatrix.f k l0 a1_0 a1_1 = some (r1, r2)) :
    Calls Try.prog 28 #[.slice A0 l0.length c0, .agg #[.int .i64 a1_0, .int .i64 a1_1]] w fun e w' => ∃ v0_ : Value, e = .returned (.tuple #[v0_, .int .i64 r2]) ∧ Kd.S (Kd.slice 40 k40) 27 w' w.heap.size (fun _ => True) v0_ r1 ∧ Below w.heap.size w w' := by
  have hu40 := Try.underlying40
  have hu84 := Try.underlying84
  have HR0 := Aside0.mk hr0
  have HC0 := Aside0.mk hc0
  clear hr0 hc0
  have HB := Aside0.mk (Below.refl w.heap.size w)
  have H : ((impl_ValidMatrix.f k l0).bind fun t341 => (if t341 = true then ((impl_ValidFraction.f k a1_0 a1_1).bind fun t342 => (impl_ScaleMatrix.j0 k (!t342) l0 a1_0 a1_1)) else (impl_ScaleMatrix.j0 k true l0 a1_0 a1_1))) = some (r1, r2) := h
  clear h
  have HC3 := Aside0.mk H
  clear H
  go_enter Try.func28, Try.ntmps28
  go_upto_region 1 with (first | ((with_reducible refine gate_dst (N := 2) rfl ?_); refine box_event ?hg (N := 2) ?hd (cs := #[.slice A0 l0.length c0]) (t := 24) ?hr ?_; (case hd => rfl); (case hg => rfl); (case hr => first | (go_simp; done) | (go_simp; rfl)); intro gb339 hg w4 hbox hb; have n0_ := Aside0.mk (below_step (by repeat (first | (with_reducible first | exact HB.out | apply below_alloc | apply pw_below_drewN | apply below_drew1) | exact HB.out)) hb); have n1_ := Aside0.mk (hbox); have n2_ := Aside0.mk ((by rw [hg]; exact (below_size (by repeat (first | (with_reducible first | exact HB.out | apply below_alloc | apply pw_below_drewN | apply below_drew1) | exact HB.out))) : w.heap.size ≤ gb339)); have n3_ := Aside0.mk ((by rw [hg]; exact (below_size (by repeat (first | (with_reducible first | exact HB.out | apply below_alloc | apply pw_below_drewN | apply below_drew1) | exact HB.out))) : w.heap.size ≤ gb339)); clear HB; have HB := n0_; have BK339 := n1_; have GW339 := n2_; have GE339 := n3_; clear n0_ n1_ n2_ n3_; clear hb hbox hg) | ((with_reducible refine gate_dst (N := 3) rfl ?_); refine box_event ?hg (N := 3) ?hd (cs := #[.int .i64 a1_0, .int .i64 a1_1]) (t := 40) ?hr ?_; (case hd => rfl); (case hg => rfl); (case hr => first | (go_simp; done) | (go_simp; rfl)); intro gb340 hg w5 hbox hb; have n0_ := Aside0.mk (blk_below (g := gb339) (o := .cells #[.slice A0 l0.length c0] 24 (0, 0)) (by (with_reducible repeat (first | refine blk_drewN ?_ _ | refine blk_drew ?_ | refine blk_alloc ?_ _)); exact BK339.out) hb); have n1_ := Aside0.mk (below_step (by repeat (first | (with_reducible first | exact HB.out | apply below_alloc | apply pw_below_drewN | apply below_drew1 | refine below_set ?_ GE339.out) | exact HB.out)) hb); have n2_ := Aside0.mk (hbox); have n3_ := Aside0.mk ((by rw [hg]; exact (below_size (by repeat (first | (with_reducible first | exact HB.out | apply below_alloc | apply pw_below_drewN | apply below_drew1 | refine below_set ?_ GE339.out) | exact HB.out))) : w.heap.size ≤ gb340)); have n4_ := Aside0.mk ((by rw [hg]; exact (below_size (by repeat (first | (with_reducible first | exact HB.out | apply below_alloc | apply pw_below_drewN | apply below_drew1 | refine below_set ?_ GE339.out) | exact HB.out))) : w.heap.size ≤ gb340)); have n5_ := Aside0.mk ((by rw [hg]; exact Nat.ne_of_lt (blk_lt (g := gb339) (o := .cells #[.slice A0 l0.length c0] 24 (0, 0)) (by (with_reducible repeat (first | refine blk_drewN ?_ _ | refine blk_drew ?_ | refine blk_alloc ?_ _)); exact BK339.out)) : gb339 ≠ gb340)); have n6_ := Aside0.mk ((by rw [hg]; exact Nat.ne_of_gt (blk_lt (g := gb339) (o := .cells #[.slice A0 l0.length c0] 24 (0, 0)) (by (with_reducible repeat (first | refine blk_drewN ?_ _ | refine blk_drew ?_ | refine blk_alloc ?_ _)); exact BK339.out)) : gb340 ≠ gb339)); clear BK339; clear HB; have BK339 := n0_; have HB := n1_; have BK340 := n2_; have GW340 := n3_; have GE340 := n4_; have NB339_340 := n5_; have NB340_339 := n6_; clear n0_ n1_ n2_ n3_ n4_ n5_ n6_; clear hb hbox hg))
  (try simp only [Act.put, List.setIfInBounds_toArray, List.set_cons_zero, List.set_cons_succ])
  go_cut [14] (fun v14 wc => ∃ (kq : Nat) (x14_2 : Bool), v14 = .bool x14_2 ∧ Aside0 (impl_ScaleMatrix.j0 kq x14_2 l0 a1_0 a1_1 = some (r1, r2)) ∧ Aside0 (kq ≤ k) ∧ Aside0 (wc.heap[gb339]? = some (.cells #[(.slice A0 l0.length c0)] 24 (0, 0))) ∧ Aside0 (wc.heap[gb340]? = some (.cells #[.int .i64 a1_0, .int .i64 a1_1] 40 (0, 0))) ∧ Aside0 (Below w.heap.size w wc))
  case first =>
    have H := HC3.out
    clear HC3
    replace H := Option.bind_eq_some_iff.mp H
    obtain ⟨t341, A60, H⟩ := H
    replace H : (if t341 = true then ((impl_ValidFraction.f k a1_0 a1_1).bind fun t342 => (impl_ScaleMatrix.j0 k (!t342) l0 a1_0 a1_1)) else (impl_ScaleMatrix.j0 k true l0 a1_0 a1_1)) = some (r1, r2) := H
    have A6 := Aside0.mk A60
    clear A60
    by_cases c7 : t341 = true
    · subst c7
      have H1 : ((impl_ValidFraction.f k a1_0 a1_1).bind fun t342 => (impl_ScaleMatrix.j0 k (!t342) l0 a1_0 a1_1)) = some (r1, r2) := by rw [if_pos rfl] at H; exact H
      clear H
      have H := H1
      clear H1
      replace H := Option.bind_eq_some_iff.mp H
      obtain ⟨t342, A80, H⟩ := H
      replace H : (impl_ScaleMatrix.j0 k (!t342) l0 a1_0 a1_1) = some (r1, r2) := H
      have A8 := Aside0.mk A80
      clear A80
      have H' := Aside0.mk H
      clear H
      have hnb9 := NB339_340.out
      have hnc9 := NB340_339.out
      have hcz10_0 : w5.cell? ⟨gb339, 0, none⟩ = some (.slice A0 l0.length c0) := (blk_cell BK339.out 0).trans rfl
      have hfz10_0 := blk_frozen BK339.out 0
      go_wp2_with (first | ((with_reducible refine gate_callee (f := 70) rfl ?_); refine goesL_ (some 8) rfl rfl Try.func70 (by kernel_rfl) rfl #[.slice A0 l0.length c0] rfl (by (try simp only [List.map_toArray, List.map_cons, List.map_nil]); first | done | rfl | (simp only [List.length_drop, List.length_take]; rfl)) ?_; (with_reducible refine (impl_ValidMatrix.calls k _ _ l0 true _ ?side1 ?side2 A6.out).mono ?_); (case side1 => repeat (first | exact (Kd.C_below HR0.out HB.out) | (with_reducible refine Kd.C_alloc ?_ _) | (with_reducible refine Kd.C_drewN ?_ _) | (with_reducible refine Kd.C_drew ?_))); (case side2 => exact HC0.out); rintro e w11 ⟨rfl, hb⟩; refine ⟨_, rfl, ?_⟩; have n0_ := Aside0.mk (blk_below (g := gb339) (o := .cells #[.slice A0 l0.length c0] 24 (0, 0)) (by (with_reducible repeat (first | refine blk_drewN ?_ _ | refine blk_drew ?_ | refine blk_alloc ?_ _)); exact BK339.out) hb); have n1_ := Aside0.mk (blk_below (g := gb340) (o := .cells #[.int .i64 a1_0, .int .i64 a1_1] 40 (0, 0)) (by (with_reducible repeat (first | refine blk_drewN ?_ _ | refine blk_drew ?_ | refine blk_alloc ?_ _)); exact BK340.out) hb); have n2_ := Aside0.mk (below_step (by repeat (first | (with_reducible first | exact HB.out | apply below_alloc | apply pw_below_drewN | apply below_drew1 | refine below_set ?_ GE339.out | refine below_set ?_ GE340.out) | exact HB.out)) hb); clear BK339; clear BK340; clear HB; have BK339 := n0_; have BK340 := n1_; have HB := n2_; clear n0_ n1_ n2_; (try clear hb); (try clear hb2); (try clear hk); (try clear hi); have hcz12_0 : w11.cell? ⟨gb340, 0, none⟩ = some (.int .i64 a1_0) := (blk_cell BK340.out 0).trans rfl; have hcz12_1 : w11.cell? ⟨gb340, 1, none⟩ = some (.int .i64 a1_1) := (blk_cell BK340.out 1).trans rfl; have hfz12_0 := blk_frozen BK340.out 0; have hfz12_1 := blk_frozen BK340.out 1) | (go_at_call 71; (with_reducible refine (impl_ValidFraction.calls k a1_0 a1_1 t342 _ A8.out).mono ?_); rintro e w13 ⟨rfl, hb⟩; have n0_ := Aside0.mk (blk_below (g := gb339) (o := .cells #[.slice A0 l0.length c0] 24 (0, 0)) (by (with_reducible repeat (first | refine blk_drewN ?_ _ | refine blk_drew ?_ | refine blk_alloc ?_ _)); exact BK339.out) hb); have n1_ := Aside0.mk (blk_below (g := gb340) (o := .cells #[.int .i64 a1_0, .int .i64 a1_1] 40 (0, 0)) (by (with_reducible repeat (first | refine blk_drewN ?_ _ | refine blk_drew ?_ | refine blk_alloc ?_ _)); exact BK340.out) hb); have n2_ := Aside0.mk (below_step (by repeat (first | (with_reducible first | exact HB.out | apply below_alloc | apply pw_below_drewN | apply below_drew1 | refine below_set ?_ GE339.out | refine below_set ?_ GE340.out) | exact HB.out)) hb); clear BK339; clear BK340; clear HB; have BK339 := n0_; have BK340 := n1_; have HB := n2_; clear n0_ n1_ n2_; (try clear hb); (try clear hb2); (try clear hk); (try clear hi)))
      go_meet
      case rel => exact ⟨_, (!t342), (by first | rfl | (simp; done) | (simp [*]; done)), H', ⟨by first | omega | exact Nat.le_refl _⟩, ⟨by (with_reducible repeat (first | refine blk_drewN ?_ _ | refine blk_drew ?_ | refine blk_alloc ?_ _)); exact BK339.out⟩, ⟨by (with_reducible repeat (first | refine blk_drewN ?_ _ | refine blk_drew ?_ | refine blk_alloc ?_ _)); exact BK340.out⟩, ⟨by repeat (first | (with_reducible first | exact HB.out | apply below_alloc | apply pw_below_drewN | apply below_drew1 | refine below_set ?_ GE339.out | refine below_set ?_ GE340.out) | exact HB.out)⟩⟩
    · replace c7 := Bool.eq_false_iff.mpr c7
      subst c7
      have H1 : (impl_ScaleMatrix.j0 k true l0 a1_0 a1_1) = some (r1, r2) := by rw [if_neg (show ¬ (false = true) by decide)] at H; exact H
      clear H
      have H := H1
      clear H1
      have H' := Aside0.mk H
      clear H
      have hnb14 := NB339_340.out
      have hnc14 := NB340_339.out
      have hcz15_0 : w5.cell? ⟨gb339, 0, none⟩ = some (.slice A0 l0.length c0) := (blk_cell BK339.out 0).trans rfl
      have hfz15_0 := blk_frozen BK339.out 0
      go_wp2_with (first | ((with_reducible refine gate_callee (f := 70) rfl ?_); refine goesL_ (some 8) rfl rfl Try.func70 (by kernel_rfl) rfl #[.slice A0 l0.length c0] rfl (by (try simp only [List.map_toArray, List.map_cons, List.map_nil]); first | done | rfl | (simp only [List.length_drop, List.length_take]; rfl)) ?_; (with_reducible refine (impl_ValidMatrix.calls k _ _ l0 false _ ?side1 ?side2 A6.out).mono ?_); (case side1 => repeat (first | exact (Kd.C_below HR0.out HB.out) | (with_reducible refine Kd.C_alloc ?_ _) | (with_reducible refine Kd.C_drewN ?_ _) | (with_reducible refine Kd.C_drew ?_))); (case side2 => exact HC0.out); rintro e w16 ⟨rfl, hb⟩; refine ⟨_, rfl, ?_⟩; have n0_ := Aside0.mk (blk_below (g := gb339) (o := .cells #[.slice A0 l0.length c0] 24 (0, 0)) (by (with_reducible repeat (first | refine blk_drewN ?_ _ | refine blk_drew ?_ | refine blk_alloc ?_ _)); exact BK339.out) hb); have n1_ := Aside0.mk (blk_below (g := gb340) (o := .cells #[.int .i64 a1_0, .int .i64 a1_1] 40 (0, 0)) (by (with_reducible repeat (first | refine blk_drewN ?_ _ | refine blk_drew ?_ | refine blk_alloc ?_ _)); exact BK340.out) hb); have n2_ := Aside0.mk (below_step (by repeat (first | (with_reducible first | exact HB.out | apply below_alloc | apply pw_below_drewN | apply below_drew1 | refine below_set ?_ GE339.out | refine below_set ?_ GE340.out) | exact HB.out)) hb); clear BK339; clear BK340; clear HB; have BK339 := n0_; have BK340 := n1_; have HB := n2_; clear n0_ n1_ n2_; (try clear hb); (try clear hb2); (try clear hk); (try clear hi)))
      go_meet
      case rel => exact ⟨_, (true), (by first | rfl | (simp; done) | (simp [*]; done)), H', ⟨by first | omega | exact Nat.le_refl _⟩, ⟨by (with_reducible repeat (first | refine blk_drewN ?_ _ | refine blk_drew ?_ | refine blk_alloc ?_ _)); exact BK339.out⟩, ⟨by (with_reducible repeat (first | refine blk_drewN ?_ _ | refine blk_drew ?_ | refine blk_alloc ?_ _)); exact BK340.out⟩, ⟨by repeat (first | (with_reducible first | exact HB.out | apply below_alloc | apply pw_below_drewN | apply below_drew1 | refine below_set ?_ GE339.out | refine below_set ?_ GE340.out) | exact HB.out)⟩⟩
  case rest =>
    clear HC3
    try clear c1
    try clear c2
    try clear p2
    try clear c7
    try clear c9
    try clear c14
    try clear hcz10_0
    try clear hcz12_0
    try clear hcz12_1
    try clear hcz15_0
    try clear hfz10_0
    try clear hfz12_0
    try clear hfz12_1
    try clear hfz15_0
    obtain ⟨kq, x14_2, rfl, HA, HJ2, BK339, BK340, HB⟩ := hcut
    cases kq with
    | zero => exact absurd HA.out (by simp [impl_ScaleMatrix.j0])
    | succ kj2 =>
      have H := HA.out
      clear HA
      simp only [impl_ScaleMatrix.j0] at H
      by_cases c17 : x14_2 = true
      · subst c17
        have H1 : (some (([] : List (List (S40))), 1)) = some (r1, r2) := by rw [if_pos rfl] at H; exact H
        clear H
        have H := H1
        clear H1
        simp only [Option.some.injEq, Prod.mk.injEq] at H
        obtain ⟨rfl, rfl⟩ := H
        go_wp2
        go_ret2
        exact ⟨_, by first | rfl | (simp [errW_none, errW_some] <;> rfl) | (simp [*, errW_none, errW_some] <;> rfl), by first | exact Kd.S_nil _ _ _ _ _ | exact Kd.N_nil _ _ _ _ _ | exact Kd.V_nil _ _ _ _ _ | exact Kd.Q_nil _ _ _ _ _ | exact Kd.R_nil _ _ _ _ _, by repeat (first | (with_reducible first | exact HB.out | apply below_alloc | apply pw_below_drewN | apply below_drew1 | refine below_set ?_ GE339.out | refine below_set ?_ GE340.out) | exact HB.out)⟩
      · replace c17 := Bool.eq_false_iff.mpr c17
        subst c17
        have H1 : ((impl_matrix.fs (fun y0 y1 s_ => impl_ScaleMatrix_1T.f y0 y1 s_ l0 a1_0 a1_1) kj2 (l0.length : Int) false).bind fun bt344 => ((impl_sums_toldMatrix.f bt344.2 bt344.1).bind fun bt347 => (some (bt347.1, bt347.2.1)))) = some (r1, r2) := by rw [if_neg (show ¬ (false = true) by decide)] at H; exact H
        clear H
        have H := H1
        clear H1
        replace H := Option.bind_eq_some_iff.mp H
        obtain ⟨⟨t344, s344_⟩, A180, H⟩ := H
        replace H : ((impl_sums_toldMatrix.f s344_ t344).bind fun bt347 => (some (bt347.1, bt347.2.1))) = some (r1, r2) := H
        have A18 := Aside0.mk A180
        clear A180
        replace H := Option.bind_eq_some_iff.mp H
        obtain ⟨⟨t347, t348, sx_⟩, A190, H⟩ := H
        replace H : (some (t347, t348)) = some (r1, r2) := H
        have A19 := Aside0.mk A190
        clear A190
        simp only [Option.some.injEq, Prod.mk.injEq] at H
        obtain ⟨rfl, rfl⟩ := H
        go_wp2_with (first | ((with_reducible refine gate_dst (N := 6) rfl ?_); refine box_event ?hg (N := 6) ?hd (cs := #[.bool false]) (t := 84) ?hr ?_; (case hd => rfl); (case hg => rfl); (case hr => first | (go_simp; done) | (go_simp; rfl)); intro gb343 hg w20 hbox hb; have n0_ := Aside0.mk (blk_below (g := gb339) (o := .cells #[.slice A0 l0.length c0] 24 (0, 0)) (by (with_reducible repeat (first | refine blk_drewN ?_ _ | refine blk_drew ?_ | refine blk_alloc ?_ _)); exact BK339.out) hb); have n1_ := Aside0.mk (blk_below (g := gb340) (o := .cells #[.int .i64 a1_0, .int .i64 a1_1] 40 (0, 0)) (by (with_reducible repeat (first | refine blk_drewN ?_ _ | refine blk_drew ?_ | refine blk_alloc ?_ _)); exact BK340.out) hb); have n2_ := Aside0.mk (below_step (by repeat (first | (with_reducible first | exact HB.out | apply below_alloc | apply pw_below_drewN | apply below_drew1 | refine below_set ?_ GE339.out | refine below_set ?_ GE340.out) | exact HB.out)) hb); have n3_ := Aside0.mk (hbox); have n4_ := Aside0.mk ((by rw [hg]; exact (below_size (by repeat (first | (with_reducible first | exact HB.out | apply below_alloc | apply pw_below_drewN | apply below_drew1 | refine below_set ?_ GE339.out | refine below_set ?_ GE340.out) | exact HB.out))) : w.heap.size ≤ gb343)); have n5_ := Aside0.mk ((by rw [hg]; exact (below_size (by repeat (first | (with_reducible first | exact HB.out | apply below_alloc | apply pw_below_drewN | apply below_drew1 | refine below_set ?_ GE339.out | refine below_set ?_ GE340.out) | exact HB.out))) : w.heap.size ≤ gb343)); have n6_ := Aside0.mk ((by rw [hg]; exact Nat.ne_of_lt (blk_lt (g := gb339) (o := .cells #[.slice A0 l0.length c0] 24 (0, 0)) (by (with_reducible repeat (first | refine blk_drewN ?_ _ | refine blk_drew ?_ | refine blk_alloc ?_ _)); exact BK339.out)) : gb339 ≠ gb343)); have n7_ := Aside0.mk ((by rw [hg]; exact Nat.ne_of_gt (blk_lt (g := gb339) (o := .cells #[.slice A0 l0.length c0] 24 (0, 0)) (by (with_reducible repeat (first | refine blk_drewN ?_ _ | refine blk_drew ?_ | refine blk_alloc ?_ _)); exact BK339.out)) : gb343 ≠ gb339)); have n8_ := Aside0.mk ((by rw [hg]; exact Nat.ne_of_lt (blk_lt (g := gb340) (o := .cells #[.int .i64 a1_0, .int .i64 a1_1] 40 (0, 0)) (by (with_reducible repeat (first | refine blk_drewN ?_ _ | refine blk_drew ?_ | refine blk_alloc ?_ _)); exact BK340.out)) : gb340 ≠ gb343)); have n9_ := Aside0.mk ((by rw [hg]; exact Nat.ne_of_gt (blk_lt (g := gb340) (o := .cells #[.int .i64 a1_0, .int .i64 a1_1] 40 (0, 0)) (by (with_reducible repeat (first | refine blk_drewN ?_ _ | refine blk_drew ?_ | refine blk_alloc ?_ _)); exact BK340.out)) : gb343 ≠ gb340)); clear BK339; clear BK340; clear HB; have BK339 := n0_; have BK340 := n1_; have HB := n2_; have BK343 := n3_; have GW343 := n4_; have GE343 := n5_; have NB339_343 := n6_; have NB343_339 := n7_; have NB340_343 := n8_; have NB343_340 := n9_; clear n0_ n1_ n2_ n3_ n4_ n5_ n6_ n7_ n8_ n9_; clear hb hbox hg; have hnb21 := NB343_339.out; have hnc21 := NB339_343.out; have hnb22 := NB343_340.out; have hnc22 := NB340_343.out; have hcz23_0 : w20.cell? ⟨gb343, 0, none⟩ = some (.bool false) := (blk_cell BK343.out 0).trans rfl; have hfz23_0 := blk_frozen BK343.out 0; have hnb24 := NB339_340.out; have hnc24 := NB340_339.out; have hcz25_0 : w20.cell? ⟨gb339, 0, none⟩ = some (.slice A0 l0.length c0) := (blk_cell BK339.out 0).trans rfl; have hfz25_0 := blk_frozen BK339.out 0) | ((with_reducible refine gate_callee (f := 62) rfl ?_); refine goesL_ (some 19) rfl rfl Try.func62 (by kernel_rfl) rfl #[.int .i64 (l0.length : Int), .func (.func 72) #[] #[.pointer (some ⟨gb343, 0, none⟩), .pointer (some ⟨gb339, 0, none⟩), .pointer (some ⟨gb340, 0, none⟩)]] rfl (by (try simp only [List.map_toArray, List.map_cons, List.map_nil]); first | done | rfl | (simp only [List.length_drop, List.length_take]; rfl)) ?_; (refine impl_ScaleMatrix.with (p := (fun W_ => Below w.heap.size w W_ ∧ W_.heap[gb343]? = some (.cells #[.bool false] 84 (0, 0)) ∧ W_.heap[gb339]? = some (.cells #[.slice A0 l0.length c0] 24 (0, 0)) ∧ W_.heap[gb340]? = some (.cells #[.int .i64 a1_0, .int .i64 a1_1] 40 (0, 0)))) ⟨(by repeat (first | (with_reducible first | exact HB.out | apply below_alloc | apply pw_below_drewN | apply below_drew1 | refine below_set ?_ GE339.out | refine below_set ?_ GE340.out | refine below_set ?_ GE343.out) | exact HB.out)), (by (with_reducible repeat (first | refine blk_drewN ?_ _ | refine blk_drew ?_ | refine blk_alloc ?_ _)); refine blk_put (cs := #[.bool false]) ?_ 0 _ rfl; (with_reducible repeat (first | refine blk_drewN ?_ _ | refine blk_drew ?_ | refine blk_alloc ?_ _)); exact BK343.out), (by (with_reducible repeat (first | refine blk_drewN ?_ _ | refine blk_drew ?_ | refine blk_alloc ?_ _)); refine blk_far ?_ NB339_343.out _; (with_reducible repeat (first | refine blk_drewN ?_ _ | refine blk_drew ?_ | refine blk_alloc ?_ _)); exact BK339.out), (by (with_reducible repeat (first | refine blk_drewN ?_ _ | refine blk_drew ?_ | refine blk_alloc ?_ _)); refine blk_far ?_ NB340_343.out _; (with_reducible repeat (first | refine blk_drewN ?_ _ | refine blk_drew ?_ | refine blk_alloc ?_ _)); exact BK340.out)⟩ (fun hW_ => ?_)); obtain ⟨hWB_, hWS_, hW339_, hW340_⟩ := hW_; (refine (impl_matrix.state (fun y0 y1 s_ => impl_ScaleMatrix_1T.f y0 y1 s_ l0 a1_0 a1_1) (fun a_ W_ => W_.heap[gb343]? = some (.cells #[.bool a_] 84 (0, 0))) (fun k_ => k_ = gb343) 72 #[.pointer (some ⟨gb343, 0, none⟩), .pointer (some ⟨gb339, 0, none⟩), .pointer (some ⟨gb340, 0, none⟩)] (EnterF.of Try.func72 (by kernel_rfl) rfl) _ ⟨fun k_ hk_ => by rw [hk_]; exact blk_lt hWS_⟩ ⟨fun a_ W_ W2_ hI_ hm_ => (hm_ _ (blk_lt hWS_)).trans hI_⟩ ⟨?cb⟩ kj2 (l0.length : Int) false s344_ t344 _ hWS_ ⟨But.refl _ _⟩ A18.out).mono ?_); (case cb => intro y0 y1 s_ s2_ r0_ r1_ W_ hI_ hc_ hB_; exact impl_ScaleMatrix_1T.calls y0 y1 r0_ r1_ s2_ gb343 s_ gb339 _ _ l0 gb340 a1_0 a1_1 w W_ GE343.out (But.below (But.trans (But.of_below hWB_) hB_) (fun i_ hi_ hm_ => absurd hi_ (Nat.not_lt.2 (by rw [hm_]; exact GE343.out)))) NB339_343.out NB340_343.out hI_ (hB_.blk hW339_ NB339_343.out) HR0.out HC0.out (hB_.blk hW340_ NB340_343.out) hc_); rintro e w26 ⟨v345, rfl, ho0, hI_, hb⟩; refine ⟨_, rfl, ?_⟩; have n0_ := Aside0.mk (Kd.S_lower (Kd.S_newB ho0 (g := gb340) (o := .cells #[.int .i64 a1_0, .int .i64 a1_1] 40 (0, 0)) (by (with_reducible repeat (first | refine blk_drewN ?_ _ | refine blk_drew ?_ | refine blk_alloc ?_ _)); refine blk_far ?_ NB340_343.out _; (with_reducible repeat (first | refine blk_drewN ?_ _ | refine blk_drew ?_ | refine blk_alloc ?_ _)); exact BK340.out)) (below_size (by repeat (first | (with_reducible first | exact HB.out | apply below_alloc | apply pw_below_drewN | apply below_drew1 | refine below_set ?_ GE339.out | refine below_set ?_ GE340.out | refine below_set ?_ GE343.out) | exact HB.out)))); have n1_ := Aside0.mk (hb.blk (g := gb339) (o := .cells #[.slice A0 l0.length c0] 24 (0, 0)) (by (with_reducible repeat (first | refine blk_drewN ?_ _ | refine blk_drew ?_ | refine blk_alloc ?_ _)); refine blk_far ?_ NB339_343.out _; (with_reducible repeat (first | refine blk_drewN ?_ _ | refine blk_drew ?_ | refine blk_alloc ?_ _)); exact BK339.out) NB339_343.out); have n2_ := Aside0.mk (hb.blk (g := gb340) (o := .cells #[.int .i64 a1_0, .int .i64 a1_1] 40 (0, 0)) (by (with_reducible repeat (first | refine blk_drewN ?_ _ | refine blk_drew ?_ | refine blk_alloc ?_ _)); refine blk_far ?_ NB340_343.out _; (with_reducible repeat (first | refine blk_drewN ?_ _ | refine blk_drew ?_ | refine blk_alloc ?_ _)); exact BK340.out) NB340_343.out); have n3_ := Aside0.mk (hI_); have n4_ := Aside0.mk (But.below (But.trans (But.of_below (by repeat (first | (with_reducible first | exact HB.out | apply below_alloc | apply pw_below_drewN | apply below_drew1 | refine below_set ?_ GE339.out | refine below_set ?_ GE340.out | refine below_set ?_ GE343.out) | exact HB.out))) hb) (fun i_ hi_ hm_ => absurd hi_ (Nat.not_lt.2 (by rw [hm_]; exact GE343.out)))); clear BK339; clear BK340; clear BK343; clear HB; have HO346 := n0_; have BK339 := n1_; have BK340 := n2_; have BK343 := n3_; have HB := n4_; clear n0_ n1_ n2_ n3_ n4_; (try clear hb); (try clear hb2); (try clear hk); (try clear hi); (try clear ho0); obtain ⟨Ao27, co27, eo27⟩ := Kd.S_slice HO346.out; subst eo27) | ((with_reducible refine gate_callee (f := 61) rfl ?_); refine goesL_ (some 20) rfl rfl Try.func61 (by kernel_rfl) rfl #[.pointer (some ⟨gb343, 0, none⟩), .slice Ao27 t344.length co27] rfl (by (try simp only [List.map_toArray, List.map_cons, List.map_nil]); first | done | rfl | (simp only [List.length_drop, List.length_take]; rfl)) ?_; (refine (impl_sums_toldMatrix.ret gb343 s344_ Ao27 co27 t344.length t344 t347 t348 sx_ _ (by (with_reducible repeat (first | refine blk_drewN ?_ _ | refine blk_drew ?_ | refine blk_alloc ?_ _)); exact BK343.out) A19.out).mono ?_); rintro e w28 ⟨v349, rfl, hv_, hb⟩; refine ⟨_, rfl, ?_⟩; have n0_ := Aside0.mk (Kd.S_below (by (with_reducible repeat (first | apply Kd.S_alloc | apply Kd.S_drewN | apply Kd.S_drew)); exact HO346.out) hb); have n1_ := Aside0.mk (show Kd.S (Kd.slice 40 k40) 27 w28 w.heap.size (fun _ => True) v349 t347 from by (rcases hv_ with ⟨_, rfl, rfl⟩ | ⟨_, rfl, rfl⟩); exact Kd.S_nil _ _ _ _ _; exact Kd.S_mono (Kd.S_below (by (with_reducible repeat (first | apply Kd.S_alloc | apply Kd.S_drewN | apply Kd.S_drew)); exact HO346.out) hb) (fun _ _ => trivial)); have n2_ := Aside0.mk (blk_below (g := gb339) (o := .cells #[.slice A0 l0.length c0] 24 (0, 0)) (by (with_reducible repeat (first | refine blk_drewN ?_ _ | refine blk_drew ?_ | refine blk_alloc ?_ _)); exact BK339.out) hb); have n3_ := Aside0.mk (blk_below (g := gb340) (o := .cells #[.int .i64 a1_0, .int .i64 a1_1] 40 (0, 0)) (by (with_reducible repeat (first | refine blk_drewN ?_ _ | refine blk_drew ?_ | refine blk_alloc ?_ _)); exact BK340.out) hb); have n4_ := Aside0.mk (blk_below (g := gb343) (o := .cells #[.bool s344_] 84 (0, 0)) (by (with_reducible repeat (first | refine blk_drewN ?_ _ | refine blk_drew ?_ | refine blk_alloc ?_ _)); exact BK343.out) hb); have n5_ := Aside0.mk (below_step (by repeat (first | (with_reducible first | exact HB.out | apply below_alloc | apply pw_below_drewN | apply below_drew1 | refine below_set ?_ GE339.out | refine below_set ?_ GE340.out | refine below_set ?_ GE343.out) | exact HB.out)) hb); clear HO346; clear BK339; clear BK340; clear BK343; clear HB; have HO346 := n0_; have HO350 := n1_; have BK339 := n2_; have BK340 := n3_; have BK343 := n4_; have HB := n5_; clear n0_ n1_ n2_ n3_ n4_ n5_; (try clear hb); (try clear hb2); (try clear hk); (try clear hi); (try clear ho0)))
        go_ret2
        exact ⟨_, by first | rfl | (simp [errW_none, errW_some] <;> rfl) | (simp [*, errW_none, errW_some] <;> rfl), by (with_reducible repeat (first | apply Kd.S_alloc | apply Kd.S_drewN | apply Kd.S_drew)); exact Kd.S_mono HO350.out (fun _ hk => trivial), by repeat (first | (with_reducible first | exact HB.out | apply below_alloc | apply pw_below_drewN | apply below_drew1 | refine below_set ?_ GE339.out | refine below_set ?_ GE340.out | refine below_set ?_ GE343.out) | exact HB.out)⟩

end Go.Proofs.Ytafkdkiagmbeaaa.Q
end
