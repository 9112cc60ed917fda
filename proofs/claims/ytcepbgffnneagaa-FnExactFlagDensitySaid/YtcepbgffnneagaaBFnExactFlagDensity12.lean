/- Contracts of Go functions and plain lemmas over what they compute; printed by the kit's print program or written by hand, joined. -/
import Derived.Test.YtcepbgffnneagaaBFnExactFlagDensity3
import Derived.Test.YtcepbgffnneagaaBFnExactFlagDensity11
import Derived.Test.YtcepbgffnneagaaBFnExactFlagDensity10
section
namespace Go.Proofs.Ytcepbgffnneagaa.Q
open Go.RowKit Go.Proofs.YtcepbgffnneagaaW.PrintWords Go.Proofs.YtcepbgffnneagaaW.PrintLast Go.Proofs.YtcepbgffnneagaaW.PrintMore
attribute [local go_sem] max2_int min2_int max_two min_two max_three min_three max_four min_four   -- for this text's walks alone
set_option linter.unusedVariables false
set_option linter.unusedSimpArgs false

def impl_gcd.l0 : Nat → Int → Int → Option (Int)
 | 0, _, _ => none
 | k + 1, x0, x1 => if x1 = 0 then ((impl_size.f x0).bind fun t330 => (some t330)) else (impl_gcd.l0 k x1 (Int.tmod x0 x1))
def impl_gcd.f (k : Nat) (a0 : Int) (a1 : Int) : Option (Int) := impl_gcd.l0 k a0 a1
theorem impl_gcd.mono_l : ∀ k, (∀ y0 y1, LeO (impl_gcd.l0 k y0 y1) (impl_gcd.l0 (k + 1) y0 y1))
 | 0 => fun _ _ r h => by simp [impl_gcd.l0] at h
 | k + 1 => by
  have ih0 := impl_gcd.mono_l k
  ·intro y0 y1
   unfold impl_gcd.l0
   repeat' first
   | (with_reducible exact ih0 _ _)
   | (with_reducible exact LeO.refl _)
   | (with_reducible exact LeO.none _)
   | (with_reducible refine LeO.ite ?_ ?_)
   | (with_reducible refine LeO.bind ?_ (fun _ => ?_))
   | exact ih0 _ _
   | exact LeO.none _
   | refine LeO.ite ?_ ?_
   | refine LeO.bind ?_ (fun _ => ?_)
theorem impl_gcd.mono : ∀ a0 a1 k, LeO (impl_gcd.f k a0 a1) (impl_gcd.f (k + 1) a0 a1) := by
 intro a0 a1 k
 have ih0 := impl_gcd.mono_l k
 unfold impl_gcd.f
 repeat' first
   | (with_reducible exact ih0 _ _)
   | (with_reducible exact LeO.refl _)
   | (with_reducible exact LeO.none _)
   | (with_reducible refine LeO.ite ?_ ?_)
   | (with_reducible refine LeO.bind ?_ (fun _ => ?_))
   | exact ih0 _ _
   | exact LeO.none _
   | refine LeO.ite ?_ ?_
   | refine LeO.bind ?_ (fun _ => ?_)
set_option maxHeartbeats 8000000 in
set_option maxRecDepth 100000 in
theorem impl_gcd.calls (k : Nat) (a0 : Int) (a1 : Int) (r : Int) (w : World) (h : impl_gcd.f k a0 a1 = some r) :
  Calls Try.prog 120 #[.int .i64 a0, .int .i64 a1] w fun e w' => e = .returned (.int .i64 r) ∧ Below w.heap.size w w' := by
 have HB := Aside0.mk (Below.refl w.heap.size w)
 have H : (impl_gcd.l0 k a0 a1) = some r := h
 clear h
 have H' := Aside0.mk H
 clear H
 go_enter Try.func120, Try.ntmps120
 go_wp2
 repeat (go_quiet (fail); try go_wp2)
 go_loopg [0, 1] k (fun kq v0 v1 w' => ∃ (x0_1 : Int) (x1_1 : Int), v0 = .int .i64 x0_1 ∧ v1 = .int .i64 x1_1 ∧ Aside0 (impl_gcd.l0 kq x0_1 x1_1 = some r) ∧ Aside0 (kq ≤ k) ∧ Aside0 (Below w.heap.size w w'))
 case atStart => exact ⟨(a0), (a1), (by first | rfl | (simp; done) | (simp [*]; done)), (by first | rfl | (simp; done) | (simp [*]; done)), H', ⟨Nat.le_refl _⟩, ⟨by repeat (first | (with_reducible first | exact HB.out | apply below_alloc | apply pw_below_drewN | apply below_drew1) | exact HB.out)⟩⟩
 case round =>
  clear H'
  try clear c1
  try clear p2
  obtain ⟨x0_1, x1_1, rfl, rfl, HA, HK1, HB⟩ := hrel
  cases gk with
  | zero => exact absurd HA.out (by simp [impl_gcd.l0])
  | succ k1 =>
   have H := HA.out
   clear HA
   simp only [impl_gcd.l0] at H
   by_cases c3 : x1_1 = 0
   ·rw [if_pos c3] at H
    have c3b0 : (x1_1 == 0) = true := beq_iff_eq.mpr c3
    have c3b1 : (x1_1 != 0) = false := bne_eq_false_iff_eq.mpr c3
    clear c3
    replace H := Option.bind_eq_some_iff.mp H
    obtain ⟨t330, A40, H⟩ := H
    replace H : (some t330) = some r := H
    have A4 := Aside0.mk A40
    clear A40
    obtain rfl := Option.some.inj H
    go_wp2_with (first | (go_at_call 165; (with_reducible refine (impl_size.calls x0_1 t330 _ A4.out).mono ?_); rintro e w5 ⟨rfl, hb⟩; have n0_ := Aside0.mk (below_step (by repeat (first | (with_reducible first | exact HB.out | apply below_alloc | apply pw_below_drewN | apply below_drew1) | exact HB.out)) hb); clear HB; have HB := n0_; clear n0_; (try clear hb); (try clear hb2); (try clear hk); (try clear hi)))
    repeat (go_quiet (first | (go_at_call 165; (with_reducible refine (impl_size.calls x0_1 t330 _ A4.out).mono ?_); rintro e w5 ⟨rfl, hb⟩; have n0_ := Aside0.mk (below_step (by repeat (first | (with_reducible first | exact HB.out | apply below_alloc | apply pw_below_drewN | apply below_drew1) | exact HB.out)) hb); clear HB; have HB := n0_; clear n0_; (try clear hb); (try clear hb2); (try clear hk); (try clear hi))); try go_wp2_with (first | (go_at_call 165; (with_reducible refine (impl_size.calls x0_1 t330 _ A4.out).mono ?_); rintro e w5 ⟨rfl, hb⟩; have n0_ := Aside0.mk (below_step (by repeat (first | (with_reducible first | exact HB.out | apply below_alloc | apply pw_below_drewN | apply below_drew1) | exact HB.out)) hb); clear HB; have HB := n0_; clear n0_; (try clear hb); (try clear hb2); (try clear hk); (try clear hi))))
    go_ret
    exact ⟨by first | rfl | (simp [errW_none, errW_some] <;> rfl) | (simp [*, errW_none, errW_some] <;> rfl), by repeat (first | (with_reducible first | exact HB.out | apply below_alloc | apply pw_below_drewN | apply below_drew1) | exact HB.out)⟩
   ·rw [if_neg c3] at H
    have c3b0 : (x1_1 == 0) = false := beq_eq_false_iff_ne.mpr c3
    have c3b1 : (x1_1 != 0) = true := bne_iff_ne.mpr c3
    have H' := Aside0.mk H
    clear H
    go_wp2
    repeat (go_quiet (fail); try go_wp2)
    go_roundg k1
    case measure => have := HK1.out; omega
    case rel => exact ⟨(x1_1), (Int.tmod x0_1 x1_1), (by first | rfl | (simp; done) | (simp [*]; done)), (by first | rfl | (simp; done) | (simp [*]; done)), H', ⟨by have := HK1.out; omega⟩, ⟨by repeat (first | (with_reducible first | exact HB.out | apply below_alloc | apply pw_below_drewN | apply below_drew1) | exact HB.out)⟩⟩

end Go.Proofs.Ytcepbgffnneagaa.Q
end

section
namespace Go.Proofs.Ytcepbgffnneagaa.Q
open Go.RowKit Go.Proofs.YtcepbgffnneagaaW.PrintWords Go.Proofs.YtcepbgffnneagaaW.PrintLast Go.Proofs.YtcepbgffnneagaaW.PrintMore
attribute [local go_sem] max2_int min2_int max_two min_two max_three min_three max_four min_four   -- for this text's walks alone
set_option linter.unusedVariables false
set_option linter.unusedSimpArgs false

def impl_lowest.f (k : Nat) (a0 : Int) (a1 : Int) : Option (Int × Int) := (impl_gcd.f k a0 a1).bind fun t332 => (if a1 < 0 then (if (wrap64 (-t332)) = 0 then (none) else (some (wrap64 (Int.tdiv a0 (wrap64 (-t332))), wrap64 (Int.tdiv a1 (wrap64 (-t332)))))) else (if t332 = 0 then (none) else (some (wrap64 (Int.tdiv a0 t332), wrap64 (Int.tdiv a1 t332)))))
theorem impl_lowest.mono : ∀ a0 a1 k, LeO (impl_lowest.f k a0 a1) (impl_lowest.f (k + 1) a0 a1) := by
 intro a0 a1 k
 unfold impl_lowest.f
 repeat' first
   | (with_reducible exact impl_gcd.mono _ _ _)
   | (with_reducible exact LeO.refl _)
   | (with_reducible exact LeO.none _)
   | (with_reducible refine LeO.ite ?_ ?_)
   | (with_reducible refine LeO.bind ?_ (fun _ => ?_))
   | exact impl_gcd.mono _ _ _
   | exact LeO.none _
   | refine LeO.ite ?_ ?_
   | refine LeO.bind ?_ (fun _ => ?_)
def impl_lowest.T4 : Bool × List (List Nat × List Nat) := (true, [([], []), ([], []), ([0, 1], [0, 1]), ([], []), ([], []), ([3, 4], [3, 4]), ([2, 5], [2, 5]), ([6, 0, 1, 2, 3, 4, 5, 6], [6])])
def impl_lowest.B4 : List Nat := [0, 0, 3, 0, 0, 24, 63, 127]
theorem impl_lowest.tab4 : rtab .any (opsOf Try.f66 4) = impl_lowest.T4 := by kernel_rfl
theorem impl_lowest.bits4 : waitsOk impl_lowest.T4.2 impl_lowest.B4 = true := by kernel_rfl
set_option maxHeartbeats 8000000 in
set_option maxRecDepth 100000 in
theorem impl_lowest.calls (k : Nat) (a0 : Int) (a1 : Int) (r1 : Int) (r2 : Int) (w : World) (h : impl_lowest.f k a0 a1 = some (r1, r2)) :
  Calls Try.prog 66 #[.int .i64 a0, .int .i64 a1] w fun e w' => e = .returned (.agg #[.int .i64 r1, .int .i64 r2]) ∧ Below w.heap.size w w' := by
 have hu31 := Try.underlying31
 have HB := Aside0.mk (Below.refl w.heap.size w)
 have H : ((impl_gcd.f k a0 a1).bind fun t332 => (if a1 < 0 then (if (wrap64 (-t332)) = 0 then (none) else (some (wrap64 (Int.tdiv a0 (wrap64 (-t332))), wrap64 (Int.tdiv a1 (wrap64 (-t332)))))) else (if t332 = 0 then (none) else (some (wrap64 (Int.tdiv a0 t332), wrap64 (Int.tdiv a1 t332)))))) = some (r1, r2) := h
 clear h
 replace H := Option.bind_eq_some_iff.mp H
 obtain ⟨t332, A30, H⟩ := H
 replace H : (if a1 < 0 then (if (wrap64 (-t332)) = 0 then (none) else (some (wrap64 (Int.tdiv a0 (wrap64 (-t332))), wrap64 (Int.tdiv a1 (wrap64 (-t332)))))) else (if t332 = 0 then (none) else (some (wrap64 (Int.tdiv a0 t332), wrap64 (Int.tdiv a1 t332))))) = some (r1, r2) := H
 have A3 := Aside0.mk A30
 clear A30
 by_cases c4 : a1 < 0
 ·rw [if_pos c4] at H
  have c4b0 : decide (a1 < 0) = true := decide_eq_true c4
  clear c4
  by_cases c5 : (wrap64 (-t332)) = 0
  ·rw [if_pos c5] at H
   exact absurd H (by simp)
  ·rw [if_neg c5] at H
   have c5b0 : ((wrap64 (-t332)) == 0) = false := beq_eq_false_iff_ne.mpr c5
   have c5b1 : ((wrap64 (-t332)) != 0) = true := bne_iff_ne.mpr c5
   simp only [Option.some.injEq, Prod.mk.injEq] at H
   obtain ⟨rfl, rfl⟩ := H
   go_enter Try.func66, Try.ntmps66
   try go_wp2_with (first | ((with_reducible refine gate_dst (N := 4) rfl ?_); refine box_event ?hg (N := 4) ?hd (cs := #[.int .i64 0, .int .i64 0]) (t := 31) ?hr ?_; (case hd => rfl); (case hg => rfl); (case hr => first | (go_simp; done) | (go_simp; rfl)); intro gb331 hg w6 hbox hb; have n0_ := Aside0.mk (below_step (by repeat (first | (with_reducible first | exact HB.out | apply below_alloc | apply pw_below_drewN | apply below_drew1) | exact HB.out)) hb); have n1_ := Aside0.mk (hbox); have n2_ := Aside0.mk ((by rw [hg]; exact (below_size (by repeat (first | (with_reducible first | exact HB.out | apply below_alloc | apply pw_below_drewN | apply below_drew1) | exact HB.out))) : w.heap.size ≤ gb331)); have n3_ := n2_; clear HB; have HB := n0_; have BK331 := n1_; have GW331 := n2_; have GE331 := n3_; clear n0_ n1_ n2_ n3_; clear hb hbox hg) | ((with_reducible refine gate_callee (f := 120) rfl ?_); refine goesL_ (some 8) rfl rfl Try.func120 (by kernel_rfl) rfl #[.int .i64 a0, .int .i64 a1] rfl (by (try simp only [List.map_toArray, List.map_cons, List.map_nil]); first | done | rfl | (simp only [List.length_drop, List.length_take]; rfl)) ?_; (with_reducible refine (impl_gcd.calls k a0 a1 t332 _ A3.out).mono ?_); rintro e w7 ⟨rfl, hb⟩; refine ⟨_, rfl, ?_⟩; have n0_ := Aside0.mk (blk_below (g := gb331) (o := .cells #[.int .i64 0, .int .i64 0] 31 (0, 0)) (by (with_reducible repeat (first | refine blk_drewN ?_ _ | refine blk_drew ?_ | refine blk_alloc ?_ _)); exact BK331.out) hb); have n1_ := Aside0.mk (below_step (by repeat (first | (with_reducible first | exact HB.out | apply below_alloc | apply pw_below_drewN | apply below_drew1 | refine below_set ?_ GE331.out) | exact HB.out)) hb); clear BK331; clear HB; have BK331 := n0_; have HB := n1_; clear n0_ n1_; (try clear hb); (try clear hb2); (try clear hk); (try clear hi)))
   have n0_ := Aside0.mk (blk_drew BK331.out)
   have n1_ := Aside0.mk (below_drew1 HB.out)
   clear BK331 HB
   have BK331 := n0_
   have HB := n1_
   clear n0_ n1_
   refine start_ (n := 8) (S := fun w' => True) (ds := []) #[false, false, false, false, false, false, false, false] (by kernel_rfl) rfl rfl trivial (fun hHeld => ?_); refine with_tabW impl_lowest.tab4 impl_lowest.bits4 (fun HT_ HW_ => ?_)
   generalize w7.drew = w8 at BK331 HB hHeld ⊢
   refine pure_ (i := 0) (N := some 13) (v := ?_) (a' := ?_) #[true, false, false, false, false, false, false, false] rfl rfl (any_of HT_.out (by kernel_rfl)) (fun _ _ _ h => h) (Or.inl ⟨by rfl, ?_⟩) ?_ ?_
   rotate_left
   ·intro w'
    go_simp
    with_reducible rfl
   rotate_left
   ·simp only [Act.put, List.setIfInBounds_toArray, List.set_cons_zero, List.set_cons_succ, i64_w, i32_w]
    rfl
   refine pure_ (i := 1) (N := some 14) (v := ?_) (a' := ?_) #[true, true, false, false, false, false, false, false] rfl rfl (any_of HT_.out (by kernel_rfl)) (fun _ _ _ h => h) (Or.inl ⟨by rfl, ?_⟩) ?_ ?_
   rotate_left
   ·intro w'
    go_simp
    with_reducible rfl
   rotate_left
   ·simp only [Act.put, List.setIfInBounds_toArray, List.set_cons_zero, List.set_cons_succ, i64_w, i32_w]
    rfl
   refine pure_ (i := 2) (N := some 15) (v := ?_) (a' := ?_) #[true, true, true, false, false, false, false, false] rfl rfl (any_of HT_.out (by kernel_rfl)) (fun _ _ _ h => h) (Or.inl ⟨by rfl, ?_⟩) ?_ ?_
   rotate_left
   ·intro w'
    go_simp
    with_reducible rfl
   rotate_left
   ·simp only [Act.put, List.setIfInBounds_toArray, List.set_cons_zero, List.set_cons_succ, i64_w, i32_w]
    rfl
   refine pure_ (i := 3) (N := some 16) (v := ?_) (a' := ?_) #[true, true, true, true, false, false, false, false] rfl rfl (any_of HT_.out (by kernel_rfl)) (fun _ _ _ h => h) (Or.inl ⟨by rfl, ?_⟩) ?_ ?_
   rotate_left
   ·intro w'
    go_simp
    with_reducible rfl
   rotate_left
   ·simp only [Act.put, List.setIfInBounds_toArray, List.set_cons_zero, List.set_cons_succ, i64_w, i32_w]
    rfl
   refine pure_ (i := 4) (N := some 17) (v := ?_) (a' := ?_) #[true, true, true, true, true, false, false, false] rfl rfl (any_of HT_.out (by kernel_rfl)) (fun _ _ _ h => h) (Or.inl ⟨by rfl, ?_⟩) ?_ ?_
   rotate_left
   ·intro w'
    go_simp
    with_reducible rfl
   rotate_left
   ·simp only [Act.put, List.setIfInBounds_toArray, List.set_cons_zero, List.set_cons_succ, i64_w, i32_w]
    rfl
   refine pure_ (i := 5) (N := some 18) (v := ?_) (a' := ?_) #[true, true, true, true, true, true, false, false] rfl rfl (any_of HT_.out (by kernel_rfl)) (fun _ _ _ h => h) (Or.inl ⟨by rfl, ?_⟩) ?_ ?_
   rotate_left
   ·intro w'
    go_simp
    with_reducible rfl
   rotate_left
   ·simp only [Act.put, List.setIfInBounds_toArray, List.set_cons_zero, List.set_cons_succ, i64_w, i32_w]
    rfl
   refine pure_ (i := 6) (N := some 19) (v := ?_) (a' := ?_) #[true, true, true, true, true, true, true, false] rfl rfl (any_of HT_.out (by kernel_rfl)) (fun _ _ _ h => h) (Or.inl ⟨by rfl, ?_⟩) ?_ ?_
   rotate_left
   ·intro w'
    go_simp
    with_reducible rfl
   rotate_left
   ·simp only [Act.put, List.setIfInBounds_toArray, List.set_cons_zero, List.set_cons_succ, i64_w, i32_w]
    rfl
   refine one_ (i := 7) (N := none) #[true, true, true, true, true, true, true, true] rfl rfl (one_of HT_.out (by kernel_rfl)) (by decide) (fun K hK => ?_)
   have hs9 : w8.cell? ⟨gb331, 0, none⟩ = some (.int .i64 0) := (blk_cell BK331.out 0).trans rfl
   have hfs9 := blk_frozen BK331.out 0
   have hs10 : w8.cell? ⟨gb331, 1, none⟩ = some (.int .i64 0) := (blk_cell BK331.out 1).trans rfl
   have hfs10 := blk_frozen BK331.out 1
   refine skip_ (w1 := ?_) (by rfl) rfl ?_ ?_
   rotate_left
   ·go_simp
    rfl
   refine hK.out _ _ trivial (fun hHeld => ?_)
   clear hK K
   refine done_ (done_of HT_.out (by kernel_rfl)) ?_
   try go_wp2
   refine bodyPost_ret (results_cell_row rfl _ _ gb331 31 #[.int .i64 (wrap64 (Int.tdiv a0 (wrap64 (-t332)))), .int .i64 (wrap64 (Int.tdiv a1 (wrap64 (-t332))))] (0, 0) _ rfl (by (with_reducible repeat (first | refine blk_drewN ?_ _ | refine blk_drew ?_ | refine blk_alloc ?_ _)); refine blk_put (cs := #[.int .i64 (wrap64 (Int.tdiv a0 (wrap64 (-t332)))), .int .i64 0]) ?_ 1 _ rfl; (with_reducible repeat (first | refine blk_drewN ?_ _ | refine blk_drew ?_ | refine blk_alloc ?_ _)); refine blk_put (cs := #[.int .i64 0, .int .i64 0]) ?_ 0 _ rfl; (with_reducible repeat (first | refine blk_drewN ?_ _ | refine blk_drew ?_ | refine blk_alloc ?_ _)); exact BK331.out) Try.underlying31 rfl (by kernel_rfl)) rfl ?_
   exact ⟨by first | rfl | (simp [errW_none, errW_some] <;> rfl) | (simp [*, errW_none, errW_some] <;> rfl), by repeat (first | (with_reducible first | exact HB.out | apply below_alloc | apply pw_below_drewN | apply below_drew1 | refine below_set ?_ GE331.out) | exact HB.out)⟩
 ·rw [if_neg c4] at H
  have c4b0 : decide (a1 < 0) = false := decide_eq_false c4
  clear c4
  by_cases c11 : t332 = 0
  ·rw [if_pos c11] at H
   exact absurd H (by simp)
  ·rw [if_neg c11] at H
   have c11b0 : (t332 == 0) = false := beq_eq_false_iff_ne.mpr c11
   have c11b1 : (t332 != 0) = true := bne_iff_ne.mpr c11
   simp only [Option.some.injEq, Prod.mk.injEq] at H
   obtain ⟨rfl, rfl⟩ := H
   go_enter Try.func66, Try.ntmps66
   try go_wp2_with (first | ((with_reducible refine gate_dst (N := 4) rfl ?_); refine box_event ?hg (N := 4) ?hd (cs := #[.int .i64 0, .int .i64 0]) (t := 31) ?hr ?_; (case hd => rfl); (case hg => rfl); (case hr => first | (go_simp; done) | (go_simp; rfl)); intro gb331 hg w12 hbox hb; have n0_ := Aside0.mk (below_step (by repeat (first | (with_reducible first | exact HB.out | apply below_alloc | apply pw_below_drewN | apply below_drew1) | exact HB.out)) hb); have n1_ := Aside0.mk (hbox); have n2_ := Aside0.mk ((by rw [hg]; exact (below_size (by repeat (first | (with_reducible first | exact HB.out | apply below_alloc | apply pw_below_drewN | apply below_drew1) | exact HB.out))) : w.heap.size ≤ gb331)); have n3_ := n2_; clear HB; have HB := n0_; have BK331 := n1_; have GW331 := n2_; have GE331 := n3_; clear n0_ n1_ n2_ n3_; clear hb hbox hg) | ((with_reducible refine gate_callee (f := 120) rfl ?_); refine goesL_ (some 8) rfl rfl Try.func120 (by kernel_rfl) rfl #[.int .i64 a0, .int .i64 a1] rfl (by (try simp only [List.map_toArray, List.map_cons, List.map_nil]); first | done | rfl | (simp only [List.length_drop, List.length_take]; rfl)) ?_; (with_reducible refine (impl_gcd.calls k a0 a1 t332 _ A3.out).mono ?_); rintro e w13 ⟨rfl, hb⟩; refine ⟨_, rfl, ?_⟩; have n0_ := Aside0.mk (blk_below (g := gb331) (o := .cells #[.int .i64 0, .int .i64 0] 31 (0, 0)) (by (with_reducible repeat (first | refine blk_drewN ?_ _ | refine blk_drew ?_ | refine blk_alloc ?_ _)); exact BK331.out) hb); have n1_ := Aside0.mk (below_step (by repeat (first | (with_reducible first | exact HB.out | apply below_alloc | apply pw_below_drewN | apply below_drew1 | refine below_set ?_ GE331.out) | exact HB.out)) hb); clear BK331; clear HB; have BK331 := n0_; have HB := n1_; clear n0_ n1_; (try clear hb); (try clear hb2); (try clear hk); (try clear hi)))
   have n0_ := Aside0.mk (blk_drew BK331.out)
   have n1_ := Aside0.mk (below_drew1 HB.out)
   clear BK331 HB
   have BK331 := n0_
   have HB := n1_
   clear n0_ n1_
   refine start_ (n := 8) (S := fun w' => True) (ds := []) #[false, false, false, false, false, false, false, false] (by kernel_rfl) rfl rfl trivial (fun hHeld => ?_); refine with_tabW impl_lowest.tab4 impl_lowest.bits4 (fun HT_ HW_ => ?_)
   generalize w13.drew = w14 at BK331 HB hHeld ⊢
   refine pure_ (i := 0) (N := some 13) (v := ?_) (a' := ?_) #[true, false, false, false, false, false, false, false] rfl rfl (any_of HT_.out (by kernel_rfl)) (fun _ _ _ h => h) (Or.inl ⟨by rfl, ?_⟩) ?_ ?_
   rotate_left
   ·intro w'
    go_simp
    with_reducible rfl
   rotate_left
   ·simp only [Act.put, List.setIfInBounds_toArray, List.set_cons_zero, List.set_cons_succ, i64_w, i32_w]
    rfl
   refine pure_ (i := 1) (N := some 14) (v := ?_) (a' := ?_) #[true, true, false, false, false, false, false, false] rfl rfl (any_of HT_.out (by kernel_rfl)) (fun _ _ _ h => h) (Or.inl ⟨by rfl, ?_⟩) ?_ ?_
   rotate_left
   ·intro w'
    go_simp
    with_reducible rfl
   rotate_left
   ·simp only [Act.put, List.setIfInBounds_toArray, List.set_cons_zero, List.set_cons_succ, i64_w, i32_w]
    rfl
   refine pure_ (i := 2) (N := some 15) (v := ?_) (a' := ?_) #[true, true, true, false, false, false, false, false] rfl rfl (any_of HT_.out (by kernel_rfl)) (fun _ _ _ h => h) (Or.inl ⟨by rfl, ?_⟩) ?_ ?_
   rotate_left
   ·intro w'
    go_simp
    with_reducible rfl
   rotate_left
   ·simp only [Act.put, List.setIfInBounds_toArray, List.set_cons_zero, List.set_cons_succ, i64_w, i32_w]
    rfl
   refine pure_ (i := 3) (N := some 16) (v := ?_) (a' := ?_) #[true, true, true, true, false, false, false, false] rfl rfl (any_of HT_.out (by kernel_rfl)) (fun _ _ _ h => h) (Or.inl ⟨by rfl, ?_⟩) ?_ ?_
   rotate_left
   ·intro w'
    go_simp
    with_reducible rfl
   rotate_left
   ·simp only [Act.put, List.setIfInBounds_toArray, List.set_cons_zero, List.set_cons_succ, i64_w, i32_w]
    rfl
   refine pure_ (i := 4) (N := some 17) (v := ?_) (a' := ?_) #[true, true, true, true, true, false, false, false] rfl rfl (any_of HT_.out (by kernel_rfl)) (fun _ _ _ h => h) (Or.inl ⟨by rfl, ?_⟩) ?_ ?_
   rotate_left
   ·intro w'
    go_simp
    with_reducible rfl
   rotate_left
   ·simp only [Act.put, List.setIfInBounds_toArray, List.set_cons_zero, List.set_cons_succ, i64_w, i32_w]
    rfl
   refine pure_ (i := 5) (N := some 18) (v := ?_) (a' := ?_) #[true, true, true, true, true, true, false, false] rfl rfl (any_of HT_.out (by kernel_rfl)) (fun _ _ _ h => h) (Or.inl ⟨by rfl, ?_⟩) ?_ ?_
   rotate_left
   ·intro w'
    go_simp
    with_reducible rfl
   rotate_left
   ·simp only [Act.put, List.setIfInBounds_toArray, List.set_cons_zero, List.set_cons_succ, i64_w, i32_w]
    rfl
   refine pure_ (i := 6) (N := some 19) (v := ?_) (a' := ?_) #[true, true, true, true, true, true, true, false] rfl rfl (any_of HT_.out (by kernel_rfl)) (fun _ _ _ h => h) (Or.inl ⟨by rfl, ?_⟩) ?_ ?_
   rotate_left
   ·intro w'
    go_simp
    with_reducible rfl
   rotate_left
   ·simp only [Act.put, List.setIfInBounds_toArray, List.set_cons_zero, List.set_cons_succ, i64_w, i32_w]
    rfl
   refine one_ (i := 7) (N := none) #[true, true, true, true, true, true, true, true] rfl rfl (one_of HT_.out (by kernel_rfl)) (by decide) (fun K hK => ?_)
   have hs15 : w14.cell? ⟨gb331, 0, none⟩ = some (.int .i64 0) := (blk_cell BK331.out 0).trans rfl
   have hfs15 := blk_frozen BK331.out 0
   have hs16 : w14.cell? ⟨gb331, 1, none⟩ = some (.int .i64 0) := (blk_cell BK331.out 1).trans rfl
   have hfs16 := blk_frozen BK331.out 1
   refine skip_ (w1 := ?_) (by rfl) rfl ?_ ?_
   rotate_left
   ·go_simp
    rfl
   refine hK.out _ _ trivial (fun hHeld => ?_)
   clear hK K
   refine done_ (done_of HT_.out (by kernel_rfl)) ?_
   try go_wp2
   refine bodyPost_ret (results_cell_row rfl _ _ gb331 31 #[.int .i64 (wrap64 (Int.tdiv a0 t332)), .int .i64 (wrap64 (Int.tdiv a1 t332))] (0, 0) _ rfl (by (with_reducible repeat (first | refine blk_drewN ?_ _ | refine blk_drew ?_ | refine blk_alloc ?_ _)); refine blk_put (cs := #[.int .i64 (wrap64 (Int.tdiv a0 t332)), .int .i64 0]) ?_ 1 _ rfl; (with_reducible repeat (first | refine blk_drewN ?_ _ | refine blk_drew ?_ | refine blk_alloc ?_ _)); refine blk_put (cs := #[.int .i64 0, .int .i64 0]) ?_ 0 _ rfl; (with_reducible repeat (first | refine blk_drewN ?_ _ | refine blk_drew ?_ | refine blk_alloc ?_ _)); exact BK331.out) Try.underlying31 rfl (by kernel_rfl)) rfl ?_
   exact ⟨by first | rfl | (simp [errW_none, errW_some] <;> rfl) | (simp [*, errW_none, errW_some] <;> rfl), by repeat (first | (with_reducible first | exact HB.out | apply below_alloc | apply pw_below_drewN | apply below_drew1 | refine below_set ?_ GE331.out) | exact HB.out)⟩

end Go.Proofs.Ytcepbgffnneagaa.Q
end

section
namespace Go.Proofs.Ytcepbgffnneagaa.Q
open Go.RowKit Go.Proofs.YtcepbgffnneagaaW.PrintWords Go.Proofs.YtcepbgffnneagaaW.PrintLast Go.Proofs.YtcepbgffnneagaaW.PrintMore
attribute [local go_sem] max2_int min2_int max_two min_two max_three min_three max_four min_four   -- for this text's walks alone
set_option linter.unusedVariables false
set_option linter.unusedSimpArgs false

def impl_choices.l0 : Nat → Int → Int → Int → Int → Option (Int)
 | 0, _, _, _, _ => none
 | k + 1, x0, x5, x7, x8 => if x8 < x7 then (if (wrap64 (x8 + 1)) = 0 then (none) else (impl_choices.l0 k x0 (wrap64 (Int.tdiv (wrap64 (x5 * (wrap64 (x0 - x8)))) (wrap64 (x8 + 1)))) x7 (wrap64 (x8 + 1)))) else (some x5)
def impl_choices.f (k : Nat) (a0 : Int) (a1 : Int) : Option (Int) := impl_choices.l0 k a0 1 a1 0
theorem impl_choices.mono_l : ∀ k, (∀ y0 y1 y2 y3, LeO (impl_choices.l0 k y0 y1 y2 y3) (impl_choices.l0 (k + 1) y0 y1 y2 y3))
 | 0 => fun _ _ _ _ r h => by simp [impl_choices.l0] at h
 | k + 1 => by
  have ih0 := impl_choices.mono_l k
  ·intro y0 y1 y2 y3
   unfold impl_choices.l0
   repeat' first
   | (with_reducible exact ih0 _ _ _ _)
   | (with_reducible exact LeO.refl _)
   | (with_reducible exact LeO.none _)
   | (with_reducible refine LeO.ite ?_ ?_)
   | (with_reducible refine LeO.bind ?_ (fun _ => ?_))
   | exact ih0 _ _ _ _
   | exact LeO.none _
   | refine LeO.ite ?_ ?_
   | refine LeO.bind ?_ (fun _ => ?_)
theorem impl_choices.mono : ∀ a0 a1 k, LeO (impl_choices.f k a0 a1) (impl_choices.f (k + 1) a0 a1) := by
 intro a0 a1 k
 have ih0 := impl_choices.mono_l k
 unfold impl_choices.f
 repeat' first
   | (with_reducible exact ih0 _ _ _ _)
   | (with_reducible exact LeO.refl _)
   | (with_reducible exact LeO.none _)
   | (with_reducible refine LeO.ite ?_ ?_)
   | (with_reducible refine LeO.bind ?_ (fun _ => ?_))
   | exact ih0 _ _ _ _
   | exact LeO.none _
   | refine LeO.ite ?_ ?_
   | refine LeO.bind ?_ (fun _ => ?_)
set_option maxHeartbeats 8000000 in
set_option maxRecDepth 100000 in
theorem impl_choices.calls (k : Nat) (a0 : Int) (a1 : Int) (r : Int) (w : World) (h : impl_choices.f k a0 a1 = some r) :
  Calls Try.prog 67 #[.int .i64 a0, .int .i64 a1] w fun e w' => e = .returned (.int .i64 r) ∧ Drawn0 w w' := by
 have H : (impl_choices.l0 k a0 1 a1 0) = some r := h
 clear h
 have H' := Aside0.mk H
 clear H
 go_enter Try.func67, Try.ntmps67
 go_wp2
 go_loopg [5, 8] k (fun kq v5 v8 w' => ∃ (x5_1 : Int) (x8_1 : Int), v5 = .int .i64 x5_1 ∧ v8 = .int .i64 x8_1 ∧ Aside0 (impl_choices.l0 kq a0 x5_1 a1 x8_1 = some r) ∧ Aside0 (kq ≤ k) ∧ Drawn0 w w')
 case atStart => exact ⟨(1), (0), (by first | rfl | (simp; done) | (simp [*]; done)), (by first | rfl | (simp; done) | (simp [*]; done)), H', ⟨Nat.le_refl _⟩, by repeat (first | exact Drawn0.refl _ | apply Drawn0.step)⟩
 case round =>
  clear H'
  try clear p2
  obtain ⟨x5_1, x8_1, rfl, rfl, HA, HK1, ⟨m1, rfl⟩⟩ := hrel
  cases gk with
  | zero => exact absurd HA.out (by simp [impl_choices.l0])
  | succ k1 =>
   have H := HA.out
   clear HA
   simp only [impl_choices.l0] at H
   by_cases c3 : x8_1 < a1
   ·rw [if_pos c3] at H
    have c3b0 : decide (x8_1 < a1) = true := decide_eq_true c3
    clear c3
    by_cases c4 : (wrap64 (x8_1 + 1)) = 0
    ·rw [if_pos c4] at H
     exact absurd H (by simp)
    ·rw [if_neg c4] at H
     have c4b0 : ((wrap64 (x8_1 + 1)) == 0) = false := beq_eq_false_iff_ne.mpr c4
     have c4b1 : ((wrap64 (x8_1 + 1)) != 0) = true := bne_iff_ne.mpr c4
     have H' := Aside0.mk H
     clear H
     go_wp2
     go_roundg k1
     case measure => have := HK1.out; omega
     case rel => exact ⟨(wrap64 (Int.tdiv (wrap64 (x5_1 * (wrap64 (a0 - x8_1)))) (wrap64 (x8_1 + 1)))), (wrap64 (x8_1 + 1)), (by first | rfl | (simp; done) | (simp [*]; done)), (by first | rfl | (simp; done) | (simp [*]; done)), H', ⟨by have := HK1.out; omega⟩, by repeat (first | exact Drawn0.refl _ | apply Drawn0.step)⟩
   ·rw [if_neg c3] at H
    have c3b0 : decide (x8_1 < a1) = false := decide_eq_false c3
    clear c3
    obtain rfl := Option.some.inj H
    go_wp2
    go_ret
    exact ⟨by first | rfl | (simp; done) | (simp [*]; done), by repeat (first | exact Drawn0.refl _ | apply Drawn0.step)⟩

end Go.Proofs.Ytcepbgffnneagaa.Q
end

section
namespace Go.Proofs.Ytcepbgffnneagaa.Q
open Go.RowKit Go.Proofs.YtcepbgffnneagaaW.PrintWords Go.Proofs.YtcepbgffnneagaaW.PrintLast Go.Proofs.YtcepbgffnneagaaW.PrintMore
attribute [local go_sem] max2_int min2_int max_two min_two max_three min_three max_four min_four   -- for this text's walks alone
set_option linter.unusedVariables false
set_option linter.unusedSimpArgs false

def impl_Flag_free.f (a0_0 : Int) (a0_1 : Int) (a0_2 : Int) : Option (Int) := some (wrap64 (a0_1 - a0_0))
set_option maxHeartbeats 8000000 in
set_option maxRecDepth 100000 in
theorem impl_Flag_free.calls (a0_0 : Int) (a0_1 : Int) (a0_2 : Int) (r : Int) (w : World) (h : impl_Flag_free.f a0_0 a0_1 a0_2 = some r) :
  Calls Try.prog 83 #[.agg #[.int .i64 a0_0, .int .i64 a0_1, .int .u32 a0_2]] w fun e w' => e = .returned (.int .i64 r) ∧ Below w.heap.size w w' := by
 have hu45 := Try.underlying45
 have HB := Aside0.mk (Below.refl w.heap.size w)
 have H : (some (wrap64 (a0_1 - a0_0))) = some r := h
 clear h
 obtain rfl := Option.some.inj H
 go_enter Try.func83, Try.ntmps83
 go_wp2_with (first | ((with_reducible refine gate_dst (N := 1) rfl ?_); refine box_event ?hg (N := 1) ?hd (cs := #[.int .i64 a0_0, .int .i64 a0_1, .int .u32 a0_2]) (t := 45) ?hr ?_; (case hd => rfl); (case hg => rfl); (case hr => first | (go_simp; done) | (go_simp; rfl)); intro gb530 hg w2 hbox hb; have n0_ := Aside0.mk (below_step (by repeat (first | (with_reducible first | exact HB.out | apply below_alloc | apply pw_below_drewN | apply below_drew1) | exact HB.out)) hb); have n1_ := Aside0.mk (hbox); have n2_ := Aside0.mk ((by rw [hg]; exact (below_size (by repeat (first | (with_reducible first | exact HB.out | apply below_alloc | apply pw_below_drewN | apply below_drew1) | exact HB.out))) : w.heap.size ≤ gb530)); have n3_ := n2_; clear HB; have HB := n0_; have BK530 := n1_; have GW530 := n2_; have GE530 := n3_; clear n0_ n1_ n2_ n3_; clear hb hbox hg; have hcz3_0 : w2.cell? ⟨gb530, 0, none⟩ = some (.int .i64 a0_0) := (blk_cell BK530.out 0).trans rfl; have hcz3_1 : w2.cell? ⟨gb530, 1, none⟩ = some (.int .i64 a0_1) := (blk_cell BK530.out 1).trans rfl; have hcz3_2 : w2.cell? ⟨gb530, 2, none⟩ = some (.int .u32 a0_2) := (blk_cell BK530.out 2).trans rfl; have hfz3_0 := blk_frozen BK530.out 0; have hfz3_1 := blk_frozen BK530.out 1; have hfz3_2 := blk_frozen BK530.out 2))
 go_ret
 exact ⟨by first | rfl | (simp [errW_none, errW_some] <;> rfl) | (simp [*, errW_none, errW_some] <;> rfl), by repeat (first | (with_reducible first | exact HB.out | apply below_alloc | apply pw_below_drewN | apply below_drew1 | refine below_set ?_ GE530.out) | exact HB.out)⟩

end Go.Proofs.Ytcepbgffnneagaa.Q
end

section
namespace Go.Proofs.Ytcepbgffnneagaa.Q
open Go.RowKit Go.Proofs.YtcepbgffnneagaaW.PrintWords Go.Proofs.YtcepbgffnneagaaW.PrintLast Go.Proofs.YtcepbgffnneagaaW.PrintMore
attribute [local go_sem] max2_int min2_int max_two min_two max_three min_three max_four min_four   -- for this text's walks alone
set_option linter.unusedVariables false
set_option linter.unusedSimpArgs false

set_option maxHeartbeats 8000000 in
set_option maxRecDepth 100000 in
theorem slices_Clip.calls (A0 : Option Addr) (c0 : Nat) (l0 : List Int) (w : World) (hr0 : Kd.C (Kd.int .i64) w A0 l0.length l0) (hc0 : l0.length ≤ c0) :
  Calls Try.prog 163 #[.slice A0 l0.length c0] w fun e w' => e = .returned (.slice A0 l0.length l0.length) ∧ Drawn0 w w' := by
 have hmax : l0.length ≤ 9223372036854775807 := hr0.2.1
 have hA := hr0.2.2
 clear hr0
 go_enter Try.func163, Try.ntmps163
 go_wp2
 go_ret
 exact ⟨rfl, Drawn0.refl _⟩

end Go.Proofs.Ytcepbgffnneagaa.Q
end

section
namespace Go.Proofs.Ytcepbgffnneagaa.Q
open Go.RowKit Go.Proofs.YtcepbgffnneagaaW.PrintWords Go.Proofs.YtcepbgffnneagaaW.PrintLast Go.Proofs.YtcepbgffnneagaaW.PrintMore
attribute [local go_sem] max2_int min2_int max_two min_two max_three min_three max_four min_four   -- for this text's walks alone
set_option linter.unusedVariables false
set_option linter.unusedSimpArgs false

/-- All ascending lists of so many numbers of a list that go on from a list that is there, in order: what is done with them, one after the other. -/
def impl_chosen_1.l0 {σ : Type} (f : Int → List Int → σ → Option σ) (L : List Int) : Nat → List Int → Int → σ → Option σ
 | 0, _, _, _ => none
 | k + 1, x1, x8, s => if x8 < (L.length : Int) then (if 0 ≤ x8 then (if x1.length ≤ 1000 then ((f (wrap64 (x8 + 1)) (x1 ++ [rd L x8]) s).bind fun s => impl_chosen_1.l0 f L k x1 (wrap64 (x8 + 1)) s) else none) else none) else some s
def impl_chosen_1.f {σ : Type} (cb : List Int → σ → Option σ) (m : Int) (L : List Int) : Nat → Int → List Int → σ → Option σ
 | 0, _, _, _ => none
 | k + 1, a0, l1, s => if (l1.length : Int) = m then cb l1 s else impl_chosen_1.l0 (impl_chosen_1.f cb m L k) L (k + 1) l1 a0 s
def impl_chosen_1.T5 : Bool × List (List Nat × List Nat) := (true, [([], []), ([], []), ([1], [1]), ([], []), ([3], [3]), ([], []), ([], []), ([5, 6], [5, 6]), ([7], [7]), ([8], [8]), ([4, 9, 4], [4, 9]), ([0, 2, 10, 10], [0, 2, 10])])
def impl_chosen_1.B5 : List Nat := [0, 0, 2, 0, 8, 0, 0, 96, 224, 480, 1016, 2047]
theorem impl_chosen_1.tab5 : rtab .any (opsOf Try.f162 5) = impl_chosen_1.T5 := by kernel_rfl
theorem impl_chosen_1.bits5 : waitsOk impl_chosen_1.T5.2 impl_chosen_1.B5 = true := by kernel_rfl
set_option maxHeartbeats 16000000 in
set_option maxRecDepth 100000 in
theorem impl_chosen_1.state {σ : Type} (cb : List Int → σ → Option σ) (I : σ → World → Prop) (M : Nat → Prop) (G1 : Nat) (lb1 : Array Value) (eg1 : EnterF Try.prog G1) (W0 : World) (hM : ∀ k, M k → k < W0.heap.size)
  (hI : Aside0 (∀ a W W', I a W → Below W.heap.size W W' → I a W'))
  (hcb : Aside0 (∀ (l : List Int) (a a' : σ) (A : Option Addr) (c : Nat) (W : World), I a W → Kd.C (Kd.int .i64) W A l.length l → l.length ≤ c → cb l a = some a' → But M W0 W → Calls Try.prog G1 (#[.slice A l.length c] ++ lb1) W fun e w' => e = .returned (.tuple #[]) ∧ I a' w' ∧ But M W w'))
  (gb702 : Nat) (s702_0 : Int) (gb703 gb704 : Nat) (A704 : Option Addr) (c704 : Nat) (l704 : List Int) (gb705 : Nat) (m702 : Aside0 (¬ M gb702)) (m703 : Aside0 (¬ M gb703)) (m704 : Aside0 (¬ M gb704)) (m705 : Aside0 (¬ M gb705)) (mA : Aside0 (∀ ad, A704 = some ad → ¬ M ad.block)) (k : Nat) :
  ∀ (a0 : Int) (A1 : Option Addr) (c1 : Nat) (l1 : List Int) (a a' : σ) (w : World) (hb702 : w.heap[gb702]? = some (.cells #[.int .i64 s702_0] 3 (0, 0))) (hb703 : w.heap[gb703]? = some (.cells #[.func (.func G1) #[] lb1] 125 (0, 0))) (hb704 : w.heap[gb704]? = some (.cells #[.slice A704 l704.length c704] 62 (0, 0))) (hb705 : w.heap[gb705]? = some (.cells #[.func (.func 162) #[] #[.pointer (some ⟨gb702, 0, none⟩), .pointer (some ⟨gb703, 0, none⟩), .pointer (some ⟨gb704, 0, none⟩), .pointer (some ⟨gb705, 0, none⟩)]] 148 (0, 0)))
  (hr704 : Kd.C (Kd.int .i64) w A704 l704.length l704) (hr1 : Kd.C (Kd.int .i64) w A1 l1.length l1) (hc1 : l1.length ≤ c1) (hA1 : ∀ ad, A1 = some ad → ¬ M ad.block) (hi : I a w) (hB : But M W0 w) (h : impl_chosen_1.f cb s702_0 l704 k a0 l1 a = some a'),
  Calls Try.prog 162 #[.int .i64 a0, .slice A1 l1.length c1, .pointer (some ⟨gb702, 0, none⟩), .pointer (some ⟨gb703, 0, none⟩), .pointer (some ⟨gb704, 0, none⟩), .pointer (some ⟨gb705, 0, none⟩)] w fun e w' => e = .returned (.tuple #[]) ∧ I a' w' ∧ But M w w' := by
 induction k using Nat.strongRecOn with
 | _ k ih =>
 intro a0 A1 c1 l1 a a' w hb702 hb703 hb704 hb705 hr704 hr1 hc1 hA1 hi hB h
 cases k with
 | zero => exact absurd h (by simp [impl_chosen_1.f])
 | succ k =>
 simp only [impl_chosen_1.f] at h
 have BK702 := Aside0.mk hb702
 have BK703 := Aside0.mk hb703
 have BK704 := Aside0.mk hb704
 have BK705 := Aside0.mk hb705
 have HR704 := Aside0.mk hr704
 have HR1 := Aside0.mk hr1
 have HC1 := Aside0.mk hc1
 have HA1 := Aside0.mk hA1
 have HI0 := Aside0.mk hi
 have HBut0 := Aside0.mk hB
 have HM := Aside0.mk hM
 clear hb702 hb703 hb704 hb705 hr704 hr1 hc1 hA1 hi hB hM
 obtain ⟨i0, hi0, hz0, hs0, hb0⟩ := info_parts info2
 have INF := Aside0.mk (show Try.prog.info? 2 = some i0 ∧ i0.zero = some (.int .i64 0) ∧ i0.size = 1 ∧ i0.bytes = 8 from ⟨hi0, hz0, hs0, hb0⟩)
 clear hi0 hz0 hs0 hb0
 have H : (if (l1.length : Int) = s702_0 then cb l1 a else impl_chosen_1.l0 (impl_chosen_1.f cb s702_0 l704 k) l704 (k + 1) l1 a0 a) = some a' := h
 clear h
 have hcz8_0 : w.cell? ⟨gb702, 0, none⟩ = some (.int .i64 s702_0) := (blk_cell BK702.out 0).trans rfl
 have hfz8_0 := blk_frozen BK702.out 0
 by_cases c3 : (l1.length : Int) = s702_0
 ·rw [if_pos c3] at H
  have c3b0 : ((l1.length : Int) == s702_0) = true := beq_iff_eq.mpr c3
  have H' := Aside0.mk H
  clear c3 H
  have hcz11_0 : w.cell? ⟨gb703, 0, none⟩ = some (.func (.func G1) #[] lb1) := (blk_cell BK703.out 0).trans rfl
  have hfz11_0 := blk_frozen BK703.out 0
  go_enter Try.func162, Try.ntmps162
  go_wp2_with ((with_reducible refine gate_value (t := 13) rfl ?_); refine goesF_ (some 15) rfl rfl eg1 #[.slice A1 l1.length c1] rfl rfl (by (try simp only [List.map_toArray, List.map_cons, List.map_nil]); first | done | rfl) ?_; (refine (hcb.out l1 a a' A1 c1 w HI0.out HR1.out HC1.out H'.out HBut0.out).mono ?_); rintro e w' ⟨rfl, hi', hb'⟩; refine ⟨_, rfl, ?_⟩)
  first | go_end0 | ((try simp only [Exit.inBlock, Exit.then]); refine bodyPost_ret (results_none rfl _ _ _) rfl ?_)
  exact ⟨rfl, hi', hb'⟩
 ·rw [if_neg c3] at H
  have c3b0 : ((l1.length : Int) == s702_0) = false := beq_eq_false_iff_ne.mpr c3
  have H' := Aside0.mk H
  clear c3 H
  go_enter Try.func162, Try.ntmps162
  go_wp2
  go_loopg [8] (k + 1) (fun kq v8 w' => ∃ (x8_1 : Int) (s1 : σ), v8 = .int .i64 x8_1 ∧ Aside0 (impl_chosen_1.l0 (impl_chosen_1.f cb s702_0 l704 k) l704 kq l1 x8_1 s1 = some a') ∧ Aside0 (kq ≤ k + 1) ∧ Aside0 (w'.heap[gb702]? = some (.cells #[.int .i64 s702_0] 3 (0, 0))) ∧ Aside0 (w'.heap[gb703]? = some (.cells #[.func (.func G1) #[] lb1] 125 (0, 0))) ∧ Aside0 (w'.heap[gb704]? = some (.cells #[.slice A704 l704.length c704] 62 (0, 0))) ∧ Aside0 (w'.heap[gb705]? = some (.cells #[.func (.func 162) #[] #[.pointer (some ⟨gb702, 0, none⟩), .pointer (some ⟨gb703, 0, none⟩), .pointer (some ⟨gb704, 0, none⟩), .pointer (some ⟨gb705, 0, none⟩)]] 148 (0, 0))) ∧ Aside0 (I s1 w') ∧ Aside0 (But M w w'))
  case atStart => exact ⟨a0, a, rfl, H', ⟨Nat.le_refl _⟩, BK702, BK703, BK704, BK705, HI0, ⟨But.refl _ _⟩⟩
  case round =>
   clear H' BK702 BK703 BK704 BK705 HI0
   try clear c3b0
   try clear hcz8_0
   try clear hfz8_0
   obtain ⟨x8_1, s1, rfl, HA, HK1, BK702, BK703, BK704, BK705, HI, HBut⟩ := hrel
   cases gk with
   | zero => exact absurd HA.out (by simp [impl_chosen_1.l0])
   | succ k1 =>
    have H := HA.out
    clear HA
    simp only [impl_chosen_1.l0] at H
    have hcz25_0 : wr.cell? ⟨gb704, 0, none⟩ = some (.slice A704 l704.length c704) := (blk_cell BK704.out 0).trans rfl
    have hfz25_0 := blk_frozen BK704.out 0
    by_cases c17 : x8_1 < (l704.length : Int)
    ·rw [if_pos c17] at H
     have c17b0 : decide (x8_1 < (l704.length : Int)) = true := decide_eq_true c17
     clear c17
     by_cases c19 : 0 ≤ x8_1
     ·rw [if_pos c19] at H
      have c19b0 : decide (0 ≤ x8_1) = true := decide_eq_true c19
      clear c19
      by_cases c20 : l1.length ≤ 1000
      ·rw [if_pos c20] at H
       have LM := Aside0.mk c20
       clear c20
       obtain ⟨s2, A210, H⟩ := Option.bind_eq_some_iff.mp H
       have A21 := Aside0.mk A210
       have H' := Aside0.mk H
       clear A210 H
       have HRr := Aside0.mk (HBut.out.C_int HR704.out mA.out)
       have HR1r := Aside0.mk (HBut.out.C_int HR1.out HA1.out)
       have HB := Aside0.mk (Below.refl wr.heap.size wr)
       try go_wp2
       have n0_ := Aside0.mk (blk_drew BK702.out)
       have n1_ := Aside0.mk (blk_drew BK703.out)
       have n2_ := Aside0.mk (blk_drew BK704.out)
       have n3_ := Aside0.mk (blk_drew BK705.out)
       have n4_ := Aside0.mk (below_drew1 HB.out)
       clear BK702 BK703 BK704 BK705 HB
       have BK702 := n0_
       have BK703 := n1_
       have BK704 := n2_
       have BK705 := n3_
       have HB := n4_
       clear n0_ n1_ n2_ n3_ n4_
       have p184 : 0 ≤ (x8_1 : Int) := of_decide_eq_true (by first | (with_reducible assumption) | assumption)
       have q184 : x8_1 < (l704.length : Int) := of_decide_eq_true (by first | (with_reducible assumption) | assumption)
       obtain ⟨ad184, e184, hx184⟩ := Kd.at_int HRr.out x8_1 p184 q184
       have hw184 := hx184
       cases e184
       replace hx184 := (HB.out.cell (World.block_lt_of_cell? wr _ hx184)).trans hx184
       replace p184 := eq_true p184
       replace q184 := eq_true q184
       refine start_ (n := 12) (S := fun w' => w'.cell? ⟨gb705, 0, none⟩ = some (.func (.func 162) #[] #[.pointer (some ⟨gb702, 0, none⟩), .pointer (some ⟨gb703, 0, none⟩), .pointer (some ⟨gb704, 0, none⟩), .pointer (some ⟨gb705, 0, none⟩)]) ∧ w'.cell? ⟨gb704, 0, none⟩ = some (.slice (some ad184) l704.length c704) ∧ w'.cell? (ad184.add (x8_1).toNat) = some (.int .i64 (rd l704 x8_1))) (ds := []) #[false, false, false, false, false, false, false, false, false, false, false, false] (by kernel_rfl) rfl rfl ⟨(blk_cell BK705.out 0).trans rfl, (blk_cell BK704.out 0).trans rfl, ((HB.out.cell (World.block_lt_of_cell? wr _ hw184)).trans hw184)⟩ (fun hHeld => ?_); refine with_tabW impl_chosen_1.tab5 impl_chosen_1.bits5 (fun HT_ HW_ => ?_)
       generalize wr.drew = w26 at BK702 BK703 BK704 BK705 HB hx184 hHeld ⊢
       refine pure_ (i := 1) (N := some 24) (v := ?_) (a' := ?_) #[false, true, false, false, false, false, false, false, false, false, false, false] rfl rfl (any_of HT_.out (by kernel_rfl)) (fun _ _ _ h => h) (Or.inl ⟨by rfl, ?_⟩) ?_ ?_
       rotate_left
       ·intro w'
        go_simp
        with_reducible rfl
       rotate_left
       ·simp only [Act.put, List.setIfInBounds_toArray, List.set_cons_zero, List.set_cons_succ, i64_w, i32_w]
        rfl
       refine pure_ (i := 2) (N := some 25) (v := ?_) (a' := ?_) #[false, true, true, false, false, false, false, false, false, false, false, false] rfl rfl (any_of HT_.out (by kernel_rfl)) (fun _ _ _ h => h) (Or.inl ⟨by rfl, ?_⟩) ?_ ?_
       rotate_left
       ·intro w'
        go_simp
        with_reducible rfl
       rotate_left
       ·simp only [Act.put, List.setIfInBounds_toArray, List.set_cons_zero, List.set_cons_succ, i64_w, i32_w]
        rfl
       refine pure_ (i := 3) (N := some 26) (v := ?_) (a' := ?_) #[false, true, true, true, false, false, false, false, false, false, false, false] rfl rfl (any_of HT_.out (by kernel_rfl)) (fun _ _ _ h => h) (Or.inl ⟨by rfl, ?_⟩) ?_ ?_
       rotate_left
       ·intro w'
        go_simp
        with_reducible rfl
       rotate_left
       ·simp only [Act.put, List.setIfInBounds_toArray, List.set_cons_zero, List.set_cons_succ, i64_w, i32_w]
        rfl
       refine pure_ (i := 6) (N := some 29) (v := ?_) (a' := ?_) #[false, true, true, true, false, false, true, false, false, false, false, false] rfl rfl (any_of HT_.out (by kernel_rfl)) (fun _ _ _ h => h) (Or.inl ⟨by rfl, ?_⟩) ?_ ?_
       rotate_left
       ·intro w'
        go_simp
        with_reducible rfl
       rotate_left
       ·simp only [Act.put, List.setIfInBounds_toArray, List.set_cons_zero, List.set_cons_succ, i64_w, i32_w]
        rfl
       refine take_ (i := 0) (N := some 23) (v := ?_) (a' := ?_) #[true, true, true, true, false, false, true, false, false, false, false, false] rfl rfl (take_ofW HT_.out HW_.out (by kernel_rfl)) (fun _ _ _ h => h) (Or.inl ⟨by rfl, ?_⟩) hHeld ?_ ?_
       rotate_left
       ·rintro w' ⟨s0, s1, s2⟩
        go_simp
        with_reducible rfl
       rotate_left
       ·simp only [Act.put, List.setIfInBounds_toArray, List.set_cons_zero, List.set_cons_succ, i64_w, i32_w]
        rfl
       refine take_ (i := 5) (N := some 28) (v := ?_) (a' := ?_) #[true, true, true, true, false, true, true, false, false, false, false, false] rfl rfl (take_ofW HT_.out HW_.out (by kernel_rfl)) (fun _ _ _ h => h) (Or.inl ⟨by rfl, ?_⟩) hHeld ?_ ?_
       rotate_left
       ·rintro w' ⟨s0, s1, s2⟩
        go_simp
        with_reducible rfl
       rotate_left
       ·simp only [Act.put, List.setIfInBounds_toArray, List.set_cons_zero, List.set_cons_succ, i64_w, i32_w]
        rfl
       refine pure_ (i := 7) (N := some 30) (v := ?_) (a' := ?_) #[true, true, true, true, false, true, true, true, false, false, false, false] rfl rfl (any_of HT_.out (by kernel_rfl)) (fun _ _ _ h => h) (Or.inl ⟨by rfl, ?_⟩) ?_ ?_
       rotate_left
       ·intro w'
        go_simp
        with_reducible rfl
       rotate_left
       ·simp only [Act.put, List.setIfInBounds_toArray, List.set_cons_zero, List.set_cons_succ, i64_w, i32_w]
        rfl
       refine take_ (i := 8) (N := some 31) (v := ?_) (a' := ?_) #[true, true, true, true, false, true, true, true, true, false, false, false] rfl rfl (take_ofW HT_.out HW_.out (by kernel_rfl)) (fun _ _ _ h => h) (Or.inl ⟨by rfl, ?_⟩) hHeld ?_ ?_
       rotate_left
       ·rintro w' ⟨s0, s1, s2⟩
        go_simp
        with_reducible rfl
       rotate_left
       ·simp only [Act.put, List.setIfInBounds_toArray, List.set_cons_zero, List.set_cons_succ, i64_w, i32_w]
        rfl
       refine join_ (σ := Value) 2 #[true, true, true, true, true, true, true, true, true, true, false, false] (fun s_ => [(27, .slice A1 l1.length l1.length), (32, s_)]) (fun s_ w' => (w'.cell? ⟨gb705, 0, none⟩ = some (.func (.func 162) #[] #[.pointer (some ⟨gb702, 0, none⟩), .pointer (some ⟨gb703, 0, none⟩), .pointer (some ⟨gb704, 0, none⟩), .pointer (some ⟨gb705, 0, none⟩)]) ∧ w'.cell? ⟨gb704, 0, none⟩ = some (.slice (some ad184) l704.length c704) ∧ w'.cell? (ad184.add (x8_1).toNat) = some (.int .i64 (rd l704 x8_1))) ∧ Kd.R (Kd.int .i64) 2 w' wr.heap.size (fun _ => True) s_ [rd l704 x8_1] ∧ (w'.heap[gb702]? = some (.cells #[.int .i64 s702_0] 3 (0, 0))) ∧ (w'.heap[gb703]? = some (.cells #[.func (.func G1) #[] lb1] 125 (0, 0))) ∧ (w'.heap[gb704]? = some (.cells #[.slice (some ad184) l704.length c704] 62 (0, 0))) ∧ (w'.heap[gb705]? = some (.cells #[.func (.func 162) #[] #[.pointer (some ⟨gb702, 0, none⟩), .pointer (some ⟨gb703, 0, none⟩), .pointer (some ⟨gb704, 0, none⟩), .pointer (some ⟨gb705, 0, none⟩)]] 148 (0, 0))) ∧ Below wr.heap.size wr w') ?_ ?_
       rotate_left
       ·intro hCont
        refine two_ (i := 4) (j := 9) (Ni := some 27) (Nj := some 32) #[true, true, true, true, true, true, true, true, true, false, false, false] #[true, true, true, true, false, true, true, true, true, true, false, false] rfl rfl rfl rfl (two_of HT_.out (by kernel_rfl)) (by decide) (by decide) (fun K hK => ?_) (fun K hK => ?_)
        ·skip
         refine goes_ Try.func163 (by kernel_rfl) rfl #[.slice A1 l1.length c1] (by rfl) rfl rfl (by (try simp only [List.map_toArray, List.map_cons, List.map_nil]); first | done | rfl) ?_
         refine (slices_Clip.calls A1 c1 l1 _ (Kd.C_below HR1r.out HB.out) HC1.out).mono ?_
         rintro e w' ⟨rfl, ⟨nd, rfl⟩⟩
         refine ⟨_, rfl, ?_⟩
         have n0_ := Aside0.mk (blk_drewN BK702.out nd)
         have n1_ := Aside0.mk (blk_drewN BK703.out nd)
         have n2_ := Aside0.mk (blk_drewN BK704.out nd)
         have n3_ := Aside0.mk (blk_drewN BK705.out nd)
         have n4_ := Aside0.mk (pw_below_drewN HB.out nd)
         clear BK702 BK703 BK704 BK705 HB
         have BK702 := n0_
         have BK703 := n1_
         have BK704 := n2_
         have BK705 := n3_
         have HB := n4_
         clear n0_ n1_ n2_ n3_ n4_
         refine hK.out _ _ ⟨(blk_cell BK705.out 0).trans rfl, (blk_cell BK704.out 0).trans rfl, ((HB.out.cell (World.block_lt_of_cell? wr _ hw184)).trans hw184)⟩ (fun hHeld => ?_)
         clear hK K
         refine norm_ (a' := ?_) ?_ ?_
         rotate_left
         ·show Act.put _ (some 27) _ = _
          simp only [Act.put, List.setIfInBounds_toArray, List.set_cons_zero, List.set_cons_succ, i64_w, i32_w]
          rfl
         refine one_ (i := 9) (N := some 32) #[true, true, true, true, true, true, true, true, true, true, false, false] rfl rfl (one_of HT_.out (by kernel_rfl)) (by decide) (fun K hK => ?_)
         refine Kd.R_lit_step (Kd.int .i64) _ 2 ?hg (N := 32) ?hd (xs := ([rd l704 x8_1] : List Int)) (inner := [.int .i64 (rd l704 x8_1)]) (ok := fun _ => True) (okp := fun _ => True) ?hr ?hp (fun _ hk => hk) trivial (Below.refl _ _) (Nat.le_refl _) (by simp) ?_; (case hd => rfl); (case hg => rfl); (case hr => first | (go_simp; done) | (go_simp; rfl)); (case hp => exact (Reps.one (show Kd.M (Kd.int .i64) _ _ _ (rd l704 x8_1) [.int .i64 (rd l704 x8_1)] from rfl) (Reps.none _ _)))
         intro v186 w' ho hb hg_ hnew_
         clear hg_ hnew_
         have n5_ := Aside0.mk (Kd.R_lower ho (below_size HB.out))
         have n0_ := Aside0.mk (blk_below BK702.out hb)
         have n1_ := Aside0.mk (blk_below BK703.out hb)
         have n2_ := Aside0.mk (blk_below BK704.out hb)
         have n3_ := Aside0.mk (blk_below BK705.out hb)
         have n4_ := Aside0.mk (below_step HB.out hb)
         clear BK702 BK703 BK704 BK705 HB ho hb
         have BK702 := n0_
         have BK703 := n1_
         have BK704 := n2_
         have BK705 := n3_
         have HB := n4_
         have HO187 := n5_
         clear n0_ n1_ n2_ n3_ n4_ n5_
         refine hK.out _ _ ⟨(blk_cell BK705.out 0).trans rfl, (blk_cell BK704.out 0).trans rfl, ((HB.out.cell (World.block_lt_of_cell? wr _ hw184)).trans hw184)⟩ (fun hHeld => ?_)
         clear hK K
         refine norm_ (a' := ?_) ?_ ?_
         rotate_left
         ·show Act.put _ (some 32) _ = _
          simp only [Act.put, List.setIfInBounds_toArray, List.set_cons_zero, List.set_cons_succ, i64_w, i32_w]
          rfl
         exact norm_ (by simp only [putAll, Act.put, List.setIfInBounds_toArray, List.set_cons_zero, List.set_cons_succ]) (hCont v186 _ ⟨hHeld, HO187.out, BK702.out, BK703.out, BK704.out, BK705.out, HB.out⟩)
        ·skip
         refine Kd.R_lit_step (Kd.int .i64) _ 2 ?hg (N := 32) ?hd (xs := ([rd l704 x8_1] : List Int)) (inner := [.int .i64 (rd l704 x8_1)]) (ok := fun _ => True) (okp := fun _ => True) ?hr ?hp (fun _ hk => hk) trivial (Below.refl _ _) (Nat.le_refl _) (by simp) ?_; (case hd => rfl); (case hg => rfl); (case hr => first | (go_simp; done) | (go_simp; rfl)); (case hp => exact (Reps.one (show Kd.M (Kd.int .i64) _ _ _ (rd l704 x8_1) [.int .i64 (rd l704 x8_1)] from rfl) (Reps.none _ _)))
         intro v186 w' ho hb hg_ hnew_
         clear hg_ hnew_
         have n5_ := Aside0.mk (Kd.R_lower ho (below_size HB.out))
         have n0_ := Aside0.mk (blk_below BK702.out hb)
         have n1_ := Aside0.mk (blk_below BK703.out hb)
         have n2_ := Aside0.mk (blk_below BK704.out hb)
         have n3_ := Aside0.mk (blk_below BK705.out hb)
         have n4_ := Aside0.mk (below_step HB.out hb)
         clear BK702 BK703 BK704 BK705 HB ho hb
         have BK702 := n0_
         have BK703 := n1_
         have BK704 := n2_
         have BK705 := n3_
         have HB := n4_
         have HO187 := n5_
         clear n0_ n1_ n2_ n3_ n4_ n5_
         refine hK.out _ _ ⟨(blk_cell BK705.out 0).trans rfl, (blk_cell BK704.out 0).trans rfl, ((HB.out.cell (World.block_lt_of_cell? wr _ hw184)).trans hw184)⟩ (fun hHeld => ?_)
         clear hK K
         refine norm_ (a' := ?_) ?_ ?_
         rotate_left
         ·show Act.put _ (some 32) _ = _
          simp only [Act.put, List.setIfInBounds_toArray, List.set_cons_zero, List.set_cons_succ, i64_w, i32_w]
          rfl
         refine one_ (i := 4) (N := some 27) #[true, true, true, true, true, true, true, true, true, true, false, false] rfl rfl (one_of HT_.out (by kernel_rfl)) (by decide) (fun K hK => ?_)
         refine goes_ Try.func163 (by kernel_rfl) rfl #[.slice A1 l1.length c1] (by rfl) rfl rfl (by (try simp only [List.map_toArray, List.map_cons, List.map_nil]); first | done | rfl) ?_
         refine (slices_Clip.calls A1 c1 l1 _ (Kd.C_below HR1r.out HB.out) HC1.out).mono ?_
         rintro e w' ⟨rfl, ⟨nd, rfl⟩⟩
         refine ⟨_, rfl, ?_⟩
         have n0_ := Aside0.mk (blk_drewN BK702.out nd)
         have n1_ := Aside0.mk (blk_drewN BK703.out nd)
         have n2_ := Aside0.mk (blk_drewN BK704.out nd)
         have n3_ := Aside0.mk (blk_drewN BK705.out nd)
         have n4_ := Aside0.mk (pw_below_drewN HB.out nd)
         have n5_ := Aside0.mk (Kd.R_drewN HO187.out nd)
         clear BK702 BK703 BK704 BK705 HB HO187
         have BK702 := n0_
         have BK703 := n1_
         have BK704 := n2_
         have BK705 := n3_
         have HB := n4_
         have HO187 := n5_
         clear n0_ n1_ n2_ n3_ n4_ n5_
         refine hK.out _ _ ⟨(blk_cell BK705.out 0).trans rfl, (blk_cell BK704.out 0).trans rfl, ((HB.out.cell (World.block_lt_of_cell? wr _ hw184)).trans hw184)⟩ (fun hHeld => ?_)
         clear hK K
         refine norm_ (a' := ?_) ?_ ?_
         rotate_left
         ·show Act.put _ (some 27) _ = _
          simp only [Act.put, List.setIfInBounds_toArray, List.set_cons_zero, List.set_cons_succ, i64_w, i32_w]
          rfl
         exact norm_ (by simp only [putAll, Act.put, List.setIfInBounds_toArray, List.set_cons_zero, List.set_cons_succ]) (hCont v186 _ ⟨hHeld, HO187.out, BK702.out, BK703.out, BK704.out, BK705.out, HB.out⟩)
       rintro v186 w30 ⟨hS_, h0_, h1_, h2_, h3_, h4_, h5_⟩
       clear BK702 BK703 BK704 BK705 HB
       have HO187 : Aside0 (Kd.R (Kd.int .i64) 2 w30 wr.heap.size (fun _ => True) v186 [rd l704 x8_1]) := ⟨h0_⟩
       have BK702 : Aside0 (w30.heap[gb702]? = some (.cells #[.int .i64 s702_0] 3 (0, 0))) := ⟨h1_⟩
       have BK703 : Aside0 (w30.heap[gb703]? = some (.cells #[.func (.func G1) #[] lb1] 125 (0, 0))) := ⟨h2_⟩
       have BK704 : Aside0 (w30.heap[gb704]? = some (.cells #[.slice (some ad184) l704.length c704] 62 (0, 0))) := ⟨h3_⟩
       have BK705 : Aside0 (w30.heap[gb705]? = some (.cells #[.func (.func 162) #[] #[.pointer (some ⟨gb702, 0, none⟩), .pointer (some ⟨gb703, 0, none⟩), .pointer (some ⟨gb704, 0, none⟩), .pointer (some ⟨gb705, 0, none⟩)]] 148 (0, 0))) := ⟨h4_⟩
       have HB : Aside0 (Below wr.heap.size wr w30) := ⟨h5_⟩
       clear h0_ h1_ h2_ h3_ h4_ h5_
       have hHeld : w30.cell? ⟨gb705, 0, none⟩ = some (.func (.func 162) #[] #[.pointer (some ⟨gb702, 0, none⟩), .pointer (some ⟨gb703, 0, none⟩), .pointer (some ⟨gb704, 0, none⟩), .pointer (some ⟨gb705, 0, none⟩)]) ∧ w30.cell? ⟨gb704, 0, none⟩ = some (.slice (some ad184) l704.length c704) ∧ w30.cell? (ad184.add (x8_1).toNat) = some (.int .i64 (rd l704 x8_1)) := hS_
       obtain ⟨Ao32, co32, eo32⟩ := Kd.R_slice HO187.out
       subst eo32
       obtain ⟨ad32, e32, hx32⟩ := Kd.at_int (Kd.R_reads' HO187.out).2.2 0 (by decide) (by simp)
       have hy32 : w30.cell? ad32 = some (.int .i64 (rd l704 x8_1)) := by simpa [Addr.add, rd] using hx32
       cases e32
       refine norm_ (a' := ?_) ?_ ?_
       rotate_left
       ·simp only [putAll, Act.put, List.setIfInBounds_toArray, List.set_cons_zero, List.set_cons_succ]
        rfl
       refine one_ (i := 10) (N := some 33) #[true, true, true, true, true, true, true, true, true, true, true, false] rfl rfl (one_of HT_.out (by kernel_rfl)) (by decide) (fun K hK => ?_)
       refine app_full_step w30 rfl (by rfl) (.tmp 27) (.tmp 32) 62 rfl 2 i0 .i64 8 Try.underlying62 INF.out.1 INF.out.2.1 INF.out.2.2.1 INF.out.2.2.2 (by decide) A1 l1 rfl (Kd.C_below HR1r.out HB.out) ad32 co32 (rd l704 x8_1) rfl hy32 (by have := LM.out; omega) ?_
       intro g cap w31 hC1 hcap hg hg2 hgr
       have hb := below_app (Below.refl w30.heap.size w30) hgr
       have n5_ := Aside0.mk hC1
       have n6_ := Aside0.mk hcap
       have n7_ := Aside0.mk (show wr.heap.size ≤ g from Nat.le_trans (below_size HB.out) hg)
       have n0_ := Aside0.mk (blk_below BK702.out hb)
       have n1_ := Aside0.mk (blk_below BK703.out hb)
       have n2_ := Aside0.mk (blk_below BK704.out hb)
       have n3_ := Aside0.mk (blk_below BK705.out hb)
       have n4_ := Aside0.mk (below_step HB.out hb)
       clear BK702 BK703 BK704 BK705 HB hb hC1 hcap hg hg2 hgr HO187 hx32 hy32
       have BK702 := n0_
       have BK703 := n1_
       have BK704 := n2_
       have BK705 := n3_
       have HB := n4_
       have HCn := n5_
       have HLn := n6_
       have HGn := n7_
       clear n0_ n1_ n2_ n3_ n4_ n5_ n6_ n7_
       refine hK.out _ _ ⟨(blk_cell BK705.out 0).trans rfl, (blk_cell BK704.out 0).trans rfl, ((HB.out.cell (World.block_lt_of_cell? wr _ hw184)).trans hw184)⟩ (fun hHeld => ?_)
       clear hK K
       refine norm_ (a' := ?_) ?_ ?_
       rotate_left
       ·show Act.put _ (some 33) _ = _
        simp only [Act.put, List.setIfInBounds_toArray, List.set_cons_zero, List.set_cons_succ, i64_w, i32_w]
        rfl
       refine one_ (i := 11) (N := some 34) #[true, true, true, true, true, true, true, true, true, true, true, true] rfl rfl (one_of HT_.out (by kernel_rfl)) (by decide) (fun K hK => ?_)
       refine goesV_ (EnterF.of Try.func162 (by kernel_rfl) rfl) #[.int .i64 (wrap64 (x8_1 + 1)), .slice (some ⟨g, 0, none⟩) (l1 ++ [rd l704 x8_1]).length cap] (by rfl) rfl rfl rfl (by (try simp only [List.map_toArray, List.map_cons, List.map_nil]); first | done | rfl) ?_
       have hcall := ih k (Nat.lt_succ_self k) (wrap64 (x8_1 + 1)) (some ⟨g, 0, none⟩) cap (l1 ++ [rd l704 x8_1]) s1 s2 w31 BK702.out BK703.out BK704.out BK705.out (Kd.C_below HRr.out HB.out) HCn.out HLn.out (fun ad e hm => by cases e; have h1 := HM.out _ hm; have h2 := HBut.out.size; have h3 := HBut0.out.size; have h4 := HGn.out; simp only at h1; omega) (hI.out _ _ _ HI.out HB.out) ((HBut0.out.trans HBut.out).trans (But.of_below HB.out)) A21.out
       refine Calls.mono hcall ?_
       clear hcall
       rintro e w34 ⟨rfl, hi2, hb2⟩
       refine ⟨_, rfl, ?_⟩
       have n0_ := Aside0.mk (hb2.blk BK702.out m702.out)
       have n1_ := Aside0.mk (hb2.blk BK703.out m703.out)
       have n2_ := Aside0.mk (hb2.blk BK704.out m704.out)
       have n3_ := Aside0.mk (hb2.blk BK705.out m705.out)
       have n4_ := Aside0.mk ((But.of_below (M := M) HB.out).trans hb2)
       have hcell := hb2.cell ((HB.out.cell (World.block_lt_of_cell? wr _ hw184)).trans hw184) (by rw [add_block]; exact mA.out ad184 rfl)
       clear BK702 BK703 BK704 BK705 HB
       have BK702 := n0_
       have BK703 := n1_
       have BK704 := n2_
       have BK705 := n3_
       have HBt := n4_
       clear n0_ n1_ n2_ n3_ n4_
       have HI2 := Aside0.mk hi2
       clear hi2 hb2
       refine hK.out _ _ ⟨(blk_cell BK705.out 0).trans rfl, (blk_cell BK704.out 0).trans rfl, hcell⟩ (fun hHeld => ?_)
       clear hK K
       refine norm_ (a' := ?_) ?_ ?_
       rotate_left
       ·show Act.put _ (some 34) _ = _
        simp only [Act.put, List.setIfInBounds_toArray, List.set_cons_zero, List.set_cons_succ, i64_w, i32_w]
        rfl
       refine done_ (done_of HT_.out (by kernel_rfl)) ?_
       try go_wp2
       go_roundg k1
       case measure => have := HK1.out; omega
       case rel => exact ⟨(wrap64 (x8_1 + 1)), s2, rfl, H', ⟨by have := HK1.out; omega⟩, BK702, BK703, BK704, BK705, HI2, ⟨HBut.out.trans HBt.out⟩⟩
      ·rw [if_neg c20] at H
       exact absurd H (by simp)
     ·rw [if_neg c19] at H
      exact absurd H (by simp)
    ·rw [if_neg c17] at H
     have c17b0 : decide (x8_1 < (l704.length : Int)) = false := decide_eq_false c17
     obtain rfl : s1 = a' := by simpa using H
     clear c17 H
     go_wp2
     first | go_end0 | ((try simp only [Exit.inBlock, Exit.then]); refine bodyPost_ret (results_none rfl _ _ _) rfl ?_)
     exact ⟨rfl, HI.out, HBut.out⟩

end Go.Proofs.Ytcepbgffnneagaa.Q
end

section
namespace Go.Proofs.Ytcepbgffnneagaa.Q
open Go.RowKit Go.Proofs.YtcepbgffnneagaaW.PrintWords Go.Proofs.YtcepbgffnneagaaW.PrintLast Go.Proofs.YtcepbgffnneagaaW.PrintMore
attribute [local go_sem] max2_int min2_int max_two min_two max_three min_three max_four min_four   -- for this text's walks alone
set_option linter.unusedVariables false
set_option linter.unusedSimpArgs false

/-- What is done with all ascending lists of so many numbers of a list, one after the other. -/
noncomputable def impl_chosen.fs {σ : Type} (cb : List Int → σ → Option σ) (l0 : List Int) (a1 : Int) (s : σ) : Option σ := tot fun k => impl_chosen_1.f cb a1 l0 k 0 [] s
theorem impl_chosen.store_func {P : Program} (w : World) (a : Addr) (fn : Fn) (first captured : Array Value) (m : Mode) : (store a (.func fn first captured) m).run P w = stored P w a (.func fn first captured) m := run_store P w a _ m rfl
attribute [local go_sem] impl_chosen.store_func
set_option maxHeartbeats 16000000 in
set_option maxRecDepth 100000 in
theorem impl_chosen.state {σ : Type} (cb : List Int → σ → Option σ) (I : σ → World → Prop) (M : Nat → Prop) (G1 : Nat) (lb1 : Array Value) (eg1 : EnterF Try.prog G1) (W0 : World) (hM : ∀ k, M k → k < W0.heap.size)
  (hI : Aside0 (∀ a W W', I a W → Below W.heap.size W W' → I a W'))
  (hcb : Aside0 (∀ (l : List Int) (a a' : σ) (A : Option Addr) (c : Nat) (W : World), I a W → Kd.C (Kd.int .i64) W A l.length l → l.length ≤ c → cb l a = some a' → But M W0 W → Calls Try.prog G1 (#[.slice A l.length c] ++ lb1) W fun e w' => e = .returned (.tuple #[]) ∧ I a' w' ∧ But M W w'))
  (A0 : Option Addr) (c0 : Nat) (l0 : List Int) (a1 : Int) (s s' : σ) (w : World) (hr0 : Kd.C (Kd.int .i64) w A0 l0.length l0) (hA0 : ∀ ad, A0 = some ad → ¬ M ad.block) (hi : I s w) (hB : But M W0 w) (h : impl_chosen.fs cb l0 a1 s = some s') :
  Calls Try.prog 115 #[.slice A0 l0.length c0, .int .i64 a1, .func (.func G1) #[] lb1] w fun e w' => e = .returned (.tuple #[]) ∧ I s' w' ∧ But M w w' := by
 obtain ⟨k, hk⟩ := tot_get h
 have H := Aside0.mk hk
 have mA := Aside0.mk hA0
 have HR0 := Aside0.mk hr0
 have HI0 := Aside0.mk hi
 have HBut0 := Aside0.mk hB
 have HM := Aside0.mk hM
 have HB := Aside0.mk (Below.refl w.heap.size w)
 clear h hk hA0 hr0 hi hB hM
 go_enter Try.func115, Try.ntmps115
 go_wp2_with (first | ((with_reducible refine gate_dst (N := 3) rfl ?_); refine box_event ?hg (N := 3) ?hd (cs := #[.slice A0 l0.length c0]) (t := 62) ?hr ?_; (case hd => rfl); (case hg => rfl); (case hr => first | (go_simp; done) | (go_simp; rfl) | kernel_rfl); intro gb3 hg w13 hbox hb; have n0_ := Aside0.mk (below_step HB.out hb); have n1_ := Aside0.mk hbox; have n2_ := Aside0.mk (by rw [hg]; exact below_size HB.out : w.heap.size ≤ gb3); clear HB; have HB := n0_; have BK3 := n1_; have GW3 := n2_; clear n0_ n1_ n2_; clear hb hbox hg) | ((with_reducible refine gate_dst (N := 4) rfl ?_); refine box_event ?hg (N := 4) ?hd (cs := #[.int .i64 a1]) (t := 3) ?hr ?_; (case hd => rfl); (case hg => rfl); (case hr => first | (go_simp; done) | (go_simp; rfl) | kernel_rfl); intro gb4 hg w14 hbox hb; have n0_ := Aside0.mk (blk_below BK3.out hb); have n1_ := Aside0.mk (below_step HB.out hb); have n2_ := Aside0.mk hbox; have n3_ := Aside0.mk (by rw [hg]; exact below_size HB.out : w.heap.size ≤ gb4); have n4_ := Aside0.mk (by rw [hg]; exact Nat.ne_of_lt (blk_lt BK3.out) : gb3 ≠ gb4); clear BK3 HB; have BK3 := n0_; have HB := n1_; have BK4 := n2_; have GW4 := n3_; have NB3_4 := n4_; clear n0_ n1_ n2_ n3_ n4_; clear hb hbox hg) | ((with_reducible refine gate_dst (N := 5) rfl ?_); refine box_event ?hg (N := 5) ?hd (cs := #[.func (.func G1) #[] lb1]) (t := 125) ?hr ?_; (case hd => rfl); (case hg => rfl); (case hr => first | (go_simp; done) | (go_simp; rfl) | kernel_rfl); intro gb5 hg w15 hbox hb; have n0_ := Aside0.mk (blk_below BK3.out hb); have n1_ := Aside0.mk (blk_below BK4.out hb); have n2_ := Aside0.mk (below_step HB.out hb); have n3_ := Aside0.mk hbox; have n4_ := Aside0.mk (by rw [hg]; exact below_size HB.out : w.heap.size ≤ gb5); have n5_ := Aside0.mk (by rw [hg]; exact Nat.ne_of_lt (blk_lt BK3.out) : gb3 ≠ gb5); have n6_ := Aside0.mk (by rw [hg]; exact Nat.ne_of_lt (blk_lt BK4.out) : gb4 ≠ gb5); clear BK3 BK4 HB; have BK3 := n0_; have BK4 := n1_; have HB := n2_; have BK5 := n3_; have GW5 := n4_; have NB3_5 := n5_; have NB4_5 := n6_; clear n0_ n1_ n2_ n3_ n4_ n5_ n6_; clear hb hbox hg) | ((with_reducible refine gate_dst (N := 6) rfl ?_); refine box_event ?hg (N := 6) ?hd (cs := #[.nilFunc]) (t := 148) ?hr ?_; (case hd => rfl); (case hg => rfl); (case hr => first | (go_simp; done) | (go_simp; rfl) | kernel_rfl); intro gb6 hg w16 hbox hb; have n0_ := Aside0.mk (blk_below BK3.out hb); have n1_ := Aside0.mk (blk_below BK4.out hb); have n2_ := Aside0.mk (blk_below BK5.out hb); have n3_ := Aside0.mk (below_step HB.out hb); have n4_ := Aside0.mk hbox; have n5_ := Aside0.mk (by rw [hg]; exact below_size HB.out : w.heap.size ≤ gb6); have n6_ := Aside0.mk (by rw [hg]; exact Nat.ne_of_lt (blk_lt BK3.out) : gb3 ≠ gb6); have n7_ := Aside0.mk (by rw [hg]; exact Nat.ne_of_lt (blk_lt BK4.out) : gb4 ≠ gb6); have n8_ := Aside0.mk (by rw [hg]; exact Nat.ne_of_lt (blk_lt BK5.out) : gb5 ≠ gb6); clear BK3 BK4 BK5 HB; have BK3 := n0_; have BK4 := n1_; have BK5 := n2_; have HB := n3_; have BK6 := n4_; have GW6 := n5_; have NB3_6 := n6_; have NB4_6 := n7_; have NB5_6 := n8_; clear n0_ n1_ n2_ n3_ n4_ n5_ n6_ n7_ n8_; clear hb hbox hg; have hcz6_0 : w16.cell? ⟨gb6, 0, none⟩ = some .nilFunc := (blk_cell BK6.out 0).trans rfl; have hfz6_0 := blk_frozen BK6.out 0) | ((with_reducible refine gate_value (t := 8) rfl ?_); refine goesF_ (some 9) rfl rfl (EnterF.of Try.func162 (by kernel_rfl) rfl) #[.int .i64 0, .slice none 0 0] rfl (by go_simp; rfl) (by (try simp only [List.map_toArray, List.map_cons, List.map_nil]); first | done | rfl) ?_; have HBc : Aside0 (Below w.heap.size w (w16.setCell ⟨gb6, 0, none⟩ (.func (.func 162) #[] #[.pointer (some ⟨gb4, 0, none⟩), .pointer (some ⟨gb5, 0, none⟩), .pointer (some ⟨gb3, 0, none⟩), .pointer (some ⟨gb6, 0, none⟩)]))) := ⟨(by repeat (first | exact HB.out | apply pw_below_drewN | apply below_drew1 | refine below_set ?_ GW6.out))⟩; (refine Calls.mono (impl_chosen_1.state cb I M G1 lb1 eg1 W0 HM.out hI hcb gb4 a1 gb5 gb3 A0 c0 l0 gb6 ⟨fun hm => by have h1 := HM.out _ hm; have h2 := GW4.out; have h3 := HBut0.out.size; omega⟩ ⟨fun hm => by have h1 := HM.out _ hm; have h2 := GW5.out; have h3 := HBut0.out.size; omega⟩ ⟨fun hm => by have h1 := HM.out _ hm; have h2 := GW3.out; have h3 := HBut0.out.size; omega⟩ ⟨fun hm => by have h1 := HM.out _ hm; have h2 := GW6.out; have h3 := HBut0.out.size; omega⟩ mA k 0 none 0 [] s s' _ (by repeat (first | exact BK4.out | apply blk_drewN | apply blk_drew | refine blk_far ?_ NB4_6.out _)) (by repeat (first | exact BK5.out | apply blk_drewN | apply blk_drew | refine blk_far ?_ NB5_6.out _)) (by repeat (first | exact BK3.out | apply blk_drewN | apply blk_drew | refine blk_far ?_ NB3_6.out _)) (by repeat (first | apply blk_drewN | apply blk_drew | (refine blk_put (cs := #[.nilFunc]) ?_ 0 _ rfl; repeat (first | exact BK6.out | apply blk_drewN | apply blk_drew)))) (Kd.C_below HR0.out HBc.out) (Kd.C_nil _ _) (Nat.le_refl _) (fun ad e => by cases e) (hI.out _ _ _ HI0.out HBc.out) (HBut0.out.trans (But.of_below HBc.out)) H.out) ?_); rintro e w' ⟨rfl, hi', hb'⟩; refine ⟨_, rfl, ?_⟩))
 first | go_end0 | ((try simp only [Exit.inBlock, Exit.then]); refine bodyPost_ret (results_none rfl _ _ _) rfl ?_)
 exact ⟨rfl, hi', (But.of_below HBc.out).trans hb'⟩
theorem impl_chosen.wcalls (cb : List Int → Int → Option Int) (G1 : Nat) (lb1 : Array Value) (eg1 : EnterF Try.prog G1) (g : Nat) (w : World)
  (hcb : Aside0 (∀ (l : List Int) (a a' : Int) (A : Option Addr) (c : Nat) (W : World), But (fun k => k = g) w W → W.heap[g]? = some (.cells #[.int .i64 a] 2 (0, 0)) → Kd.C (Kd.int .i64) W A l.length l → l.length ≤ c → cb l a = some a' → Calls Try.prog G1 (#[.slice A l.length c] ++ lb1) W fun e w' => e = .returned (.tuple #[]) ∧ w'.heap[g]? = some (.cells #[.int .i64 a'] 2 (0, 0)) ∧ But (fun k => k = g) W w'))
  (A0 : Option Addr) (c0 : Nat) (l0 : List Int) (a1 : Int) (s s' : Int) (hg : w.heap[g]? = some (.cells #[.int .i64 s] 2 (0, 0))) (hr0 : Kd.C (Kd.int .i64) w A0 l0.length l0) (_hc0 : l0.length ≤ c0) (hA : ∀ ad, A0 = some ad → ad.block ≠ g) (h : impl_chosen.fs cb l0 a1 s = some s') :
  Calls Try.prog 115 #[.slice A0 l0.length c0, .int .i64 a1, .func (.func G1) #[] lb1] w fun e w' => e = .returned (.tuple #[]) ∧ w'.heap[g]? = some (.cells #[.int .i64 s'] 2 (0, 0)) ∧ But (fun k => k = g) w w' :=
 impl_chosen.state cb (fun a W => W.heap[g]? = some (.cells #[.int .i64 a] 2 (0, 0))) (fun k => k = g) G1 lb1 eg1 w (fun k hk => hk ▸ blk_lt hg) ⟨fun a W W' h hb => blk_below h hb⟩
  ⟨fun l a a' A c W hI hC hc hcb1 hB => hcb.out l a a' A c W hB hI hC hc hcb1⟩ A0 c0 l0 a1 s s' w hr0 (fun ad e => hA ad e) hg (But.refl _ _) h
end Go.Proofs.Ytcepbgffnneagaa.Q
end

section
namespace Go.Proofs.Ytcepbgffnneagaa.Q
open Go.RowKit Go.Proofs.YtcepbgffnneagaaW.PrintWords Go.Proofs.YtcepbgffnneagaaW.PrintLast Go.Proofs.YtcepbgffnneagaaW.PrintMore
attribute [local go_sem] max2_int min2_int max_two min_two max_three min_three max_four min_four   -- for this text's walks alone
set_option linter.unusedVariables false
set_option linter.unusedSimpArgs false

def impl_Flag_others.f (a0_0 : Int) (a0_1 : Int) (a0_2 : Int) : Option (List Int) := (impl_firstT.f a0_1).bind fun t532 => (if 0 ≤ a0_0 then (if a0_0 ≤ (t532.length : Int) then (some (t532.drop (a0_0 : Int).toNat)) else (none)) else (none))
def impl_Flag_others.T1 : Bool × List (List Nat × List Nat) := (true, [([], []), ([0], [0]), ([1], [1]), ([2], [2]), ([], []), ([4], [4]), ([3, 5], [3, 5]), ([6, 3, 0, 1, 2, 3, 4, 5, 6], [6])])
def impl_Flag_others.B1 : List Nat := [0, 1, 3, 7, 0, 16, 63, 127]
theorem impl_Flag_others.tab1 : rtab .any (opsOf Try.f128 1) = impl_Flag_others.T1 := by kernel_rfl
theorem impl_Flag_others.bits1 : waitsOk impl_Flag_others.T1.2 impl_Flag_others.B1 = true := by kernel_rfl
set_option maxHeartbeats 8000000 in
set_option maxRecDepth 100000 in
theorem impl_Flag_others.calls (a0_0 : Int) (a0_1 : Int) (a0_2 : Int) (r : List Int) (w : World) (h : impl_Flag_others.f a0_0 a0_1 a0_2 = some r) :
  Calls Try.prog 128 #[.agg #[.int .i64 a0_0, .int .i64 a0_1, .int .u32 a0_2]] w fun e w' => ∃ v0_ : Value, e = .returned (v0_) ∧ Kd.Q (Kd.int .i64) 2 w' w.heap.size (fun _ => True) v0_ r ∧ Below w.heap.size w w' := by
 have hu45 := Try.underlying45
 have HB := Aside0.mk (Below.refl w.heap.size w)
 have H : ((impl_firstT.f a0_1).bind fun t532 => (if 0 ≤ a0_0 then (if a0_0 ≤ (t532.length : Int) then (some (t532.drop (a0_0 : Int).toNat)) else (none)) else (none))) = some r := h
 clear h
 replace H := Option.bind_eq_some_iff.mp H
 obtain ⟨t532, A20, H⟩ := H
 replace H : (if 0 ≤ a0_0 then (if a0_0 ≤ (t532.length : Int) then (some (t532.drop (a0_0 : Int).toNat)) else (none)) else (none)) = some r := H
 have A2 := Aside0.mk A20
 clear A20
 by_cases c3 : 0 ≤ a0_0
 ·rw [if_pos c3] at H
  have c3b0 := eq_true c3
  have c3b1 : decide (0 ≤ a0_0) = true := decide_eq_true c3
  clear c3
  by_cases c4 : a0_0 ≤ (t532.length : Int)
  ·rw [if_pos c4] at H
   have c4b0 := eq_true c4
   have c4b1 : decide (a0_0 ≤ (t532.length : Int)) = true := decide_eq_true c4
   clear c4
   obtain ⟨y535, hy535⟩ : ∃ y_ : List Int, y_ = (t532.drop (a0_0 : Int).toNat) := ⟨_, rfl⟩
   replace H : (some y535) = some r := by first | (rw [hy535]; with_reducible exact H) | (have H2_ := (Option.bind_some _ _).symm.trans H; rw [hy535]; with_reducible exact H2_) | (have H2_ := (Option.bind_some _ _).symm.trans H; with_reducible exact H2_) | with_reducible exact H | (rw [hy535]; exact H) | exact H
   have Ny535 := Aside0.mk hy535
   clear hy535
   obtain rfl := Option.some.inj H
   go_enter Try.func128, Try.ntmps128
   try go_wp2_with (first | ((with_reducible refine gate_dst (N := 1) rfl ?_); refine box_event ?hg (N := 1) ?hd (cs := #[.int .i64 a0_0, .int .i64 a0_1, .int .u32 a0_2]) (t := 45) ?hr ?_; (case hd => rfl); (case hg => rfl); (case hr => first | (go_simp; done) | (go_simp; rfl)); intro gb531 hg w5 hbox hb; have n0_ := Aside0.mk (below_step (by repeat (first | (with_reducible first | exact HB.out | apply below_alloc | apply pw_below_drewN | apply below_drew1) | exact HB.out)) hb); have n1_ := Aside0.mk (hbox); have n2_ := Aside0.mk ((by rw [hg]; exact (below_size (by repeat (first | (with_reducible first | exact HB.out | apply below_alloc | apply pw_below_drewN | apply below_drew1) | exact HB.out))) : w.heap.size ≤ gb531)); have n3_ := n2_; clear HB; have HB := n0_; have BK531 := n1_; have GW531 := n2_; have GE531 := n3_; clear n0_ n1_ n2_ n3_; clear hb hbox hg))
   have n0_ := Aside0.mk (blk_drew BK531.out)
   have n1_ := Aside0.mk (below_drew1 HB.out)
   clear BK531 HB
   have BK531 := n0_
   have HB := n1_
   clear n0_ n1_
   refine start_ (n := 8) (S := fun w' => w'.cell? ⟨gb531, 0, none⟩ = some (.int .i64 a0_0) ∧ w'.cell? ⟨gb531, 1, none⟩ = some (.int .i64 a0_1) ∧ w'.cell? ⟨gb531, 2, none⟩ = some (.int .u32 a0_2)) (ds := []) #[false, false, false, false, false, false, false, false] (by kernel_rfl) rfl rfl ⟨(blk_cell BK531.out 0).trans rfl, (blk_cell BK531.out 1).trans rfl, (blk_cell BK531.out 2).trans rfl⟩ (fun hHeld => ?_); refine with_tabW impl_Flag_others.tab1 impl_Flag_others.bits1 (fun HT_ HW_ => ?_)
   generalize w5.drew = w6 at BK531 HB hHeld ⊢
   refine pure_ (i := 0) (N := some 3) (v := ?_) (a' := ?_) #[true, false, false, false, false, false, false, false] rfl rfl (any_of HT_.out (by kernel_rfl)) (fun _ _ _ h => h) (Or.inl ⟨by rfl, ?_⟩) ?_ ?_
   rotate_left
   ·intro w'
    go_simp
    with_reducible rfl
   rotate_left
   ·simp only [Act.put, List.setIfInBounds_toArray, List.set_cons_zero, List.set_cons_succ, i64_w, i32_w]
    rfl
   refine pure_ (i := 1) (N := some 4) (v := ?_) (a' := ?_) #[true, true, false, false, false, false, false, false] rfl rfl (any_of HT_.out (by kernel_rfl)) (fun _ _ _ h => h) (Or.inl ⟨by rfl, ?_⟩) ?_ ?_
   rotate_left
   ·intro w'
    go_simp
    with_reducible rfl
   rotate_left
   ·simp only [Act.put, List.setIfInBounds_toArray, List.set_cons_zero, List.set_cons_succ, i64_w, i32_w]
    rfl
   refine pure_ (i := 4) (N := some 7) (v := ?_) (a' := ?_) #[true, true, false, false, true, false, false, false] rfl rfl (any_of HT_.out (by kernel_rfl)) (fun _ _ _ h => h) (Or.inl ⟨by rfl, ?_⟩) ?_ ?_
   rotate_left
   ·intro w'
    go_simp
    with_reducible rfl
   rotate_left
   ·simp only [Act.put, List.setIfInBounds_toArray, List.set_cons_zero, List.set_cons_succ, i64_w, i32_w]
    rfl
   refine take_ (i := 2) (N := some 5) (v := ?_) (a' := ?_) #[true, true, true, false, true, false, false, false] rfl rfl (take_ofW HT_.out HW_.out (by kernel_rfl)) (fun _ _ _ h => h) (Or.inl ⟨by rfl, ?_⟩) hHeld ?_ ?_
   rotate_left
   ·rintro w' ⟨s0, s1, s2⟩
    go_simp
    with_reducible rfl
   rotate_left
   ·simp only [Act.put, List.setIfInBounds_toArray, List.set_cons_zero, List.set_cons_succ, i64_w, i32_w]
    rfl
   refine take_ (i := 5) (N := some 8) (v := ?_) (a' := ?_) #[true, true, true, false, true, true, false, false] rfl rfl (take_ofW HT_.out HW_.out (by kernel_rfl)) (fun _ _ _ h => h) (Or.inl ⟨by rfl, ?_⟩) hHeld ?_ ?_
   rotate_left
   ·rintro w' ⟨s0, s1, s2⟩
    go_simp
    with_reducible rfl
   rotate_left
   ·simp only [Act.put, List.setIfInBounds_toArray, List.set_cons_zero, List.set_cons_succ, i64_w, i32_w]
    rfl
   refine one_ (i := 3) (N := some 6) #[true, true, true, true, true, true, false, false] rfl rfl (one_of HT_.out (by kernel_rfl)) (by decide) (fun K hK => ?_)
   refine goes_ Try.func116 (by kernel_rfl) rfl #[.int .i64 a0_1] (by rfl) rfl rfl (by first | rfl | (simp only [List.map_toArray, List.map_cons, List.map_nil, List.length_drop, List.length_take]; rfl)) ?_
   with_reducible refine (impl_firstT.calls a0_1 t532 _ A2.out).mono ?_
   rintro e w7 ⟨v533, rfl, ho0, hb⟩
   refine ⟨_, rfl, ?_⟩
   have n0_ := Aside0.mk (Kd.R_lower ho0 (below_size HB.out))
   have n1_ := Aside0.mk (blk_below BK531.out hb)
   have n2_ := Aside0.mk (below_step HB.out hb)
   clear BK531 HB
   have HO534 := n0_
   have BK531 := n1_
   have HB := n2_
   clear n0_ n1_ n2_
   (try clear hb)
   (try clear hb2)
   (try clear hk)
   (try clear hi)
   (try clear ho0)
   obtain ⟨Ao8, co8, eo8⟩ := Kd.R_slice HO534.out
   (first | subst eo8 | (injection eo8 with f1_ f2_ f3_; have f4_ := f1_.symm; have f5_ := f3_.symm; clear f1_ f2_ f3_; subst f4_; subst f5_))
   have q9 : (a0_0 : Int) ≤ ((t532.length : Int) : Int) := of_decide_eq_true (by first | (with_reducible assumption) | assumption)
   obtain ⟨i09, hi09, _, hsz9, _⟩ := info_parts info2
   have hcut9 := cut_from (P := Try.prog) 62 2 .i64 Try.underlying62 hi09 1 hsz9 Ao8 t532.length co8 a0_0 (of_decide_eq_true (by first | (with_reducible assumption) | assumption)) q9
   have hr9 := Kd.Q_drop (k := (a0_0 : Int).toNat) (Kd.Q_of_R HO534.out) (by omega)
   obtain ⟨A9, hA9⟩ : ∃ A1, A1 = (if co8 = (a0_0 : Int).toNat then Ao8 else (Ao8 : Option Addr).map (·.add ((a0_0 : Int).toNat * 1))) := ⟨_, rfl⟩
   obtain ⟨c9, hc9⟩ : ∃ c1, c1 = co8 - (a0_0 : Int).toNat := ⟨_, rfl⟩
   have hy9 : y535.length = t532.length - (a0_0 : Int).toNat := (by rw [Ny535.out, List.length_drop])
   rw [← Ny535.out] at hr9
   rw [← hy9, ← hA9, ← hc9] at hcut9
   replace hr9 : Kd.Q (Kd.int .i64) 2 w7 w.heap.size (fun _ => True) (.slice A9 y535.length c9) y535 := (by rw [hA9, hc9, hy9]; exact hr9)
   have HE9 : Aside0 ((Value.slice A9 y535.length c9).ownBlock = (.slice Ao8 t532.length co8 : Value).ownBlock) := ⟨by rw [hA9]; split <;> (cases (Ao8 : Option Addr) <;> first | rfl | simp [Value.ownBlock, add_block])⟩
   clear hy9 hi09 hsz9 HO534 hA9 hc9
   have HO537 := Aside0.mk hr9
   clear hr9
   replace q9 := eq_true q9
   refine hK.out _ _ ⟨(blk_cell BK531.out 0).trans rfl, (blk_cell BK531.out 1).trans rfl, (blk_cell BK531.out 2).trans rfl⟩ (fun hHeld => ?_)
   clear hK K
   refine norm_ (a' := ?_) ?_ ?_
   rotate_left
   ·show Act.put _ (some 6) _ = _
    simp only [Act.put, List.setIfInBounds_toArray, List.set_cons_zero, List.set_cons_succ, i64_w, i32_w]
    rfl
   refine pure_ (i := 6) (N := some 9) (v := ?_) (a' := ?_) #[true, true, true, true, true, true, true, false] rfl rfl (any_of HT_.out (by kernel_rfl)) (fun _ _ _ h => h) (Or.inl ⟨by rfl, ?_⟩) ?_ ?_
   rotate_left
   ·intro w'
    go_simp
    with_reducible rfl
   rotate_left
   ·simp only [Act.put, List.setIfInBounds_toArray, List.set_cons_zero, List.set_cons_succ, i64_w, i32_w]
    rfl
   refine pure_ (i := 7) (N := some 2) (v := ?_) (a' := ?_) #[true, true, true, true, true, true, true, true] rfl rfl (any_of HT_.out (by kernel_rfl)) (fun _ _ _ h => h) (Or.inl ⟨by rfl, ?_⟩) ?_ ?_
   rotate_left
   ·intro w'
    go_simp
    with_reducible rfl
   rotate_left
   ·simp only [Act.put, List.setIfInBounds_toArray, List.set_cons_zero, List.set_cons_succ, i64_w, i32_w]
    rfl
   refine done_ (done_of HT_.out (by kernel_rfl)) ?_
   try go_wp2
   go_ret
   exact ⟨_, by first | rfl | (simp [errW_none, errW_some] <;> rfl) | (simp [*, errW_none, errW_some] <;> rfl), by (with_reducible repeat (first | apply Kd.Q_alloc | apply Kd.Q_drewN | apply Kd.Q_drew)); exact HO537.out, by repeat (first | (with_reducible first | exact HB.out | apply below_alloc | apply pw_below_drewN | apply below_drew1 | refine below_set ?_ GE531.out) | exact HB.out)⟩
  ·rw [if_neg c4] at H
   exact absurd H (by simp)
 ·rw [if_neg c3] at H
  exact absurd H (by simp)

end Go.Proofs.Ytcepbgffnneagaa.Q
end

section
namespace Go.Proofs.Ytcepbgffnneagaa.Q
open Go.RowKit Go.Proofs.YtcepbgffnneagaaW.PrintWords Go.Proofs.YtcepbgffnneagaaW.PrintLast Go.Proofs.YtcepbgffnneagaaW.PrintMore
attribute [local go_sem] max2_int min2_int max_two min_two max_three min_three max_four min_four   -- for this text's walks alone
set_option linter.unusedVariables false
set_option linter.unusedSimpArgs false

def impl_Flag_on.f (a0_0 : Int) (a0_1 : Int) (a0_2 : Int) (l1 : List Int) : Option (Int × Int × Int) := (impl_firstT.f a0_0).bind fun t540 => (if t540.length + l1.length < 17592186044416 then ((impl_onT.f a0_1 a0_2 (t540 ++ l1)).bind fun bt546 => (some (a0_0, bt546.1, bt546.2))) else (none))
def impl_Flag_on.T1 : Bool × List (List Nat × List Nat) := (true, [([], []), ([0], [0]), ([], []), ([2], [2]), ([], []), ([4], [4]), ([5], [5]), ([], []), ([6, 7, 6], [6, 7]), ([3, 8, 8], [3, 8]), ([1, 9], [1, 9]), ([10, 9, 0, 1, 2, 3, 4, 5, 6, 7, 8, 9, 10], [10])])
def impl_Flag_on.B1 : List Nat := [0, 1, 0, 4, 0, 16, 48, 0, 240, 508, 1023, 2047]
theorem impl_Flag_on.tab1 : rtab .any (opsOf Try.f130 1) = impl_Flag_on.T1 := by kernel_rfl
theorem impl_Flag_on.bits1 : waitsOk impl_Flag_on.T1.2 impl_Flag_on.B1 = true := by kernel_rfl
set_option maxHeartbeats 8000000 in
set_option maxRecDepth 100000 in
theorem impl_Flag_on.calls (a0_0 : Int) (a0_1 : Int) (a0_2 : Int) (A1 : Option Addr) (c1 : Nat) (l1 : List Int) (r1 : Int) (r2 : Int) (r3 : Int) (w : World) (hr1 : Kd.C (Kd.int .i64) w A1 l1.length l1) (hc1 : l1.length ≤ c1) (h : impl_Flag_on.f a0_0 a0_1 a0_2 l1 = some (r1, r2, r3)) :
  Calls Try.prog 130 #[.agg #[.int .i64 a0_0, .int .i64 a0_1, .int .u32 a0_2], .slice A1 l1.length c1] w fun e w' => e = .returned (.agg #[.int .i64 r1, .int .i64 r2, .int .u32 r3]) ∧ Below w.heap.size w w' := by
 have hu45 := Try.underlying45
 have hu27 := Try.underlying27
 have HR1 := Aside0.mk hr1
 have HC1 := Aside0.mk hc1
 clear hr1 hc1
 have HB := Aside0.mk (Below.refl w.heap.size w)
 have H : ((impl_firstT.f a0_0).bind fun t540 => (if t540.length + l1.length < 17592186044416 then ((impl_onT.f a0_1 a0_2 (t540 ++ l1)).bind fun bt546 => (some (a0_0, bt546.1, bt546.2))) else (none))) = some (r1, r2, r3) := h
 clear h
 replace H := Option.bind_eq_some_iff.mp H
 obtain ⟨t540, A30, H⟩ := H
 replace H : (if t540.length + l1.length < 17592186044416 then ((impl_onT.f a0_1 a0_2 (t540 ++ l1)).bind fun bt546 => (some (a0_0, bt546.1, bt546.2))) else (none)) = some (r1, r2, r3) := H
 have A3 := Aside0.mk A30
 clear A30
 by_cases c4 : t540.length + l1.length < 17592186044416
 ·rw [if_pos c4] at H
  have LMc4 := Aside0.mk c4
  clear c4
  obtain ⟨y543, hy543⟩ : ∃ y_ : List Int, y_ = (t540 ++ l1) := ⟨_, rfl⟩
  replace H : ((impl_onT.f a0_1 a0_2 y543).bind fun bt546 => (some (a0_0, bt546.1, bt546.2))) = some (r1, r2, r3) := by first | (rw [hy543]; with_reducible exact H) | (have H2_ := (Option.bind_some _ _).symm.trans H; rw [hy543]; with_reducible exact H2_) | (have H2_ := (Option.bind_some _ _).symm.trans H; with_reducible exact H2_) | with_reducible exact H | (rw [hy543]; exact H) | exact H
  have Ny543 := Aside0.mk hy543
  clear hy543
  replace H := Option.bind_eq_some_iff.mp H
  obtain ⟨⟨t546, t547⟩, A50, H⟩ := H
  replace H : (some (a0_0, t546, t547)) = some (r1, r2, r3) := H
  have A5 := Aside0.mk A50
  clear A50
  simp only [Option.some.injEq, Prod.mk.injEq] at H
  obtain ⟨rfl, rfl, rfl⟩ := H
  go_enter Try.func130, Try.ntmps130
  try go_wp2_with (first | ((with_reducible refine gate_dst (N := 2) rfl ?_); refine box_event ?hg (N := 2) ?hd (cs := #[.int .i64 a0_0, .int .i64 a0_1, .int .u32 a0_2]) (t := 45) ?hr ?_; (case hd => rfl); (case hg => rfl); (case hr => first | (go_simp; done) | (go_simp; rfl)); intro gb538 hg w6 hbox hb; have n0_ := Aside0.mk (below_step (by repeat (first | (with_reducible first | exact HB.out | apply below_alloc | apply pw_below_drewN | apply below_drew1) | exact HB.out)) hb); have n1_ := Aside0.mk (hbox); have n2_ := Aside0.mk ((by rw [hg]; exact (below_size (by repeat (first | (with_reducible first | exact HB.out | apply below_alloc | apply pw_below_drewN | apply below_drew1) | exact HB.out))) : w.heap.size ≤ gb538)); have n3_ := n2_; clear HB; have HB := n0_; have BK538 := n1_; have GW538 := n2_; have GE538 := n3_; clear n0_ n1_ n2_ n3_; clear hb hbox hg) | ((with_reducible refine gate_dst (N := 4) rfl ?_); refine box_event ?hg (N := 4) ?hd (cs := #[.int .i64 0, .int .i64 0, .int .u32 0]) (t := 45) ?hr ?_; (case hd => rfl); (case hg => rfl); (case hr => first | (go_simp; done) | (go_simp; rfl)); intro gb539 hg w7 hbox hb; have n0_ := Aside0.mk (blk_below (g := gb538) (o := .cells #[.int .i64 a0_0, .int .i64 a0_1, .int .u32 a0_2] 45 (0, 0)) (by (with_reducible repeat (first | refine blk_drewN ?_ _ | refine blk_drew ?_ | refine blk_alloc ?_ _)); exact BK538.out) hb); have n1_ := Aside0.mk (below_step (by repeat (first | (with_reducible first | exact HB.out | apply below_alloc | apply pw_below_drewN | apply below_drew1 | refine below_set ?_ GE538.out) | exact HB.out)) hb); have n2_ := Aside0.mk (hbox); have n3_ := Aside0.mk ((by rw [hg]; exact (below_size (by repeat (first | (with_reducible first | exact HB.out | apply below_alloc | apply pw_below_drewN | apply below_drew1 | refine below_set ?_ GE538.out) | exact HB.out))) : w.heap.size ≤ gb539)); have n4_ := n3_; have n5_ := Aside0.mk ((by rw [hg]; exact Nat.ne_of_lt (blk_lt (g := gb538) (o := .cells #[.int .i64 a0_0, .int .i64 a0_1, .int .u32 a0_2] 45 (0, 0)) (by (with_reducible repeat (first | refine blk_drewN ?_ _ | refine blk_drew ?_ | refine blk_alloc ?_ _)); exact BK538.out)) : gb538 ≠ gb539)); have n6_ := Aside0.mk (Ne.symm n5_.out); clear BK538; clear HB; have BK538 := n0_; have HB := n1_; have BK539 := n2_; have GW539 := n3_; have GE539 := n4_; have NB538_539 := n5_; have NB539_538 := n6_; clear n0_ n1_ n2_ n3_ n4_ n5_ n6_; clear hb hbox hg))
  have n0_ := Aside0.mk (blk_drew BK538.out)
  have n1_ := Aside0.mk (blk_drew BK539.out)
  have n2_ := Aside0.mk (below_drew1 HB.out)
  clear BK538 BK539 HB
  have BK538 := n0_
  have BK539 := n1_
  have HB := n2_
  clear n0_ n1_ n2_
  refine start_ (n := 12) (S := fun w' => w'.cell? ⟨gb538, 0, none⟩ = some (.int .i64 a0_0) ∧ w'.cell? ⟨gb538, 1, none⟩ = some (.int .i64 a0_1) ∧ w'.cell? ⟨gb538, 2, none⟩ = some (.int .u32 a0_2)) (ds := []) #[false, false, false, false, false, false, false, false, false, false, false, false] (by kernel_rfl) rfl rfl ⟨(blk_cell BK538.out 0).trans rfl, (blk_cell BK538.out 1).trans rfl, (blk_cell BK538.out 2).trans rfl⟩ (fun hHeld => ?_); refine with_tabW impl_Flag_on.tab1 impl_Flag_on.bits1 (fun HT_ HW_ => ?_)
  generalize w7.drew = w8 at BK538 BK539 HB hHeld ⊢
  refine pure_ (i := 0) (N := some 5) (v := ?_) (a' := ?_) #[true, false, false, false, false, false, false, false, false, false, false, false] rfl rfl (any_of HT_.out (by kernel_rfl)) (fun _ _ _ h => h) (Or.inl ⟨by rfl, ?_⟩) ?_ ?_
  rotate_left
  ·intro w'
   go_simp
   with_reducible rfl
  rotate_left
  ·simp only [Act.put, List.setIfInBounds_toArray, List.set_cons_zero, List.set_cons_succ, i64_w, i32_w]
   rfl
  refine pure_ (i := 2) (N := some 7) (v := ?_) (a' := ?_) #[true, false, true, false, false, false, false, false, false, false, false, false] rfl rfl (any_of HT_.out (by kernel_rfl)) (fun _ _ _ h => h) (Or.inl ⟨by rfl, ?_⟩) ?_ ?_
  rotate_left
  ·intro w'
   go_simp
   with_reducible rfl
  rotate_left
  ·simp only [Act.put, List.setIfInBounds_toArray, List.set_cons_zero, List.set_cons_succ, i64_w, i32_w]
   rfl
  refine pure_ (i := 4) (N := some 9) (v := ?_) (a' := ?_) #[true, false, true, false, true, false, false, false, false, false, false, false] rfl rfl (any_of HT_.out (by kernel_rfl)) (fun _ _ _ h => h) (Or.inl ⟨by rfl, ?_⟩) ?_ ?_
  rotate_left
  ·intro w'
   go_simp
   with_reducible rfl
  rotate_left
  ·simp only [Act.put, List.setIfInBounds_toArray, List.set_cons_zero, List.set_cons_succ, i64_w, i32_w]
   rfl
  refine pure_ (i := 7) (N := some 12) (v := ?_) (a' := ?_) #[true, false, true, false, true, false, false, true, false, false, false, false] rfl rfl (any_of HT_.out (by kernel_rfl)) (fun _ _ _ h => h) (Or.inl ⟨by rfl, ?_⟩) ?_ ?_
  rotate_left
  ·intro w'
   go_simp
   with_reducible rfl
  rotate_left
  ·simp only [Act.put, List.setIfInBounds_toArray, List.set_cons_zero, List.set_cons_succ, i64_w, i32_w]
   rfl
  refine take_ (i := 1) (N := some 6) (v := ?_) (a' := ?_) #[true, true, true, false, true, false, false, true, false, false, false, false] rfl rfl (take_ofW HT_.out HW_.out (by kernel_rfl)) (fun _ _ _ h => h) (Or.inl ⟨by rfl, ?_⟩) hHeld ?_ ?_
  rotate_left
  ·rintro w' ⟨s0, s1, s2⟩
   go_simp
   with_reducible rfl
  rotate_left
  ·simp only [Act.put, List.setIfInBounds_toArray, List.set_cons_zero, List.set_cons_succ, i64_w, i32_w]
   rfl
  refine take_ (i := 3) (N := some 8) (v := ?_) (a' := ?_) #[true, true, true, true, true, false, false, true, false, false, false, false] rfl rfl (take_ofW HT_.out HW_.out (by kernel_rfl)) (fun _ _ _ h => h) (Or.inl ⟨by rfl, ?_⟩) hHeld ?_ ?_
  rotate_left
  ·rintro w' ⟨s0, s1, s2⟩
   go_simp
   with_reducible rfl
  rotate_left
  ·simp only [Act.put, List.setIfInBounds_toArray, List.set_cons_zero, List.set_cons_succ, i64_w, i32_w]
   rfl
  refine take_ (i := 5) (N := some 10) (v := ?_) (a' := ?_) #[true, true, true, true, true, true, false, true, false, false, false, false] rfl rfl (take_ofW HT_.out HW_.out (by kernel_rfl)) (fun _ _ _ h => h) (Or.inl ⟨by rfl, ?_⟩) hHeld ?_ ?_
  rotate_left
  ·rintro w' ⟨s0, s1, s2⟩
   go_simp
   with_reducible rfl
  rotate_left
  ·simp only [Act.put, List.setIfInBounds_toArray, List.set_cons_zero, List.set_cons_succ, i64_w, i32_w]
   rfl
  refine one_ (i := 6) (N := some 11) #[true, true, true, true, true, true, true, true, false, false, false, false] rfl rfl (one_of HT_.out (by kernel_rfl)) (by decide) (fun K hK => ?_)
  refine goes_ Try.func116 (by kernel_rfl) rfl #[.int .i64 a0_0] (by rfl) rfl rfl (by first | rfl | (simp only [List.map_toArray, List.map_cons, List.map_nil, List.length_drop, List.length_take]; rfl)) ?_
  with_reducible refine (impl_firstT.calls a0_0 t540 _ A3.out).mono ?_
  rintro e w9 ⟨v541, rfl, ho0, hb⟩
  refine ⟨_, rfl, ?_⟩
  have n0_ := Aside0.mk (Kd.R_lower ho0 (below_size HB.out))
  have n1_ := Aside0.mk (blk_below BK538.out hb)
  have n2_ := Aside0.mk (blk_below BK539.out hb)
  have n3_ := Aside0.mk (below_step HB.out hb)
  clear BK538 BK539 HB
  have HO542 := n0_
  have BK538 := n1_
  have BK539 := n2_
  have HB := n3_
  clear n0_ n1_ n2_ n3_
  (try clear hb)
  (try clear hb2)
  (try clear hk)
  (try clear hi)
  (try clear ho0)
  refine hK.out _ _ ⟨(blk_cell BK538.out 0).trans rfl, (blk_cell BK538.out 1).trans rfl, (blk_cell BK538.out 2).trans rfl⟩ (fun hHeld => ?_)
  clear hK K
  refine norm_ (a' := ?_) ?_ ?_
  rotate_left
  ·show Act.put _ (some 11) _ = _
   simp only [Act.put, List.setIfInBounds_toArray, List.set_cons_zero, List.set_cons_succ, i64_w, i32_w]
   rfl
  refine one_ (i := 8) (N := some 13) #[true, true, true, true, true, true, true, true, true, false, false, false] rfl rfl (one_of HT_.out (by kernel_rfl)) (by decide) (fun K hK => ?_)
  refine Kd.R_append_rows_step (Kd.int .i64) (w0 := w) w.heap.size (by rfl) (.tmp 11) (.tmp 12) 62 2 (.int .i64 0) 8 rfl Try.underlying62 info2 rfl (by decide) (by omega) v541 t540 l1 _ _ _ (fun _ => True) (fun _ => False) rfl rfl ?aO ?aR (fun _ _ h => h) (fun _ h => h.elim) ?aF ?aB ?aS ?aL ?_
  (case aR => repeat (first | exact (Kd.C_below HR1.out HB.out) | (with_reducible refine Kd.C_alloc ?_ _) | (with_reducible refine Kd.C_drewN ?_ _) | (with_reducible refine Kd.C_drew ?_)))
  (case aB => exact (by repeat (first | (with_reducible first | exact HB.out | apply below_alloc | apply pw_below_drewN | apply below_drew1 | refine below_set ?_ GE538.out | refine below_set ?_ GE539.out) | exact HB.out)))
  (case aF => exact (fun _ _ => trivial))
  (case aO => exact (by (with_reducible repeat (first | apply Kd.R_alloc | apply Kd.R_drewN | apply Kd.R_drew)); exact HO542.out))
  (case aS => exact (below_size (by repeat (first | (with_reducible first | exact HB.out | apply below_alloc | apply pw_below_drewN | apply below_drew1 | refine below_set ?_ GE538.out | refine below_set ?_ GE539.out) | exact HB.out))))
  (case aL => have := LMc4.out; omega)
  intro v544 w10 ho hb hg hat
  rw [← Ny543.out] at ho
  have n0_ := Aside0.mk (blk_grown (g := gb538) (o := .cells #[.int .i64 a0_0, .int .i64 a0_1, .int .u32 a0_2] 45 (0, 0)) (by (with_reducible repeat (first | refine blk_drewN ?_ _ | refine blk_drew ?_ | refine blk_alloc ?_ _)); exact BK538.out) hg (Kd.R_ne HO542.out BK538.out (by decide)))
  have n1_ := Aside0.mk (blk_grown (g := gb539) (o := .cells #[.int .i64 0, .int .i64 0, .int .u32 0] 45 (0, 0)) (by (with_reducible repeat (first | refine blk_drewN ?_ _ | refine blk_drew ?_ | refine blk_alloc ?_ _)); exact BK539.out) hg (Kd.R_ne HO542.out BK539.out (by decide)))
  have n2_ := Aside0.mk (hb)
  have n3_ := Aside0.mk (ho)
  clear BK538 BK539 HB HO542
  have BK538 := n0_
  have BK539 := n1_
  have HB := n2_
  have HO545 := n3_
  clear n0_ n1_ n2_ n3_
  clear ho hb hg hat
  obtain ⟨Ao11, co11, eo11⟩ := Kd.R_slice HO545.out
  (first | subst eo11 | (injection eo11 with f1_ f2_ f3_; have f4_ := f1_.symm; have f5_ := f3_.symm; clear f1_ f2_ f3_; subst f4_; subst f5_))
  refine hK.out _ _ ⟨(blk_cell BK538.out 0).trans rfl, (blk_cell BK538.out 1).trans rfl, (blk_cell BK538.out 2).trans rfl⟩ (fun hHeld => ?_)
  clear hK K
  refine norm_ (a' := ?_) ?_ ?_
  rotate_left
  ·show Act.put _ (some 13) _ = _
   simp only [Act.put, List.setIfInBounds_toArray, List.set_cons_zero, List.set_cons_succ, i64_w, i32_w]
   rfl
  refine one_ (i := 9) (N := some 14) #[true, true, true, true, true, true, true, true, true, true, false, false] rfl rfl (one_of HT_.out (by kernel_rfl)) (by decide) (fun K hK => ?_)
  refine goes_ Try.func96 (by kernel_rfl) rfl #[.agg #[.int .i64 a0_1, .int .u32 a0_2], .slice Ao11 y543.length co11] (by rfl) rfl rfl (by first | rfl | (simp only [List.map_toArray, List.map_cons, List.map_nil, List.length_drop, List.length_take]; rfl)) ?_
  with_reducible refine (impl_onT.calls a0_1 a0_2 _ _ y543 t546 t547 _ ?side1 ?side2 A5.out).mono ?_
  (case side1 => repeat (first | exact (Kd.R_reads' HO545.out).2.2 | (with_reducible refine Kd.C_alloc ?_ _) | (with_reducible refine Kd.C_drewN ?_ _) | (with_reducible refine Kd.C_drew ?_)))
  (case side2 => exact (Kd.R_reads' HO545.out).2.1)
  rintro e w12 ⟨rfl, hb⟩
  refine ⟨_, rfl, ?_⟩
  have n0_ := Aside0.mk (Kd.R_below (by (with_reducible repeat (first | apply Kd.R_alloc | apply Kd.R_drewN | apply Kd.R_drew)); exact HO545.out) hb)
  have n1_ := Aside0.mk (blk_below BK538.out hb)
  have n2_ := Aside0.mk (blk_below BK539.out hb)
  have n3_ := Aside0.mk (below_step HB.out hb)
  clear HO545 BK538 BK539 HB
  have HO545 := n0_
  have BK538 := n1_
  have BK539 := n2_
  have HB := n3_
  clear n0_ n1_ n2_ n3_
  (try clear hb)
  (try clear hb2)
  (try clear hk)
  (try clear hi)
  refine hK.out _ _ ⟨(blk_cell BK538.out 0).trans rfl, (blk_cell BK538.out 1).trans rfl, (blk_cell BK538.out 2).trans rfl⟩ (fun hHeld => ?_)
  clear hK K
  refine norm_ (a' := ?_) ?_ ?_
  rotate_left
  ·show Act.put _ (some 14) _ = _
   simp only [Act.put, List.setIfInBounds_toArray, List.set_cons_zero, List.set_cons_succ, i64_w, i32_w]
   rfl
  refine pure_ (i := 10) (N := some 15) (v := ?_) (a' := ?_) #[true, true, true, true, true, true, true, true, true, true, true, false] rfl rfl (any_of HT_.out (by kernel_rfl)) (fun _ _ _ h => h) (Or.inl ⟨by rfl, ?_⟩) ?_ ?_
  rotate_left
  ·intro w'
   go_simp
   with_reducible rfl
  rotate_left
  ·simp only [Act.put, List.setIfInBounds_toArray, List.set_cons_zero, List.set_cons_succ, i64_w, i32_w]
   rfl
  refine one_ (i := 11) (N := none) #[true, true, true, true, true, true, true, true, true, true, true, true] rfl rfl (one_of HT_.out (by kernel_rfl)) (by decide) (fun K hK => ?_)
  have hs13 : w12.cell? ⟨gb539, 0, none⟩ = some (.int .i64 0) := (blk_cell BK539.out 0).trans rfl
  have hfs13 := blk_frozen BK539.out 0
  have hns13_0 := NB538_539.out
  have hms13_0 := NB539_538.out
  have hs14 : w12.cell? ⟨gb539, 1, none⟩ = some (.int .i64 0) := (blk_cell BK539.out 1).trans rfl
  have hfs14 := blk_frozen BK539.out 1
  have hns14_0 := NB538_539.out
  have hms14_0 := NB539_538.out
  have hs15 : w12.cell? ⟨gb539, 2, none⟩ = some (.int .u32 0) := (blk_cell BK539.out 2).trans rfl
  have hfs15 := blk_frozen BK539.out 2
  have hns15_0 := NB538_539.out
  have hms15_0 := NB539_538.out
  refine skip_ (w1 := ?_) (by rfl) rfl ?_ ?_
  rotate_left
  ·go_simp
   rfl
  refine hK.out _ _ ⟨((cell_far (p := ⟨gb539, _, none⟩) NB538_539.out _).trans (((cell_far (p := ⟨gb539, _, none⟩) NB538_539.out _).trans (((cell_far (p := ⟨gb539, _, none⟩) NB538_539.out _).trans (hHeld.1)))))), ((cell_far (p := ⟨gb539, _, none⟩) NB538_539.out _).trans (((cell_far (p := ⟨gb539, _, none⟩) NB538_539.out _).trans (((cell_far (p := ⟨gb539, _, none⟩) NB538_539.out _).trans (hHeld.2.1)))))), ((cell_far (p := ⟨gb539, _, none⟩) NB538_539.out _).trans (((cell_far (p := ⟨gb539, _, none⟩) NB538_539.out _).trans (((cell_far (p := ⟨gb539, _, none⟩) NB538_539.out _).trans (hHeld.2.2))))))⟩ (fun hHeld => ?_)
  clear hK K
  refine done_ (done_of HT_.out (by kernel_rfl)) ?_
  try go_wp2
  refine bodyPost_ret (results_cell_row rfl _ _ gb539 45 #[.int .i64 a0_0, .int .i64 t546, .int .u32 t547] (0, 0) _ rfl (by (with_reducible repeat (first | refine blk_drewN ?_ _ | refine blk_drew ?_ | refine blk_alloc ?_ _)); refine blk_put (cs := #[.int .i64 a0_0, .int .i64 t546, .int .u32 0]) ?_ 2 _ rfl; (with_reducible repeat (first | refine blk_drewN ?_ _ | refine blk_drew ?_ | refine blk_alloc ?_ _)); refine blk_put (cs := #[.int .i64 a0_0, .int .i64 0, .int .u32 0]) ?_ 1 _ rfl; (with_reducible repeat (first | refine blk_drewN ?_ _ | refine blk_drew ?_ | refine blk_alloc ?_ _)); refine blk_put (cs := #[.int .i64 0, .int .i64 0, .int .u32 0]) ?_ 0 _ rfl; (with_reducible repeat (first | refine blk_drewN ?_ _ | refine blk_drew ?_ | refine blk_alloc ?_ _)); exact BK539.out) Try.underlying45 rfl (by kernel_rfl)) rfl ?_
  exact ⟨by first | rfl | (simp [errW_none, errW_some] <;> rfl) | (simp [*, errW_none, errW_some] <;> rfl), by repeat (first | (with_reducible first | exact HB.out | apply below_alloc | apply pw_below_drewN | apply below_drew1 | refine below_set ?_ GE538.out | refine below_set ?_ GE539.out) | exact HB.out)⟩
 ·rw [if_neg c4] at H
  exact absurd H (by simp)

end Go.Proofs.Ytcepbgffnneagaa.Q
end
