/- Contracts of Go functions and plain lemmas over what they compute; printed by the kit's print program or written by hand, joined. -/
import Derived.Test.YtcepbgffnneagaaBFnExactJointDensity3
import Derived.Test.YtcepbgffnneagaaBFnExactJointDensity9
section
namespace Go.Proofs.Ytcepbgffnneagaa.Q
open Go.RowKit Go.Proofs.YtcepbgffnneagaaW.PrintWords Go.Proofs.YtcepbgffnneagaaW.PrintLast Go.Proofs.YtcepbgffnneagaaW.PrintMore
attribute [local go_sem] max2_int min2_int max_two min_two max_three min_three max_four min_four
set_option linter.unusedVariables false
set_option linter.unusedSimpArgs false
section
def impl_firstT.f (a0 : Int) : Option (List Int) := if 0 ≤ a0 ∧ a0 ≤ 5 then some (firstI a0.toNat) else none
theorem impl_firstT.calls (a0 : Int) (r : List Int) (w : World) (h : impl_firstT.f a0 = some r) :
    Calls Try.prog 116 #[.int .i64 a0] w fun e w' => ∃ v0_ : Value, e = .returned (v0_) ∧ Kd.R (Kd.int .i64) 2 w' w.heap.size (fun _ => True) v0_ r ∧ Below w.heap.size w w' := by
  unfold impl_firstT.f at h
  by_cases ok : 0 ≤ a0 ∧ a0 ≤ 5
  · rw [if_pos ok] at h
    exact impl_first.calls 40 a0 r w (by rw [← h]; exact first_eq a0 ok.1 ok.2 40 (by omega))
  · rw [if_neg ok] at h; cases h
theorem impl_firstT.eq {n : Int} (h0 : 0 ≤ n) (h5 : n ≤ 5) : impl_firstT.f n = some (firstI n.toNat) := if_pos ⟨h0, h5⟩
end
section
def impl_bit.f (a0 : Int) (a1 : Int) : Option (Int) := if a0 > a1 then ((impl_pairs.f a0).bind fun t187 => (if 0 ≤ (wrap64 (t187 + a1)) then (some (shl .u32 1 (wrap64 (t187 + a1)))) else (none))) else ((impl_pairs.f a1).bind fun t188 => (if 0 ≤ (wrap64 (t188 + a0)) then (some (shl .u32 1 (wrap64 (t188 + a0)))) else (none)))
set_option maxHeartbeats 8000000 in
set_option maxRecDepth 100000 in
theorem impl_bit.calls (a0 : Int) (a1 : Int) (r : Int) (w : World) (h : impl_bit.f a0 a1 = some r) :
  Calls Try.prog 173 #[.int .i64 a0, .int .i64 a1] w fun e w' => e = .returned (.int .u32 r) ∧ Drawn0 w w' := by
 unfold impl_bit.f at h
 have H := h
 clear h
 by_cases c3 : a0 > a1
 ·rw [if_pos c3] at H
  have c3b0 : decide (a1 < a0) = true := decide_eq_true c3
  clear c3
  replace H := Option.bind_eq_some_iff.mp H
  obtain ⟨t187, A40, H⟩ := H
  (try dsimp only at H)
  have A4 := Aside0.mk A40
  clear A40
  obtain ⟨ji5, hji5⟩ : ∃ j_ : Int, (wrap64 (t187 + a1)) = j_ := ⟨_, rfl⟩
  replace H : (if 0 ≤ (ji5) then (some (shl .u32 1 (ji5))) else (none)) = some r := by first | (rw [hji5] at H; exact H) | (simp only [hji5] at H ⊢; exact H)
  (try rw [hji5] at A4)
  have hji5w : (IntKind.i64.wrap (t187 + a1)) = ji5 := (i64_w _).trans hji5
  by_cases c6 : 0 ≤ (ji5)
  ·rw [if_pos c6] at H
   have c6b0 := eq_true c6
   have c6b1 : decide (0 ≤ (ji5)) = true := decide_eq_true c6
   clear c6
   obtain ⟨ji7, hji7⟩ : ∃ j_ : Int, (shl .u32 1 (ji5)) = j_ := ⟨_, rfl⟩
   replace H : (some ji7) = some r := by first | (rw [hji7] at H; exact H) | (simp only [hji7] at H ⊢; exact H)
   (try rw [hji7] at A4)
   have hji7_ : (IntKind.u32.wrap (1 * 2 ^ min (ji5).toNat 32)) = ji7 := hji7
   have hji7z : (ji5) ≤ 32 → (IntKind.u32.wrap (1 * 2 ^ (ji5).toNat)) = ji7 := shl_small hji7
   have hji7u : (IntKind.u32.wrap (2 ^ min (ji5).toNat 32)) = ji7 := by have h_ := hji7_; rw [Int.one_mul] at h_; exact h_
   have hji7v : (ji5) ≤ 32 → (IntKind.u32.wrap (2 ^ (ji5).toNat)) = ji7 := fun hle_ => by have h_ := hji7z hle_; rw [Int.one_mul] at h_; exact h_
   obtain rfl := Option.some.inj H
   go_enter Try.func173, Try.ntmps173
   go_wp2_with (first | ((with_reducible refine gate_callee (f := 102) rfl ?_); refine goesL_ (some 11) rfl rfl Try.func102 (by kernel_rfl) rfl #[.int .i64 a0] rfl (by (try simp only [maA, mbA, mcA]); first | done | rfl | (simp only [List.length_drop, List.length_take]; rfl)) ?_; (with_reducible refine (impl_pairs.calls a0 t187 _ A4.out).mono ?_); rintro e w' ⟨rfl, ⟨nd, rfl⟩⟩; refine ⟨_, rfl, ?_⟩))
   go_ret
   exact ⟨by first | rfl | (simp; done) | (simp only [← hji5, ← hji7] <;> (first | rfl | simp)) | (simp [*]; done), by repeat (first | exact Drawn0.refl _ | apply Drawn0.step)⟩
  ·rw [if_neg c6] at H
   exact absurd H (by simp)
 ·rw [if_neg c3] at H
  have c3b0 : decide (a1 < a0) = false := decide_eq_false c3
  clear c3
  replace H := Option.bind_eq_some_iff.mp H
  obtain ⟨t188, A80, H⟩ := H
  (try dsimp only at H)
  have A8 := Aside0.mk A80
  clear A80
  obtain ⟨ji9, hji9⟩ : ∃ j_ : Int, (wrap64 (t188 + a0)) = j_ := ⟨_, rfl⟩
  replace H : (if 0 ≤ (ji9) then (some (shl .u32 1 (ji9))) else (none)) = some r := by first | (rw [hji9] at H; exact H) | (simp only [hji9] at H ⊢; exact H)
  (try rw [hji9] at A8)
  have hji9w : (IntKind.i64.wrap (t188 + a0)) = ji9 := (i64_w _).trans hji9
  by_cases c10 : 0 ≤ (ji9)
  ·rw [if_pos c10] at H
   have c10b0 := eq_true c10
   have c10b1 : decide (0 ≤ (ji9)) = true := decide_eq_true c10
   clear c10
   obtain ⟨ji11, hji11⟩ : ∃ j_ : Int, (shl .u32 1 (ji9)) = j_ := ⟨_, rfl⟩
   replace H : (some ji11) = some r := by first | (rw [hji11] at H; exact H) | (simp only [hji11] at H ⊢; exact H)
   (try rw [hji11] at A8)
   have hji11_ : (IntKind.u32.wrap (1 * 2 ^ min (ji9).toNat 32)) = ji11 := hji11
   have hji11z : (ji9) ≤ 32 → (IntKind.u32.wrap (1 * 2 ^ (ji9).toNat)) = ji11 := shl_small hji11
   have hji11u : (IntKind.u32.wrap (2 ^ min (ji9).toNat 32)) = ji11 := by have h_ := hji11_; rw [Int.one_mul] at h_; exact h_
   have hji11v : (ji9) ≤ 32 → (IntKind.u32.wrap (2 ^ (ji9).toNat)) = ji11 := fun hle_ => by have h_ := hji11z hle_; rw [Int.one_mul] at h_; exact h_
   obtain rfl := Option.some.inj H
   go_enter Try.func173, Try.ntmps173
   go_wp2_with (first | ((with_reducible refine gate_callee (f := 102) rfl ?_); refine goesL_ (some 11) rfl rfl Try.func102 (by kernel_rfl) rfl #[.int .i64 a1] rfl (by (try simp only [maA, mbA, mcA]); first | done | rfl | (simp only [List.length_drop, List.length_take]; rfl)) ?_; (with_reducible refine (impl_pairs.calls a1 t188 _ A8.out).mono ?_); rintro e w' ⟨rfl, ⟨nd, rfl⟩⟩; refine ⟨_, rfl, ?_⟩))
   go_ret
   exact ⟨by first | rfl | (simp; done) | (simp only [← hji9, ← hji11] <;> (first | rfl | simp)) | (simp [*]; done), by repeat (first | exact Drawn0.refl _ | apply Drawn0.step)⟩
  ·rw [if_neg c10] at H
   exact absurd H (by simp)
end
section
mutual
def impl_made.l0 (cb1 : Int → Int → Option (Bool)) : Nat → Int → Int → Int → Int → Option (Int × Int)
 | 0, _, _, _, _ => none
 | k + 1, x10, x11, x191000, x191001 => if x11 < x10 then (impl_made.l1 cb1 k x11 x10 x11 x11 0 x191000 x191001) else (some (x191000, x191001))
def impl_made.l1 (cb1 : Int → Int → Option (Bool)) : Nat → Int → Int → Int → Int → Int → Int → Int → Option (Int × Int)
 | 0, _, _, _, _, _, _, _ => none
 | k + 1, x6, x10, x11, x14, x15, x191000, x191001 => if x15 < x14 then ((cb1 x15 x6).bind fun t191 => (if t191 = true then ((impl_bit.f x15 x6).bind fun t192 => (impl_made.l1 cb1 k x6 x10 x11 x14 (wrap64 (x15 + 1)) x191000 (Go.bits .or .u32 x191001 t192))) else (impl_made.l1 cb1 k x6 x10 x11 x14 (wrap64 (x15 + 1)) x191000 x191001))) else (impl_made.l0 cb1 k x10 (wrap64 (x11 + 1)) x191000 x191001)
end
def impl_made.f (cb1 : Int → Int → Option (Bool)) (k : Nat) (a0 : Int) : Option (Int × Int) := impl_made.l0 cb1 k a0 0 a0 0
def impl_made.T9 : Bool × List (List Nat × List Nat) := (true, [([], []), ([0], [0]), ([], []), ([], []), ([2, 3], [2, 3]), ([1, 4], [1, 4]), ([0, 1, 2, 3, 4, 5], []), ([6, 5, 4, 0, 1, 2, 3, 4, 5], [5, 6])])
def impl_made.B9 : List Nat := [0, 1, 0, 0, 12, 31, 63, 127]
theorem impl_made.tab9 : rtab .any (opsOf Try.f144 9) = impl_made.T9 := by kernel_rfl
theorem impl_made.bits9 : waitsOk impl_made.T9.2 impl_made.B9 = true := by kernel_rfl
set_option maxHeartbeats 8000000 in
set_option maxRecDepth 100000 in
theorem impl_made.calls (cb1 : Int → Int → Option (Bool)) (G1 : Nat) (lb1 : Array Value) (eg1 : EnterF Try.prog G1) (W0 : World) (hcb1 : Aside0 (∀ (a0 : Int) (a1 : Int) (r : Bool) (W : World), cb1 a0 a1 = some r → Below W0.heap.size W0 W → Calls Try.prog G1 (#[.int .i64 a0, .int .i64 a1] ++ lb1) W fun e w' => e = .returned (.bool r) ∧ Below W.heap.size W w')) (k : Nat) (a0 : Int) (r1 : Int) (r2 : Int) (w : World) (h : impl_made.f cb1 k a0 = some (r1, r2)) (hW0 : Aside0 (Below W0.heap.size W0 w)) :
  Calls Try.prog 144 #[.int .i64 a0, .func (.func G1) #[] lb1] w fun e w' => e = .returned (.agg #[.int .i64 r1, .int .u32 r2]) ∧ Below w.heap.size w w' := by
 have hu27 := Try.underlying27
 have HB := Aside0.mk (Below.refl w.heap.size w)
 unfold impl_made.f at h
 have H := h
 clear h
 have H' := Aside0.mk H
 clear H
 go_enter Try.func144, Try.ntmps144
 go_wp2_with (first | ((with_reducible refine gate_dst (N := 4) rfl ?_); refine box_event rfl (N := 4) rfl (cs := #[.int .i64 0, .int .u32 0]) (t := 27) ?hr ?_; (case hr => first | (go_simp; done) | (go_simp; rfl)); intro gb189 hg w2 hbox hb; have BK189 := Aside0.mk (hbox); have GW189 := geA HB hg; replace HB := hbB HB hb; have GE189 := GW189; clear hb hbox hg) | ((with_reducible refine gate_dst (N := 5) rfl ?_); refine box_event rfl (N := 5) rfl (cs := #[.int .i64 0, .int .u32 0]) (t := 27) ?hr ?_; (case hr => first | (go_simp; done) | (go_simp; rfl)); intro gb190 hg w3 hbox hb; have BK190 := Aside0.mk (hbox); have GW190 := geA HB hg; replace HB := hbB HB hb; have GE190 := GW190; have NB189_190 := nbA hg BK189; replace BK189 := bkB BK189 hb; have NB190_189 := neA NB189_190; clear hb hbox hg; have hnb4 := NB190_189.out; have hnc4 := NB189_190.out; have hcz5_0 : w3.cell? ⟨gb190, 0, none⟩ = some (.int .i64 0) := bcA BK190 0 rfl; have hcz5_1 : w3.cell? ⟨gb190, 1, none⟩ = some (.int .u32 0) := bcA BK190 1 rfl; have hfz5_0 := blk_frozen BK190.out 0; have hfz5_1 := blk_frozen BK190.out 1))
 go_loopg [11] k (fun kq v11 w' => ∃ (x11_1 : Int) (x191001_1 : Int), v11 = .int .i64 x11_1 ∧ Aside0 (impl_made.l0 cb1 kq a0 x11_1 a0 x191001_1 = some (r1, r2)) ∧ Aside0 (kq ≤ k) ∧ Aside0 (w'.heap[gb189]? = some (.cells #[.int .i64 0, .int .u32 0] 27 (0, 0))) ∧ Aside0 (w'.heap[gb190]? = some (.cells #[.int .i64 a0, .int .u32 x191001_1] 27 (0, 0))) ∧ Aside0 (Below w.heap.size w w'))
 case atStart => exact ⟨(0), (0), (by first | rfl | (simp; done) | (simp [*]; done)), H', ⟨Nat.le_refl _⟩, ⟨by (with_reducible repeat (first | refine blk_drewN ?_ _ | refine blk_drew ?_ | refine blk_alloc ?_ _)); refine blk_far ?_ NB189_190.out _; (with_reducible repeat (first | refine blk_drewN ?_ _ | refine blk_drew ?_ | refine blk_alloc ?_ _)); refine blk_far ?_ NB189_190.out _; (with_reducible repeat (first | refine blk_drewN ?_ _ | refine blk_drew ?_ | refine blk_alloc ?_ _)); exact BK189.out⟩, ⟨by (with_reducible repeat (first | refine blk_drewN ?_ _ | refine blk_drew ?_ | refine blk_alloc ?_ _)); refine blk_put (cs := #[.int .i64 a0, .int .u32 0]) ?_ 1 _ rfl; (with_reducible repeat (first | refine blk_drewN ?_ _ | refine blk_drew ?_ | refine blk_alloc ?_ _)); refine blk_put (cs := #[.int .i64 0, .int .u32 0]) ?_ 0 _ rfl; (with_reducible repeat (first | refine blk_drewN ?_ _ | refine blk_drew ?_ | refine blk_alloc ?_ _)); exact BK190.out⟩, ⟨by repeat (first | (with_reducible first | exact HB.out | apply below_alloc | apply pw_below_drewN | apply below_drew1 | refine below_set ?_ GE189.out | refine below_set ?_ GE190.out) | exact HB.out)⟩⟩
 case round =>
  clear H'
  try clear c1
  try clear p2
  try clear c4
  try clear hcz5_0
  try clear hcz5_1
  try clear hfz5_0
  try clear hfz5_1
  obtain ⟨x11_1, x191001_1, rfl, HA, HK1, BK189, BK190, HB⟩ := hrel
  cases gk with
  | zero => exact absurd HA.out (by simp [impl_made.l0])
  | succ k1 =>
   have H := HA.out
   clear HA
   simp only [impl_made.l0] at H
   by_cases c6 : x11_1 < a0
   ·rw [if_pos c6] at H
    have c6b0 : decide (x11_1 < a0) = true := decide_eq_true c6
    clear c6
    have H' := Aside0.mk H
    clear H
    go_wp2
    go_loopg [15] k1 (fun kq v15 w' => ∃ (x15_2 : Int) (x191001_2 : Int), v15 = .int .i64 x15_2 ∧ Aside0 (impl_made.l1 cb1 kq x11_1 a0 x11_1 x11_1 x15_2 a0 x191001_2 = some (r1, r2)) ∧ Aside0 (kq ≤ k1) ∧ Aside0 (w'.heap[gb189]? = some (.cells #[.int .i64 0, .int .u32 0] 27 (0, 0))) ∧ Aside0 (w'.heap[gb190]? = some (.cells #[.int .i64 a0, .int .u32 x191001_2] 27 (0, 0))) ∧ Aside0 (Below w.heap.size w w'))
    case atStart => exact ⟨(0), (x191001_1), (by first | rfl | (simp; done) | (simp [*]; done)), H', ⟨Nat.le_refl _⟩, ⟨by (with_reducible repeat (first | refine blk_drewN ?_ _ | refine blk_drew ?_ | refine blk_alloc ?_ _)); exact BK189.out⟩, ⟨by (with_reducible repeat (first | refine blk_drewN ?_ _ | refine blk_drew ?_ | refine blk_alloc ?_ _)); exact BK190.out⟩, ⟨by repeat (first | (with_reducible first | exact HB.out | apply below_alloc | apply pw_below_drewN | apply below_drew1 | refine below_set ?_ GE189.out | refine below_set ?_ GE190.out) | exact HB.out)⟩⟩
    case round =>
     clear H'
     try clear c1
     try clear p2
     try clear c4
     try clear c6
     try clear c6b0
     try clear hcz5_0
     try clear hcz5_1
     try clear hfz5_0
     try clear hfz5_1
     try clear p2
     obtain ⟨x15_2, x191001_2, rfl, HA, HK2, BK189, BK190, HB⟩ := hrel
     cases gk with
     | zero => exact absurd HA.out (by simp [impl_made.l1])
     | succ k2 =>
      have H := HA.out
      clear HA
      simp only [impl_made.l1] at H
      by_cases c7 : x15_2 < x11_1
      ·rw [if_pos c7] at H
       have c7b0 : decide (x15_2 < x11_1) = true := decide_eq_true c7
       clear c7
       replace H := Option.bind_eq_some_iff.mp H
       obtain ⟨t191, A80, H⟩ := H
       (try dsimp only at H)
       have A8 := Aside0.mk A80
       clear A80
       by_cases c9 : t191 = true
       ·subst c9
        rw [if_pos rfl] at H
        replace H := Option.bind_eq_some_iff.mp H
        obtain ⟨t192, A100, H⟩ := H
        (try dsimp only at H)
        have A10 := Aside0.mk A100
        clear A100
        have H' := Aside0.mk H
        clear H
        try go_wp2_with (first | ((with_reducible refine gate_value (t := 18) rfl ?_); refine goesF_ (some 21) rfl rfl eg1 #[.int .i64 x15_2, .int .i64 x11_1] rfl rfl (by (try simp only [maA, mbA, mcA]); first | done | rfl | (simp only [List.length_drop, List.length_take]; rfl)) ?_; (with_reducible refine (hcb1.out x15_2 x11_1 true _ A8.out (below_via hW0.out (by repeat (first | (with_reducible first | exact HB.out | apply below_alloc | apply pw_below_drewN | apply below_drew1 | refine below_set ?_ GE189.out | refine below_set ?_ GE190.out) | exact HB.out)))).mono ?_); rintro e w11 ⟨rfl, hb⟩; refine ⟨_, rfl, ?_⟩; replace BK189 := bkB BK189 hb; replace BK190 := bkB BK190 hb; replace HB := hbB HB hb; (try clear hb)))
        replace BK189 := Aside0.mk (blk_drew BK189.out)
        replace BK190 := Aside0.mk (blk_drew BK190.out)
        replace HB := Aside0.mk (below_drew1 HB.out)
        refine start_ (n := 8) (S := fun w' => w'.cell? ⟨gb190, 0, none⟩ = some (.int .i64 a0) ∧ w'.cell? ⟨gb190, 1, none⟩ = some (.int .u32 x191001_2)) (ds := [7]) #[false, false, false, false, false, false, false, false] (by kernel_rfl) rfl rfl ⟨bcA BK190 0 rfl, bcA BK190 1 rfl⟩ (fun hHeld => ?_); refine with_tabW impl_made.tab9 impl_made.bits9 (fun HT_ HW_ => ?_)
        generalize w11.drew = w12 at BK189 BK190 HB hHeld ⊢
        refine pure_ (i := 0) (N := some 22) (v := ?_) (a' := ?_) #[true, false, false, false, false, false, false, false] rfl rfl (any_of HT_.out (by kernel_rfl)) (fun _ _ _ h => h) (Or.inl ⟨by rfl, ?_⟩) ?_ ?_
        rotate_left;(intro w';go_simp;with_reducible rfl);rotate_left;(simp only [Act.put, psA, pzA, pnA, i64_w, i32_w];rfl)
        refine pure_ (i := 2) (N := some 24) (v := ?_) (a' := ?_) #[true, false, true, false, false, false, false, false] rfl rfl (any_of HT_.out (by kernel_rfl)) (fun _ _ _ h => h) (Or.inl ⟨by rfl, ?_⟩) ?_ ?_
        rotate_left;(intro w';go_simp;with_reducible rfl);rotate_left;(simp only [Act.put, psA, pzA, pnA, i64_w, i32_w];rfl)
        refine pure_ (i := 3) (N := some 25) (v := ?_) (a' := ?_) #[true, false, true, true, false, false, false, false] rfl rfl (any_of HT_.out (by kernel_rfl)) (fun _ _ _ h => h) (Or.inl ⟨by rfl, ?_⟩) ?_ ?_
        rotate_left;(intro w';go_simp;with_reducible rfl);rotate_left;(simp only [Act.put, psA, pzA, pnA, i64_w, i32_w];rfl)
        refine take_ (i := 1) (N := some 23) (v := ?_) (a' := ?_) #[true, true, true, true, false, false, false, false] rfl rfl (take_ofW HT_.out HW_.out (by kernel_rfl)) (fun _ _ _ h => h) (Or.inl ⟨by rfl, ?_⟩) hHeld ?_ ?_
        rotate_left;(rintro w' ⟨s0, s1⟩;go_simp;with_reducible rfl);rotate_left;(simp only [Act.put, psA, pzA, pnA, i64_w, i32_w];rfl)
        refine one_ (i := 4) (N := some 26) #[true, true, true, true, true, false, false, false] rfl rfl (one_of HT_.out (by kernel_rfl)) (by decide) (fun K hK => ?_)
        refine goes_ Try.func173 (by kernel_rfl) rfl #[.int .i64 x15_2, .int .i64 x11_1] (by rfl) rfl rfl (by first | rfl | (simp only [List.map_toArray, List.map_cons, List.map_nil, List.length_drop, List.length_take]; rfl)) ?_
        with_reducible refine (impl_bit.calls x15_2 x11_1 t192 _ A10.out).mono ?_
        rintro e w' ⟨rfl, ⟨nd, rfl⟩⟩
        refine ⟨_, rfl, ?_⟩
        refine hK.out _ _ ⟨bcA BK190 0 rfl, bcA BK190 1 rfl⟩ (fun hHeld => ?_)
        clear hK K
        refine norm_ (a' := ?_) ?_ ?_
        rotate_left;(show Act.put _ (some 26) _ = _;simp only [Act.put, psA, pzA, pnA, i64_w, i32_w];rfl)
        refine pure_ (i := 5) (N := some 27) (v := ?_) (a' := ?_) #[true, true, true, true, true, true, false, false] rfl rfl (any_of HT_.out (by kernel_rfl)) (fun _ _ _ h => h) (Or.inl ⟨by rfl, ?_⟩) ?_ ?_
        rotate_left;(intro w';go_simp;with_reducible rfl);rotate_left;(simp only [Act.put, psA, pzA, pnA, i64_w, i32_w];rfl)
        refine pure_ (i := 6) (N := some 28) (v := ?_) (a' := ?_) #[true, true, true, true, true, true, true, false] rfl rfl (any_of HT_.out (by kernel_rfl)) (fun _ _ _ h => h) (Or.inl ⟨by rfl, ?_⟩) ?_ ?_
        rotate_left;(intro w';go_simp;with_reducible rfl);rotate_left;(simp only [Act.put, psA, pzA, pnA, i64_w, i32_w];rfl)
        refine last_ (i := 7) (N := none) #[true, true, true, true, true, true, true, true] rfl rfl (one_of HT_.out (by kernel_rfl)) (by decide) (fun K hK => ?_)
        have hs13 : w12.cell? ⟨gb190, 1, none⟩ = some (.int .u32 x191001_2) := bcA BK190 1 rfl
        have hfs13 := blk_frozen BK190.out 1
        have hns13_0 := NB189_190.out
        have hms13_0 := NB190_189.out
        refine skip_ (w1 := ?_) (by rfl) rfl ?_ ?_
        rotate_left
        ·go_simp
         rfl
        refine hK.out _ _ ?_
        clear hK K
        refine done_ (done_of HT_.out (by kernel_rfl)) ?_
        try go_wp2
        go_roundg k2
        case measure => have := HK1.out; have := HK2.out; omega
        case rel => exact ⟨(wrap64 (x15_2 + 1)), (Go.bits .or .u32 x191001_2 t192), (by first | rfl | (simp; done) | (simp [*]; done)), H', ⟨by have := HK1.out; have := HK2.out; omega⟩, ⟨by (with_reducible repeat (first | refine blk_drewN ?_ _ | refine blk_drew ?_ | refine blk_alloc ?_ _)); refine blk_far ?_ NB189_190.out _; (with_reducible repeat (first | refine blk_drewN ?_ _ | refine blk_drew ?_ | refine blk_alloc ?_ _)); exact BK189.out⟩, ⟨by (with_reducible repeat (first | refine blk_drewN ?_ _ | refine blk_drew ?_ | refine blk_alloc ?_ _)); refine blk_put (cs := #[.int .i64 a0, .int .u32 x191001_2]) ?_ 1 _ rfl; (with_reducible repeat (first | refine blk_drewN ?_ _ | refine blk_drew ?_ | refine blk_alloc ?_ _)); exact BK190.out⟩, ⟨by repeat (first | (with_reducible first | exact HB.out | apply below_alloc | apply pw_below_drewN | apply below_drew1 | refine below_set ?_ GE189.out | refine below_set ?_ GE190.out) | exact HB.out)⟩⟩
       ·replace c9 := Bool.eq_false_iff.mpr c9
        subst c9
        rw [if_neg (show ¬ (false = true) by decide)] at H
        have H' := Aside0.mk H
        clear H
        go_wp2_with (first | ((with_reducible refine gate_value (t := 18) rfl ?_); refine goesF_ (some 21) rfl rfl eg1 #[.int .i64 x15_2, .int .i64 x11_1] rfl rfl (by (try simp only [maA, mbA, mcA]); first | done | rfl | (simp only [List.length_drop, List.length_take]; rfl)) ?_; (with_reducible refine (hcb1.out x15_2 x11_1 false _ A8.out (below_via hW0.out (by repeat (first | (with_reducible first | exact HB.out | apply below_alloc | apply pw_below_drewN | apply below_drew1 | refine below_set ?_ GE189.out | refine below_set ?_ GE190.out) | exact HB.out)))).mono ?_); rintro e w14 ⟨rfl, hb⟩; refine ⟨_, rfl, ?_⟩; replace BK189 := bkB BK189 hb; replace BK190 := bkB BK190 hb; replace HB := hbB HB hb; (try clear hb)))
        go_roundg k2
        case measure => have := HK1.out; have := HK2.out; omega
        case rel => exact ⟨(wrap64 (x15_2 + 1)), (x191001_2), (by first | rfl | (simp; done) | (simp [*]; done)), H', ⟨by have := HK1.out; have := HK2.out; omega⟩, ⟨by (with_reducible repeat (first | refine blk_drewN ?_ _ | refine blk_drew ?_ | refine blk_alloc ?_ _)); exact BK189.out⟩, ⟨by (with_reducible repeat (first | refine blk_drewN ?_ _ | refine blk_drew ?_ | refine blk_alloc ?_ _)); exact BK190.out⟩, ⟨by repeat (first | (with_reducible first | exact HB.out | apply below_alloc | apply pw_below_drewN | apply below_drew1 | refine below_set ?_ GE189.out | refine below_set ?_ GE190.out) | exact HB.out)⟩⟩
      ·rw [if_neg c7] at H
       have c7b0 : decide (x15_2 < x11_1) = false := decide_eq_false c7
       clear c7
       have H' := Aside0.mk H
       clear H
       go_wp2
       go_roundg k2
       case measure => have := HK1.out; have := HK2.out; omega
       case rel => exact ⟨(wrap64 (x11_1 + 1)), (x191001_2), (by first | rfl | (simp; done) | (simp [*]; done)), H', ⟨by have := HK1.out; have := HK2.out; omega⟩, ⟨by (with_reducible repeat (first | refine blk_drewN ?_ _ | refine blk_drew ?_ | refine blk_alloc ?_ _)); exact BK189.out⟩, ⟨by (with_reducible repeat (first | refine blk_drewN ?_ _ | refine blk_drew ?_ | refine blk_alloc ?_ _)); exact BK190.out⟩, ⟨by repeat (first | (with_reducible first | exact HB.out | apply below_alloc | apply pw_below_drewN | apply below_drew1 | refine below_set ?_ GE189.out | refine below_set ?_ GE190.out) | exact HB.out)⟩⟩
   ·rw [if_neg c6] at H
    have c6b0 : decide (x11_1 < a0) = false := decide_eq_false c6
    clear c6
    simp only [Option.some.injEq, Prod.mk.injEq] at H
    obtain ⟨rfl, rfl⟩ := H
    have hnb15 := NB190_189.out
    have hnc15 := NB189_190.out
    have hcz16_0 : wr.cell? ⟨gb190, 0, none⟩ = some (.int .i64 a0) := bcA BK190 0 rfl
    have hcz16_1 : wr.cell? ⟨gb190, 1, none⟩ = some (.int .u32 x191001_1) := bcA BK190 1 rfl
    have hfz16_0 := blk_frozen BK190.out 0
    have hfz16_1 := blk_frozen BK190.out 1
    have hcz17_0 : wr.cell? ⟨gb189, 0, none⟩ = some (.int .i64 0) := bcA BK189 0 rfl
    have hcz17_1 : wr.cell? ⟨gb189, 1, none⟩ = some (.int .u32 0) := bcA BK189 1 rfl
    have hfz17_0 := blk_frozen BK189.out 0
    have hfz17_1 := blk_frozen BK189.out 1
    go_wp2
    refine bodyPost_ret (results_cell_row rfl _ _ gb189 27 #[.int .i64 a0, .int .u32 x191001_1] (0, 0) _ rfl (by (with_reducible repeat (first | refine blk_drewN ?_ _ | refine blk_drew ?_ | refine blk_alloc ?_ _)); refine blk_put (cs := #[.int .i64 a0, .int .u32 0]) ?_ 1 _ rfl; (with_reducible repeat (first | refine blk_drewN ?_ _ | refine blk_drew ?_ | refine blk_alloc ?_ _)); refine blk_put (cs := #[.int .i64 0, .int .u32 0]) ?_ 0 _ rfl; (with_reducible repeat (first | refine blk_drewN ?_ _ | refine blk_drew ?_ | refine blk_alloc ?_ _)); exact BK189.out) Try.underlying27 rfl (by kernel_rfl)) rfl ?_
    exact ⟨by first | rfl | (simp [*, errW_none, errW_some] <;> rfl), by repeat (first | (with_reducible first | exact HB.out | apply below_alloc | apply pw_below_drewN | apply below_drew1 | refine below_set ?_ GE189.out | refine below_set ?_ GE190.out) | exact HB.out)⟩
end
section
def impl_Graph_has.f (a0_0 : Int) (a0_1 : Int) (a1 : Int) (a2 : Int) : Option (Bool) := (impl_bit.f a1 a2).bind fun t194 => (some ((Go.bits .and .u32 a0_1 t194) != 0))
set_option maxHeartbeats 8000000 in
set_option maxRecDepth 100000 in
theorem impl_Graph_has.calls (a0_0 : Int) (a0_1 : Int) (a1 : Int) (a2 : Int) (r : Bool) (w : World) (h : impl_Graph_has.f a0_0 a0_1 a1 a2 = some r) :
  Calls Try.prog 146 #[.agg #[.int .i64 a0_0, .int .u32 a0_1], .int .i64 a1, .int .i64 a2] w fun e w' => e = .returned (.bool r) ∧ Below w.heap.size w w' := by
 have hu27 := Try.underlying27
 have HB := Aside0.mk (Below.refl w.heap.size w)
 unfold impl_Graph_has.f at h
 have H := h
 clear h
 replace H := Option.bind_eq_some_iff.mp H
 obtain ⟨t194, A40, H⟩ := H
 (try dsimp only at H)
 have A4 := Aside0.mk A40
 clear A40
 obtain rfl := Option.some.inj H
 go_enter Try.func146, Try.ntmps146
 go_wp2_with (first | ((with_reducible refine gate_dst (N := 3) rfl ?_); refine box_event rfl (N := 3) rfl (cs := #[.int .i64 a0_0, .int .u32 a0_1]) (t := 27) ?hr ?_; (case hr => first | (go_simp; done) | (go_simp; rfl)); intro gb193 hg w5 hbox hb; have BK193 := Aside0.mk (hbox); have GW193 := geA HB hg; replace HB := hbB HB hb; have GE193 := GW193; clear hb hbox hg; have hcz6_0 : w5.cell? ⟨gb193, 0, none⟩ = some (.int .i64 a0_0) := bcA BK193 0 rfl; have hcz6_1 : w5.cell? ⟨gb193, 1, none⟩ = some (.int .u32 a0_1) := bcA BK193 1 rfl; have hfz6_0 := blk_frozen BK193.out 0; have hfz6_1 := blk_frozen BK193.out 1) | (go_at_call 173; (with_reducible refine (impl_bit.calls a1 a2 t194 _ A4.out).mono ?_); rintro e w' ⟨rfl, ⟨nd, rfl⟩⟩; (try first | exact ⟨rfl, _, World.drewN_drewN _ _ _⟩ | exact ⟨rfl, _, Eq.trans (World.drewN_drewN _ _ _) (congrArg (World.drewN _) (Nat.add_assoc _ _ _))⟩)))
 repeat (go_quiet (first | ((with_reducible refine gate_dst (N := 3) rfl ?_); refine box_event rfl (N := 3) rfl (cs := #[.int .i64 a0_0, .int .u32 a0_1]) (t := 27) ?hr ?_; (case hr => first | (go_simp; done) | (go_simp; rfl)); intro gb193 hg w5 hbox hb; have BK193 := Aside0.mk (hbox); have GW193 := geA HB hg; replace HB := hbB HB hb; have GE193 := GW193; clear hb hbox hg; have hcz6_0 : w5.cell? ⟨gb193, 0, none⟩ = some (.int .i64 a0_0) := bcA BK193 0 rfl; have hcz6_1 : w5.cell? ⟨gb193, 1, none⟩ = some (.int .u32 a0_1) := bcA BK193 1 rfl; have hfz6_0 := blk_frozen BK193.out 0; have hfz6_1 := blk_frozen BK193.out 1) | (go_at_call 173; (with_reducible refine (impl_bit.calls a1 a2 t194 _ A4.out).mono ?_); rintro e w' ⟨rfl, ⟨nd, rfl⟩⟩; (try first | exact ⟨rfl, _, World.drewN_drewN _ _ _⟩ | exact ⟨rfl, _, Eq.trans (World.drewN_drewN _ _ _) (congrArg (World.drewN _) (Nat.add_assoc _ _ _))⟩))); try go_wp2_with (first | ((with_reducible refine gate_dst (N := 3) rfl ?_); refine box_event rfl (N := 3) rfl (cs := #[.int .i64 a0_0, .int .u32 a0_1]) (t := 27) ?hr ?_; (case hr => first | (go_simp; done) | (go_simp; rfl)); intro gb193 hg w5 hbox hb; have BK193 := Aside0.mk (hbox); have GW193 := geA HB hg; replace HB := hbB HB hb; have GE193 := GW193; clear hb hbox hg; have hcz6_0 : w5.cell? ⟨gb193, 0, none⟩ = some (.int .i64 a0_0) := bcA BK193 0 rfl; have hcz6_1 : w5.cell? ⟨gb193, 1, none⟩ = some (.int .u32 a0_1) := bcA BK193 1 rfl; have hfz6_0 := blk_frozen BK193.out 0; have hfz6_1 := blk_frozen BK193.out 1) | (go_at_call 173; (with_reducible refine (impl_bit.calls a1 a2 t194 _ A4.out).mono ?_); rintro e w' ⟨rfl, ⟨nd, rfl⟩⟩; (try first | exact ⟨rfl, _, World.drewN_drewN _ _ _⟩ | exact ⟨rfl, _, Eq.trans (World.drewN_drewN _ _ _) (congrArg (World.drewN _) (Nat.add_assoc _ _ _))⟩))))
 go_ret
 exact ⟨by first | rfl | (simp [*, errW_none, errW_some] <;> rfl), by repeat (first | (with_reducible first | exact HB.out | apply below_alloc | apply pw_below_drewN | apply below_drew1 | refine below_set ?_ GE193.out) | exact HB.out)⟩
end
section
def impl_Graph_on_1.f (a0 : Int) (a1 : Int) (s702_0 : Int) (s702_1 : Int) (l703 : List Int) : Option (Bool) := if 0 ≤ a0 then (if a0 < (l703.length : Int) then (if 0 ≤ a1 then (if a1 < (l703.length : Int) then ((impl_Graph_has.f s702_0 s702_1 (rd l703 a0) (rd l703 a1)).bind fun t197 => (some t197)) else (none)) else (none)) else (none)) else (none)
def impl_Graph_on_1.T1 : Bool × List (List Nat × List Nat) := (true, [([], []), ([], []), ([], []), ([1, 2], [1, 2]), ([3], [3]), ([], []), ([], []), ([5, 6], [5, 6]), ([7], [7]), ([0, 4, 8], [0, 4, 8]), ([9, 9, 0, 1, 2, 3, 4, 5, 6, 7, 8, 9], [9])])
def impl_Graph_on_1.B1 : List Nat := [0, 0, 0, 6, 14, 0, 0, 96, 224, 511, 1023]
theorem impl_Graph_on_1.tab1 : rtab .any (opsOf Try.f151 1) = impl_Graph_on_1.T1 := by kernel_rfl
theorem impl_Graph_on_1.bits1 : waitsOk impl_Graph_on_1.T1.2 impl_Graph_on_1.B1 = true := by kernel_rfl
set_option maxHeartbeats 8000000 in
set_option maxRecDepth 100000 in
theorem impl_Graph_on_1.calls (a0 : Int) (a1 : Int) (r : Bool) (gb702 : Nat) (s702_0 : Int) (s702_1 : Int) (gb703 : Nat) (A703 : Option Addr) (c703 : Nat) (l703 : List Int) (w : World) (hb702 : w.heap[gb702]? = some (.cells #[.int .i64 s702_0, .int .u32 s702_1] 27 (0, 0))) (hb703 : w.heap[gb703]? = some (.cells #[.slice A703 l703.length c703] 62 (0, 0))) (hr703 : Kd.C (Kd.int .i64) w A703 l703.length l703) (hc703 : l703.length ≤ c703) (h : impl_Graph_on_1.f a0 a1 s702_0 s702_1 l703 = some r) :
  Calls Try.prog 151 #[.int .i64 a0, .int .i64 a1, .pointer (some ⟨gb702, 0, none⟩), .pointer (some ⟨gb703, 0, none⟩)] w fun e w' => e = .returned (.bool r) ∧ Below w.heap.size w w' := by
 have hu27 := Try.underlying27
 have BK702 := Aside0.mk hb702
 clear hb702
 have HR703 := Aside0.mk hr703
 have HC703 := Aside0.mk hc703
 clear hr703 hc703
 have BK703 := Aside0.mk hb703
 clear hb703
 have HB := Aside0.mk (Below.refl w.heap.size w)
 unfold impl_Graph_on_1.f at h
 have H := h
 clear h
 by_cases c3 : 0 ≤ a0
 ·rw [if_pos c3] at H
  have c3b0 : decide (0 ≤ a0) = true := decide_eq_true c3
  clear c3
  by_cases c4 : a0 < (l703.length : Int)
  ·rw [if_pos c4] at H
   have c4b0 : decide (a0 < (l703.length : Int)) = true := decide_eq_true c4
   clear c4
   by_cases c5 : 0 ≤ a1
   ·rw [if_pos c5] at H
    have c5b0 : decide (0 ≤ a1) = true := decide_eq_true c5
    clear c5
    by_cases c6 : a1 < (l703.length : Int)
    ·rw [if_pos c6] at H
     have c6b0 : decide (a1 < (l703.length : Int)) = true := decide_eq_true c6
     clear c6
     replace H := Option.bind_eq_some_iff.mp H
     obtain ⟨t197, A70, H⟩ := H
     (try dsimp only at H)
     have A7 := Aside0.mk A70
     clear A70
     obtain rfl := Option.some.inj H
     go_enter Try.func151, Try.ntmps151
     try go_wp2
     replace BK702 := Aside0.mk (blk_drew BK702.out)
     replace BK703 := Aside0.mk (blk_drew BK703.out)
     replace HB := Aside0.mk (below_drew1 HB.out)
     have p195 : 0 ≤ (a0 : Int) := of_decide_eq_true (by first | (with_reducible assumption) | assumption)
     have q195 : a0 < (l703.length : Int) := of_decide_eq_true (by first | (with_reducible assumption) | assumption)
     obtain ⟨ad195, e195, hx195_0⟩ := Kd.at_int HR703.out a0 p195 q195
     have hw195_0 := hx195_0
     cases e195
     replace hx195_0 := (HB.out.cell (World.block_lt_of_cell? w _ hx195_0)).trans hx195_0
     replace p195 := eq_true p195
     replace q195 := eq_true q195
     have p196 : 0 ≤ (a1 : Int) := of_decide_eq_true (by first | (with_reducible assumption) | assumption)
     have q196 : a1 < (l703.length : Int) := of_decide_eq_true (by first | (with_reducible assumption) | assumption)
     obtain ⟨ad196, e196, hx196_0⟩ := Kd.at_int HR703.out a1 p196 q196
     have hw196_0 := hx196_0
     obtain rfl : ad195 = ad196 := (by injection e196)
     replace hx196_0 := (HB.out.cell (World.block_lt_of_cell? w _ hx196_0)).trans hx196_0
     replace p196 := eq_true p196
     replace q196 := eq_true q196
     refine start_ (n := 11) (S := fun w' => w'.cell? ⟨gb702, 0, none⟩ = some (.int .i64 s702_0) ∧ w'.cell? ⟨gb702, 1, none⟩ = some (.int .u32 s702_1) ∧ w'.cell? ⟨gb703, 0, none⟩ = some (.slice (some ad195) l703.length c703) ∧ w'.cell? (ad195.add (a0).toNat) = some (.int .i64 (rd l703 a0)) ∧ w'.cell? (ad195.add (a1).toNat) = some (.int .i64 (rd l703 a1))) (ds := []) #[false, false, false, false, false, false, false, false, false, false, false] (by kernel_rfl) rfl rfl ⟨bcA BK702 0 rfl, bcA BK702 1 rfl, bcA BK703 0 rfl, ((HB.out.cell (World.block_lt_of_cell? w _ hw195_0)).trans hw195_0), ((HB.out.cell (World.block_lt_of_cell? w _ hw196_0)).trans hw196_0)⟩ (fun hHeld => ?_); refine with_tabW impl_Graph_on_1.tab1 impl_Graph_on_1.bits1 (fun HT_ HW_ => ?_)
     generalize w.drew = w8 at BK702 BK703 HB hx195_0 hx196_0 hHeld ⊢
     refine pure_ (i := 2) (N := some 9) (v := ?_) (a' := ?_) #[false, false, true, false, false, false, false, false, false, false, false] rfl rfl (any_of HT_.out (by kernel_rfl)) (fun _ _ _ h => h) (Or.inl ⟨by rfl, ?_⟩) ?_ ?_
     rotate_left;(intro w';go_simp;with_reducible rfl);rotate_left;(simp only [Act.put, psA, pzA, pnA, i64_w, i32_w];rfl)
     refine pure_ (i := 6) (N := some 13) (v := ?_) (a' := ?_) #[false, false, true, false, false, false, true, false, false, false, false] rfl rfl (any_of HT_.out (by kernel_rfl)) (fun _ _ _ h => h) (Or.inl ⟨by rfl, ?_⟩) ?_ ?_
     rotate_left;(intro w';go_simp;with_reducible rfl);rotate_left;(simp only [Act.put, psA, pzA, pnA, i64_w, i32_w];rfl)
     refine take_ (i := 0) (N := some 7) (v := ?_) (a' := ?_) #[true, false, true, false, false, false, true, false, false, false, false] rfl rfl (take_ofW HT_.out HW_.out (by kernel_rfl)) (fun _ _ _ h => h) (Or.inl ⟨by rfl, ?_⟩) hHeld ?_ ?_
     rotate_left;(rintro w' ⟨s0, s1, s2, s3, s4⟩;go_simp;with_reducible rfl);rotate_left;(simp only [Act.put, psA, pzA, pnA, i64_w, i32_w];rfl)
     refine take_ (i := 1) (N := some 8) (v := ?_) (a' := ?_) #[true, true, true, false, false, false, true, false, false, false, false] rfl rfl (take_ofW HT_.out HW_.out (by kernel_rfl)) (fun _ _ _ h => h) (Or.inl ⟨by rfl, ?_⟩) hHeld ?_ ?_
     rotate_left;(rintro w' ⟨s0, s1, s2, s3, s4⟩;go_simp;with_reducible rfl);rotate_left;(simp only [Act.put, psA, pzA, pnA, i64_w, i32_w];rfl)
     refine pure_ (i := 3) (N := some 10) (v := ?_) (a' := ?_) #[true, true, true, true, false, false, true, false, false, false, false] rfl rfl (any_of HT_.out (by kernel_rfl)) (fun _ _ _ h => h) (Or.inl ⟨by rfl, ?_⟩) ?_ ?_
     rotate_left;(intro w';go_simp;with_reducible rfl);rotate_left;(simp only [Act.put, psA, pzA, pnA, i64_w, i32_w];rfl)
     refine take_ (i := 4) (N := some 11) (v := ?_) (a' := ?_) #[true, true, true, true, true, false, true, false, false, false, false] rfl rfl (take_ofW HT_.out HW_.out (by kernel_rfl)) (fun _ _ _ h => h) (Or.inl ⟨by rfl, ?_⟩) hHeld ?_ ?_
     rotate_left;(rintro w' ⟨s0, s1, s2, s3, s4⟩;go_simp;with_reducible rfl);rotate_left;(simp only [Act.put, psA, pzA, pnA, i64_w, i32_w];rfl)
     refine take_ (i := 5) (N := some 12) (v := ?_) (a' := ?_) #[true, true, true, true, true, true, true, false, false, false, false] rfl rfl (take_ofW HT_.out HW_.out (by kernel_rfl)) (fun _ _ _ h => h) (Or.inl ⟨by rfl, ?_⟩) hHeld ?_ ?_
     rotate_left;(rintro w' ⟨s0, s1, s2, s3, s4⟩;go_simp;with_reducible rfl);rotate_left;(simp only [Act.put, psA, pzA, pnA, i64_w, i32_w];rfl)
     refine pure_ (i := 7) (N := some 14) (v := ?_) (a' := ?_) #[true, true, true, true, true, true, true, true, false, false, false] rfl rfl (any_of HT_.out (by kernel_rfl)) (fun _ _ _ h => h) (Or.inl ⟨by rfl, ?_⟩) ?_ ?_
     rotate_left;(intro w';go_simp;with_reducible rfl);rotate_left;(simp only [Act.put, psA, pzA, pnA, i64_w, i32_w];rfl)
     refine take_ (i := 8) (N := some 15) (v := ?_) (a' := ?_) #[true, true, true, true, true, true, true, true, true, false, false] rfl rfl (take_ofW HT_.out HW_.out (by kernel_rfl)) (fun _ _ _ h => h) (Or.inl ⟨by rfl, ?_⟩) hHeld ?_ ?_
     rotate_left;(rintro w' ⟨s0, s1, s2, s3, s4⟩;go_simp;with_reducible rfl);rotate_left;(simp only [Act.put, psA, pzA, pnA, i64_w, i32_w];rfl)
     refine one_ (i := 9) (N := some 16) #[true, true, true, true, true, true, true, true, true, true, false] rfl rfl (one_of HT_.out (by kernel_rfl)) (by decide) (fun K hK => ?_)
     refine goes_ Try.func146 (by kernel_rfl) rfl #[.agg #[.int .i64 s702_0, .int .u32 s702_1], .int .i64 (rd l703 a0), .int .i64 (rd l703 a1)] (by rfl) rfl rfl (by first | rfl | (simp only [List.map_toArray, List.map_cons, List.map_nil, List.length_drop, List.length_take]; rfl)) ?_
     with_reducible refine (impl_Graph_has.calls s702_0 s702_1 (rd l703 a0) (rd l703 a1) t197 _ A7.out).mono ?_
     rintro e w9 ⟨rfl, hb⟩
     refine ⟨_, rfl, ?_⟩
     replace BK702 := bkB BK702 hb
     replace BK703 := bkB BK703 hb
     replace HB := hbB HB hb
     (try clear hb)
     refine hK.out _ _ ⟨bcA BK702 0 rfl, bcA BK702 1 rfl, bcA BK703 0 rfl, ((HB.out.cell (World.block_lt_of_cell? w _ hw195_0)).trans hw195_0), ((HB.out.cell (World.block_lt_of_cell? w _ hw196_0)).trans hw196_0)⟩ (fun hHeld => ?_)
     clear hK K
     refine norm_ (a' := ?_) ?_ ?_
     rotate_left;(show Act.put _ (some 16) _ = _;simp only [Act.put, psA, pzA, pnA, i64_w, i32_w];rfl)
     refine pure_ (i := 10) (N := some 6) (v := ?_) (a' := ?_) #[true, true, true, true, true, true, true, true, true, true, true] rfl rfl (any_of HT_.out (by kernel_rfl)) (fun _ _ _ h => h) (Or.inl ⟨by rfl, ?_⟩) ?_ ?_
     rotate_left;(intro w';go_simp;with_reducible rfl);rotate_left;(simp only [Act.put, psA, pzA, pnA, i64_w, i32_w];rfl)
     refine done_ (done_of HT_.out (by kernel_rfl)) ?_
     try go_wp2
     go_ret
     exact ⟨by first | rfl | (simp [*, errW_none, errW_some] <;> rfl), by repeat (first | (with_reducible first | exact HB.out | apply below_alloc | apply pw_below_drewN | apply below_drew1 | refine below_set ?_ GE702.out | refine below_set ?_ GE703.out) | exact HB.out)⟩
    ·rw [if_neg c6] at H
     exact absurd H (by simp)
   ·rw [if_neg c5] at H
    exact absurd H (by simp)
  ·rw [if_neg c4] at H
   exact absurd H (by simp)
 ·rw [if_neg c3] at H
  exact absurd H (by simp)
end
section
def impl_Graph_on.f (k : Nat) (a0_0 : Int) (a0_1 : Int) (l1 : List Int) : Option (Int × Int) := (impl_made.f (fun y0 y1 => impl_Graph_on_1.f y0 y1 a0_0 a0_1 l1) k (l1.length : Int)).bind fun bt201 => (some (bt201.1, bt201.2))
set_option maxHeartbeats 8000000 in
set_option maxRecDepth 100000 in
theorem impl_Graph_on.calls (k : Nat) (a0_0 : Int) (a0_1 : Int) (A1 : Option Addr) (c1 : Nat) (l1 : List Int) (r1 : Int) (r2 : Int) (w : World) (hr1 : Kd.C (Kd.int .i64) w A1 l1.length l1) (hc1 : l1.length ≤ c1) (h : impl_Graph_on.f k a0_0 a0_1 l1 = some (r1, r2)) :
  Calls Try.prog 96 #[.agg #[.int .i64 a0_0, .int .u32 a0_1], .slice A1 l1.length c1] w fun e w' => e = .returned (.agg #[.int .i64 r1, .int .u32 r2]) ∧ Below w.heap.size w w' := by
 have hu27 := Try.underlying27
 have HR1 := Aside0.mk hr1
 have HC1 := Aside0.mk hc1
 clear hr1 hc1
 have HB := Aside0.mk (Below.refl w.heap.size w)
 unfold impl_Graph_on.f at h
 have H := h
 clear h
 replace H := Option.bind_eq_some_iff.mp H
 obtain ⟨⟨t201, t202⟩, A30, H⟩ := H
 (try dsimp only at H)
 have A3 := Aside0.mk A30
 clear A30
 simp only [Option.some.injEq, Prod.mk.injEq] at H
 obtain ⟨rfl, rfl⟩ := H
 go_enter Try.func96, Try.ntmps96
 go_wp2_with (first | ((with_reducible refine gate_dst (N := 2) rfl ?_); refine box_event rfl (N := 2) rfl (cs := #[.int .i64 a0_0, .int .u32 a0_1]) (t := 27) ?hr ?_; (case hr => first | (go_simp; done) | (go_simp; rfl)); intro gb198 hg w4 hbox hb; have BK198 := Aside0.mk (hbox); have GW198 := geA HB hg; replace HB := hbB HB hb; have GE198 := GW198; clear hb hbox hg) | ((with_reducible refine gate_dst (N := 3) rfl ?_); refine box_event rfl (N := 3) rfl (cs := #[.slice A1 l1.length c1]) (t := 62) ?hr ?_; (case hr => first | (go_simp; done) | (go_simp; rfl)); intro gb199 hg w5 hbox hb; have BK199 := Aside0.mk (hbox); have GW199 := geA HB hg; replace HB := hbB HB hb; have GE199 := GW199; have NB198_199 := nbA hg BK198; replace BK198 := bkB BK198 hb; have NB199_198 := neA NB198_199; clear hb hbox hg) | ((with_reducible refine gate_dst (N := 4) rfl ?_); refine box_event rfl (N := 4) rfl (cs := #[.int .i64 0, .int .u32 0]) (t := 27) ?hr ?_; (case hr => first | (go_simp; done) | (go_simp; rfl)); intro gb200 hg w6 hbox hb; have BK200 := Aside0.mk (hbox); have GW200 := geA HB hg; replace HB := hbB HB hb; have GE200 := GW200; have NB198_200 := nbA hg BK198; replace BK198 := bkB BK198 hb; have NB200_198 := neA NB198_200; have NB199_200 := nbA hg BK199; replace BK199 := bkB BK199 hb; have NB200_199 := neA NB199_200; clear hb hbox hg; have hnb7 := NB199_198.out; have hnc7 := NB198_199.out; have hnb8 := NB199_200.out; have hnc8 := NB200_199.out; have hcz9_0 : w6.cell? ⟨gb199, 0, none⟩ = some (.slice A1 l1.length c1) := bcA BK199 0 rfl; have hfz9_0 := blk_frozen BK199.out 0) | ((with_reducible refine gate_callee (f := 144) rfl ?_); refine goesL_ (some 8) rfl rfl Try.func144 (by kernel_rfl) rfl #[.int .i64 (l1.length : Int), .func (.func 151) #[] #[.pointer (some ⟨gb198, 0, none⟩), .pointer (some ⟨gb199, 0, none⟩)]] rfl (by (try simp only [maA, mbA, mcA]); first | done | rfl | (simp only [List.length_drop, List.length_take]; rfl)) ?_; (refine (impl_made.calls (fun y0 y1 => impl_Graph_on_1.f y0 y1 a0_0 a0_1 l1) 151 #[.pointer (some ⟨gb198, 0, none⟩), .pointer (some ⟨gb199, 0, none⟩)] (EnterF.of Try.func151 (by kernel_rfl) rfl) _ ⟨fun y0 y1 r_ W_  hc_ hB_ => (impl_Graph_on_1.calls y0 y1 r_ gb198 a0_0 a0_1 gb199 _ _ l1 W_ (blk_below (by (with_reducible repeat (first | refine blk_drewN ?_ _ | refine blk_drew ?_ | refine blk_alloc ?_ _)); exact BK198.out) hB_) (blk_below (by (with_reducible repeat (first | refine blk_drewN ?_ _ | refine blk_drew ?_ | refine blk_alloc ?_ _)); exact BK199.out) hB_) (Kd.C_below HR1.out (below_via (by repeat (first | (with_reducible first | exact HB.out | apply below_alloc | apply pw_below_drewN | apply below_drew1 | refine below_set ?_ (Aside0.out (by assumption))) | exact HB.out)) hB_)) HC1.out hc_)⟩ k (l1.length : Int) t201 t202 _ A3.out ⟨Below.refl _ _⟩).mono ?_); rintro e w10 ⟨rfl, hb⟩; refine ⟨_, rfl, ?_⟩; replace BK198 := bkB BK198 hb; replace BK199 := bkB BK199 hb; replace BK200 := bkB BK200 hb; replace HB := hbB HB hb; (try clear hb); have hnb11 := NB200_198.out; have hnc11 := NB198_200.out; have hcz12_0 : w10.cell? ⟨gb200, 0, none⟩ = some (.int .i64 0) := bcA BK200 0 rfl; have hcz12_1 : w10.cell? ⟨gb200, 1, none⟩ = some (.int .u32 0) := bcA BK200 1 rfl; have hfz12_0 := blk_frozen BK200.out 0; have hfz12_1 := blk_frozen BK200.out 1))
 refine bodyPost_ret (results_cell_row rfl _ _ gb200 27 #[.int .i64 t201, .int .u32 t202] (0, 0) _ rfl (by (with_reducible repeat (first | refine blk_drewN ?_ _ | refine blk_drew ?_ | refine blk_alloc ?_ _)); refine blk_put (cs := #[.int .i64 t201, .int .u32 0]) ?_ 1 _ rfl; (with_reducible repeat (first | refine blk_drewN ?_ _ | refine blk_drew ?_ | refine blk_alloc ?_ _)); refine blk_put (cs := #[.int .i64 0, .int .u32 0]) ?_ 0 _ rfl; (with_reducible repeat (first | refine blk_drewN ?_ _ | refine blk_drew ?_ | refine blk_alloc ?_ _)); exact BK200.out) Try.underlying27 rfl (by kernel_rfl)) rfl ?_
 exact ⟨by first | rfl | (simp [*, errW_none, errW_some] <;> rfl), by repeat (first | (with_reducible first | exact HB.out | apply below_alloc | apply pw_below_drewN | apply below_drew1 | refine below_set ?_ (Aside0.out (by assumption))) | exact HB.out)⟩
end
section
def prs (n : Nat) : Nat := n * (n - 1) / 2
def bitIx (i j : Nat) : Nat := if i > j then prs i + j else prs j + i
def bitI (i j : Int) : Int := 2 ^ bitIx i.toNat j.toNat
theorem small4 {n : Int} (h0 : 0 ≤ n) (h5 : n ≤ 4) : n = 0 ∨ n = 1 ∨ n = 2 ∨ n = 3 ∨ n = 4 := by omega
theorem bit_eq {i j : Int} (i0 : 0 ≤ i) (i4 : i ≤ 4) (j0 : 0 ≤ j) (j4 : j ≤ 4) : impl_bit.f i j = some (bitI i j) := by
  rcases small4 i0 i4 with rfl | rfl | rfl | rfl | rfl <;> rcases small4 j0 j4 with rfl | rfl | rfl | rfl | rfl <;> decide +kernel
end
section
def loopRow (J : Nat → Nat → Bool) (j : Nat) : Nat → Nat → Int → Int
  | 0, _, e => e
  | d + 1, i, e => loopRow J j d (i + 1) (if J i j then Go.bits .or .u32 e (bitI i j) else e)
def loopMade (J : Nat → Nat → Bool) : Nat → Nat → Int → Int
  | 0, _, e => e
  | d + 1, j, e => loopMade J d (j + 1) (loopRow J j j 0 e)
def madeI (n : Nat) (J : Nat → Nat → Bool) : Int := loopMade J n 0 0
def hasI (e a b : Int) : Bool := Go.bits .and .u32 e (bitI a b) != 0
def onI (e : Int) (l : List Int) : Int := madeI l.length (fun i j => hasI e (rd l i) (rd l j))
theorem loopRow_congr {J J' : Nat → Nat → Bool} {j : Nat} : ∀ (d i : Nat) (e : Int), (∀ i', i ≤ i' → i' < i + d → J i' j = J' i' j) → loopRow J j d i e = loopRow J' j d i e
  | 0, _, _, _ => rfl
  | d + 1, i, e, h => by
    simp only [loopRow]; rw [h i (by omega) (by omega)]
    exact loopRow_congr d (i + 1) _ fun i' h1 h2 => h i' (by omega) (by omega)
theorem loopMade_congr {J J' : Nat → Nat → Bool} : ∀ (d j : Nat) (e : Int), (∀ i' j', i' < j' → j' < j + d → J i' j' = J' i' j') → loopMade J d j e = loopMade J' d j e
  | 0, _, _, _ => rfl
  | d + 1, j, e, h => by
    simp only [loopMade]; rw [loopRow_congr j 0 e fun i' _ h2 => h i' j (by omega) (by omega)]
    exact loopMade_congr d (j + 1) _ fun i' j' h1 h2 => h i' j' h1 (by omega)
theorem madeI_congr {n : Nat} {J J' : Nat → Nat → Bool} (h : ∀ i j, i < j → j < n → J i j = J' i j) : madeI n J = madeI n J' := loopMade_congr n 0 0 fun i j h1 h2 => h i j h1 (by omega)
end
section
theorem has_eq (n e : Int) {i j : Int} (i0 : 0 ≤ i) (i4 : i ≤ 4) (j0 : 0 ≤ j) (j4 : j ≤ 4) : impl_Graph_has.f n e i j = some (hasI e i j) := by
  unfold impl_Graph_has.f hasI
  rw [bit_eq i0 i4 j0 j4]; rfl
end
section
theorem made_row {cb : Int → Int → Option Bool} {J : Nat → Nat → Bool} {n j : Nat} (hn : n ≤ 5) (hj : j < n) (h : ∀ i j : Nat, i < j → j < n → cb i j = some (J i j)) (N : Int) :
    ∀ (d i : Nat) (e : Int) (k : Nat), i + d = j → impl_made.l1 cb (k + (d + 1)) j n j j i N e = impl_made.l0 cb k n ((j + 1 : Nat) : Int) N (loopRow J j d i e)
  | 0, i, e, k, hd => by
    have : i = j := by omega
    subst this
    simp only [impl_made.l1, loopRow]
    rw [if_neg (by omega), show wrap64 ((i : Int) + 1) = ((i + 1 : Nat) : Int) from by unfold wrap64; omega]
  | d + 1, i, e, k, hd => by
    have hw : wrap64 ((i : Int) + 1) = ((i + 1 : Nat) : Int) := by unfold wrap64; omega
    rw [show k + (d + 1 + 1) = (k + (d + 1)) + 1 from by omega]
    simp only [impl_made.l1, loopRow]
    rw [if_pos (by omega), h i j (by omega) hj, hw]
    simp only [Option.bind_some]
    cases J i j
    · simp only [Bool.false_eq_true, if_false]
      exact made_row hn hj h N d (i + 1) e k (by omega)
    · rw [if_pos rfl, bit_eq (by omega) (by omega) (by omega) (by omega)]
      simp only [Option.bind_some, if_true]
      exact made_row hn hj h N d (i + 1) _ k (by omega)
theorem made_all {cb : Int → Int → Option Bool} {J : Nat → Nat → Bool} {n : Nat} (hn : n ≤ 5) (h : ∀ i j : Nat, i < j → j < n → cb i j = some (J i j)) (N : Int) :
    ∀ (d j : Nat) (e : Int) (k : Nat), j + d = n → 7 * d + 1 ≤ k → impl_made.l0 cb k n j N e = some (N, loopMade J d j e)
  | 0, j, e, k, hd, hk => by
    obtain ⟨k, rfl⟩ : ∃ m, k = m + 1 := ⟨k - 1, by omega⟩
    simp only [impl_made.l0, loopMade]
    rw [if_neg (by omega)]
  | d + 1, j, e, k, hd, hk => by
    obtain ⟨k, rfl⟩ : ∃ m, k = m + (j + 1) + 1 := ⟨k - (j + 2), by omega⟩
    simp only [impl_made.l0, loopMade]
    rw [if_pos (by omega)]
    have := made_row hn (show j < n by omega) h N j 0 e k (by omega)
    rw [show ((0 : Nat) : Int) = 0 from rfl] at this
    rw [this]
    exact made_all hn h N d (j + 1) _ k (by omega) (by omega)
theorem made_eq {cb : Int → Int → Option Bool} {J : Nat → Nat → Bool} {n : Nat} (hn : n ≤ 5) (h : ∀ i j : Nat, i < j → j < n → cb i j = some (J i j)) (k : Nat) (hk : 40 ≤ k) :
    impl_made.f cb k (n : Int) = some ((n : Int), madeI n J) := by
  unfold impl_made.f madeI
  exact made_all hn h n n 0 0 k (by omega) (by omega)
end
section
def okList (l : List Int) : Prop := l.length ≤ 5 ∧ ∀ x ∈ l, 0 ≤ x ∧ x ≤ 4
instance (l : List Int) : Decidable (okList l) := by unfold okList; infer_instance
theorem okList.at {l : List Int} (h : okList l) (i : Nat) (hi : i < l.length) : 0 ≤ rd l i ∧ rd l i ≤ 4 := by
  unfold rd; rw [Int.toNat_natCast, List.getD_eq_getElem?_getD, List.getElem?_eq_getElem hi]; exact h.2 _ (List.getElem_mem hi)
theorem on_eq (n e : Int) {l : List Int} (h : okList l) (k : Nat) (hk : 40 ≤ k) : impl_Graph_on.f k n e l = some ((l.length : Int), onI e l) := by
  unfold impl_Graph_on.f onI
  rw [made_eq (J := fun i j => hasI e (rd l i) (rd l j)) h.1 (fun i j h1 h2 => ?_) k hk]
  · rfl
  · unfold impl_Graph_on_1.f
    have hi := h.at i (by omega)
    have hj := h.at j h2
    rw [if_pos (by omega), if_pos (by omega), if_pos (by omega), if_pos (by omega), has_eq n e hi.1 hi.2 hj.1 hj.2]; rfl
end
section
def impl_onT.f (a0_0 : Int) (a0_1 : Int) (l1 : List Int) : Option (Int × Int) := if okList l1 then some ((l1.length : Int), onI a0_1 l1) else none
theorem impl_onT.calls (a0_0 : Int) (a0_1 : Int) (A1 : Option Addr) (c1 : Nat) (l1 : List Int) (r1 : Int) (r2 : Int) (w : World) (hr1 : Kd.C (Kd.int .i64) w A1 l1.length l1) (hc1 : l1.length ≤ c1) (h : impl_onT.f a0_0 a0_1 l1 = some (r1, r2)) :
    Calls Try.prog 96 #[.agg #[.int .i64 a0_0, .int .u32 a0_1], .slice A1 l1.length c1] w fun e w' => e = .returned (.agg #[.int .i64 r1, .int .u32 r2]) ∧ Below w.heap.size w w' := by
  unfold impl_onT.f at h
  by_cases ok : okList l1
  · rw [if_pos ok] at h
    exact impl_Graph_on.calls 40 a0_0 a0_1 A1 c1 l1 r1 r2 w hr1 hc1 (by rw [← h]; exact on_eq a0_0 a0_1 ok 40 (by omega))
  · rw [if_neg ok] at h; cases h
theorem impl_onT.eq (n e : Int) {l : List Int} (h : okList l) : impl_onT.f n e l = some ((l.length : Int), onI e l) := if_pos h
end
section
def impl_Flag_typeOf.f (a0_0 : Int) (a0_1 : Int) (a0_2 : Int) : Option (Int × Int) := (impl_firstT.f a0_0).bind fun t538 => ((impl_onT.f a0_1 a0_2 t538).bind fun bt541 => (some (bt541.1, bt541.2)))
set_option maxHeartbeats 8000000 in
set_option maxRecDepth 100000 in
theorem impl_Flag_typeOf.calls (a0_0 : Int) (a0_1 : Int) (a0_2 : Int) (r1 : Int) (r2 : Int) (w : World) (h : impl_Flag_typeOf.f a0_0 a0_1 a0_2 = some (r1, r2)) :
  Calls Try.prog 136 #[.agg #[.int .i64 a0_0, .int .i64 a0_1, .int .u32 a0_2]] w fun e w' => e = .returned (.agg #[.int .i64 r1, .int .u32 r2]) ∧ Below w.heap.size w w' := by
 have hu45 := Try.underlying45
 have hu27 := Try.underlying27
 have HB := Aside0.mk (Below.refl w.heap.size w)
 unfold impl_Flag_typeOf.f at h
 have H := h
 clear h
 replace H := Option.bind_eq_some_iff.mp H
 obtain ⟨t538, A20, H⟩ := H
 (try dsimp only at H)
 have A2 := Aside0.mk A20
 clear A20
 replace H := Option.bind_eq_some_iff.mp H
 obtain ⟨⟨t541, t542⟩, A30, H⟩ := H
 (try dsimp only at H)
 have A3 := Aside0.mk A30
 clear A30
 simp only [Option.some.injEq, Prod.mk.injEq] at H
 obtain ⟨rfl, rfl⟩ := H
 go_enter Try.func136, Try.ntmps136
 try go_wp2_with (first | ((with_reducible refine gate_dst (N := 1) rfl ?_); refine box_event rfl (N := 1) rfl (cs := #[.int .i64 a0_0, .int .i64 a0_1, .int .u32 a0_2]) (t := 45) ?hr ?_; (case hr => first | (go_simp; done) | (go_simp; rfl)); intro gb536 hg w4 hbox hb; have BK536 := Aside0.mk (hbox); have GW536 := geA HB hg; replace HB := hbB HB hb; have GE536 := GW536; clear hb hbox hg) | ((with_reducible refine gate_dst (N := 2) rfl ?_); refine box_event rfl (N := 2) rfl (cs := #[.int .i64 0, .int .u32 0]) (t := 27) ?hr ?_; (case hr => first | (go_simp; done) | (go_simp; rfl)); intro gb537 hg w5 hbox hb; have BK537 := Aside0.mk (hbox); have GW537 := geA HB hg; replace HB := hbB HB hb; have GE537 := GW537; have NB536_537 := nbA hg BK536; replace BK536 := bkB BK536 hb; have NB537_536 := neA NB536_537; clear hb hbox hg))
 replace BK536 := Aside0.mk (blk_drew BK536.out)
 replace BK537 := Aside0.mk (blk_drew BK537.out)
 replace HB := Aside0.mk (below_drew1 HB.out)
 refine start_ (n := 7) (S := fun w' => w'.cell? ⟨gb536, 0, none⟩ = some (.int .i64 a0_0) ∧ w'.cell? ⟨gb536, 1, none⟩ = some (.int .i64 a0_1) ∧ w'.cell? ⟨gb536, 2, none⟩ = some (.int .u32 a0_2)) (ds := []) #[false, false, false, false, false, false, false] (by kernel_rfl) rfl rfl ⟨bcA BK536 0 rfl, bcA BK536 1 rfl, bcA BK536 2 rfl⟩ (fun hHeld => ?_)
 generalize w5.drew = w6 at BK536 BK537 HB hHeld ⊢
 refine pure_ (i := 0) (N := some 3) (v := ?_) (a' := ?_) #[true, false, false, false, false, false, false] rfl rfl (by kernel_rfl) (fun _ _ _ h => h) (Or.inl ⟨by rfl, ?_⟩) ?_ ?_
 rotate_left;(intro w';go_simp;with_reducible rfl);rotate_left;(simp only [Act.put, psA, pzA, pnA, i64_w, i32_w];rfl)
 refine pure_ (i := 2) (N := some 5) (v := ?_) (a' := ?_) #[true, false, true, false, false, false, false] rfl rfl (by kernel_rfl) (fun _ _ _ h => h) (Or.inl ⟨by rfl, ?_⟩) ?_ ?_
 rotate_left;(intro w';go_simp;with_reducible rfl);rotate_left;(simp only [Act.put, psA, pzA, pnA, i64_w, i32_w];rfl)
 refine take_ (i := 1) (N := some 4) (v := ?_) (a' := ?_) #[true, true, true, false, false, false, false] rfl rfl (by kernel_rfl) (fun _ _ _ h => h) (Or.inl ⟨by rfl, ?_⟩) hHeld ?_ ?_
 rotate_left;(rintro w' ⟨s0, s1, s2⟩;go_simp;with_reducible rfl);rotate_left;(simp only [Act.put, psA, pzA, pnA, i64_w, i32_w];rfl)
 refine take_ (i := 3) (N := some 6) (v := ?_) (a' := ?_) #[true, true, true, true, false, false, false] rfl rfl (by kernel_rfl) (fun _ _ _ h => h) (Or.inl ⟨by rfl, ?_⟩) hHeld ?_ ?_
 rotate_left;(rintro w' ⟨s0, s1, s2⟩;go_simp;with_reducible rfl);rotate_left;(simp only [Act.put, psA, pzA, pnA, i64_w, i32_w];rfl)
 refine one_ (i := 4) (N := some 7) #[true, true, true, true, true, false, false] rfl rfl (by kernel_rfl) (by decide) (fun K hK => ?_)
 refine goes_ Try.func116 (by kernel_rfl) rfl #[.int .i64 a0_0] (by rfl) rfl rfl (by first | rfl | (simp only [List.map_toArray, List.map_cons, List.map_nil, List.length_drop, List.length_take]; rfl)) ?_
 with_reducible refine (impl_firstT.calls a0_0 t538 _ A2.out).mono ?_
 rintro e w7 ⟨v539, rfl, ho0, hb⟩
 refine ⟨_, rfl, ?_⟩
 have HO540 := Aside0.mk (Kd.R_lower ho0 (below_size HB.out))
 replace BK536 := bkB BK536 hb
 replace BK537 := bkB BK537 hb
 replace HB := hbB HB hb
 (try clear hb)
 (try clear ho0)
 obtain ⟨Ao8, co8, eo8⟩ := Kd.R_slice HO540.out
 (first | subst eo8 | (injection eo8 with f1_ f2_ f3_; have f4_ := f1_.symm; have f5_ := f3_.symm; clear f1_ f2_ f3_; subst f4_; subst f5_))
 refine hK.out _ _ ⟨bcA BK536 0 rfl, bcA BK536 1 rfl, bcA BK536 2 rfl⟩ (fun hHeld => ?_)
 clear hK K
 refine norm_ (a' := ?_) ?_ ?_
 rotate_left;(show Act.put _ (some 7) _ = _;simp only [Act.put, psA, pzA, pnA, i64_w, i32_w];rfl)
 refine one_ (i := 5) (N := some 8) #[true, true, true, true, true, true, false] rfl rfl (by kernel_rfl) (by decide) (fun K hK => ?_)
 refine goes_ Try.func96 (by kernel_rfl) rfl #[.agg #[.int .i64 a0_1, .int .u32 a0_2], .slice Ao8 t538.length co8] (by rfl) rfl rfl (by first | rfl | (simp only [List.map_toArray, List.map_cons, List.map_nil, List.length_drop, List.length_take]; rfl)) ?_
 with_reducible refine (impl_onT.calls a0_1 a0_2 _ _ t538 t541 t542 _ ?side1 ?side2 A3.out).mono ?_
 (case side1 => repeat (first | exact (Kd.R_reads' HO540.out).2.2 | (with_reducible refine Kd.C_alloc ?_ _) | (with_reducible refine Kd.C_drewN ?_ _) | (with_reducible refine Kd.C_drew ?_)))
 (case side2 => exact (Kd.R_reads' HO540.out).2.1)
 rintro e w9 ⟨rfl, hb⟩
 refine ⟨_, rfl, ?_⟩
 replace HO540 := Kd.R_b HO540 hb
 replace BK536 := bkB BK536 hb
 replace BK537 := bkB BK537 hb
 replace HB := hbB HB hb
 (try clear hb)
 refine hK.out _ _ ⟨bcA BK536 0 rfl, bcA BK536 1 rfl, bcA BK536 2 rfl⟩ (fun hHeld => ?_)
 clear hK K
 refine norm_ (a' := ?_) ?_ ?_
 rotate_left;(show Act.put _ (some 8) _ = _;simp only [Act.put, psA, pzA, pnA, i64_w, i32_w];rfl)
 refine one_ (i := 6) (N := none) #[true, true, true, true, true, true, true] rfl rfl (by kernel_rfl) (by decide) (fun K hK => ?_)
 have hs10 : w9.cell? ⟨gb537, 0, none⟩ = some (.int .i64 0) := bcA BK537 0 rfl
 have hfs10 := blk_frozen BK537.out 0
 have hns10_0 := NB536_537.out
 have hms10_0 := NB537_536.out
 have hs11 : w9.cell? ⟨gb537, 1, none⟩ = some (.int .u32 0) := bcA BK537 1 rfl
 have hfs11 := blk_frozen BK537.out 1
 have hns11_0 := NB536_537.out
 have hms11_0 := NB537_536.out
 refine skip_ (w1 := ?_) (by rfl) rfl ?_ ?_
 rotate_left
 ·go_simp
  rfl
 refine hK.out _ _ ⟨((cell_far (p := ⟨gb537, _, none⟩) NB536_537.out _).trans (((cell_far (p := ⟨gb537, _, none⟩) NB536_537.out _).trans (hHeld.1)))), ((cell_far (p := ⟨gb537, _, none⟩) NB536_537.out _).trans (((cell_far (p := ⟨gb537, _, none⟩) NB536_537.out _).trans (hHeld.2.1)))), ((cell_far (p := ⟨gb537, _, none⟩) NB536_537.out _).trans (((cell_far (p := ⟨gb537, _, none⟩) NB536_537.out _).trans (hHeld.2.2))))⟩ (fun hHeld => ?_)
 clear hK K
 refine done_ (by kernel_rfl) ?_
 try go_wp2
 refine bodyPost_ret (results_cell_row rfl _ _ gb537 27 #[.int .i64 t541, .int .u32 t542] (0, 0) _ rfl (by (with_reducible repeat (first | refine blk_drewN ?_ _ | refine blk_drew ?_ | refine blk_alloc ?_ _)); refine blk_put (cs := #[.int .i64 t541, .int .u32 0]) ?_ 1 _ rfl; (with_reducible repeat (first | refine blk_drewN ?_ _ | refine blk_drew ?_ | refine blk_alloc ?_ _)); refine blk_put (cs := #[.int .i64 0, .int .u32 0]) ?_ 0 _ rfl; (with_reducible repeat (first | refine blk_drewN ?_ _ | refine blk_drew ?_ | refine blk_alloc ?_ _)); exact BK537.out) Try.underlying27 rfl (by kernel_rfl)) rfl ?_
 exact ⟨by first | rfl | (simp [*, errW_none, errW_some] <;> rfl), by repeat (first | (with_reducible first | exact HB.out | apply below_alloc | apply pw_below_drewN | apply below_drew1 | refine below_set ?_ GE536.out | refine below_set ?_ GE537.out) | exact HB.out)⟩
end
end Go.Proofs.Ytcepbgffnneagaa.Q
end

section
namespace Go.Proofs.Ytcepbgffnneagaa.Q
open Go.RowKit Go.Proofs.YtcepbgffnneagaaW.PrintWords Go.Proofs.YtcepbgffnneagaaW.PrintLast Go.Proofs.YtcepbgffnneagaaW.PrintMore
attribute [local go_sem] max2_int min2_int max_two min_two max_three min_three max_four min_four
set_option linter.unusedVariables false
set_option linter.unusedSimpArgs false
attribute [local go_sem high] eqA27
section
def impl_sameType_1.f (a0_0 : Int) (a0_1 : Int) (a0_2 : Int) (l701 : List (S45)) : Option (Bool) := (impl_Flag_typeOf.f a0_0 a0_1 a0_2).bind fun bt544 => (if 0 < (l701.length : Int) then ((impl_Flag_typeOf.f ((rd_T45 l701 0).f0) ((rd_T45 l701 0).f1.f0) ((rd_T45 l701 0).f1.f1)).bind fun bt547 => (some (!(bt544.1 == bt547.1) || (!(bt544.2 == bt547.2))))) else (none))
def impl_sameType_1.T1 : Bool × List (List Nat × List Nat) := (true, [([], []), ([0], [0]), ([], []), ([2], [2]), ([3], [3]), ([4, 1], [4]), ([1, 5], [1, 5]), ([6, 5, 0, 1, 2, 3, 4, 5, 6], [6])])
def impl_sameType_1.B1 : List Nat := [0, 1, 0, 4, 12, 31, 63, 127]
theorem impl_sameType_1.tab1 : rtab .any (opsOf Try.f135 1) = impl_sameType_1.T1 := by kernel_rfl
theorem impl_sameType_1.bits1 : waitsOk impl_sameType_1.T1.2 impl_sameType_1.B1 = true := by kernel_rfl
set_option maxHeartbeats 8000000 in
set_option maxRecDepth 100000 in
theorem impl_sameType_1.calls (a0_0 : Int) (a0_1 : Int) (a0_2 : Int) (r : Bool) (gb701 : Nat) (A701 : Option Addr) (c701 : Nat) (l701 : List (S45)) (w : World) (hb701 : w.heap[gb701]? = some (.cells #[.slice A701 l701.length c701] 67 (0, 0))) (hr701 : Kd.C k45 w A701 l701.length l701) (hc701 : l701.length ≤ c701) (h : impl_sameType_1.f a0_0 a0_1 a0_2 l701 = some r) :
  Calls Try.prog 135 #[.agg #[.int .i64 a0_0, .int .i64 a0_1, .int .u32 a0_2], .pointer (some ⟨gb701, 0, none⟩)] w fun e w' => e = .returned (.bool r) ∧ Below w.heap.size w w' := by
 have hu45 := Try.underlying45
 have HR701 := Aside0.mk hr701
 have HC701 := Aside0.mk hc701
 clear hr701 hc701
 have BK701 := Aside0.mk hb701
 clear hb701
 have HB := Aside0.mk (Below.refl w.heap.size w)
 unfold impl_sameType_1.f at h
 have H := h
 clear h
 replace H := Option.bind_eq_some_iff.mp H
 obtain ⟨⟨t544, t545⟩, A20, H⟩ := H
 (try dsimp only at H)
 have A2 := Aside0.mk A20
 clear A20
 by_cases c3 : 0 < (l701.length : Int)
 ·rw [if_pos c3] at H
  have c3b0 : decide (0 < (l701.length : Int)) = true := decide_eq_true c3
  have c3b1 : decide (0 < l701.length) = true := decide_eq_true (by omega)
  clear c3
  replace H := Option.bind_eq_some_iff.mp H
  obtain ⟨⟨t547, t548⟩, A40, H⟩ := H
  (try dsimp only at H)
  have A4 := Aside0.mk A40
  clear A40
  obtain rfl := Option.some.inj H
  go_enter Try.func135, Try.ntmps135
  try go_wp2_with (first | ((with_reducible refine gate_dst (N := 2) rfl ?_); refine box_event rfl (N := 2) rfl (cs := #[.int .i64 a0_0, .int .i64 a0_1, .int .u32 a0_2]) (t := 45) ?hr ?_; (case hr => first | (go_simp; done) | (go_simp; rfl)); intro gb543 hg w5 hbox hb; have BK543 := Aside0.mk (hbox); have GW543 := geA HB hg; replace HB := hbB HB hb; have GE543 := GW543; have NB701_543 := nbA hg BK701; replace BK701 := bkB BK701 hb; have NB543_701 := neA NB701_543; clear hb hbox hg))
  replace BK701 := Aside0.mk (blk_drew BK701.out)
  replace BK543 := Aside0.mk (blk_drew BK543.out)
  replace HB := Aside0.mk (below_drew1 HB.out)
  have p546 : 0 ≤ (0 : Int) := (by omega)
  have q546 : 0 < (l701.length : Int) := of_decide_eq_true (by first | (with_reducible assumption) | assumption)
  obtain ⟨ad546, e546, hx546_0, hx546_1, hx546_2⟩ := at_T45 HR701.out 0 p546 q546
  have hw546_2 := hx546_2
  (try rw [show ((0 : Int)).toNat = 0 from rfl] at hw546_2)
  (try rw [show 0 * 3 = 0 from rfl] at hw546_2)
  (try rw [Addr.add_zero'] at hw546_2)
  have hw546_1 := hx546_1
  (try rw [show ((0 : Int)).toNat = 0 from rfl] at hw546_1)
  (try rw [show 0 * 3 = 0 from rfl] at hw546_1)
  (try rw [Addr.add_zero'] at hw546_1)
  have hw546_0 := hx546_0
  (try rw [show ((0 : Int)).toNat = 0 from rfl] at hw546_0)
  (try rw [show 0 * 3 = 0 from rfl] at hw546_0)
  (try rw [Addr.add_zero'] at hw546_0)
  cases e546
  have qi546 : (0 < l701.length) = True := eq_true (by omega)
  (try rw [show ((0 : Int)).toNat = 0 from rfl] at hx546_0)
  (try rw [show 0 * 3 = 0 from rfl] at hx546_0)
  (try rw [Addr.add_zero'] at hx546_0)
  (try rw [show ((0 : Int)).toNat = 0 from rfl] at hx546_1)
  (try rw [show 0 * 3 = 0 from rfl] at hx546_1)
  (try rw [Addr.add_zero'] at hx546_1)
  (try rw [show ((0 : Int)).toNat = 0 from rfl] at hx546_2)
  (try rw [show 0 * 3 = 0 from rfl] at hx546_2)
  (try rw [Addr.add_zero'] at hx546_2)
  replace hx546_0 := (HB.out.cell (World.block_lt_of_cell? w _ hx546_0)).trans hx546_0
  replace hx546_1 := (HB.out.cell (World.block_lt_of_cell? w _ hx546_1)).trans hx546_1
  replace hx546_2 := (HB.out.cell (World.block_lt_of_cell? w _ hx546_2)).trans hx546_2
  replace p546 := eq_true p546
  replace q546 := eq_true q546
  refine start_ (n := 8) (S := fun w' => w'.cell? ⟨gb543, 0, none⟩ = some (.int .i64 a0_0) ∧ w'.cell? ⟨gb543, 1, none⟩ = some (.int .i64 a0_1) ∧ w'.cell? ⟨gb543, 2, none⟩ = some (.int .u32 a0_2) ∧ w'.cell? ⟨gb701, 0, none⟩ = some (.slice (some ad546) l701.length c701) ∧ w'.cell? ad546 = some (.int .i64 ((rd_T45 l701 0).f0)) ∧ w'.cell? ⟨ad546.block, ad546.off + 1, none⟩ = some (.int .i64 ((rd_T45 l701 0).f1.f0)) ∧ w'.cell? ⟨ad546.block, ad546.off + 2, none⟩ = some (.int .u32 ((rd_T45 l701 0).f1.f1))) (ds := []) #[false, false, false, false, false, false, false, false] (by kernel_rfl) rfl rfl ⟨bcA BK543 0 rfl, bcA BK543 1 rfl, bcA BK543 2 rfl, bcA BK701 0 rfl, ((HB.out.cell (World.block_lt_of_cell? w _ hw546_0)).trans hw546_0), ((HB.out.cell (World.block_lt_of_cell? w _ hw546_1)).trans hw546_1), ((HB.out.cell (World.block_lt_of_cell? w _ hw546_2)).trans hw546_2)⟩ (fun hHeld => ?_); refine with_tabW impl_sameType_1.tab1 impl_sameType_1.bits1 (fun HT_ HW_ => ?_)
  generalize w5.drew = w6 at BK701 BK543 HB hx546_0 hx546_1 hx546_2 hHeld ⊢
  refine take_ (i := 0) (N := some 4) (v := ?_) (a' := ?_) #[true, false, false, false, false, false, false, false] rfl rfl (take_ofW HT_.out HW_.out (by kernel_rfl)) (fun _ _ _ h => h) (Or.inl ⟨by rfl, ?_⟩) hHeld ?_ ?_
  rotate_left;(rintro w' ⟨s0, s1, s2, s3, s4, s5, s6⟩;go_simp;with_reducible rfl);rotate_left;(simp only [Act.put, psA, pzA, pnA, i64_w, i32_w];rfl)
  refine take_ (i := 2) (N := some 6) (v := ?_) (a' := ?_) #[true, false, true, false, false, false, false, false] rfl rfl (take_ofW HT_.out HW_.out (by kernel_rfl)) (fun _ _ _ h => h) (Or.inl ⟨by rfl, ?_⟩) hHeld ?_ ?_
  rotate_left;(rintro w' ⟨s0, s1, s2, s3, s4, s5, s6⟩;go_simp;with_reducible rfl);rotate_left;(simp only [Act.put, psA, pzA, pnA, i64_w, i32_w];rfl)
  refine pure_ (i := 3) (N := some 7) (v := ?_) (a' := ?_) #[true, false, true, true, false, false, false, false] rfl rfl (any_of HT_.out (by kernel_rfl)) (fun _ _ _ h => h) (Or.inl ⟨by rfl, ?_⟩) ?_ ?_
  rotate_left;(intro w';go_simp;with_reducible rfl);rotate_left;(simp only [Act.put, psA, pzA, pnA, i64_w, i32_w];rfl)
  refine take_ (i := 4) (N := some 8) (v := ?_) (a' := ?_) #[true, false, true, true, true, false, false, false] rfl rfl (take_ofW HT_.out HW_.out (by kernel_rfl)) (fun _ _ _ h => h) (Or.inl ⟨by rfl, ?_⟩) hHeld ?_ ?_
  rotate_left;(rintro w' ⟨s0, s1, s2, s3, s4, s5, s6⟩;go_simp;with_reducible rfl);rotate_left;(simp only [Act.put, psA, pzA, pnA, i64_w, i32_w];rfl)
  refine one_ (i := 1) (N := some 5) #[true, true, true, true, true, false, false, false] rfl rfl (one_of HT_.out (by kernel_rfl)) (by decide) (fun K hK => ?_)
  refine goes_ Try.func136 (by kernel_rfl) rfl #[.agg #[.int .i64 a0_0, .int .i64 a0_1, .int .u32 a0_2]] (by rfl) rfl rfl (by first | rfl | (simp only [List.map_toArray, List.map_cons, List.map_nil, List.length_drop, List.length_take]; rfl)) ?_
  with_reducible refine (impl_Flag_typeOf.calls a0_0 a0_1 a0_2 t544 t545 _ A2.out).mono ?_
  rintro e w7 ⟨rfl, hb⟩
  refine ⟨_, rfl, ?_⟩
  replace BK701 := bkB BK701 hb
  replace BK543 := bkB BK543 hb
  replace HB := hbB HB hb
  (try clear hb)
  refine hK.out _ _ ⟨bcA BK543 0 rfl, bcA BK543 1 rfl, bcA BK543 2 rfl, bcA BK701 0 rfl, ((HB.out.cell (World.block_lt_of_cell? w _ hw546_0)).trans hw546_0), ((HB.out.cell (World.block_lt_of_cell? w _ hw546_1)).trans hw546_1), ((HB.out.cell (World.block_lt_of_cell? w _ hw546_2)).trans hw546_2)⟩ (fun hHeld => ?_)
  clear hK K
  refine norm_ (a' := ?_) ?_ ?_
  rotate_left;(show Act.put _ (some 5) _ = _;simp only [Act.put, psA, pzA, pnA, i64_w, i32_w];rfl)
  refine one_ (i := 5) (N := some 9) #[true, true, true, true, true, true, false, false] rfl rfl (one_of HT_.out (by kernel_rfl)) (by decide) (fun K hK => ?_)
  refine goes_ Try.func136 (by kernel_rfl) rfl #[.agg #[.int .i64 ((rd_T45 l701 0).f0), .int .i64 ((rd_T45 l701 0).f1.f0), .int .u32 ((rd_T45 l701 0).f1.f1)]] (by rfl) rfl rfl (by first | rfl | (simp only [List.map_toArray, List.map_cons, List.map_nil, List.length_drop, List.length_take]; rfl)) ?_
  with_reducible refine (impl_Flag_typeOf.calls ((rd_T45 l701 0).f0) ((rd_T45 l701 0).f1.f0) ((rd_T45 l701 0).f1.f1) t547 t548 _ A4.out).mono ?_
  rintro e w8 ⟨rfl, hb⟩
  refine ⟨_, rfl, ?_⟩
  replace BK701 := bkB BK701 hb
  replace BK543 := bkB BK543 hb
  replace HB := hbB HB hb
  (try clear hb)
  refine hK.out _ _ ⟨bcA BK543 0 rfl, bcA BK543 1 rfl, bcA BK543 2 rfl, bcA BK701 0 rfl, ((HB.out.cell (World.block_lt_of_cell? w _ hw546_0)).trans hw546_0), ((HB.out.cell (World.block_lt_of_cell? w _ hw546_1)).trans hw546_1), ((HB.out.cell (World.block_lt_of_cell? w _ hw546_2)).trans hw546_2)⟩ (fun hHeld => ?_)
  clear hK K
  refine norm_ (a' := ?_) ?_ ?_
  rotate_left;(show Act.put _ (some 9) _ = _;simp only [Act.put, psA, pzA, pnA, i64_w, i32_w];rfl)
  refine pure_ (i := 6) (N := some 10) (v := ?_) (a' := ?_) #[true, true, true, true, true, true, true, false] rfl rfl (any_of HT_.out (by kernel_rfl)) (fun _ _ _ h => h) (Or.inl ⟨by rfl, ?_⟩) ?_ ?_
  rotate_left;(intro w';go_simp;with_reducible rfl);rotate_left;(simp only [Act.put, psA, pzA, pnA, i64_w, i32_w];rfl)
  refine pure_ (i := 7) (N := some 3) (v := ?_) (a' := ?_) #[true, true, true, true, true, true, true, true] rfl rfl (any_of HT_.out (by kernel_rfl)) (fun _ _ _ h => h) (Or.inl ⟨by rfl, ?_⟩) ?_ ?_
  rotate_left;(intro w';go_simp;with_reducible rfl);rotate_left;(simp only [Act.put, psA, pzA, pnA, i64_w, i32_w];rfl)
  refine done_ (done_of HT_.out (by kernel_rfl)) ?_
  try go_wp2
  go_ret
  exact ⟨by first | rfl | (simp [*, errW_none, errW_some] <;> rfl), by repeat (first | (with_reducible first | exact HB.out | apply below_alloc | apply pw_below_drewN | apply below_drew1 | refine below_set ?_ GE701.out | refine below_set ?_ GE543.out) | exact HB.out)⟩
 ·rw [if_neg c3] at H
  exact absurd H (by simp)
end
end Go.Proofs.Ytcepbgffnneagaa.Q
end

section
namespace Go.Proofs.Ytcepbgffnneagaa.Q
open Go.RowKit Go.Proofs.YtcepbgffnneagaaW.PrintWords Go.Proofs.YtcepbgffnneagaaW.PrintLast Go.Proofs.YtcepbgffnneagaaW.PrintMore
attribute [local go_sem] max2_int min2_int max_two min_two max_three min_three max_four min_four
set_option linter.unusedVariables false
set_option linter.unusedSimpArgs false
section
def impl_sameType.f (k : Nat) (l0 : List (S45)) : Option (Bool) := (impl_Flag_133.f (fun y0_0 y0_1 y0_2 => impl_sameType_1.f y0_0 y0_1 y0_2 l0) k l0).bind fun t550 => (some (!t550))
set_option maxHeartbeats 8000000 in
set_option maxRecDepth 100000 in
theorem impl_sameType.calls (k : Nat) (A0 : Option Addr) (c0 : Nat) (l0 : List (S45)) (r : Bool) (w : World) (hr0 : Kd.C k45 w A0 l0.length l0) (hc0 : l0.length ≤ c0) (h : impl_sameType.f k l0 = some r) :
  Calls Try.prog 82 #[.slice A0 l0.length c0] w fun e w' => e = .returned (.bool r) ∧ Below w.heap.size w w' := by
 have HR0 := Aside0.mk hr0
 have HC0 := Aside0.mk hc0
 clear hr0 hc0
 have HB := Aside0.mk (Below.refl w.heap.size w)
 unfold impl_sameType.f at h
 have H := h
 clear h
 replace H := Option.bind_eq_some_iff.mp H
 obtain ⟨t550, A20, H⟩ := H
 (try dsimp only at H)
 have A2 := Aside0.mk A20
 clear A20
 obtain rfl := Option.some.inj H
 go_enter Try.func82, Try.ntmps82
 go_wp2_with (first | ((with_reducible refine gate_dst (N := 1) rfl ?_); refine box_event rfl (N := 1) rfl (cs := #[.slice A0 l0.length c0]) (t := 67) ?hr ?_; (case hr => first | (go_simp; done) | (go_simp; rfl)); intro gb549 hg w3 hbox hb; have BK549 := Aside0.mk (hbox); have GW549 := geA HB hg; replace HB := hbB HB hb; have GE549 := GW549; clear hb hbox hg; have hcz4_0 : w3.cell? ⟨gb549, 0, none⟩ = some (.slice A0 l0.length c0) := bcA BK549 0 rfl; have hfz4_0 := blk_frozen BK549.out 0) | ((with_reducible refine gate_callee (f := 133) rfl ?_); refine goesL_ (some 5) rfl rfl Try.func133 (by kernel_rfl) rfl #[.slice A0 l0.length c0, .func (.func 135) #[] #[.pointer (some ⟨gb549, 0, none⟩)]] rfl (by (try simp only [maA, mbA, mcA]); first | done | rfl | (simp only [List.length_drop, List.length_take]; rfl)) ?_; (refine (impl_Flag_133.calls (fun y0_0 y0_1 y0_2 => impl_sameType_1.f y0_0 y0_1 y0_2 l0) 135 #[] #[.pointer (some ⟨gb549, 0, none⟩)] (EnterF.of Try.func135 (by kernel_rfl) rfl) _ ⟨fun y0_0 y0_1 y0_2 r_ W_  hc_ hB_ => (impl_sameType_1.calls y0_0 y0_1 y0_2 r_ gb549 _ _ l0 W_ (blk_below (by (with_reducible repeat (first | refine blk_drewN ?_ _ | refine blk_drew ?_ | refine blk_alloc ?_ _)); exact BK549.out) hB_) (Kd.C_below HR0.out (below_via (by repeat (first | (with_reducible first | exact HB.out | apply below_alloc | apply pw_below_drewN | apply below_drew1 | refine below_set ?_ GE549.out) | exact HB.out)) hB_)) HC0.out hc_)⟩ k _ _ l0 t550 _ ?side1 ?side2 A2.out ⟨Below.refl _ _⟩).mono ?_); (case side1 => repeat (first | exact (Kd.C_below HR0.out HB.out) | (with_reducible refine Kd.C_alloc ?_ _) | (with_reducible refine Kd.C_drewN ?_ _) | (with_reducible refine Kd.C_drew ?_))); (case side2 => exact HC0.out); rintro e w5 ⟨rfl, hb⟩; refine ⟨_, rfl, ?_⟩; replace BK549 := bkB BK549 hb; replace HB := hbB HB hb; (try clear hb)))
 go_ret
 exact ⟨by first | rfl | (simp [*, errW_none, errW_some] <;> rfl), by repeat (first | (with_reducible first | exact HB.out | apply below_alloc | apply pw_below_drewN | apply below_drew1 | refine below_set ?_ GE549.out) | exact HB.out)⟩
end
section
def impl_Flag_free.f (a0_0 : Int) (a0_1 : Int) (a0_2 : Int) : Option (Int) := some (wrap64 (a0_1 - a0_0))
set_option maxHeartbeats 8000000 in
set_option maxRecDepth 100000 in
theorem impl_Flag_free.calls (a0_0 : Int) (a0_1 : Int) (a0_2 : Int) (r : Int) (w : World) (h : impl_Flag_free.f a0_0 a0_1 a0_2 = some r) :
  Calls Try.prog 83 #[.agg #[.int .i64 a0_0, .int .i64 a0_1, .int .u32 a0_2]] w fun e w' => e = .returned (.int .i64 r) ∧ Below w.heap.size w w' := by
 have hu45 := Try.underlying45
 have HB := Aside0.mk (Below.refl w.heap.size w)
 unfold impl_Flag_free.f at h
 have H := h
 clear h
 obtain rfl := Option.some.inj H
 go_enter Try.func83, Try.ntmps83
 go_wp2_with (first | ((with_reducible refine gate_dst (N := 1) rfl ?_); refine box_event rfl (N := 1) rfl (cs := #[.int .i64 a0_0, .int .i64 a0_1, .int .u32 a0_2]) (t := 45) ?hr ?_; (case hr => first | (go_simp; done) | (go_simp; rfl)); intro gb561 hg w2 hbox hb; have BK561 := Aside0.mk (hbox); have GW561 := geA HB hg; replace HB := hbB HB hb; have GE561 := GW561; clear hb hbox hg; have hcz3_0 : w2.cell? ⟨gb561, 0, none⟩ = some (.int .i64 a0_0) := bcA BK561 0 rfl; have hcz3_1 : w2.cell? ⟨gb561, 1, none⟩ = some (.int .i64 a0_1) := bcA BK561 1 rfl; have hcz3_2 : w2.cell? ⟨gb561, 2, none⟩ = some (.int .u32 a0_2) := bcA BK561 2 rfl; have hfz3_0 := blk_frozen BK561.out 0; have hfz3_1 := blk_frozen BK561.out 1; have hfz3_2 := blk_frozen BK561.out 2))
 go_ret
 exact ⟨by first | rfl | (simp [*, errW_none, errW_some] <;> rfl), by repeat (first | (with_reducible first | exact HB.out | apply below_alloc | apply pw_below_drewN | apply below_drew1 | refine below_set ?_ GE561.out) | exact HB.out)⟩
end
end Go.Proofs.Ytcepbgffnneagaa.Q
end

section
namespace Go.Proofs.Ytcepbgffnneagaa.Q
open Go.RowKit Go.Proofs.YtcepbgffnneagaaW.PrintWords Go.Proofs.YtcepbgffnneagaaW.PrintLast Go.Proofs.YtcepbgffnneagaaW.PrintMore
attribute [local go_sem] max2_int min2_int max_two min_two max_three min_three max_four min_four
set_option linter.unusedVariables false
set_option linter.unusedSimpArgs false

set_option maxHeartbeats 8000000 in
set_option maxRecDepth 100000 in
theorem slices_Clip.calls (A0 : Option Addr) (c0 : Nat) (l0 : List Int) (w : World) (hr0 : Kd.C (Kd.int .i64) w A0 l0.length l0) (hc0 : l0.length ≤ c0) :
  Calls Try.prog 163 #[.slice A0 l0.length c0] w fun e w' => e = .returned (.slice A0 l0.length l0.length) ∧ Drawn0 w w' := by
 have hmax : l0.length ≤ 9223372036854775807 := hr0.2.1
 have hA := hr0.2.2
 clear hr0
 go_enter Try.func163, Try.ntmps163
 go_wp2
 go_ret
 exact ⟨rfl, Drawn0.refl _⟩

end Go.Proofs.Ytcepbgffnneagaa.Q
end

section
namespace Go.Proofs.Ytcepbgffnneagaa.Q
open Go.RowKit Go.Proofs.YtcepbgffnneagaaW.PrintWords Go.Proofs.YtcepbgffnneagaaW.PrintLast Go.Proofs.YtcepbgffnneagaaW.PrintMore
attribute [local go_sem] max2_int min2_int max_two min_two max_three min_three max_four min_four
set_option linter.unusedVariables false
set_option linter.unusedSimpArgs false
section
def impl_chosen_1.l0 {σ : Type} (f : Int → List Int → σ → Option σ) (L : List Int) : Nat → List Int → Int → σ → Option σ
 | 0, _, _, _ => none
 | k + 1, x1, x8, s => if x8 < (L.length : Int) then (if 0 ≤ x8 then (if x1.length ≤ 1000 then ((f (wrap64 (x8 + 1)) (x1 ++ [rd L x8]) s).bind fun s => impl_chosen_1.l0 f L k x1 (wrap64 (x8 + 1)) s) else none) else none) else some s
def impl_chosen_1.f {σ : Type} (cb : List Int → σ → Option σ) (m : Int) (L : List Int) : Nat → Int → List Int → σ → Option σ
 | 0, _, _, _ => none
 | k + 1, a0, l1, s => if (l1.length : Int) = m then cb l1 s else impl_chosen_1.l0 (impl_chosen_1.f cb m L k) L (k + 1) l1 a0 s
def impl_chosen_1.T5 : Bool × List (List Nat × List Nat) := (true, [([], []), ([], []), ([1], [1]), ([], []), ([3], [3]), ([], []), ([], []), ([5, 6], [5, 6]), ([7], [7]), ([8], [8]), ([4, 9, 4], [4, 9]), ([0, 2, 10, 10], [0, 2, 10])])
def impl_chosen_1.B5 : List Nat := [0, 0, 2, 0, 8, 0, 0, 96, 224, 480, 1016, 2047]
theorem impl_chosen_1.tab5 : rtab .any (opsOf Try.f162 5) = impl_chosen_1.T5 := by kernel_rfl
theorem impl_chosen_1.bits5 : waitsOk impl_chosen_1.T5.2 impl_chosen_1.B5 = true := by kernel_rfl
set_option maxHeartbeats 16000000 in
set_option maxRecDepth 100000 in
theorem impl_chosen_1.state {σ : Type} (cb : List Int → σ → Option σ) (I : σ → World → Prop) (M : Nat → Prop) (G1 : Nat) (lb1 : Array Value) (eg1 : EnterF Try.prog G1) (W0 : World) (hM : ∀ k, M k → k < W0.heap.size)
  (hI : Aside0 (∀ a W W', I a W → Below W.heap.size W W' → I a W'))
  (hcb : Aside0 (∀ (l : List Int) (a a' : σ) (A : Option Addr) (c : Nat) (W : World), I a W → Kd.C (Kd.int .i64) W A l.length l → l.length ≤ c → cb l a = some a' → But M W0 W → (∀ ad, A = some ad → ¬ M ad.block) → Calls Try.prog G1 (#[.slice A l.length c] ++ lb1) W fun e w' => e = .returned (.tuple #[]) ∧ I a' w' ∧ But M W w'))
  (gb702 : Nat) (s702_0 : Int) (gb703 gb704 : Nat) (A704 : Option Addr) (c704 : Nat) (l704 : List Int) (gb705 : Nat) (m702 : Aside0 (¬ M gb702)) (m703 : Aside0 (¬ M gb703)) (m704 : Aside0 (¬ M gb704)) (m705 : Aside0 (¬ M gb705)) (mA : Aside0 (∀ ad, A704 = some ad → ¬ M ad.block)) (k : Nat) :
  ∀ (a0 : Int) (A1 : Option Addr) (c1 : Nat) (l1 : List Int) (a a' : σ) (w : World) (hb702 : w.heap[gb702]? = some (.cells #[.int .i64 s702_0] 3 (0, 0))) (hb703 : w.heap[gb703]? = some (.cells #[.func (.func G1) #[] lb1] 125 (0, 0))) (hb704 : w.heap[gb704]? = some (.cells #[.slice A704 l704.length c704] 62 (0, 0))) (hb705 : w.heap[gb705]? = some (.cells #[.func (.func 162) #[] #[.pointer (some ⟨gb702, 0, none⟩), .pointer (some ⟨gb703, 0, none⟩), .pointer (some ⟨gb704, 0, none⟩), .pointer (some ⟨gb705, 0, none⟩)]] 148 (0, 0)))
  (hr704 : Kd.C (Kd.int .i64) w A704 l704.length l704) (hr1 : Kd.C (Kd.int .i64) w A1 l1.length l1) (hc1 : l1.length ≤ c1) (hA1 : ∀ ad, A1 = some ad → ¬ M ad.block) (hi : I a w) (hB : But M W0 w) (h : impl_chosen_1.f cb s702_0 l704 k a0 l1 a = some a'),
  Calls Try.prog 162 #[.int .i64 a0, .slice A1 l1.length c1, .pointer (some ⟨gb702, 0, none⟩), .pointer (some ⟨gb703, 0, none⟩), .pointer (some ⟨gb704, 0, none⟩), .pointer (some ⟨gb705, 0, none⟩)] w fun e w' => e = .returned (.tuple #[]) ∧ I a' w' ∧ But M w w' := by
 induction k using Nat.strongRecOn with
 | _ k ih =>
 intro a0 A1 c1 l1 a a' w hb702 hb703 hb704 hb705 hr704 hr1 hc1 hA1 hi hB h
 cases k with
 | zero => exact absurd h (by simp [impl_chosen_1.f])
 | succ k =>
 simp only [impl_chosen_1.f] at h
 have BK702 := Aside0.mk hb702
 have BK703 := Aside0.mk hb703
 have BK704 := Aside0.mk hb704
 have BK705 := Aside0.mk hb705
 have HR704 := Aside0.mk hr704
 have HR1 := Aside0.mk hr1
 have HC1 := Aside0.mk hc1
 have HA1 := Aside0.mk hA1
 have HI0 := Aside0.mk hi
 have HBut0 := Aside0.mk hB
 have HM := Aside0.mk hM
 clear hb702 hb703 hb704 hb705 hr704 hr1 hc1 hA1 hi hB hM
 obtain ⟨i0, hi0, hz0, hs0, hb0⟩ := info_parts info2
 have INF := Aside0.mk (show Try.prog.info? 2 = some i0 ∧ i0.zero = some (.int .i64 0) ∧ i0.size = 1 ∧ i0.bytes = 8 from ⟨hi0, hz0, hs0, hb0⟩)
 clear hi0 hz0 hs0 hb0
 have H : (if (l1.length : Int) = s702_0 then cb l1 a else impl_chosen_1.l0 (impl_chosen_1.f cb s702_0 l704 k) l704 (k + 1) l1 a0 a) = some a' := h
 clear h
 have hcz8_0 : w.cell? ⟨gb702, 0, none⟩ = some (.int .i64 s702_0) := bcA BK702 0 rfl
 have hfz8_0 := blk_frozen BK702.out 0
 by_cases c3 : (l1.length : Int) = s702_0
 ·rw [if_pos c3] at H
  have c3b0 : ((l1.length : Int) == s702_0) = true := beq_iff_eq.mpr c3
  have H' := Aside0.mk H
  clear c3 H
  have hcz11_0 : w.cell? ⟨gb703, 0, none⟩ = some (.func (.func G1) #[] lb1) := bcA BK703 0 rfl
  have hfz11_0 := blk_frozen BK703.out 0
  go_enter Try.func162, Try.ntmps162
  go_wp2_with ((with_reducible refine gate_value (t := 13) rfl ?_); refine goesF_ (some 15) rfl rfl eg1 #[.slice A1 l1.length c1] rfl rfl (by (try simp only [maA, mbA, mcA]); first | done | rfl) ?_; (refine (hcb.out l1 a a' A1 c1 w HI0.out HR1.out HC1.out H'.out HBut0.out HA1.out).mono ?_); rintro e w' ⟨rfl, hi', hb'⟩; refine ⟨_, rfl, ?_⟩)
  first | go_end0 | ((try simp only [Exit.inBlock, Exit.then]); refine bodyPost_ret (results_none rfl _ _ _) rfl ?_)
  exact ⟨rfl, hi', hb'⟩
 ·rw [if_neg c3] at H
  have c3b0 : ((l1.length : Int) == s702_0) = false := beq_eq_false_iff_ne.mpr c3
  have H' := Aside0.mk H
  clear c3 H
  go_enter Try.func162, Try.ntmps162
  go_wp2
  go_loopg [8] (k + 1) (fun kq v8 w' => ∃ (x8_1 : Int) (s1 : σ), v8 = .int .i64 x8_1 ∧ Aside0 (impl_chosen_1.l0 (impl_chosen_1.f cb s702_0 l704 k) l704 kq l1 x8_1 s1 = some a') ∧ Aside0 (kq ≤ k + 1) ∧ Aside0 (w'.heap[gb702]? = some (.cells #[.int .i64 s702_0] 3 (0, 0))) ∧ Aside0 (w'.heap[gb703]? = some (.cells #[.func (.func G1) #[] lb1] 125 (0, 0))) ∧ Aside0 (w'.heap[gb704]? = some (.cells #[.slice A704 l704.length c704] 62 (0, 0))) ∧ Aside0 (w'.heap[gb705]? = some (.cells #[.func (.func 162) #[] #[.pointer (some ⟨gb702, 0, none⟩), .pointer (some ⟨gb703, 0, none⟩), .pointer (some ⟨gb704, 0, none⟩), .pointer (some ⟨gb705, 0, none⟩)]] 148 (0, 0))) ∧ Aside0 (I s1 w') ∧ Aside0 (But M w w'))
  case atStart => exact ⟨a0, a, rfl, H', ⟨Nat.le_refl _⟩, BK702, BK703, BK704, BK705, HI0, ⟨But.refl _ _⟩⟩
  case round =>
   clear H' BK702 BK703 BK704 BK705 HI0
   try clear c3b0
   try clear hcz8_0
   try clear hfz8_0
   obtain ⟨x8_1, s1, rfl, HA, HK1, BK702, BK703, BK704, BK705, HI, HBut⟩ := hrel
   cases gk with
   | zero => exact absurd HA.out (by simp [impl_chosen_1.l0])
   | succ k1 =>
    have H := HA.out
    clear HA
    simp only [impl_chosen_1.l0] at H
    have hcz25_0 : wr.cell? ⟨gb704, 0, none⟩ = some (.slice A704 l704.length c704) := bcA BK704 0 rfl
    have hfz25_0 := blk_frozen BK704.out 0
    by_cases c17 : x8_1 < (l704.length : Int)
    ·rw [if_pos c17] at H
     have c17b0 : decide (x8_1 < (l704.length : Int)) = true := decide_eq_true c17
     clear c17
     by_cases c19 : 0 ≤ x8_1
     ·rw [if_pos c19] at H
      have c19b0 : decide (0 ≤ x8_1) = true := decide_eq_true c19
      clear c19
      by_cases c20 : l1.length ≤ 1000
      ·rw [if_pos c20] at H
       have LM := Aside0.mk c20
       clear c20
       obtain ⟨s2, A210, H⟩ := Option.bind_eq_some_iff.mp H
       have A21 := Aside0.mk A210
       have H' := Aside0.mk H
       clear A210 H
       have HRr := Aside0.mk (HBut.out.C_int HR704.out mA.out)
       have HR1r := Aside0.mk (HBut.out.C_int HR1.out HA1.out)
       have HB := Aside0.mk (Below.refl wr.heap.size wr)
       try go_wp2
       replace BK702 := Aside0.mk (blk_drew BK702.out)
       replace BK703 := Aside0.mk (blk_drew BK703.out)
       replace BK704 := Aside0.mk (blk_drew BK704.out)
       replace BK705 := Aside0.mk (blk_drew BK705.out)
       replace HB := Aside0.mk (below_drew1 HB.out)
       have p184 : 0 ≤ (x8_1 : Int) := of_decide_eq_true (by first | (with_reducible assumption) | assumption)
       have q184 : x8_1 < (l704.length : Int) := of_decide_eq_true (by first | (with_reducible assumption) | assumption)
       obtain ⟨ad184, e184, hx184⟩ := Kd.at_int HRr.out x8_1 p184 q184
       have hw184 := hx184
       cases e184
       replace hx184 := (HB.out.cell (World.block_lt_of_cell? wr _ hx184)).trans hx184
       replace p184 := eq_true p184
       replace q184 := eq_true q184
       refine start_ (n := 12) (S := fun w' => w'.cell? ⟨gb705, 0, none⟩ = some (.func (.func 162) #[] #[.pointer (some ⟨gb702, 0, none⟩), .pointer (some ⟨gb703, 0, none⟩), .pointer (some ⟨gb704, 0, none⟩), .pointer (some ⟨gb705, 0, none⟩)]) ∧ w'.cell? ⟨gb704, 0, none⟩ = some (.slice (some ad184) l704.length c704) ∧ w'.cell? (ad184.add (x8_1).toNat) = some (.int .i64 (rd l704 x8_1))) (ds := []) #[false, false, false, false, false, false, false, false, false, false, false, false] (by kernel_rfl) rfl rfl ⟨bcA BK705 0 rfl, bcA BK704 0 rfl, ((HB.out.cell (World.block_lt_of_cell? wr _ hw184)).trans hw184)⟩ (fun hHeld => ?_); refine with_tabW impl_chosen_1.tab5 impl_chosen_1.bits5 (fun HT_ HW_ => ?_)
       generalize wr.drew = w26 at BK702 BK703 BK704 BK705 HB hx184 hHeld ⊢
       refine pure_ (i := 1) (N := some 24) (v := ?_) (a' := ?_) #[false, true, false, false, false, false, false, false, false, false, false, false] rfl rfl (any_of HT_.out (by kernel_rfl)) (fun _ _ _ h => h) (Or.inl ⟨by rfl, ?_⟩) ?_ ?_
       rotate_left;(intro w';go_simp;with_reducible rfl);rotate_left;(simp only [Act.put, psA, pzA, pnA, i64_w, i32_w];rfl)
       refine pure_ (i := 2) (N := some 25) (v := ?_) (a' := ?_) #[false, true, true, false, false, false, false, false, false, false, false, false] rfl rfl (any_of HT_.out (by kernel_rfl)) (fun _ _ _ h => h) (Or.inl ⟨by rfl, ?_⟩) ?_ ?_
       rotate_left;(intro w';go_simp;with_reducible rfl);rotate_left;(simp only [Act.put, psA, pzA, pnA, i64_w, i32_w];rfl)
       refine pure_ (i := 3) (N := some 26) (v := ?_) (a' := ?_) #[false, true, true, true, false, false, false, false, false, false, false, false] rfl rfl (any_of HT_.out (by kernel_rfl)) (fun _ _ _ h => h) (Or.inl ⟨by rfl, ?_⟩) ?_ ?_
       rotate_left;(intro w';go_simp;with_reducible rfl);rotate_left;(simp only [Act.put, psA, pzA, pnA, i64_w, i32_w];rfl)
       refine pure_ (i := 6) (N := some 29) (v := ?_) (a' := ?_) #[false, true, true, true, false, false, true, false, false, false, false, false] rfl rfl (any_of HT_.out (by kernel_rfl)) (fun _ _ _ h => h) (Or.inl ⟨by rfl, ?_⟩) ?_ ?_
       rotate_left;(intro w';go_simp;with_reducible rfl);rotate_left;(simp only [Act.put, psA, pzA, pnA, i64_w, i32_w];rfl)
       refine take_ (i := 0) (N := some 23) (v := ?_) (a' := ?_) #[true, true, true, true, false, false, true, false, false, false, false, false] rfl rfl (take_ofW HT_.out HW_.out (by kernel_rfl)) (fun _ _ _ h => h) (Or.inl ⟨by rfl, ?_⟩) hHeld ?_ ?_
       rotate_left;(rintro w' ⟨s0, s1, s2⟩;go_simp;with_reducible rfl);rotate_left;(simp only [Act.put, psA, pzA, pnA, i64_w, i32_w];rfl)
       refine take_ (i := 5) (N := some 28) (v := ?_) (a' := ?_) #[true, true, true, true, false, true, true, false, false, false, false, false] rfl rfl (take_ofW HT_.out HW_.out (by kernel_rfl)) (fun _ _ _ h => h) (Or.inl ⟨by rfl, ?_⟩) hHeld ?_ ?_
       rotate_left;(rintro w' ⟨s0, s1, s2⟩;go_simp;with_reducible rfl);rotate_left;(simp only [Act.put, psA, pzA, pnA, i64_w, i32_w];rfl)
       refine pure_ (i := 7) (N := some 30) (v := ?_) (a' := ?_) #[true, true, true, true, false, true, true, true, false, false, false, false] rfl rfl (any_of HT_.out (by kernel_rfl)) (fun _ _ _ h => h) (Or.inl ⟨by rfl, ?_⟩) ?_ ?_
       rotate_left;(intro w';go_simp;with_reducible rfl);rotate_left;(simp only [Act.put, psA, pzA, pnA, i64_w, i32_w];rfl)
       refine take_ (i := 8) (N := some 31) (v := ?_) (a' := ?_) #[true, true, true, true, false, true, true, true, true, false, false, false] rfl rfl (take_ofW HT_.out HW_.out (by kernel_rfl)) (fun _ _ _ h => h) (Or.inl ⟨by rfl, ?_⟩) hHeld ?_ ?_
       rotate_left;(rintro w' ⟨s0, s1, s2⟩;go_simp;with_reducible rfl);rotate_left;(simp only [Act.put, psA, pzA, pnA, i64_w, i32_w];rfl)
       refine join_ (σ := Value) 2 #[true, true, true, true, true, true, true, true, true, true, false, false] (fun s_ => [(27, .slice A1 l1.length l1.length), (32, s_)]) (fun s_ w' => (w'.cell? ⟨gb705, 0, none⟩ = some (.func (.func 162) #[] #[.pointer (some ⟨gb702, 0, none⟩), .pointer (some ⟨gb703, 0, none⟩), .pointer (some ⟨gb704, 0, none⟩), .pointer (some ⟨gb705, 0, none⟩)]) ∧ w'.cell? ⟨gb704, 0, none⟩ = some (.slice (some ad184) l704.length c704) ∧ w'.cell? (ad184.add (x8_1).toNat) = some (.int .i64 (rd l704 x8_1))) ∧ Kd.R (Kd.int .i64) 2 w' wr.heap.size (fun _ => True) s_ [rd l704 x8_1] ∧ (w'.heap[gb702]? = some (.cells #[.int .i64 s702_0] 3 (0, 0))) ∧ (w'.heap[gb703]? = some (.cells #[.func (.func G1) #[] lb1] 125 (0, 0))) ∧ (w'.heap[gb704]? = some (.cells #[.slice (some ad184) l704.length c704] 62 (0, 0))) ∧ (w'.heap[gb705]? = some (.cells #[.func (.func 162) #[] #[.pointer (some ⟨gb702, 0, none⟩), .pointer (some ⟨gb703, 0, none⟩), .pointer (some ⟨gb704, 0, none⟩), .pointer (some ⟨gb705, 0, none⟩)]] 148 (0, 0))) ∧ Below wr.heap.size wr w') ?_ ?_
       rotate_left
       ·intro hCont
        refine two_ (i := 4) (j := 9) (Ni := some 27) (Nj := some 32) #[true, true, true, true, true, true, true, true, true, false, false, false] #[true, true, true, true, false, true, true, true, true, true, false, false] rfl rfl rfl rfl (two_of HT_.out (by kernel_rfl)) (by decide) (by decide) (fun K hK => ?_) (fun K hK => ?_)
        ·skip
         refine goes_ Try.func163 (by kernel_rfl) rfl #[.slice A1 l1.length c1] (by rfl) rfl rfl (by (try simp only [maA, mbA, mcA]); first | done | rfl) ?_
         refine (slices_Clip.calls A1 c1 l1 _ (Kd.C_below HR1r.out HB.out) HC1.out).mono ?_
         rintro e w' ⟨rfl, ⟨nd, rfl⟩⟩
         refine ⟨_, rfl, ?_⟩
         replace BK702 := Aside0.mk (blk_drewN BK702.out nd)
         replace BK703 := Aside0.mk (blk_drewN BK703.out nd)
         replace BK704 := Aside0.mk (blk_drewN BK704.out nd)
         replace BK705 := Aside0.mk (blk_drewN BK705.out nd)
         replace HB := Aside0.mk (pw_below_drewN HB.out nd)
         refine hK.out _ _ ⟨bcA BK705 0 rfl, bcA BK704 0 rfl, ((HB.out.cell (World.block_lt_of_cell? wr _ hw184)).trans hw184)⟩ (fun hHeld => ?_)
         clear hK K
         refine norm_ (a' := ?_) ?_ ?_
         rotate_left;(show Act.put _ (some 27) _ = _;simp only [Act.put, psA, pzA, pnA, i64_w, i32_w];rfl)
         refine one_ (i := 9) (N := some 32) #[true, true, true, true, true, true, true, true, true, true, false, false] rfl rfl (one_of HT_.out (by kernel_rfl)) (by decide) (fun K hK => ?_)
         refine Kd.R_lit_step (Kd.int .i64) _ 2 ?hg (N := 32) ?hd (xs := ([rd l704 x8_1] : List Int)) (inner := [.int .i64 (rd l704 x8_1)]) (ok := fun _ => True) (okp := fun _ => True) ?hr ?hp (fun _ hk => hk) trivial (Below.refl _ _) (Nat.le_refl _) (by simp) ?_; (case hd => rfl); (case hg => rfl); (case hr => first | (go_simp; done) | (go_simp; rfl)); (case hp => exact (Reps.one (show Kd.M (Kd.int .i64) _ _ _ (rd l704 x8_1) [.int .i64 (rd l704 x8_1)] from rfl) (Reps.none _ _)))
         intro v186 w' ho hb hg_ hnew_
         clear hg_ hnew_
         have n5_ := Aside0.mk (Kd.R_lower ho (below_size HB.out))
         have n0_ := bkB BK702 hb
         have n1_ := bkB BK703 hb
         have n2_ := bkB BK704 hb
         have n3_ := bkB BK705 hb
         have n4_ := hbB HB hb
         clear BK702 BK703 BK704 BK705 HB ho hb
         have BK702 := n0_
         have BK703 := n1_
         have BK704 := n2_
         have BK705 := n3_
         have HB := n4_
         have HO187 := n5_
         clear n0_ n1_ n2_ n3_ n4_ n5_
         refine hK.out _ _ ⟨bcA BK705 0 rfl, bcA BK704 0 rfl, ((HB.out.cell (World.block_lt_of_cell? wr _ hw184)).trans hw184)⟩ (fun hHeld => ?_)
         clear hK K
         refine norm_ (a' := ?_) ?_ ?_
         rotate_left;(show Act.put _ (some 32) _ = _;simp only [Act.put, psA, pzA, pnA, i64_w, i32_w];rfl)
         exact norm_ (by simp only [putAll, Act.put, psA, pzA, pnA]) (hCont v186 _ ⟨hHeld, HO187.out, BK702.out, BK703.out, BK704.out, BK705.out, HB.out⟩)
        ·skip
         refine Kd.R_lit_step (Kd.int .i64) _ 2 ?hg (N := 32) ?hd (xs := ([rd l704 x8_1] : List Int)) (inner := [.int .i64 (rd l704 x8_1)]) (ok := fun _ => True) (okp := fun _ => True) ?hr ?hp (fun _ hk => hk) trivial (Below.refl _ _) (Nat.le_refl _) (by simp) ?_; (case hd => rfl); (case hg => rfl); (case hr => first | (go_simp; done) | (go_simp; rfl)); (case hp => exact (Reps.one (show Kd.M (Kd.int .i64) _ _ _ (rd l704 x8_1) [.int .i64 (rd l704 x8_1)] from rfl) (Reps.none _ _)))
         intro v186 w' ho hb hg_ hnew_
         clear hg_ hnew_
         have n5_ := Aside0.mk (Kd.R_lower ho (below_size HB.out))
         have n0_ := bkB BK702 hb
         have n1_ := bkB BK703 hb
         have n2_ := bkB BK704 hb
         have n3_ := bkB BK705 hb
         have n4_ := hbB HB hb
         clear BK702 BK703 BK704 BK705 HB ho hb
         have BK702 := n0_
         have BK703 := n1_
         have BK704 := n2_
         have BK705 := n3_
         have HB := n4_
         have HO187 := n5_
         clear n0_ n1_ n2_ n3_ n4_ n5_
         refine hK.out _ _ ⟨bcA BK705 0 rfl, bcA BK704 0 rfl, ((HB.out.cell (World.block_lt_of_cell? wr _ hw184)).trans hw184)⟩ (fun hHeld => ?_)
         clear hK K
         refine norm_ (a' := ?_) ?_ ?_
         rotate_left;(show Act.put _ (some 32) _ = _;simp only [Act.put, psA, pzA, pnA, i64_w, i32_w];rfl)
         refine one_ (i := 4) (N := some 27) #[true, true, true, true, true, true, true, true, true, true, false, false] rfl rfl (one_of HT_.out (by kernel_rfl)) (by decide) (fun K hK => ?_)
         refine goes_ Try.func163 (by kernel_rfl) rfl #[.slice A1 l1.length c1] (by rfl) rfl rfl (by (try simp only [maA, mbA, mcA]); first | done | rfl) ?_
         refine (slices_Clip.calls A1 c1 l1 _ (Kd.C_below HR1r.out HB.out) HC1.out).mono ?_
         rintro e w' ⟨rfl, ⟨nd, rfl⟩⟩
         refine ⟨_, rfl, ?_⟩
         replace BK702 := Aside0.mk (blk_drewN BK702.out nd)
         replace BK703 := Aside0.mk (blk_drewN BK703.out nd)
         replace BK704 := Aside0.mk (blk_drewN BK704.out nd)
         replace BK705 := Aside0.mk (blk_drewN BK705.out nd)
         replace HB := Aside0.mk (pw_below_drewN HB.out nd)
         replace HO187 := Aside0.mk (Kd.R_drewN HO187.out nd)
         refine hK.out _ _ ⟨bcA BK705 0 rfl, bcA BK704 0 rfl, ((HB.out.cell (World.block_lt_of_cell? wr _ hw184)).trans hw184)⟩ (fun hHeld => ?_)
         clear hK K
         refine norm_ (a' := ?_) ?_ ?_
         rotate_left;(show Act.put _ (some 27) _ = _;simp only [Act.put, psA, pzA, pnA, i64_w, i32_w];rfl)
         exact norm_ (by simp only [putAll, Act.put, psA, pzA, pnA]) (hCont v186 _ ⟨hHeld, HO187.out, BK702.out, BK703.out, BK704.out, BK705.out, HB.out⟩)
       rintro v186 w30 ⟨hS_, h0_, h1_, h2_, h3_, h4_, h5_⟩
       clear BK702 BK703 BK704 BK705 HB
       have HO187 : Aside0 (Kd.R (Kd.int .i64) 2 w30 wr.heap.size (fun _ => True) v186 [rd l704 x8_1]) := ⟨h0_⟩
       have BK702 : Aside0 (w30.heap[gb702]? = some (.cells #[.int .i64 s702_0] 3 (0, 0))) := ⟨h1_⟩
       have BK703 : Aside0 (w30.heap[gb703]? = some (.cells #[.func (.func G1) #[] lb1] 125 (0, 0))) := ⟨h2_⟩
       have BK704 : Aside0 (w30.heap[gb704]? = some (.cells #[.slice (some ad184) l704.length c704] 62 (0, 0))) := ⟨h3_⟩
       have BK705 : Aside0 (w30.heap[gb705]? = some (.cells #[.func (.func 162) #[] #[.pointer (some ⟨gb702, 0, none⟩), .pointer (some ⟨gb703, 0, none⟩), .pointer (some ⟨gb704, 0, none⟩), .pointer (some ⟨gb705, 0, none⟩)]] 148 (0, 0))) := ⟨h4_⟩
       have HB : Aside0 (Below wr.heap.size wr w30) := ⟨h5_⟩
       clear h0_ h1_ h2_ h3_ h4_ h5_
       have hHeld : w30.cell? ⟨gb705, 0, none⟩ = some (.func (.func 162) #[] #[.pointer (some ⟨gb702, 0, none⟩), .pointer (some ⟨gb703, 0, none⟩), .pointer (some ⟨gb704, 0, none⟩), .pointer (some ⟨gb705, 0, none⟩)]) ∧ w30.cell? ⟨gb704, 0, none⟩ = some (.slice (some ad184) l704.length c704) ∧ w30.cell? (ad184.add (x8_1).toNat) = some (.int .i64 (rd l704 x8_1)) := hS_
       obtain ⟨Ao32, co32, eo32⟩ := Kd.R_slice HO187.out
       subst eo32
       obtain ⟨ad32, e32, hx32⟩ := Kd.at_int (Kd.R_reads' HO187.out).2.2 0 (by decide) (by simp)
       have hy32 : w30.cell? ad32 = some (.int .i64 (rd l704 x8_1)) := by simpa [Addr.add, rd] using hx32
       cases e32
       refine norm_ (a' := ?_) ?_ ?_
       rotate_left;(simp only [putAll, Act.put, psA, pzA, pnA];rfl)
       refine one_ (i := 10) (N := some 33) #[true, true, true, true, true, true, true, true, true, true, true, false] rfl rfl (one_of HT_.out (by kernel_rfl)) (by decide) (fun K hK => ?_)
       refine app_full_step w30 rfl (by rfl) (.tmp 27) (.tmp 32) 62 rfl 2 i0 .i64 8 Try.underlying62 INF.out.1 INF.out.2.1 INF.out.2.2.1 INF.out.2.2.2 (by decide) A1 l1 rfl (Kd.C_below HR1r.out HB.out) ad32 co32 (rd l704 x8_1) rfl hy32 (by have := LM.out; omega) ?_
       intro g cap w31 hC1 hcap hg hg2 hgr
       have hb := below_app (Below.refl w30.heap.size w30) hgr
       have n5_ := Aside0.mk hC1
       have n6_ := Aside0.mk hcap
       have n7_ := Aside0.mk (show wr.heap.size ≤ g from Nat.le_trans (below_size HB.out) hg)
       have n0_ := bkB BK702 hb
       have n1_ := bkB BK703 hb
       have n2_ := bkB BK704 hb
       have n3_ := bkB BK705 hb
       have n4_ := hbB HB hb
       clear BK702 BK703 BK704 BK705 HB hb hC1 hcap hg hg2 hgr HO187 hx32 hy32
       have BK702 := n0_
       have BK703 := n1_
       have BK704 := n2_
       have BK705 := n3_
       have HB := n4_
       have HCn := n5_
       have HLn := n6_
       have HGn := n7_
       clear n0_ n1_ n2_ n3_ n4_ n5_ n6_ n7_
       refine hK.out _ _ ⟨bcA BK705 0 rfl, bcA BK704 0 rfl, ((HB.out.cell (World.block_lt_of_cell? wr _ hw184)).trans hw184)⟩ (fun hHeld => ?_)
       clear hK K
       refine norm_ (a' := ?_) ?_ ?_
       rotate_left;(show Act.put _ (some 33) _ = _;simp only [Act.put, psA, pzA, pnA, i64_w, i32_w];rfl)
       refine one_ (i := 11) (N := some 34) #[true, true, true, true, true, true, true, true, true, true, true, true] rfl rfl (one_of HT_.out (by kernel_rfl)) (by decide) (fun K hK => ?_)
       refine goesV_ (EnterF.of Try.func162 (by kernel_rfl) rfl) #[.int .i64 (wrap64 (x8_1 + 1)), .slice (some ⟨g, 0, none⟩) (l1 ++ [rd l704 x8_1]).length cap] (by rfl) rfl rfl rfl (by (try simp only [maA, mbA, mcA]); first | done | rfl) ?_
       have hcall := ih k (Nat.lt_succ_self k) (wrap64 (x8_1 + 1)) (some ⟨g, 0, none⟩) cap (l1 ++ [rd l704 x8_1]) s1 s2 w31 BK702.out BK703.out BK704.out BK705.out (Kd.C_below HRr.out HB.out) HCn.out HLn.out (fun ad e hm => by cases e; have h1 := HM.out _ hm; have h2 := HBut.out.size; have h3 := HBut0.out.size; have h4 := HGn.out; simp only at h1; omega) (hI.out _ _ _ HI.out HB.out) ((HBut0.out.trans HBut.out).trans (But.of_below HB.out)) A21.out
       refine Calls.mono hcall ?_
       clear hcall
       rintro e w34 ⟨rfl, hi2, hb2⟩
       refine ⟨_, rfl, ?_⟩
       have n0_ := Aside0.mk (hb2.blk BK702.out m702.out)
       have n1_ := Aside0.mk (hb2.blk BK703.out m703.out)
       have n2_ := Aside0.mk (hb2.blk BK704.out m704.out)
       have n3_ := Aside0.mk (hb2.blk BK705.out m705.out)
       have n4_ := Aside0.mk ((But.of_below (M := M) HB.out).trans hb2)
       have hcell := hb2.cell ((HB.out.cell (World.block_lt_of_cell? wr _ hw184)).trans hw184) (by rw [add_block]; exact mA.out ad184 rfl)
       clear BK702 BK703 BK704 BK705 HB
       have BK702 := n0_
       have BK703 := n1_
       have BK704 := n2_
       have BK705 := n3_
       have HBt := n4_
       clear n0_ n1_ n2_ n3_ n4_
       have HI2 := Aside0.mk hi2
       clear hi2 hb2
       refine hK.out _ _ ⟨bcA BK705 0 rfl, bcA BK704 0 rfl, hcell⟩ (fun hHeld => ?_)
       clear hK K
       refine norm_ (a' := ?_) ?_ ?_
       rotate_left;(show Act.put _ (some 34) _ = _;simp only [Act.put, psA, pzA, pnA, i64_w, i32_w];rfl)
       refine done_ (done_of HT_.out (by kernel_rfl)) ?_
       try go_wp2
       go_roundg k1
       case measure => have := HK1.out; omega
       case rel => exact ⟨(wrap64 (x8_1 + 1)), s2, rfl, H', ⟨by have := HK1.out; omega⟩, BK702, BK703, BK704, BK705, HI2, ⟨HBut.out.trans HBt.out⟩⟩
      ·rw [if_neg c20] at H
       exact absurd H (by simp)
     ·rw [if_neg c19] at H
      exact absurd H (by simp)
    ·rw [if_neg c17] at H
     have c17b0 : decide (x8_1 < (l704.length : Int)) = false := decide_eq_false c17
     obtain rfl : s1 = a' := by simpa using H
     clear c17 H
     go_wp2
     first | go_end0 | ((try simp only [Exit.inBlock, Exit.then]); refine bodyPost_ret (results_none rfl _ _ _) rfl ?_)
     exact ⟨rfl, HI.out, HBut.out⟩
end
end Go.Proofs.Ytcepbgffnneagaa.Q
end
