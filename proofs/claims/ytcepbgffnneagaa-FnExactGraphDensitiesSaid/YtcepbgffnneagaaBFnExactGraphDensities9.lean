/- Contracts of Go functions and plain lemmas over what they compute; printed by the kit's print program or written by hand, joined. -/
import Derived.Test.YtcepbgffnneagaaBFnExactGraphDensities3
import Derived.Test.YtcepbgffnneagaaBFnExactGraphDensities8
section
namespace Go.Proofs.Ytcepbgffnneagaa.Q
open Go.RowKit Go.Proofs.YtcepbgffnneagaaW.PrintWords Go.Proofs.YtcepbgffnneagaaW.PrintLast Go.Proofs.YtcepbgffnneagaaW.PrintMore
attribute [local go_sem] max2_int min2_int max_two min_two max_three min_three max_four min_four   -- for this text's walks alone
set_option linter.unusedVariables false
set_option linter.unusedSimpArgs false

def spec_l01All.l0 : Nat → Int → List (S27) → Int → Option ((List (S27)))
 | 0, _, _, _ => none
 | k + 1, x0, x3, x4 => (spec_l01Bits.f x0).bind fun t374 => (if 0 ≤ (IntKind.u64.wrap (t374)) then (if x4 < (shl .i64 1 (IntKind.u64.wrap (t374))) then ((spec_l01IsLeast.f k x0 ((x4) % 4294967296)).bind fun t376 => (if t376 = true then (if x3.length < 8796093022208 then (spec_l01All.l0 k x0 (x3 ++ [(⟨x0, (x4) % 4294967296⟩ : S27)]) (wrap64 (x4 + 1))) else (none)) else (spec_l01All.l0 k x0 x3 (wrap64 (x4 + 1))))) else (some x3)) else (none))
def spec_l01All.f (k : Nat) (a0 : Int) : Option ((List (S27))) := spec_l01All.l0 k a0 (([] : List (S27))) 0
set_option maxHeartbeats 8000000 in
set_option maxRecDepth 100000 in
theorem spec_l01All.calls (k : Nat) (a0 : Int) (r : List (S27)) (w : World) (h : spec_l01All.f k a0 = some r) :
  Calls Try.prog 69 #[.int .i64 a0] w fun e w' => ∃ v0_ : Value, e = .returned (v0_) ∧ Kd.R k27 27 w' w.heap.size (fun _ => True) v0_ r ∧ Below w.heap.size w w' := by
 have hu27 := Try.underlying27
 have HB := Aside0.mk (Below.refl w.heap.size w)
 have H : (spec_l01All.l0 k a0 (([] : List (S27))) 0) = some r := h
 clear h
 obtain ⟨y371, hy371⟩ : ∃ y_ : List (S27), y_ = (([] : List (S27))) := ⟨_, rfl⟩
 replace H : (spec_l01All.l0 k a0 y371 0) = some r := by first | (rw [hy371]; with_reducible exact H) | (have H2_ := (Option.bind_some _ _).symm.trans H; rw [hy371]; with_reducible exact H2_) | (have H2_ := (Option.bind_some _ _).symm.trans H; with_reducible exact H2_) | with_reducible exact H | (rw [hy371]; exact H) | exact H
 have Ny371 := Aside0.mk hy371
 clear hy371
 have H' := Aside0.mk H
 clear H
 go_enter Try.func69, Try.ntmps69
 go_wp2_with (first | ((with_reducible refine gate_dst (N := 6) rfl ?_); refine Kd.R_lit k27 _ 27 ?hg (N := 6) ?hd (xs := ([] : List (S27))) (inner := []) (ok := fun _ => True) (okp := fun _ => True) ?hr ?hp (fun _ hk => hk) trivial (Below.refl _ _) (Nat.le_refl _) (by simp) ?_; (case hd => rfl); (case hg => rfl); (case hr => first | (go_simp; done) | (go_simp; rfl)); (case hp => exact (Reps.none _ _)); intro v372 w2 ho3 hb hg_ hnew_; clear hg_ hnew_; (first | rw [← Ny371.out] at ho3 | (simp only [Int.reduceToNat] at ho3; rw [← Ny371.out] at ho3)); have n0_ := Aside0.mk (Kd.R_lower ho3 (below_size (by repeat (first | (with_reducible first | exact HB.out | apply below_alloc | apply pw_below_drewN | apply below_drew1) | exact HB.out)))); have n1_ := Aside0.mk (below_step (by repeat (first | (with_reducible first | exact HB.out | apply below_alloc | apply pw_below_drewN | apply below_drew1) | exact HB.out)) hb); clear HB; have HO373 := n0_; have HB := n1_; clear n0_ n1_; clear hb ho3))
 go_loopg [3, 4] k (fun kq v3 v4 w' => ∃ (x3_1 : List (S27)) (x4_1 : Int), v4 = .int .i64 x4_1 ∧ Aside0 (spec_l01All.l0 kq a0 x3_1 x4_1 = some r) ∧ Aside0 (kq ≤ k) ∧ Aside0 (Kd.R k27 27 w' w.heap.size (fun _ => True) v3 x3_1) ∧ Aside0 (Below w.heap.size w w'))
 case atStart => exact ⟨(y371), (0), (by first | rfl | (simp; done) | (simp [*]; done)), H', ⟨Nat.le_refl _⟩, ⟨by (with_reducible repeat (first | apply Kd.R_alloc | apply Kd.R_drewN | apply Kd.R_drew)); exact HO373.out⟩, ⟨by repeat (first | (with_reducible first | exact HB.out | apply below_alloc | apply pw_below_drewN | apply below_drew1) | exact HB.out)⟩⟩
 case round =>
  clear H'
  try clear p2
  obtain ⟨x3_1, x4_1, rfl, HA, HK1, HO_3, HB⟩ := hrel
  cases gk with
  | zero => exact absurd HA.out (by simp [spec_l01All.l0])
  | succ k1 =>
   have H := HA.out
   clear HA
   simp only [spec_l01All.l0] at H
   replace H := Option.bind_eq_some_iff.mp H
   obtain ⟨t374, A40, H⟩ := H
   replace H : (if 0 ≤ (IntKind.u64.wrap (t374)) then (if x4_1 < (shl .i64 1 (IntKind.u64.wrap (t374))) then ((spec_l01IsLeast.f k1 a0 ((x4_1) % 4294967296)).bind fun t376 => (if t376 = true then (if x3_1.length < 8796093022208 then (spec_l01All.l0 k1 a0 (x3_1 ++ [(⟨a0, (x4_1) % 4294967296⟩ : S27)]) (wrap64 (x4_1 + 1))) else (none)) else (spec_l01All.l0 k1 a0 x3_1 (wrap64 (x4_1 + 1))))) else (some x3_1)) else (none)) = some r := H
   have A4 := Aside0.mk A40
   clear A40
   obtain ⟨ji5, hji5⟩ : ∃ j_ : Int, (IntKind.u64.wrap (t374)) = j_ := ⟨_, rfl⟩
   replace H : (if 0 ≤ (ji5) then (if x4_1 < (shl .i64 1 (ji5)) then ((spec_l01IsLeast.f k1 a0 ((x4_1) % 4294967296)).bind fun t376 => (if t376 = true then (if x3_1.length < 8796093022208 then (spec_l01All.l0 k1 a0 (x3_1 ++ [(⟨a0, (x4_1) % 4294967296⟩ : S27)]) (wrap64 (x4_1 + 1))) else (none)) else (spec_l01All.l0 k1 a0 x3_1 (wrap64 (x4_1 + 1))))) else (some x3_1)) else (none)) = some r := by first | (rw [hji5] at H; exact H) | (simp only [hji5] at H ⊢; exact H)
   (try rw [hji5] at A4)
   by_cases c6 : 0 ≤ (ji5)
   ·rw [if_pos c6] at H
    have c6b0 := eq_true c6
    have c6b1 : decide (0 ≤ (ji5)) = true := decide_eq_true c6
    clear c6
    obtain ⟨ji7, hji7⟩ : ∃ j_ : Int, (shl .i64 1 (ji5)) = j_ := ⟨_, rfl⟩
    replace H : (if x4_1 < (ji7) then ((spec_l01IsLeast.f k1 a0 ((x4_1) % 4294967296)).bind fun t376 => (if t376 = true then (if x3_1.length < 8796093022208 then (spec_l01All.l0 k1 a0 (x3_1 ++ [(⟨a0, (x4_1) % 4294967296⟩ : S27)]) (wrap64 (x4_1 + 1))) else (none)) else (spec_l01All.l0 k1 a0 x3_1 (wrap64 (x4_1 + 1))))) else (some x3_1)) = some r := by first | (rw [hji7] at H; exact H) | (simp only [hji7] at H ⊢; exact H)
    (try rw [hji7] at A4)
    have hji7_ : (IntKind.i64.wrap (1 * 2 ^ min (ji5).toNat 64)) = ji7 := hji7
    have hji7z : (ji5) ≤ 64 → (IntKind.i64.wrap (1 * 2 ^ (ji5).toNat)) = ji7 := shl_small hji7
    have hji7u : (IntKind.i64.wrap (2 ^ min (ji5).toNat 64)) = ji7 := by have h_ := hji7_; rw [Int.one_mul] at h_; exact h_
    have hji7v : (ji5) ≤ 64 → (IntKind.i64.wrap (2 ^ (ji5).toNat)) = ji7 := fun hle_ => by have h_ := hji7z hle_; rw [Int.one_mul] at h_; exact h_
    have hji7y : (wrap64 (1 * 2 ^ min (ji5).toNat 64)) = ji7 := (i64_w _).symm.trans hji7_
    have hji7x : (ji5) ≤ 64 → (wrap64 (1 * 2 ^ (ji5).toNat)) = ji7 := fun h_ => (i64_w _).symm.trans (hji7z h_)
    by_cases c8 : x4_1 < (ji7)
    ·rw [if_pos c8] at H
     have c8b0 : decide (x4_1 < (ji7)) = true := decide_eq_true c8
     clear c8
     replace H := Option.bind_eq_some_iff.mp H
     obtain ⟨t376, A90, H⟩ := H
     replace H : (if t376 = true then (if x3_1.length < 8796093022208 then (spec_l01All.l0 k1 a0 (x3_1 ++ [(⟨a0, (x4_1) % 4294967296⟩ : S27)]) (wrap64 (x4_1 + 1))) else (none)) else (spec_l01All.l0 k1 a0 x3_1 (wrap64 (x4_1 + 1)))) = some r := H
     have A9 := Aside0.mk A90
     clear A90
     by_cases c10 : t376 = true
     ·subst c10
      have H1 : (if x3_1.length < 8796093022208 then (spec_l01All.l0 k1 a0 (x3_1 ++ [(⟨a0, (x4_1) % 4294967296⟩ : S27)]) (wrap64 (x4_1 + 1))) else (none)) = some r := by rw [if_pos rfl] at H; exact H
      clear H
      have H := H1
      clear H1
      by_cases c11 : x3_1.length < 8796093022208
      ·rw [if_pos c11] at H
       have LMc11 := Aside0.mk c11
       clear c11
       obtain ⟨y377, hy377⟩ : ∃ y_ : List (S27), y_ = (x3_1 ++ [(⟨a0, (x4_1) % 4294967296⟩ : S27)]) := ⟨_, rfl⟩
       replace H : (spec_l01All.l0 k1 a0 y377 (wrap64 (x4_1 + 1))) = some r := by first | (rw [hy377]; with_reducible exact H) | (have H2_ := (Option.bind_some _ _).symm.trans H; rw [hy377]; with_reducible exact H2_) | (have H2_ := (Option.bind_some _ _).symm.trans H; with_reducible exact H2_) | with_reducible exact H | (rw [hy377]; exact H) | exact H
       have Ny377 := Aside0.mk hy377
       clear hy377
       have H' := Aside0.mk H
       clear H
       go_wp2_with (first | ((with_reducible refine gate_callee (f := 112) rfl ?_); refine goesL_ (some 9) rfl rfl Try.func112 (by kernel_rfl) rfl #[.int .i64 a0] rfl (by (try simp only [List.map_toArray, List.map_cons, List.map_nil]); first | done | rfl | (simp only [List.length_drop, List.length_take]; rfl)) ?_; (with_reducible refine (spec_l01Bits.calls a0 t374 _ A4.out).mono ?_); rintro e w' ⟨rfl, ⟨nd, rfl⟩⟩; refine ⟨_, rfl, ?_⟩; (try (rw [drewN_self wr]; generalize hq_ : World.drewN wr _ = wr; have n0_ : Aside0 (Kd.R k27 27 wr w.heap.size (fun _ => True) u3 x3_1) := ⟨by rw [← hq_]; exact (by (with_reducible repeat (first | apply Kd.R_alloc | apply Kd.R_drewN | apply Kd.R_drew)); exact HO_3.out)⟩; have n1_ : Aside0 (Below w.heap.size w wr) := ⟨by rw [← hq_]; exact (by repeat (first | (with_reducible first | exact HB.out | apply below_alloc | apply pw_below_drewN | apply below_drew1) | exact HB.out))⟩; clear HO_3 HB hq_; have HO_3 := n0_; have HB := n1_; clear n0_ n1_))) | ((with_reducible refine gate_dst (N := 5) rfl ?_); refine box_event ?hg (N := 5) ?hd (cs := #[.int .i64 0, .int .u32 0]) (t := 27) ?hr ?_; (case hd => rfl); (case hg => rfl); (case hr => first | (go_simp; done) | (go_simp; rfl)); intro gb375 hg w12 hbox hb; have n0_ := Aside0.mk (Kd.R_below (Kd.R_elderB (by (with_reducible repeat (first | apply Kd.R_alloc | apply Kd.R_drewN | apply Kd.R_drew)); exact HO_3.out) gb375 (Nat.le_of_eq hg.symm)) hb); have n1_ := Aside0.mk (below_step (by repeat (first | (with_reducible first | exact HB.out | apply below_alloc | apply pw_below_drewN | apply below_drew1) | exact HB.out)) hb); have n2_ := Aside0.mk (hbox); have n3_ := Aside0.mk ((by rw [hg]; exact (below_size (by repeat (first | (with_reducible first | exact HB.out | apply below_alloc | apply pw_below_drewN | apply below_drew1) | exact HB.out))) : w.heap.size ≤ gb375)); have n4_ := n3_; clear HO_3; clear HB; have HO_3 := n0_; have HB := n1_; have BK375 := n2_; have GW375 := n3_; have GE375 := n4_; clear n0_ n1_ n2_ n3_ n4_; clear hb hbox hg; have hcz13_0 : w12.cell? ⟨gb375, 0, none⟩ = some (.int .i64 0) := (blk_cell BK375.out 0).trans rfl; have hcz13_1 : w12.cell? ⟨gb375, 1, none⟩ = some (.int .u32 0) := (blk_cell BK375.out 1).trans rfl; have hfz13_0 := blk_frozen BK375.out 0; have hfz13_1 := blk_frozen BK375.out 1) | ((with_reducible refine gate_callee (f := 121) rfl ?_); refine goesL_ (some 20) rfl rfl Try.func121 (by kernel_rfl) rfl #[.agg #[.int .i64 a0, .int .u32 ((x4_1) % 4294967296)]] rfl (by (try simp only [List.map_toArray, List.map_cons, List.map_nil]); first | done | rfl | (simp only [List.length_drop, List.length_take]; rfl)) ?_; (with_reducible refine (spec_l01IsLeast.calls k1 a0 ((x4_1) % 4294967296) true _ A9.out).mono ?_); rintro e w14 ⟨rfl, hb⟩; refine ⟨_, rfl, ?_⟩; have n0_ := Aside0.mk (Kd.R_below (by (with_reducible repeat (first | apply Kd.R_alloc | apply Kd.R_drewN | apply Kd.R_drew)); exact (Kd.R_mono (Kd.R_far (p := ⟨gb375, 1, none⟩) (Kd.R_far (p := ⟨gb375, 0, none⟩) (Kd.R_mono HO_3.out (fun k_ hk => (⟨hk, hk.2⟩ : _ ∧ k_ ≠ gb375))) (fun _ hk => hk.2) (.int .i64 a0)) (fun _ hk => hk.2) (.int .u32 ((x4_1) % 4294967296))) (fun _ h_ => h_.1))) hb); have n1_ := Aside0.mk (blk_below (g := gb375) (o := .cells #[.int .i64 a0, .int .u32 ((x4_1) % 4294967296)] 27 (0, 0)) (by (with_reducible repeat (first | refine blk_drewN ?_ _ | refine blk_drew ?_ | refine blk_alloc ?_ _)); refine blk_put (cs := #[.int .i64 a0, .int .u32 0]) ?_ 1 _ rfl; (with_reducible repeat (first | refine blk_drewN ?_ _ | refine blk_drew ?_ | refine blk_alloc ?_ _)); refine blk_put (cs := #[.int .i64 0, .int .u32 0]) ?_ 0 _ rfl; (with_reducible repeat (first | refine blk_drewN ?_ _ | refine blk_drew ?_ | refine blk_alloc ?_ _)); exact BK375.out) hb); have n2_ := Aside0.mk (below_step (by repeat (first | (with_reducible first | exact HB.out | apply below_alloc | apply pw_below_drewN | apply below_drew1 | refine below_set ?_ GE375.out) | exact HB.out)) hb); clear HO_3; clear BK375; clear HB; have HO_3 := n0_; have BK375 := n1_; have HB := n2_; clear n0_ n1_ n2_; (try clear hb); (try clear hb2); (try clear hk); (try clear hi); have hcz15_0 : w14.cell? ⟨gb375, 0, none⟩ = some (.int .i64 a0) := (blk_cell BK375.out 0).trans rfl; have hcz15_1 : w14.cell? ⟨gb375, 1, none⟩ = some (.int .u32 ((x4_1) % 4294967296)) := (blk_cell BK375.out 1).trans rfl; have hfz15_0 := blk_frozen BK375.out 0; have hfz15_1 := blk_frozen BK375.out 1) | ((with_reducible refine gate_builtin (b := .append) (xs := #[.tmp 21, .tmp 23]) rfl ?_); at_builtin; refine Kd.R_append k27 (w0 := w) w.heap.size rfl (.tmp 21) (.tmp 23) 55 27 (.agg #[(.int .i64 0), (.int .u32 0)]) 16 rfl Try.underlying55 info27 rfl (by decide) (by omega) u3 x3_1 (⟨a0, (x4_1) % 4294967296⟩ : S27) [.int .i64 a0, .int .u32 ((x4_1) % 4294967296)] (fun k_ => k_ ≠ gb375) (fun _ => False) rfl rfl ?aP (fun _ hk => hk.elim) ?aF ?aO ?aB ?aS ?aL ?_; (case aP => exact k27_mkM _ _ _ (⟨a0, (x4_1) % 4294967296⟩ : S27)); (case aB => exact (by repeat (first | (with_reducible first | exact HB.out | apply below_alloc | apply pw_below_drewN | apply below_drew1 | refine below_set ?_ GE375.out) | exact HB.out))); (case aF => exact (fun k_ hk => Kd.freshB (g := gb375) (o := .cells #[.int .i64 a0, .int .u32 ((x4_1) % 4294967296)] 27 (0, 0)) (by (with_reducible repeat (first | refine blk_drewN ?_ _ | refine blk_drew ?_ | refine blk_alloc ?_ _)); exact BK375.out) k_ hk)); (case aO => exact (by (with_reducible repeat (first | apply Kd.R_alloc | apply Kd.R_drewN | apply Kd.R_drew)); exact Kd.R_mono HO_3.out (fun _ hk => hk.2))); (case aS => exact (below_size (by repeat (first | (with_reducible first | exact HB.out | apply below_alloc | apply pw_below_drewN | apply below_drew1 | refine below_set ?_ GE375.out) | exact HB.out)))); (case aL => have := LMc11.out; omega); intro v378 w16 ho hb hg hat; rw [← Ny377.out] at ho; have n0_ := Aside0.mk (blk_grown (g := gb375) (o := .cells #[.int .i64 a0, .int .u32 ((x4_1) % 4294967296)] 27 (0, 0)) (by (with_reducible repeat (first | refine blk_drewN ?_ _ | refine blk_drew ?_ | refine blk_alloc ?_ _)); exact BK375.out) hg (Kd.R_away HO_3.out (fun _ hk => hk.2))); have n1_ := Aside0.mk (hb); have n2_ := Aside0.mk (ho); clear BK375; clear HB; clear HO_3; have BK375 := n0_; have HB := n1_; have HO379 := n2_; clear n0_ n1_ n2_; clear ho hb hg hat))
       go_roundg k1
       case measure => have := HK1.out; omega
       case rel => exact ⟨(y377), (wrap64 (x4_1 + 1)), (by first | rfl | (simp; done) | (simp [*]; done)), H', ⟨by have := HK1.out; omega⟩, ⟨by (with_reducible repeat (first | apply Kd.R_alloc | apply Kd.R_drewN | apply Kd.R_drew)); exact Kd.R_mono HO379.out (fun _ hk => trivial)⟩, ⟨by repeat (first | (with_reducible first | exact HB.out | apply below_alloc | apply pw_below_drewN | apply below_drew1 | refine below_set ?_ GE375.out) | exact HB.out)⟩⟩
      ·rw [if_neg c11] at H
       exact absurd H (by simp)
     ·replace c10 := Bool.eq_false_iff.mpr c10
      subst c10
      have H1 : (spec_l01All.l0 k1 a0 x3_1 (wrap64 (x4_1 + 1))) = some r := by rw [if_neg (show ¬ (false = true) by decide)] at H; exact H
      clear H
      have H := H1
      clear H1
      have H' := Aside0.mk H
      clear H
      go_wp2_with (first | ((with_reducible refine gate_callee (f := 112) rfl ?_); refine goesL_ (some 9) rfl rfl Try.func112 (by kernel_rfl) rfl #[.int .i64 a0] rfl (by (try simp only [List.map_toArray, List.map_cons, List.map_nil]); first | done | rfl | (simp only [List.length_drop, List.length_take]; rfl)) ?_; (with_reducible refine (spec_l01Bits.calls a0 t374 _ A4.out).mono ?_); rintro e w' ⟨rfl, ⟨nd, rfl⟩⟩; refine ⟨_, rfl, ?_⟩; (try (rw [drewN_self wr]; generalize hq_ : World.drewN wr _ = wr; have n0_ : Aside0 (Kd.R k27 27 wr w.heap.size (fun _ => True) u3 x3_1) := ⟨by rw [← hq_]; exact (by (with_reducible repeat (first | apply Kd.R_alloc | apply Kd.R_drewN | apply Kd.R_drew)); exact HO_3.out)⟩; have n1_ : Aside0 (Below w.heap.size w wr) := ⟨by rw [← hq_]; exact (by repeat (first | (with_reducible first | exact HB.out | apply below_alloc | apply pw_below_drewN | apply below_drew1) | exact HB.out))⟩; clear HO_3 HB hq_; have HO_3 := n0_; have HB := n1_; clear n0_ n1_))) | ((with_reducible refine gate_dst (N := 5) rfl ?_); refine box_event ?hg (N := 5) ?hd (cs := #[.int .i64 0, .int .u32 0]) (t := 27) ?hr ?_; (case hd => rfl); (case hg => rfl); (case hr => first | (go_simp; done) | (go_simp; rfl)); intro gb375 hg w17 hbox hb; have n0_ := Aside0.mk (Kd.R_below (Kd.R_elderB (by (with_reducible repeat (first | apply Kd.R_alloc | apply Kd.R_drewN | apply Kd.R_drew)); exact HO_3.out) gb375 (Nat.le_of_eq hg.symm)) hb); have n1_ := Aside0.mk (below_step (by repeat (first | (with_reducible first | exact HB.out | apply below_alloc | apply pw_below_drewN | apply below_drew1) | exact HB.out)) hb); have n2_ := Aside0.mk (hbox); have n3_ := Aside0.mk ((by rw [hg]; exact (below_size (by repeat (first | (with_reducible first | exact HB.out | apply below_alloc | apply pw_below_drewN | apply below_drew1) | exact HB.out))) : w.heap.size ≤ gb375)); have n4_ := n3_; clear HO_3; clear HB; have HO_3 := n0_; have HB := n1_; have BK375 := n2_; have GW375 := n3_; have GE375 := n4_; clear n0_ n1_ n2_ n3_ n4_; clear hb hbox hg; have hcz18_0 : w17.cell? ⟨gb375, 0, none⟩ = some (.int .i64 0) := (blk_cell BK375.out 0).trans rfl; have hcz18_1 : w17.cell? ⟨gb375, 1, none⟩ = some (.int .u32 0) := (blk_cell BK375.out 1).trans rfl; have hfz18_0 := blk_frozen BK375.out 0; have hfz18_1 := blk_frozen BK375.out 1) | ((with_reducible refine gate_callee (f := 121) rfl ?_); refine goesL_ (some 20) rfl rfl Try.func121 (by kernel_rfl) rfl #[.agg #[.int .i64 a0, .int .u32 ((x4_1) % 4294967296)]] rfl (by (try simp only [List.map_toArray, List.map_cons, List.map_nil]); first | done | rfl | (simp only [List.length_drop, List.length_take]; rfl)) ?_; (with_reducible refine (spec_l01IsLeast.calls k1 a0 ((x4_1) % 4294967296) false _ A9.out).mono ?_); rintro e w19 ⟨rfl, hb⟩; refine ⟨_, rfl, ?_⟩; have n0_ := Aside0.mk (Kd.R_below (by (with_reducible repeat (first | apply Kd.R_alloc | apply Kd.R_drewN | apply Kd.R_drew)); exact (Kd.R_mono (Kd.R_far (p := ⟨gb375, 1, none⟩) (Kd.R_far (p := ⟨gb375, 0, none⟩) (Kd.R_mono HO_3.out (fun k_ hk => (⟨hk, hk.2⟩ : _ ∧ k_ ≠ gb375))) (fun _ hk => hk.2) (.int .i64 a0)) (fun _ hk => hk.2) (.int .u32 ((x4_1) % 4294967296))) (fun _ h_ => h_.1))) hb); have n1_ := Aside0.mk (blk_below (g := gb375) (o := .cells #[.int .i64 a0, .int .u32 ((x4_1) % 4294967296)] 27 (0, 0)) (by (with_reducible repeat (first | refine blk_drewN ?_ _ | refine blk_drew ?_ | refine blk_alloc ?_ _)); refine blk_put (cs := #[.int .i64 a0, .int .u32 0]) ?_ 1 _ rfl; (with_reducible repeat (first | refine blk_drewN ?_ _ | refine blk_drew ?_ | refine blk_alloc ?_ _)); refine blk_put (cs := #[.int .i64 0, .int .u32 0]) ?_ 0 _ rfl; (with_reducible repeat (first | refine blk_drewN ?_ _ | refine blk_drew ?_ | refine blk_alloc ?_ _)); exact BK375.out) hb); have n2_ := Aside0.mk (below_step (by repeat (first | (with_reducible first | exact HB.out | apply below_alloc | apply pw_below_drewN | apply below_drew1 | refine below_set ?_ GE375.out) | exact HB.out)) hb); clear HO_3; clear BK375; clear HB; have HO_3 := n0_; have BK375 := n1_; have HB := n2_; clear n0_ n1_ n2_; (try clear hb); (try clear hb2); (try clear hk); (try clear hi)))
      go_roundg k1
      case measure => have := HK1.out; omega
      case rel => exact ⟨(x3_1), (wrap64 (x4_1 + 1)), (by first | rfl | (simp; done) | (simp [*]; done)), H', ⟨by have := HK1.out; omega⟩, ⟨by (with_reducible repeat (first | apply Kd.R_alloc | apply Kd.R_drewN | apply Kd.R_drew)); exact Kd.R_mono HO_3.out (fun _ hk => trivial)⟩, ⟨by repeat (first | (with_reducible first | exact HB.out | apply below_alloc | apply pw_below_drewN | apply below_drew1 | refine below_set ?_ GE375.out) | exact HB.out)⟩⟩
    ·rw [if_neg c8] at H
     have c8b0 : decide (x4_1 < (ji7)) = false := decide_eq_false c8
     clear c8
     obtain rfl := Option.some.inj H
     go_wp2_with (first | ((with_reducible refine gate_callee (f := 112) rfl ?_); refine goesL_ (some 9) rfl rfl Try.func112 (by kernel_rfl) rfl #[.int .i64 a0] rfl (by (try simp only [List.map_toArray, List.map_cons, List.map_nil]); first | done | rfl | (simp only [List.length_drop, List.length_take]; rfl)) ?_; (with_reducible refine (spec_l01Bits.calls a0 t374 _ A4.out).mono ?_); rintro e w' ⟨rfl, ⟨nd, rfl⟩⟩; refine ⟨_, rfl, ?_⟩))
     go_ret
     exact ⟨_, by first | rfl | (simp [errW_none, errW_some] <;> rfl) | (simp only [← hji5, ← hji7]; first | rfl | (simp [errW_none, errW_some] <;> rfl)) | (simp [*, errW_none, errW_some] <;> rfl), by (with_reducible repeat (first | apply Kd.R_alloc | apply Kd.R_drewN | apply Kd.R_drew)); exact HO_3.out, by repeat (first | (with_reducible first | exact HB.out | apply below_alloc | apply pw_below_drewN | apply below_drew1) | exact HB.out)⟩
   ·rw [if_neg c6] at H
    exact absurd H (by simp)

end Go.Proofs.Ytcepbgffnneagaa.Q
end

section
namespace Go.Proofs.Ytcepbgffnneagaa.Q
open Go.RowKit Go.Proofs.YtcepbgffnneagaaW.PrintWords Go.Proofs.YtcepbgffnneagaaW.PrintLast Go.Proofs.YtcepbgffnneagaaW.PrintMore
attribute [local go_sem] max2_int min2_int max_two min_two max_three min_three max_four min_four   -- for this text's walks alone
set_option linter.unusedVariables false
set_option linter.unusedSimpArgs false

def spec_GraphDensities.l0 : Nat → List (S27) → List (S31) → Int → Int → Int → Option ((List (S31)) × Int)
 | 0, _, _, _, _, _ => none
 | k + 1, x6, x7, x8, x381000, x381001 => if x8 < (x6.length : Int) then (if 0 ≤ x8 then ((spec_l04Density.f k 0 ((rd_T27 x6 x8).f0) ((rd_T27 x6 x8).f1) 0 x381000 x381001).bind fun bt396 => (if x7.length < 8796093022208 then (spec_GraphDensities.l0 k x6 (x7 ++ [(⟨bt396.1, bt396.2⟩ : S31)]) (wrap64 (x8 + 1)) x381000 x381001) else (none))) else (none)) else (some (x7, 0))
def spec_GraphDensities.f (k : Nat) (a0 : Int) (a1_0 : Int) (a1_1 : Int) : Option ((List (S31)) × Int) := (spec_l01Ok.f a1_0 a1_1).bind fun t381 => (if t381 = true then ((spec_l00In.f a0 0 a1_0).bind fun t385 => (if t385 = true then ((spec_l01All.f k a0).bind fun t389 => (spec_GraphDensities.l0 k t389 (([] : List (S31))) 0 a1_0 a1_1)) else (some ((([] : List (S31))), 2)))) else (some ((([] : List (S31))), 1)))
def spec_GraphDensities.T10 : Bool × List (List Nat × List Nat) := (true, [([], []), ([], []), ([], []), ([1, 2], [1, 2]), ([3], [3]), ([4], [4]), ([], []), ([6], [6]), ([5, 7], [5, 7]), ([8], [8]), ([0, 9, 8], [0, 9]), ([10, 10, 0, 1, 2, 3, 4, 5, 6, 7, 8, 9, 10], [0, 10])])
def spec_GraphDensities.B10 : List Nat := [0, 0, 0, 6, 14, 30, 0, 64, 254, 510, 1023, 2047]
theorem spec_GraphDensities.tab10 : rtab .any (opsOf Try.f19 10) = spec_GraphDensities.T10 := by kernel_rfl
theorem spec_GraphDensities.bits10 : waitsOk spec_GraphDensities.T10.2 spec_GraphDensities.B10 = true := by kernel_rfl
set_option maxHeartbeats 8000000 in
set_option maxRecDepth 100000 in
theorem spec_GraphDensities.calls (k : Nat) (a0 : Int) (a1_0 : Int) (a1_1 : Int) (r1 : List (S31)) (r2 : Int) (w : World) (h : spec_GraphDensities.f k a0 a1_0 a1_1 = some (r1, r2)) :
  Calls Try.prog 19 #[.int .i64 a0, .agg #[.int .i64 a1_0, .int .u32 a1_1]] w fun e w' => ∃ v0_ : Value, e = .returned (.tuple #[v0_, .int .i64 r2]) ∧ Kd.R k31 31 w' w.heap.size (fun _ => True) v0_ r1 ∧ Below w.heap.size w w' := by
 have hu27 := Try.underlying27
 have hu45 := Try.underlying45
 have HB := Aside0.mk (Below.refl w.heap.size w)
 have H : ((spec_l01Ok.f a1_0 a1_1).bind fun t381 => (if t381 = true then ((spec_l00In.f a0 0 a1_0).bind fun t385 => (if t385 = true then ((spec_l01All.f k a0).bind fun t389 => (spec_GraphDensities.l0 k t389 (([] : List (S31))) 0 a1_0 a1_1)) else (some ((([] : List (S31))), 2)))) else (some ((([] : List (S31))), 1)))) = some (r1, r2) := h
 clear h
 replace H := Option.bind_eq_some_iff.mp H
 obtain ⟨t381, A30, H⟩ := H
 replace H : (if t381 = true then ((spec_l00In.f a0 0 a1_0).bind fun t385 => (if t385 = true then ((spec_l01All.f k a0).bind fun t389 => (spec_GraphDensities.l0 k t389 (([] : List (S31))) 0 a1_0 a1_1)) else (some ((([] : List (S31))), 2)))) else (some ((([] : List (S31))), 1))) = some (r1, r2) := H
 have A3 := Aside0.mk A30
 clear A30
 by_cases c4 : t381 = true
 ·subst c4
  have H1 : ((spec_l00In.f a0 0 a1_0).bind fun t385 => (if t385 = true then ((spec_l01All.f k a0).bind fun t389 => (spec_GraphDensities.l0 k t389 (([] : List (S31))) 0 a1_0 a1_1)) else (some ((([] : List (S31))), 2)))) = some (r1, r2) := by rw [if_pos rfl] at H; exact H
  clear H
  have H := H1
  clear H1
  replace H := Option.bind_eq_some_iff.mp H
  obtain ⟨t385, A50, H⟩ := H
  replace H : (if t385 = true then ((spec_l01All.f k a0).bind fun t389 => (spec_GraphDensities.l0 k t389 (([] : List (S31))) 0 a1_0 a1_1)) else (some ((([] : List (S31))), 2))) = some (r1, r2) := H
  have A5 := Aside0.mk A50
  clear A50
  by_cases c6 : t385 = true
  ·subst c6
   have H1 : ((spec_l01All.f k a0).bind fun t389 => (spec_GraphDensities.l0 k t389 (([] : List (S31))) 0 a1_0 a1_1)) = some (r1, r2) := by rw [if_pos rfl] at H; exact H
   clear H
   have H := H1
   clear H1
   replace H := Option.bind_eq_some_iff.mp H
   obtain ⟨t389, A70, H⟩ := H
   replace H : (spec_GraphDensities.l0 k t389 (([] : List (S31))) 0 a1_0 a1_1) = some (r1, r2) := H
   have A7 := Aside0.mk A70
   clear A70
   obtain ⟨y392, hy392⟩ : ∃ y_ : List (S31), y_ = (([] : List (S31))) := ⟨_, rfl⟩
   replace H : (spec_GraphDensities.l0 k t389 y392 0 a1_0 a1_1) = some (r1, r2) := by first | (rw [hy392]; with_reducible exact H) | (have H2_ := (Option.bind_some _ _).symm.trans H; rw [hy392]; with_reducible exact H2_) | (have H2_ := (Option.bind_some _ _).symm.trans H; with_reducible exact H2_) | with_reducible exact H | (rw [hy392]; exact H) | exact H
   have Ny392 := Aside0.mk hy392
   clear hy392
   have H' := Aside0.mk H
   clear H
   go_enter Try.func19, Try.ntmps19
   go_wp2_with (first | ((with_reducible refine gate_dst (N := 3) rfl ?_); refine box_event ?hg (N := 3) ?hd (cs := #[.int .i64 a1_0, .int .u32 a1_1]) (t := 27) ?hr ?_; (case hd => rfl); (case hg => rfl); (case hr => first | (go_simp; done) | (go_simp; rfl)); intro gb380 hg w8 hbox hb; have n0_ := Aside0.mk (below_step (by repeat (first | (with_reducible first | exact HB.out | apply below_alloc | apply pw_below_drewN | apply below_drew1) | exact HB.out)) hb); have n1_ := Aside0.mk (hbox); have n2_ := Aside0.mk ((by rw [hg]; exact (below_size (by repeat (first | (with_reducible first | exact HB.out | apply below_alloc | apply pw_below_drewN | apply below_drew1) | exact HB.out))) : w.heap.size ≤ gb380)); have n3_ := n2_; clear HB; have HB := n0_; have BK380 := n1_; have GW380 := n2_; have GE380 := n3_; clear n0_ n1_ n2_ n3_; clear hb hbox hg; have hcz9_0 : w8.cell? ⟨gb380, 0, none⟩ = some (.int .i64 a1_0) := (blk_cell BK380.out 0).trans rfl; have hcz9_1 : w8.cell? ⟨gb380, 1, none⟩ = some (.int .u32 a1_1) := (blk_cell BK380.out 1).trans rfl; have hfz9_0 := blk_frozen BK380.out 0; have hfz9_1 := blk_frozen BK380.out 1) | ((with_reducible refine gate_callee (f := 58) rfl ?_); refine goesL_ (some 10) rfl rfl Try.func58 (by kernel_rfl) rfl #[.agg #[.int .i64 a1_0, .int .u32 a1_1]] rfl (by (try simp only [List.map_toArray, List.map_cons, List.map_nil]); first | done | rfl | (simp only [List.length_drop, List.length_take]; rfl)) ?_; (with_reducible refine (spec_l01Ok.calls a1_0 a1_1 true _ A3.out).mono ?_); rintro e w10 ⟨rfl, hb⟩; refine ⟨_, rfl, ?_⟩; have n0_ := Aside0.mk (blk_below (g := gb380) (o := .cells #[.int .i64 a1_0, .int .u32 a1_1] 27 (0, 0)) (by (with_reducible repeat (first | refine blk_drewN ?_ _ | refine blk_drew ?_ | refine blk_alloc ?_ _)); exact BK380.out) hb); have n1_ := Aside0.mk (below_step (by repeat (first | (with_reducible first | exact HB.out | apply below_alloc | apply pw_below_drewN | apply below_drew1 | refine below_set ?_ GE380.out) | exact HB.out)) hb); clear BK380; clear HB; have BK380 := n0_; have HB := n1_; clear n0_ n1_; (try clear hb); (try clear hb2); (try clear hk); (try clear hi); have hcz11_0 : w10.cell? ⟨gb380, 0, none⟩ = some (.int .i64 a1_0) := (blk_cell BK380.out 0).trans rfl; have hcz11_1 : w10.cell? ⟨gb380, 1, none⟩ = some (.int .u32 a1_1) := (blk_cell BK380.out 1).trans rfl; have hfz11_0 := blk_frozen BK380.out 0; have hfz11_1 := blk_frozen BK380.out 1) | ((with_reducible refine gate_callee (f := 68) rfl ?_); refine goesL_ (some 16) rfl rfl Try.func68 (by kernel_rfl) rfl #[.int .i64 a0, .int .i64 0, .int .i64 a1_0] rfl (by (try simp only [List.map_toArray, List.map_cons, List.map_nil]); first | done | rfl | (simp only [List.length_drop, List.length_take]; rfl)) ?_; (with_reducible refine (spec_l00In.calls a0 0 a1_0 true _ A5.out).mono ?_); rintro e w' ⟨rfl, ⟨nd, rfl⟩⟩; refine ⟨_, rfl, ?_⟩) | ((with_reducible refine gate_callee (f := 69) rfl ?_); refine goesL_ (some 20) rfl rfl Try.func69 (by kernel_rfl) rfl #[.int .i64 a0] rfl (by (try simp only [List.map_toArray, List.map_cons, List.map_nil]); first | done | rfl | (simp only [List.length_drop, List.length_take]; rfl)) ?_; (with_reducible refine (spec_l01All.calls k a0 t389 _ A7.out).mono ?_); rintro e w12 ⟨v390, rfl, ho0, hb⟩; refine ⟨_, rfl, ?_⟩; have n0_ := Aside0.mk (Kd.R_lower (Kd.R_newB ho0 (g := gb380) (o := .cells #[.int .i64 a1_0, .int .u32 a1_1] 27 (0, 0)) (by (with_reducible repeat (first | refine blk_drewN ?_ _ | refine blk_drew ?_ | refine blk_alloc ?_ _)); exact BK380.out)) (below_size (by repeat (first | (with_reducible first | exact HB.out | apply below_alloc | apply pw_below_drewN | apply below_drew1 | refine below_set ?_ GE380.out) | exact HB.out)))); have n1_ := Aside0.mk (blk_below (g := gb380) (o := .cells #[.int .i64 a1_0, .int .u32 a1_1] 27 (0, 0)) (by (with_reducible repeat (first | refine blk_drewN ?_ _ | refine blk_drew ?_ | refine blk_alloc ?_ _)); exact BK380.out) hb); have n2_ := Aside0.mk (below_step (by repeat (first | (with_reducible first | exact HB.out | apply below_alloc | apply pw_below_drewN | apply below_drew1 | refine below_set ?_ GE380.out) | exact HB.out)) hb); clear BK380; clear HB; have HO391 := n0_; have BK380 := n1_; have HB := n2_; clear n0_ n1_ n2_; (try clear hb); (try clear hb2); (try clear hk); (try clear hi); (try clear ho0)) | ((with_reducible refine gate_dst (N := 21) rfl ?_); refine Kd.R_lit k31 _ 31 ?hg (N := 21) ?hd (xs := ([] : List (S31))) (inner := []) (ok := fun _ => True) (okp := fun _ => True) ?hr ?hp (fun _ hk => hk) trivial (Below.refl _ _) (Nat.le_refl _) (by simp) ?_; (case hd => rfl); (case hg => rfl); (case hr => first | (go_simp; done) | (go_simp; rfl)); (case hp => exact (Reps.none _ _)); intro v393 w13 ho14 hb hg_ hnew_; clear hg_ hnew_; (first | rw [← Ny392.out] at ho14 | (simp only [Int.reduceToNat] at ho14; rw [← Ny392.out] at ho14)); have n0_ := Aside0.mk (Kd.R_below (by (with_reducible repeat (first | apply Kd.R_alloc | apply Kd.R_drewN | apply Kd.R_drew)); exact HO391.out) hb); have n1_ := Aside0.mk (Kd.R_lower ho14 (below_size (by repeat (first | (with_reducible first | exact HB.out | apply below_alloc | apply pw_below_drewN | apply below_drew1 | refine below_set ?_ GE380.out) | exact HB.out)))); have n2_ := Aside0.mk (blk_below (g := gb380) (o := .cells #[.int .i64 a1_0, .int .u32 a1_1] 27 (0, 0)) (by (with_reducible repeat (first | refine blk_drewN ?_ _ | refine blk_drew ?_ | refine blk_alloc ?_ _)); exact BK380.out) hb); have n3_ := Aside0.mk (below_step (by repeat (first | (with_reducible first | exact HB.out | apply below_alloc | apply pw_below_drewN | apply below_drew1 | refine below_set ?_ GE380.out) | exact HB.out)) hb); clear HO391; clear BK380; clear HB; have HO391 := n0_; have HO394 := n1_; have BK380 := n2_; have HB := n3_; clear n0_ n1_ n2_ n3_; clear hb ho14))
   go_loopg [7, 8] k (fun kq v7 v8 w' => ∃ (x7_1 : List (S31)) (x8_1 : Int), v8 = .int .i64 x8_1 ∧ Aside0 (spec_GraphDensities.l0 kq t389 x7_1 x8_1 a1_0 a1_1 = some (r1, r2)) ∧ Aside0 (kq ≤ k) ∧ Aside0 (Kd.R k27 27 w' w.heap.size (fun k_ => k_ ≠ gb380) v390 t389) ∧ Aside0 (Kd.R k31 31 w' w.heap.size (fun _ => True) v7 x7_1) ∧ Aside0 (w'.heap[gb380]? = some (.cells #[.int .i64 a1_0, .int .u32 a1_1] 27 (0, 0))) ∧ Aside0 (Below w.heap.size w w'))
   case atStart => exact ⟨(y392), (0), (by first | rfl | (simp; done) | (simp [*]; done)), H', ⟨Nat.le_refl _⟩, ⟨by (with_reducible repeat (first | apply Kd.R_alloc | apply Kd.R_drewN | apply Kd.R_drew)); exact Kd.R_mono HO391.out (fun _ hk => hk.2)⟩, ⟨by (with_reducible repeat (first | apply Kd.R_alloc | apply Kd.R_drewN | apply Kd.R_drew)); exact HO394.out⟩, ⟨by (with_reducible repeat (first | refine blk_drewN ?_ _ | refine blk_drew ?_ | refine blk_alloc ?_ _)); exact BK380.out⟩, ⟨by repeat (first | (with_reducible first | exact HB.out | apply below_alloc | apply pw_below_drewN | apply below_drew1 | refine below_set ?_ GE380.out) | exact HB.out)⟩⟩
   case round =>
    clear H'
    try clear c1
    try clear p2
    try clear c4
    try clear c5
    try clear c6
    try clear hcz11_0
    try clear hcz11_1
    try clear hcz9_0
    try clear hcz9_1
    try clear hfz11_0
    try clear hfz11_1
    try clear hfz9_0
    try clear hfz9_1
    obtain ⟨x7_1, x8_1, rfl, HA, HK1, HO_6, HO_7, BK380, HB⟩ := hrel
    cases gk with
    | zero => exact absurd HA.out (by simp [spec_GraphDensities.l0])
    | succ k1 =>
     have H := HA.out
     clear HA
     simp only [spec_GraphDensities.l0] at H
     by_cases c15 : x8_1 < (t389.length : Int)
     ·rw [if_pos c15] at H
      have c15b0 : decide (x8_1 < (t389.length : Int)) = true := decide_eq_true c15
      clear c15
      by_cases c16 : 0 ≤ x8_1
      ·rw [if_pos c16] at H
       have c16b0 : decide (0 ≤ x8_1) = true := decide_eq_true c16
       clear c16
       replace H := Option.bind_eq_some_iff.mp H
       obtain ⟨⟨t396, t397⟩, A170, H⟩ := H
       replace H : (if x7_1.length < 8796093022208 then (spec_GraphDensities.l0 k1 t389 (x7_1 ++ [(⟨t396, t397⟩ : S31)]) (wrap64 (x8_1 + 1)) a1_0 a1_1) else (none)) = some (r1, r2) := H
       have A17 := Aside0.mk A170
       clear A170
       by_cases c18 : x7_1.length < 8796093022208
       ·rw [if_pos c18] at H
        have LMc18 := Aside0.mk c18
        clear c18
        obtain ⟨y398, hy398⟩ : ∃ y_ : List (S31), y_ = (x7_1 ++ [(⟨t396, t397⟩ : S31)]) := ⟨_, rfl⟩
        replace H : (spec_GraphDensities.l0 k1 t389 y398 (wrap64 (x8_1 + 1)) a1_0 a1_1) = some (r1, r2) := by first | (rw [hy398]; with_reducible exact H) | (have H2_ := (Option.bind_some _ _).symm.trans H; rw [hy398]; with_reducible exact H2_) | (have H2_ := (Option.bind_some _ _).symm.trans H; with_reducible exact H2_) | with_reducible exact H | (rw [hy398]; exact H) | exact H
        have Ny398 := Aside0.mk hy398
        clear hy398
        have H' := Aside0.mk H
        clear H
        obtain ⟨Ao19, co19, eo19⟩ := Kd.R_slice HO_6.out
        subst eo19
        try go_wp2
        have n0_ := Aside0.mk (Kd.R_drew HO_6.out)
        have n1_ := Aside0.mk (Kd.R_drew HO_7.out)
        have n2_ := Aside0.mk (blk_drew BK380.out)
        have n3_ := Aside0.mk (below_drew1 HB.out)
        clear HO_6 HO_7 BK380 HB
        have HO_6 := n0_
        have HO_7 := n1_
        have BK380 := n2_
        have HB := n3_
        clear n0_ n1_ n2_ n3_
        have p395 : 0 ≤ (x8_1 : Int) := of_decide_eq_true (by first | (with_reducible assumption) | assumption)
        have q395 : x8_1 < (t389.length : Int) := of_decide_eq_true (by first | (with_reducible assumption) | assumption)
        obtain ⟨ad395, e395, hx395_0, hx395_1⟩ := at_T27 (Kd.R_reads' HO_6.out).2.2 x8_1 p395 q395
        cases e395
        replace p395 := eq_true p395
        replace q395 := eq_true q395
        refine start_ (n := 12) (S := fun w' => w'.cell? ⟨gb380, 0, none⟩ = some (.int .i64 a1_0) ∧ w'.cell? ⟨gb380, 1, none⟩ = some (.int .u32 a1_1) ∧ w'.cell? (ad395.add ((x8_1).toNat * 2)) = some (.int .i64 ((rd_T27 t389 x8_1).f0)) ∧ w'.cell? ⟨(ad395.add ((x8_1).toNat * 2)).block, (ad395.add ((x8_1).toNat * 2)).off + 1, none⟩ = some (.int .u32 ((rd_T27 t389 x8_1).f1))) (ds := [9, 10]) #[false, false, false, false, false, false, false, false, false, false, false, false] (by kernel_rfl) rfl rfl ⟨(blk_cell BK380.out 0).trans rfl, (blk_cell BK380.out 1).trans rfl, hx395_0, hx395_1⟩ (fun hHeld => ?_); refine with_tabW spec_GraphDensities.tab10 spec_GraphDensities.bits10 (fun HT_ HW_ => ?_)
        generalize wr.drew = w20 at HO_6 HO_7 BK380 HB hx395_0 hx395_1 hHeld ⊢
        refine pure_ (i := 0) (N := some 28) (v := ?_) (a' := ?_) #[true, false, false, false, false, false, false, false, false, false, false, false] rfl rfl (any_of HT_.out (by kernel_rfl)) (fun _ _ _ h => h) (Or.inl ⟨by rfl, ?_⟩) ?_ ?_
        rotate_left
        ·intro w'
         go_simp
         with_reducible rfl
        rotate_left
        ·simp only [Act.put, List.setIfInBounds_toArray, List.set_cons_zero, List.set_cons_succ, i64_w, i32_w]
         rfl
        refine pure_ (i := 1) (N := some 29) (v := ?_) (a' := ?_) #[true, true, false, false, false, false, false, false, false, false, false, false] rfl rfl (any_of HT_.out (by kernel_rfl)) (fun _ _ _ h => h) (Or.inl ⟨by rfl, ?_⟩) ?_ ?_
        rotate_left
        ·intro w'
         go_simp
         with_reducible rfl
        rotate_left
        ·simp only [Act.put, List.setIfInBounds_toArray, List.set_cons_zero, List.set_cons_succ, i64_w, i32_w]
         rfl
        refine pure_ (i := 2) (N := some 30) (v := ?_) (a' := ?_) #[true, true, true, false, false, false, false, false, false, false, false, false] rfl rfl (any_of HT_.out (by kernel_rfl)) (fun _ _ _ h => h) (Or.inl ⟨by rfl, ?_⟩) ?_ ?_
        rotate_left
        ·intro w'
         go_simp
         with_reducible rfl
        rotate_left
        ·simp only [Act.put, List.setIfInBounds_toArray, List.set_cons_zero, List.set_cons_succ, i64_w, i32_w]
         rfl
        refine pure_ (i := 3) (N := some 31) (v := ?_) (a' := ?_) #[true, true, true, true, false, false, false, false, false, false, false, false] rfl rfl (any_of HT_.out (by kernel_rfl)) (fun _ _ _ h => h) (Or.inl ⟨by rfl, ?_⟩) ?_ ?_
        rotate_left
        ·intro w'
         go_simp
         with_reducible rfl
        rotate_left
        ·simp only [Act.put, List.setIfInBounds_toArray, List.set_cons_zero, List.set_cons_succ, i64_w, i32_w]
         rfl
        refine take_ (i := 4) (N := some 32) (v := ?_) (a' := ?_) #[true, true, true, true, true, false, false, false, false, false, false, false] rfl rfl (take_ofW HT_.out HW_.out (by kernel_rfl)) (fun _ _ _ h => h) (Or.inl ⟨by rfl, ?_⟩) hHeld ?_ ?_
        rotate_left
        ·rintro w' ⟨s0, s1, s2, s3⟩
         go_simp
         with_reducible rfl
        rotate_left
        ·simp only [Act.put, List.setIfInBounds_toArray, List.set_cons_zero, List.set_cons_succ, i64_w, i32_w]
         rfl
        refine pure_ (i := 5) (N := some 33) (v := ?_) (a' := ?_) #[true, true, true, true, true, true, false, false, false, false, false, false] rfl rfl (any_of HT_.out (by kernel_rfl)) (fun _ _ _ h => h) (Or.inl ⟨by rfl, ?_⟩) ?_ ?_
        rotate_left
        ·intro w'
         go_simp
         with_reducible rfl
        rotate_left
        ·simp only [Act.put, List.setIfInBounds_toArray, List.set_cons_zero, List.set_cons_succ, i64_w, i32_w]
         rfl
        refine take_ (i := 6) (N := some 34) (v := ?_) (a' := ?_) #[true, true, true, true, true, true, true, false, false, false, false, false] rfl rfl (take_ofW HT_.out HW_.out (by kernel_rfl)) (fun _ _ _ h => h) (Or.inl ⟨by rfl, ?_⟩) hHeld ?_ ?_
        rotate_left
        ·rintro w' ⟨s0, s1, s2, s3⟩
         go_simp
         with_reducible rfl
        rotate_left
        ·simp only [Act.put, List.setIfInBounds_toArray, List.set_cons_zero, List.set_cons_succ, i64_w, i32_w]
         rfl
        refine pure_ (i := 7) (N := some 35) (v := ?_) (a' := ?_) #[true, true, true, true, true, true, true, true, false, false, false, false] rfl rfl (any_of HT_.out (by kernel_rfl)) (fun _ _ _ h => h) (Or.inl ⟨by rfl, ?_⟩) ?_ ?_
        rotate_left
        ·intro w'
         go_simp
         with_reducible rfl
        rotate_left
        ·simp only [Act.put, List.setIfInBounds_toArray, List.set_cons_zero, List.set_cons_succ, i64_w, i32_w]
         rfl
        refine one_ (i := 8) (N := some 36) #[true, true, true, true, true, true, true, true, true, false, false, false] rfl rfl (one_of HT_.out (by kernel_rfl)) (by decide) (fun K hK => ?_)
        refine goes_ Try.func64 (by kernel_rfl) rfl #[.agg #[.int .i64 0, .int .i64 ((rd_T27 t389 x8_1).f0), .int .u32 ((rd_T27 t389 x8_1).f1)], .agg #[.int .i64 0, .int .i64 a1_0, .int .u32 a1_1]] (by rfl) rfl rfl (by first | rfl | (simp only [List.map_toArray, List.map_cons, List.map_nil, List.length_drop, List.length_take]; rfl)) ?_
        with_reducible refine (spec_l04Density.calls k1 0 ((rd_T27 t389 x8_1).f0) ((rd_T27 t389 x8_1).f1) 0 a1_0 a1_1 t396 t397 _ A17.out).mono ?_
        rintro e w21 ⟨rfl, hb⟩
        have HS2_ := (hb.cell (World.block_lt_of_cell? _ _ (hHeld.2.2.1))).trans (hHeld.2.2.1)
        have HS3_ := (hb.cell (World.block_lt_of_cell? _ _ (hHeld.2.2.2))).trans (hHeld.2.2.2)
        refine ⟨_, rfl, ?_⟩
        have n0_ := Aside0.mk (Kd.R_below (by (with_reducible repeat (first | apply Kd.R_alloc | apply Kd.R_drewN | apply Kd.R_drew)); exact HO_6.out) hb)
        have n1_ := Aside0.mk (Kd.R_below (by (with_reducible repeat (first | apply Kd.R_alloc | apply Kd.R_drewN | apply Kd.R_drew)); exact HO_7.out) hb)
        have n2_ := Aside0.mk (blk_below BK380.out hb)
        have n3_ := Aside0.mk (below_step HB.out hb)
        clear HO_6 HO_7 BK380 HB
        have HO_6 := n0_
        have HO_7 := n1_
        have BK380 := n2_
        have HB := n3_
        clear n0_ n1_ n2_ n3_
        (try clear hb)
        (try clear hb2)
        (try clear hk)
        (try clear hi)
        refine hK.out _ _ ⟨(blk_cell BK380.out 0).trans rfl, (blk_cell BK380.out 1).trans rfl, HS2_, HS3_⟩ (fun hHeld => ?_)
        clear hK K
        refine norm_ (a' := ?_) ?_ ?_
        rotate_left
        ·show Act.put _ (some 36) _ = _
         simp only [Act.put, List.setIfInBounds_toArray, List.set_cons_zero, List.set_cons_succ, i64_w, i32_w]
         rfl
        refine last_ (i := 9) (N := some 37) #[true, true, true, true, true, true, true, true, true, true, false, false] rfl rfl (one_of HT_.out (by kernel_rfl)) (by decide) (fun K hK => ?_)
        refine value_ (w1 := ?_) (v := ?_) (by rfl) rfl ?_ ?_
        rotate_left 2
        ·go_simp
         constructor
         ·rfl
         ·rfl
        refine hK.out _ _ ?_
        clear hK K
        refine norm_ (a' := ?_) ?_ ?_
        rotate_left
        ·show Act.put _ (some 37) _ = _
         simp only [Act.put, List.setIfInBounds_toArray, List.set_cons_zero, List.set_cons_succ, i64_w, i32_w]
         rfl
        refine last_ (i := 10) (N := some 38) #[true, true, true, true, true, true, true, true, true, true, true, false] rfl rfl (one_of HT_.out (by kernel_rfl)) (by decide) (fun K hK => ?_)
        refine Kd.R_append_step k31 (w0 := w) w.heap.size (by rfl) (.tmp 28) (.tmp 37) 35 31 (.agg #[(.int .i64 0), (.int .i64 0)]) 16 rfl Try.underlying35 info31 rfl (by decide) (by omega) u7 x7_1 (⟨t396, t397⟩ : S31) [.int .i64 t396, .int .i64 t397] (fun _ => True) (fun _ => False) rfl rfl ?aP (fun _ hk => hk.elim) ?aF ?aO ?aB ?aS ?aL ?_
        (case aP => exact k31_mkM _ _ _ (⟨t396, t397⟩ : S31))
        (case aB => exact (by repeat (first | (with_reducible first | exact HB.out | apply below_alloc | apply pw_below_drewN | apply below_drew1 | refine below_set ?_ GE380.out) | exact HB.out)))
        (case aF => exact (fun _ _ => trivial))
        (case aO => exact (by (with_reducible repeat (first | apply Kd.R_alloc | apply Kd.R_drewN | apply Kd.R_drew)); exact HO_7.out))
        (case aS => exact (below_size (by repeat (first | (with_reducible first | exact HB.out | apply below_alloc | apply pw_below_drewN | apply below_drew1 | refine below_set ?_ GE380.out) | exact HB.out))))
        (case aL => have := LMc18.out; omega)
        intro v399 w22 ho hb hg hat
        rw [← Ny398.out] at ho
        have n0_ := Aside0.mk (Kd.R_over' (by (with_reducible repeat (first | apply Kd.R_alloc | apply Kd.R_drewN | apply Kd.R_drew)); exact HO_6.out) (Kd.R_typed (by (with_reducible repeat (first | apply Kd.R_alloc | apply Kd.R_drewN | apply Kd.R_drew)); exact HO_7.out)) (by decide) hg)
        have n1_ := Aside0.mk (blk_grown (g := gb380) (o := .cells #[.int .i64 a1_0, .int .u32 a1_1] 27 (0, 0)) (by (with_reducible repeat (first | refine blk_drewN ?_ _ | refine blk_drew ?_ | refine blk_alloc ?_ _)); exact BK380.out) hg (Kd.R_ne HO_7.out BK380.out (by decide)))
        have n2_ := Aside0.mk (hb)
        have n3_ := Aside0.mk (ho)
        clear HO_6 BK380 HB HO_7
        have HO_6 := n0_
        have BK380 := n1_
        have HB := n2_
        have HO400 := n3_
        clear n0_ n1_ n2_ n3_
        clear ho hb hg hat
        refine hK.out _ _ ?_
        clear hK K
        refine norm_ (a' := ?_) ?_ ?_
        rotate_left
        ·show Act.put _ (some 38) _ = _
         simp only [Act.put, List.setIfInBounds_toArray, List.set_cons_zero, List.set_cons_succ, i64_w, i32_w]
         rfl
        refine pure_ (i := 11) (N := some 7) (v := ?_) (a' := ?_) #[true, true, true, true, true, true, true, true, true, true, true, true] rfl rfl (any_of HT_.out (by kernel_rfl)) (fun _ _ _ h => h) (Or.inl ⟨by rfl, ?_⟩) ?_ ?_
        rotate_left
        ·intro w'
         go_simp
         with_reducible rfl
        rotate_left
        ·simp only [Act.put, List.setIfInBounds_toArray, List.set_cons_zero, List.set_cons_succ, i64_w, i32_w]
         rfl
        refine done_ (done_of HT_.out (by kernel_rfl)) ?_
        try go_wp2
        go_roundg k1
        case measure => have := HK1.out; omega
        case rel => exact ⟨(y398), (wrap64 (x8_1 + 1)), (by first | rfl | (simp; done) | (simp [*]; done)), H', ⟨by have := HK1.out; omega⟩, ⟨by (with_reducible repeat (first | apply Kd.R_alloc | apply Kd.R_drewN | apply Kd.R_drew)); exact HO_6.out⟩, ⟨by (with_reducible repeat (first | apply Kd.R_alloc | apply Kd.R_drewN | apply Kd.R_drew)); exact HO400.out⟩, ⟨by (with_reducible repeat (first | refine blk_drewN ?_ _ | refine blk_drew ?_ | refine blk_alloc ?_ _)); exact BK380.out⟩, ⟨by repeat (first | (with_reducible first | exact HB.out | apply below_alloc | apply pw_below_drewN | apply below_drew1 | refine below_set ?_ GE380.out) | exact HB.out)⟩⟩
       ·rw [if_neg c18] at H
        exact absurd H (by simp)
      ·rw [if_neg c16] at H
       exact absurd H (by simp)
     ·rw [if_neg c15] at H
      have c15b0 : decide (x8_1 < (t389.length : Int)) = false := decide_eq_false c15
      clear c15
      simp only [Option.some.injEq, Prod.mk.injEq] at H
      obtain ⟨rfl, rfl⟩ := H
      obtain ⟨Ao23, co23, eo23⟩ := Kd.R_slice HO_6.out
      subst eo23
      go_wp2
      go_ret2
      exact ⟨_, by first | rfl | (simp [errW_none, errW_some] <;> rfl) | (simp [*, errW_none, errW_some] <;> rfl), by (with_reducible repeat (first | apply Kd.R_alloc | apply Kd.R_drewN | apply Kd.R_drew)); exact HO_7.out, by repeat (first | (with_reducible first | exact HB.out | apply below_alloc | apply pw_below_drewN | apply below_drew1 | refine below_set ?_ GE380.out) | exact HB.out)⟩
  ·replace c6 := Bool.eq_false_iff.mpr c6
   subst c6
   have H1 : (some ((([] : List (S31))), 2)) = some (r1, r2) := by rw [if_neg (show ¬ (false = true) by decide)] at H; exact H
   clear H
   have H := H1
   clear H1
   obtain ⟨y386, hy386⟩ : ∃ y_ : List (S31), y_ = (([] : List (S31))) := ⟨_, rfl⟩
   replace H : (some (y386, 2)) = some (r1, r2) := by first | (rw [hy386]; with_reducible exact H) | (have H2_ := (Option.bind_some _ _).symm.trans H; rw [hy386]; with_reducible exact H2_) | (have H2_ := (Option.bind_some _ _).symm.trans H; with_reducible exact H2_) | with_reducible exact H | (rw [hy386]; exact H) | exact H
   have Ny386 := Aside0.mk hy386
   clear hy386
   simp only [Option.some.injEq, Prod.mk.injEq] at H
   obtain ⟨rfl, rfl⟩ := H
   go_enter Try.func19, Try.ntmps19
   go_wp2_with (first | ((with_reducible refine gate_dst (N := 3) rfl ?_); refine box_event ?hg (N := 3) ?hd (cs := #[.int .i64 a1_0, .int .u32 a1_1]) (t := 27) ?hr ?_; (case hd => rfl); (case hg => rfl); (case hr => first | (go_simp; done) | (go_simp; rfl)); intro gb380 hg w24 hbox hb; have n0_ := Aside0.mk (below_step (by repeat (first | (with_reducible first | exact HB.out | apply below_alloc | apply pw_below_drewN | apply below_drew1) | exact HB.out)) hb); have n1_ := Aside0.mk (hbox); have n2_ := Aside0.mk ((by rw [hg]; exact (below_size (by repeat (first | (with_reducible first | exact HB.out | apply below_alloc | apply pw_below_drewN | apply below_drew1) | exact HB.out))) : w.heap.size ≤ gb380)); have n3_ := n2_; clear HB; have HB := n0_; have BK380 := n1_; have GW380 := n2_; have GE380 := n3_; clear n0_ n1_ n2_ n3_; clear hb hbox hg; have hcz25_0 : w24.cell? ⟨gb380, 0, none⟩ = some (.int .i64 a1_0) := (blk_cell BK380.out 0).trans rfl; have hcz25_1 : w24.cell? ⟨gb380, 1, none⟩ = some (.int .u32 a1_1) := (blk_cell BK380.out 1).trans rfl; have hfz25_0 := blk_frozen BK380.out 0; have hfz25_1 := blk_frozen BK380.out 1) | ((with_reducible refine gate_callee (f := 58) rfl ?_); refine goesL_ (some 10) rfl rfl Try.func58 (by kernel_rfl) rfl #[.agg #[.int .i64 a1_0, .int .u32 a1_1]] rfl (by (try simp only [List.map_toArray, List.map_cons, List.map_nil]); first | done | rfl | (simp only [List.length_drop, List.length_take]; rfl)) ?_; (with_reducible refine (spec_l01Ok.calls a1_0 a1_1 true _ A3.out).mono ?_); rintro e w26 ⟨rfl, hb⟩; refine ⟨_, rfl, ?_⟩; have n0_ := Aside0.mk (blk_below (g := gb380) (o := .cells #[.int .i64 a1_0, .int .u32 a1_1] 27 (0, 0)) (by (with_reducible repeat (first | refine blk_drewN ?_ _ | refine blk_drew ?_ | refine blk_alloc ?_ _)); exact BK380.out) hb); have n1_ := Aside0.mk (below_step (by repeat (first | (with_reducible first | exact HB.out | apply below_alloc | apply pw_below_drewN | apply below_drew1 | refine below_set ?_ GE380.out) | exact HB.out)) hb); clear BK380; clear HB; have BK380 := n0_; have HB := n1_; clear n0_ n1_; (try clear hb); (try clear hb2); (try clear hk); (try clear hi); have hcz27_0 : w26.cell? ⟨gb380, 0, none⟩ = some (.int .i64 a1_0) := (blk_cell BK380.out 0).trans rfl; have hcz27_1 : w26.cell? ⟨gb380, 1, none⟩ = some (.int .u32 a1_1) := (blk_cell BK380.out 1).trans rfl; have hfz27_0 := blk_frozen BK380.out 0; have hfz27_1 := blk_frozen BK380.out 1) | ((with_reducible refine gate_callee (f := 68) rfl ?_); refine goesL_ (some 16) rfl rfl Try.func68 (by kernel_rfl) rfl #[.int .i64 a0, .int .i64 0, .int .i64 a1_0] rfl (by (try simp only [List.map_toArray, List.map_cons, List.map_nil]); first | done | rfl | (simp only [List.length_drop, List.length_take]; rfl)) ?_; (with_reducible refine (spec_l00In.calls a0 0 a1_0 false _ A5.out).mono ?_); rintro e w' ⟨rfl, ⟨nd, rfl⟩⟩; refine ⟨_, rfl, ?_⟩) | ((with_reducible refine gate_dst (N := 18) rfl ?_); refine Kd.R_lit k31 _ 31 ?hg (N := 18) ?hd (xs := ([] : List (S31))) (inner := []) (ok := fun _ => True) (okp := fun _ => True) ?hr ?hp (fun _ hk => hk) trivial (Below.refl _ _) (Nat.le_refl _) (by simp) ?_; (case hd => rfl); (case hg => rfl); (case hr => first | (go_simp; done) | (go_simp; rfl)); (case hp => exact (Reps.none _ _)); intro v387 w28 ho29 hb hg_ hnew_; clear hg_ hnew_; (first | rw [← Ny386.out] at ho29 | (simp only [Int.reduceToNat] at ho29; rw [← Ny386.out] at ho29)); have n0_ := Aside0.mk (Kd.R_lower ho29 (below_size (by repeat (first | (with_reducible first | exact HB.out | apply below_alloc | apply pw_below_drewN | apply below_drew1 | refine below_set ?_ GE380.out) | exact HB.out)))); have n1_ := Aside0.mk (blk_below (g := gb380) (o := .cells #[.int .i64 a1_0, .int .u32 a1_1] 27 (0, 0)) (by (with_reducible repeat (first | refine blk_drewN ?_ _ | refine blk_drew ?_ | refine blk_alloc ?_ _)); exact BK380.out) hb); have n2_ := Aside0.mk (below_step (by repeat (first | (with_reducible first | exact HB.out | apply below_alloc | apply pw_below_drewN | apply below_drew1 | refine below_set ?_ GE380.out) | exact HB.out)) hb); clear BK380; clear HB; have HO388 := n0_; have BK380 := n1_; have HB := n2_; clear n0_ n1_ n2_; clear hb ho29))
   go_ret2
   exact ⟨_, by first | rfl | (simp [errW_none, errW_some] <;> rfl) | (simp [*, errW_none, errW_some] <;> rfl), by (with_reducible repeat (first | apply Kd.R_alloc | apply Kd.R_drewN | apply Kd.R_drew)); exact HO388.out, by repeat (first | (with_reducible first | exact HB.out | apply below_alloc | apply pw_below_drewN | apply below_drew1 | refine below_set ?_ GE380.out) | exact HB.out)⟩
 ·replace c4 := Bool.eq_false_iff.mpr c4
  subst c4
  have H1 : (some ((([] : List (S31))), 1)) = some (r1, r2) := by rw [if_neg (show ¬ (false = true) by decide)] at H; exact H
  clear H
  have H := H1
  clear H1
  obtain ⟨y382, hy382⟩ : ∃ y_ : List (S31), y_ = (([] : List (S31))) := ⟨_, rfl⟩
  replace H : (some (y382, 1)) = some (r1, r2) := by first | (rw [hy382]; with_reducible exact H) | (have H2_ := (Option.bind_some _ _).symm.trans H; rw [hy382]; with_reducible exact H2_) | (have H2_ := (Option.bind_some _ _).symm.trans H; with_reducible exact H2_) | with_reducible exact H | (rw [hy382]; exact H) | exact H
  have Ny382 := Aside0.mk hy382
  clear hy382
  simp only [Option.some.injEq, Prod.mk.injEq] at H
  obtain ⟨rfl, rfl⟩ := H
  go_enter Try.func19, Try.ntmps19
  go_wp2_with (first | ((with_reducible refine gate_dst (N := 3) rfl ?_); refine box_event ?hg (N := 3) ?hd (cs := #[.int .i64 a1_0, .int .u32 a1_1]) (t := 27) ?hr ?_; (case hd => rfl); (case hg => rfl); (case hr => first | (go_simp; done) | (go_simp; rfl)); intro gb380 hg w30 hbox hb; have n0_ := Aside0.mk (below_step (by repeat (first | (with_reducible first | exact HB.out | apply below_alloc | apply pw_below_drewN | apply below_drew1) | exact HB.out)) hb); have n1_ := Aside0.mk (hbox); have n2_ := Aside0.mk ((by rw [hg]; exact (below_size (by repeat (first | (with_reducible first | exact HB.out | apply below_alloc | apply pw_below_drewN | apply below_drew1) | exact HB.out))) : w.heap.size ≤ gb380)); have n3_ := n2_; clear HB; have HB := n0_; have BK380 := n1_; have GW380 := n2_; have GE380 := n3_; clear n0_ n1_ n2_ n3_; clear hb hbox hg; have hcz31_0 : w30.cell? ⟨gb380, 0, none⟩ = some (.int .i64 a1_0) := (blk_cell BK380.out 0).trans rfl; have hcz31_1 : w30.cell? ⟨gb380, 1, none⟩ = some (.int .u32 a1_1) := (blk_cell BK380.out 1).trans rfl; have hfz31_0 := blk_frozen BK380.out 0; have hfz31_1 := blk_frozen BK380.out 1) | ((with_reducible refine gate_callee (f := 58) rfl ?_); refine goesL_ (some 10) rfl rfl Try.func58 (by kernel_rfl) rfl #[.agg #[.int .i64 a1_0, .int .u32 a1_1]] rfl (by (try simp only [List.map_toArray, List.map_cons, List.map_nil]); first | done | rfl | (simp only [List.length_drop, List.length_take]; rfl)) ?_; (with_reducible refine (spec_l01Ok.calls a1_0 a1_1 false _ A3.out).mono ?_); rintro e w32 ⟨rfl, hb⟩; refine ⟨_, rfl, ?_⟩; have n0_ := Aside0.mk (blk_below (g := gb380) (o := .cells #[.int .i64 a1_0, .int .u32 a1_1] 27 (0, 0)) (by (with_reducible repeat (first | refine blk_drewN ?_ _ | refine blk_drew ?_ | refine blk_alloc ?_ _)); exact BK380.out) hb); have n1_ := Aside0.mk (below_step (by repeat (first | (with_reducible first | exact HB.out | apply below_alloc | apply pw_below_drewN | apply below_drew1 | refine below_set ?_ GE380.out) | exact HB.out)) hb); clear BK380; clear HB; have BK380 := n0_; have HB := n1_; clear n0_ n1_; (try clear hb); (try clear hb2); (try clear hk); (try clear hi)) | ((with_reducible refine gate_dst (N := 12) rfl ?_); refine Kd.R_lit k31 _ 31 ?hg (N := 12) ?hd (xs := ([] : List (S31))) (inner := []) (ok := fun _ => True) (okp := fun _ => True) ?hr ?hp (fun _ hk => hk) trivial (Below.refl _ _) (Nat.le_refl _) (by simp) ?_; (case hd => rfl); (case hg => rfl); (case hr => first | (go_simp; done) | (go_simp; rfl)); (case hp => exact (Reps.none _ _)); intro v383 w33 ho34 hb hg_ hnew_; clear hg_ hnew_; (first | rw [← Ny382.out] at ho34 | (simp only [Int.reduceToNat] at ho34; rw [← Ny382.out] at ho34)); have n0_ := Aside0.mk (Kd.R_lower ho34 (below_size (by repeat (first | (with_reducible first | exact HB.out | apply below_alloc | apply pw_below_drewN | apply below_drew1 | refine below_set ?_ GE380.out) | exact HB.out)))); have n1_ := Aside0.mk (blk_below (g := gb380) (o := .cells #[.int .i64 a1_0, .int .u32 a1_1] 27 (0, 0)) (by (with_reducible repeat (first | refine blk_drewN ?_ _ | refine blk_drew ?_ | refine blk_alloc ?_ _)); exact BK380.out) hb); have n2_ := Aside0.mk (below_step (by repeat (first | (with_reducible first | exact HB.out | apply below_alloc | apply pw_below_drewN | apply below_drew1 | refine below_set ?_ GE380.out) | exact HB.out)) hb); clear BK380; clear HB; have HO384 := n0_; have BK380 := n1_; have HB := n2_; clear n0_ n1_ n2_; clear hb ho34))
  go_ret2
  exact ⟨_, by first | rfl | (simp [errW_none, errW_some] <;> rfl) | (simp [*, errW_none, errW_some] <;> rfl), by (with_reducible repeat (first | apply Kd.R_alloc | apply Kd.R_drewN | apply Kd.R_drew)); exact HO384.out, by repeat (first | (with_reducible first | exact HB.out | apply below_alloc | apply pw_below_drewN | apply below_drew1 | refine below_set ?_ GE380.out) | exact HB.out)⟩

end Go.Proofs.Ytcepbgffnneagaa.Q
end

section
namespace Go.Proofs.Ytcepbgffnneagaa.Q
open Go.RowKit Go.Proofs.YtcepbgffnneagaaW.PrintWords Go.Proofs.YtcepbgffnneagaaW.PrintLast Go.Proofs.YtcepbgffnneagaaW.PrintMore
attribute [local go_sem] max2_int min2_int max_two min_two max_three min_three max_four min_four   -- for this text's walks alone
set_option linter.unusedVariables false
set_option linter.unusedSimpArgs false

def impl_in.f (a0 : Int) (a1 : Int) (a2 : Int) : Option (Bool) := if a0 ≥ a1 then (some (decide (a0 ≤ a2))) else (some false)
set_option maxHeartbeats 8000000 in
set_option maxRecDepth 100000 in
theorem impl_in.calls (a0 : Int) (a1 : Int) (a2 : Int) (r : Bool) (w : World) (h : impl_in.f a0 a1 a2 = some r) :
  Calls Try.prog 70 #[.int .i64 a0, .int .i64 a1, .int .i64 a2] w fun e w' => e = .returned (.bool r) ∧ Drawn0 w w' := by
 have H : (if a0 ≥ a1 then (some (decide (a0 ≤ a2))) else (some false)) = some r := h
 clear h
 by_cases c4 : a0 ≥ a1
 ·rw [if_pos c4] at H
  have c4b0 : decide (a1 ≤ a0) = true := decide_eq_true c4
  clear c4
  obtain rfl := Option.some.inj H
  go_enter Try.func70, Try.ntmps70
  go_wp2
  go_ret
  exact ⟨by first | rfl | (simp; done) | (simp [*]; done), by repeat (first | exact Drawn0.refl _ | apply Drawn0.step)⟩
 ·rw [if_neg c4] at H
  have c4b0 : decide (a1 ≤ a0) = false := decide_eq_false c4
  clear c4
  obtain rfl := Option.some.inj H
  go_enter Try.func70, Try.ntmps70
  go_wp2
  go_ret
  exact ⟨by first | rfl | (simp; done) | (simp [*]; done), by repeat (first | exact Drawn0.refl _ | apply Drawn0.step)⟩

end Go.Proofs.Ytcepbgffnneagaa.Q
end

section
namespace Go.Proofs.Ytcepbgffnneagaa.Q
open Go.RowKit Go.Proofs.YtcepbgffnneagaaW.PrintWords Go.Proofs.YtcepbgffnneagaaW.PrintLast Go.Proofs.YtcepbgffnneagaaW.PrintMore
attribute [local go_sem] max2_int min2_int max_two min_two max_three min_three max_four min_four   -- for this text's walks alone
set_option linter.unusedVariables false
set_option linter.unusedSimpArgs false

set_option maxHeartbeats 8000000 in
set_option maxRecDepth 100000 in
theorem slices_Clip.calls (A0 : Option Addr) (c0 : Nat) (l0 : List Int) (w : World) (hr0 : Kd.C (Kd.int .i64) w A0 l0.length l0) (hc0 : l0.length ≤ c0) :
  Calls Try.prog 163 #[.slice A0 l0.length c0] w fun e w' => e = .returned (.slice A0 l0.length l0.length) ∧ Drawn0 w w' := by
 have hmax : l0.length ≤ 9223372036854775807 := hr0.2.1
 have hA := hr0.2.2
 clear hr0
 go_enter Try.func163, Try.ntmps163
 go_wp2
 go_ret
 exact ⟨rfl, Drawn0.refl _⟩

end Go.Proofs.Ytcepbgffnneagaa.Q
end

section
namespace Go.Proofs.Ytcepbgffnneagaa.Q
open Go.RowKit Go.Proofs.YtcepbgffnneagaaW.PrintWords Go.Proofs.YtcepbgffnneagaaW.PrintLast Go.Proofs.YtcepbgffnneagaaW.PrintMore
attribute [local go_sem] max2_int min2_int max_two min_two max_three min_three max_four min_four   -- for this text's walks alone
set_option linter.unusedVariables false
set_option linter.unusedSimpArgs false

/-- All ascending lists of so many numbers of a list that go on from a list that is there, in order: what is done with them, one after the other. -/
def impl_chosen_1.l0 {σ : Type} (f : Int → List Int → σ → Option σ) (L : List Int) : Nat → List Int → Int → σ → Option σ
 | 0, _, _, _ => none
 | k + 1, x1, x8, s => if x8 < (L.length : Int) then (if 0 ≤ x8 then (if x1.length ≤ 1000 then ((f (wrap64 (x8 + 1)) (x1 ++ [rd L x8]) s).bind fun s => impl_chosen_1.l0 f L k x1 (wrap64 (x8 + 1)) s) else none) else none) else some s
def impl_chosen_1.f {σ : Type} (cb : List Int → σ → Option σ) (m : Int) (L : List Int) : Nat → Int → List Int → σ → Option σ
 | 0, _, _, _ => none
 | k + 1, a0, l1, s => if (l1.length : Int) = m then cb l1 s else impl_chosen_1.l0 (impl_chosen_1.f cb m L k) L (k + 1) l1 a0 s
def impl_chosen_1.T5 : Bool × List (List Nat × List Nat) := (true, [([], []), ([], []), ([1], [1]), ([], []), ([3], [3]), ([], []), ([], []), ([5, 6], [5, 6]), ([7], [7]), ([8], [8]), ([4, 9, 4], [4, 9]), ([0, 2, 10, 10], [0, 2, 10])])
def impl_chosen_1.B5 : List Nat := [0, 0, 2, 0, 8, 0, 0, 96, 224, 480, 1016, 2047]
theorem impl_chosen_1.tab5 : rtab .any (opsOf Try.f162 5) = impl_chosen_1.T5 := by kernel_rfl
theorem impl_chosen_1.bits5 : waitsOk impl_chosen_1.T5.2 impl_chosen_1.B5 = true := by kernel_rfl
set_option maxHeartbeats 16000000 in
set_option maxRecDepth 100000 in
theorem impl_chosen_1.state {σ : Type} (cb : List Int → σ → Option σ) (I : σ → World → Prop) (M : Nat → Prop) (G1 : Nat) (lb1 : Array Value) (eg1 : EnterF Try.prog G1) (W0 : World) (hM : ∀ k, M k → k < W0.heap.size)
  (hI : Aside0 (∀ a W W', I a W → Below W.heap.size W W' → I a W'))
  (hcb : Aside0 (∀ (l : List Int) (a a' : σ) (A : Option Addr) (c : Nat) (W : World), I a W → Kd.C (Kd.int .i64) W A l.length l → l.length ≤ c → cb l a = some a' → But M W0 W → Calls Try.prog G1 (#[.slice A l.length c] ++ lb1) W fun e w' => e = .returned (.tuple #[]) ∧ I a' w' ∧ But M W w'))
  (gb702 : Nat) (s702_0 : Int) (gb703 gb704 : Nat) (A704 : Option Addr) (c704 : Nat) (l704 : List Int) (gb705 : Nat) (m702 : Aside0 (¬ M gb702)) (m703 : Aside0 (¬ M gb703)) (m704 : Aside0 (¬ M gb704)) (m705 : Aside0 (¬ M gb705)) (mA : Aside0 (∀ ad, A704 = some ad → ¬ M ad.block)) (k : Nat) :
  ∀ (a0 : Int) (A1 : Option Addr) (c1 : Nat) (l1 : List Int) (a a' : σ) (w : World) (hb702 : w.heap[gb702]? = some (.cells #[.int .i64 s702_0] 3 (0, 0))) (hb703 : w.heap[gb703]? = some (.cells #[.func (.func G1) #[] lb1] 125 (0, 0))) (hb704 : w.heap[gb704]? = some (.cells #[.slice A704 l704.length c704] 62 (0, 0))) (hb705 : w.heap[gb705]? = some (.cells #[.func (.func 162) #[] #[.pointer (some ⟨gb702, 0, none⟩), .pointer (some ⟨gb703, 0, none⟩), .pointer (some ⟨gb704, 0, none⟩), .pointer (some ⟨gb705, 0, none⟩)]] 148 (0, 0)))
  (hr704 : Kd.C (Kd.int .i64) w A704 l704.length l704) (hr1 : Kd.C (Kd.int .i64) w A1 l1.length l1) (hc1 : l1.length ≤ c1) (hA1 : ∀ ad, A1 = some ad → ¬ M ad.block) (hi : I a w) (hB : But M W0 w) (h : impl_chosen_1.f cb s702_0 l704 k a0 l1 a = some a'),
  Calls Try.prog 162 #[.int .i64 a0, .slice A1 l1.length c1, .pointer (some ⟨gb702, 0, none⟩), .pointer (some ⟨gb703, 0, none⟩), .pointer (some ⟨gb704, 0, none⟩), .pointer (some ⟨gb705, 0, none⟩)] w fun e w' => e = .returned (.tuple #[]) ∧ I a' w' ∧ But M w w' := by
 induction k using Nat.strongRecOn with
 | _ k ih =>
 intro a0 A1 c1 l1 a a' w hb702 hb703 hb704 hb705 hr704 hr1 hc1 hA1 hi hB h
 cases k with
 | zero => exact absurd h (by simp [impl_chosen_1.f])
 | succ k =>
 simp only [impl_chosen_1.f] at h
 have BK702 := Aside0.mk hb702
 have BK703 := Aside0.mk hb703
 have BK704 := Aside0.mk hb704
 have BK705 := Aside0.mk hb705
 have HR704 := Aside0.mk hr704
 have HR1 := Aside0.mk hr1
 have HC1 := Aside0.mk hc1
 have HA1 := Aside0.mk hA1
 have HI0 := Aside0.mk hi
 have HBut0 := Aside0.mk hB
 have HM := Aside0.mk hM
 clear hb702 hb703 hb704 hb705 hr704 hr1 hc1 hA1 hi hB hM
 obtain ⟨i0, hi0, hz0, hs0, hb0⟩ := info_parts info2
 have INF := Aside0.mk (show Try.prog.info? 2 = some i0 ∧ i0.zero = some (.int .i64 0) ∧ i0.size = 1 ∧ i0.bytes = 8 from ⟨hi0, hz0, hs0, hb0⟩)
 clear hi0 hz0 hs0 hb0
 have H : (if (l1.length : Int) = s702_0 then cb l1 a else impl_chosen_1.l0 (impl_chosen_1.f cb s702_0 l704 k) l704 (k + 1) l1 a0 a) = some a' := h
 clear h
 have hcz8_0 : w.cell? ⟨gb702, 0, none⟩ = some (.int .i64 s702_0) := (blk_cell BK702.out 0).trans rfl
 have hfz8_0 := blk_frozen BK702.out 0
 by_cases c3 : (l1.length : Int) = s702_0
 ·rw [if_pos c3] at H
  have c3b0 : ((l1.length : Int) == s702_0) = true := beq_iff_eq.mpr c3
  have H' := Aside0.mk H
  clear c3 H
  have hcz11_0 : w.cell? ⟨gb703, 0, none⟩ = some (.func (.func G1) #[] lb1) := (blk_cell BK703.out 0).trans rfl
  have hfz11_0 := blk_frozen BK703.out 0
  go_enter Try.func162, Try.ntmps162
  go_wp2_with ((with_reducible refine gate_value (t := 13) rfl ?_); refine goesF_ (some 15) rfl rfl eg1 #[.slice A1 l1.length c1] rfl rfl (by (try simp only [List.map_toArray, List.map_cons, List.map_nil]); first | done | rfl) ?_; (refine (hcb.out l1 a a' A1 c1 w HI0.out HR1.out HC1.out H'.out HBut0.out).mono ?_); rintro e w' ⟨rfl, hi', hb'⟩; refine ⟨_, rfl, ?_⟩)
  first | go_end0 | ((try simp only [Exit.inBlock, Exit.then]); refine bodyPost_ret (results_none rfl _ _ _) rfl ?_)
  exact ⟨rfl, hi', hb'⟩
 ·rw [if_neg c3] at H
  have c3b0 : ((l1.length : Int) == s702_0) = false := beq_eq_false_iff_ne.mpr c3
  have H' := Aside0.mk H
  clear c3 H
  go_enter Try.func162, Try.ntmps162
  go_wp2
  go_loopg [8] (k + 1) (fun kq v8 w' => ∃ (x8_1 : Int) (s1 : σ), v8 = .int .i64 x8_1 ∧ Aside0 (impl_chosen_1.l0 (impl_chosen_1.f cb s702_0 l704 k) l704 kq l1 x8_1 s1 = some a') ∧ Aside0 (kq ≤ k + 1) ∧ Aside0 (w'.heap[gb702]? = some (.cells #[.int .i64 s702_0] 3 (0, 0))) ∧ Aside0 (w'.heap[gb703]? = some (.cells #[.func (.func G1) #[] lb1] 125 (0, 0))) ∧ Aside0 (w'.heap[gb704]? = some (.cells #[.slice A704 l704.length c704] 62 (0, 0))) ∧ Aside0 (w'.heap[gb705]? = some (.cells #[.func (.func 162) #[] #[.pointer (some ⟨gb702, 0, none⟩), .pointer (some ⟨gb703, 0, none⟩), .pointer (some ⟨gb704, 0, none⟩), .pointer (some ⟨gb705, 0, none⟩)]] 148 (0, 0))) ∧ Aside0 (I s1 w') ∧ Aside0 (But M w w'))
  case atStart => exact ⟨a0, a, rfl, H', ⟨Nat.le_refl _⟩, BK702, BK703, BK704, BK705, HI0, ⟨But.refl _ _⟩⟩
  case round =>
   clear H' BK702 BK703 BK704 BK705 HI0
   try clear c3b0
   try clear hcz8_0
   try clear hfz8_0
   obtain ⟨x8_1, s1, rfl, HA, HK1, BK702, BK703, BK704, BK705, HI, HBut⟩ := hrel
   cases gk with
   | zero => exact absurd HA.out (by simp [impl_chosen_1.l0])
   | succ k1 =>
    have H := HA.out
    clear HA
    simp only [impl_chosen_1.l0] at H
    have hcz25_0 : wr.cell? ⟨gb704, 0, none⟩ = some (.slice A704 l704.length c704) := (blk_cell BK704.out 0).trans rfl
    have hfz25_0 := blk_frozen BK704.out 0
    by_cases c17 : x8_1 < (l704.length : Int)
    ·rw [if_pos c17] at H
     have c17b0 : decide (x8_1 < (l704.length : Int)) = true := decide_eq_true c17
     clear c17
     by_cases c19 : 0 ≤ x8_1
     ·rw [if_pos c19] at H
      have c19b0 : decide (0 ≤ x8_1) = true := decide_eq_true c19
      clear c19
      by_cases c20 : l1.length ≤ 1000
      ·rw [if_pos c20] at H
       have LM := Aside0.mk c20
       clear c20
       obtain ⟨s2, A210, H⟩ := Option.bind_eq_some_iff.mp H
       have A21 := Aside0.mk A210
       have H' := Aside0.mk H
       clear A210 H
       have HRr := Aside0.mk (HBut.out.C_int HR704.out mA.out)
       have HR1r := Aside0.mk (HBut.out.C_int HR1.out HA1.out)
       have HB := Aside0.mk (Below.refl wr.heap.size wr)
       try go_wp2
       have n0_ := Aside0.mk (blk_drew BK702.out)
       have n1_ := Aside0.mk (blk_drew BK703.out)
       have n2_ := Aside0.mk (blk_drew BK704.out)
       have n3_ := Aside0.mk (blk_drew BK705.out)
       have n4_ := Aside0.mk (below_drew1 HB.out)
       clear BK702 BK703 BK704 BK705 HB
       have BK702 := n0_
       have BK703 := n1_
       have BK704 := n2_
       have BK705 := n3_
       have HB := n4_
       clear n0_ n1_ n2_ n3_ n4_
       have p184 : 0 ≤ (x8_1 : Int) := of_decide_eq_true (by first | (with_reducible assumption) | assumption)
       have q184 : x8_1 < (l704.length : Int) := of_decide_eq_true (by first | (with_reducible assumption) | assumption)
       obtain ⟨ad184, e184, hx184⟩ := Kd.at_int HRr.out x8_1 p184 q184
       have hw184 := hx184
       cases e184
       replace hx184 := (HB.out.cell (World.block_lt_of_cell? wr _ hx184)).trans hx184
       replace p184 := eq_true p184
       replace q184 := eq_true q184
       refine start_ (n := 12) (S := fun w' => w'.cell? ⟨gb705, 0, none⟩ = some (.func (.func 162) #[] #[.pointer (some ⟨gb702, 0, none⟩), .pointer (some ⟨gb703, 0, none⟩), .pointer (some ⟨gb704, 0, none⟩), .pointer (some ⟨gb705, 0, none⟩)]) ∧ w'.cell? ⟨gb704, 0, none⟩ = some (.slice (some ad184) l704.length c704) ∧ w'.cell? (ad184.add (x8_1).toNat) = some (.int .i64 (rd l704 x8_1))) (ds := []) #[false, false, false, false, false, false, false, false, false, false, false, false] (by kernel_rfl) rfl rfl ⟨(blk_cell BK705.out 0).trans rfl, (blk_cell BK704.out 0).trans rfl, ((HB.out.cell (World.block_lt_of_cell? wr _ hw184)).trans hw184)⟩ (fun hHeld => ?_); refine with_tabW impl_chosen_1.tab5 impl_chosen_1.bits5 (fun HT_ HW_ => ?_)
       generalize wr.drew = w26 at BK702 BK703 BK704 BK705 HB hx184 hHeld ⊢
       refine pure_ (i := 1) (N := some 24) (v := ?_) (a' := ?_) #[false, true, false, false, false, false, false, false, false, false, false, false] rfl rfl (any_of HT_.out (by kernel_rfl)) (fun _ _ _ h => h) (Or.inl ⟨by rfl, ?_⟩) ?_ ?_
       rotate_left
       ·intro w'
        go_simp
        with_reducible rfl
       rotate_left
       ·simp only [Act.put, List.setIfInBounds_toArray, List.set_cons_zero, List.set_cons_succ, i64_w, i32_w]
        rfl
       refine pure_ (i := 2) (N := some 25) (v := ?_) (a' := ?_) #[false, true, true, false, false, false, false, false, false, false, false, false] rfl rfl (any_of HT_.out (by kernel_rfl)) (fun _ _ _ h => h) (Or.inl ⟨by rfl, ?_⟩) ?_ ?_
       rotate_left
       ·intro w'
        go_simp
        with_reducible rfl
       rotate_left
       ·simp only [Act.put, List.setIfInBounds_toArray, List.set_cons_zero, List.set_cons_succ, i64_w, i32_w]
        rfl
       refine pure_ (i := 3) (N := some 26) (v := ?_) (a' := ?_) #[false, true, true, true, false, false, false, false, false, false, false, false] rfl rfl (any_of HT_.out (by kernel_rfl)) (fun _ _ _ h => h) (Or.inl ⟨by rfl, ?_⟩) ?_ ?_
       rotate_left
       ·intro w'
        go_simp
        with_reducible rfl
       rotate_left
       ·simp only [Act.put, List.setIfInBounds_toArray, List.set_cons_zero, List.set_cons_succ, i64_w, i32_w]
        rfl
       refine pure_ (i := 6) (N := some 29) (v := ?_) (a' := ?_) #[false, true, true, true, false, false, true, false, false, false, false, false] rfl rfl (any_of HT_.out (by kernel_rfl)) (fun _ _ _ h => h) (Or.inl ⟨by rfl, ?_⟩) ?_ ?_
       rotate_left
       ·intro w'
        go_simp
        with_reducible rfl
       rotate_left
       ·simp only [Act.put, List.setIfInBounds_toArray, List.set_cons_zero, List.set_cons_succ, i64_w, i32_w]
        rfl
       refine take_ (i := 0) (N := some 23) (v := ?_) (a' := ?_) #[true, true, true, true, false, false, true, false, false, false, false, false] rfl rfl (take_ofW HT_.out HW_.out (by kernel_rfl)) (fun _ _ _ h => h) (Or.inl ⟨by rfl, ?_⟩) hHeld ?_ ?_
       rotate_left
       ·rintro w' ⟨s0, s1, s2⟩
        go_simp
        with_reducible rfl
       rotate_left
       ·simp only [Act.put, List.setIfInBounds_toArray, List.set_cons_zero, List.set_cons_succ, i64_w, i32_w]
        rfl
       refine take_ (i := 5) (N := some 28) (v := ?_) (a' := ?_) #[true, true, true, true, false, true, true, false, false, false, false, false] rfl rfl (take_ofW HT_.out HW_.out (by kernel_rfl)) (fun _ _ _ h => h) (Or.inl ⟨by rfl, ?_⟩) hHeld ?_ ?_
       rotate_left
       ·rintro w' ⟨s0, s1, s2⟩
        go_simp
        with_reducible rfl
       rotate_left
       ·simp only [Act.put, List.setIfInBounds_toArray, List.set_cons_zero, List.set_cons_succ, i64_w, i32_w]
        rfl
       refine pure_ (i := 7) (N := some 30) (v := ?_) (a' := ?_) #[true, true, true, true, false, true, true, true, false, false, false, false] rfl rfl (any_of HT_.out (by kernel_rfl)) (fun _ _ _ h => h) (Or.inl ⟨by rfl, ?_⟩) ?_ ?_
       rotate_left
       ·intro w'
        go_simp
        with_reducible rfl
       rotate_left
       ·simp only [Act.put, List.setIfInBounds_toArray, List.set_cons_zero, List.set_cons_succ, i64_w, i32_w]
        rfl
       refine take_ (i := 8) (N := some 31) (v := ?_) (a' := ?_) #[true, true, true, true, false, true, true, true, true, false, false, false] rfl rfl (take_ofW HT_.out HW_.out (by kernel_rfl)) (fun _ _ _ h => h) (Or.inl ⟨by rfl, ?_⟩) hHeld ?_ ?_
       rotate_left
       ·rintro w' ⟨s0, s1, s2⟩
        go_simp
        with_reducible rfl
       rotate_left
       ·simp only [Act.put, List.setIfInBounds_toArray, List.set_cons_zero, List.set_cons_succ, i64_w, i32_w]
        rfl
       refine join_ (σ := Value) 2 #[true, true, true, true, true, true, true, true, true, true, false, false] (fun s_ => [(27, .slice A1 l1.length l1.length), (32, s_)]) (fun s_ w' => (w'.cell? ⟨gb705, 0, none⟩ = some (.func (.func 162) #[] #[.pointer (some ⟨gb702, 0, none⟩), .pointer (some ⟨gb703, 0, none⟩), .pointer (some ⟨gb704, 0, none⟩), .pointer (some ⟨gb705, 0, none⟩)]) ∧ w'.cell? ⟨gb704, 0, none⟩ = some (.slice (some ad184) l704.length c704) ∧ w'.cell? (ad184.add (x8_1).toNat) = some (.int .i64 (rd l704 x8_1))) ∧ Kd.R (Kd.int .i64) 2 w' wr.heap.size (fun _ => True) s_ [rd l704 x8_1] ∧ (w'.heap[gb702]? = some (.cells #[.int .i64 s702_0] 3 (0, 0))) ∧ (w'.heap[gb703]? = some (.cells #[.func (.func G1) #[] lb1] 125 (0, 0))) ∧ (w'.heap[gb704]? = some (.cells #[.slice (some ad184) l704.length c704] 62 (0, 0))) ∧ (w'.heap[gb705]? = some (.cells #[.func (.func 162) #[] #[.pointer (some ⟨gb702, 0, none⟩), .pointer (some ⟨gb703, 0, none⟩), .pointer (some ⟨gb704, 0, none⟩), .pointer (some ⟨gb705, 0, none⟩)]] 148 (0, 0))) ∧ Below wr.heap.size wr w') ?_ ?_
       rotate_left
       ·intro hCont
        refine two_ (i := 4) (j := 9) (Ni := some 27) (Nj := some 32) #[true, true, true, true, true, true, true, true, true, false, false, false] #[true, true, true, true, false, true, true, true, true, true, false, false] rfl rfl rfl rfl (two_of HT_.out (by kernel_rfl)) (by decide) (by decide) (fun K hK => ?_) (fun K hK => ?_)
        ·skip
         refine goes_ Try.func163 (by kernel_rfl) rfl #[.slice A1 l1.length c1] (by rfl) rfl rfl (by (try simp only [List.map_toArray, List.map_cons, List.map_nil]); first | done | rfl) ?_
         refine (slices_Clip.calls A1 c1 l1 _ (Kd.C_below HR1r.out HB.out) HC1.out).mono ?_
         rintro e w' ⟨rfl, ⟨nd, rfl⟩⟩
         refine ⟨_, rfl, ?_⟩
         have n0_ := Aside0.mk (blk_drewN BK702.out nd)
         have n1_ := Aside0.mk (blk_drewN BK703.out nd)
         have n2_ := Aside0.mk (blk_drewN BK704.out nd)
         have n3_ := Aside0.mk (blk_drewN BK705.out nd)
         have n4_ := Aside0.mk (pw_below_drewN HB.out nd)
         clear BK702 BK703 BK704 BK705 HB
         have BK702 := n0_
         have BK703 := n1_
         have BK704 := n2_
         have BK705 := n3_
         have HB := n4_
         clear n0_ n1_ n2_ n3_ n4_
         refine hK.out _ _ ⟨(blk_cell BK705.out 0).trans rfl, (blk_cell BK704.out 0).trans rfl, ((HB.out.cell (World.block_lt_of_cell? wr _ hw184)).trans hw184)⟩ (fun hHeld => ?_)
         clear hK K
         refine norm_ (a' := ?_) ?_ ?_
         rotate_left
         ·show Act.put _ (some 27) _ = _
          simp only [Act.put, List.setIfInBounds_toArray, List.set_cons_zero, List.set_cons_succ, i64_w, i32_w]
          rfl
         refine one_ (i := 9) (N := some 32) #[true, true, true, true, true, true, true, true, true, true, false, false] rfl rfl (one_of HT_.out (by kernel_rfl)) (by decide) (fun K hK => ?_)
         refine Kd.R_lit_step (Kd.int .i64) _ 2 ?hg (N := 32) ?hd (xs := ([rd l704 x8_1] : List Int)) (inner := [.int .i64 (rd l704 x8_1)]) (ok := fun _ => True) (okp := fun _ => True) ?hr ?hp (fun _ hk => hk) trivial (Below.refl _ _) (Nat.le_refl _) (by simp) ?_; (case hd => rfl); (case hg => rfl); (case hr => first | (go_simp; done) | (go_simp; rfl)); (case hp => exact (Reps.one (show Kd.M (Kd.int .i64) _ _ _ (rd l704 x8_1) [.int .i64 (rd l704 x8_1)] from rfl) (Reps.none _ _)))
         intro v186 w' ho hb hg_ hnew_
         clear hg_ hnew_
         have n5_ := Aside0.mk (Kd.R_lower ho (below_size HB.out))
         have n0_ := Aside0.mk (blk_below BK702.out hb)
         have n1_ := Aside0.mk (blk_below BK703.out hb)
         have n2_ := Aside0.mk (blk_below BK704.out hb)
         have n3_ := Aside0.mk (blk_below BK705.out hb)
         have n4_ := Aside0.mk (below_step HB.out hb)
         clear BK702 BK703 BK704 BK705 HB ho hb
         have BK702 := n0_
         have BK703 := n1_
         have BK704 := n2_
         have BK705 := n3_
         have HB := n4_
         have HO187 := n5_
         clear n0_ n1_ n2_ n3_ n4_ n5_
         refine hK.out _ _ ⟨(blk_cell BK705.out 0).trans rfl, (blk_cell BK704.out 0).trans rfl, ((HB.out.cell (World.block_lt_of_cell? wr _ hw184)).trans hw184)⟩ (fun hHeld => ?_)
         clear hK K
         refine norm_ (a' := ?_) ?_ ?_
         rotate_left
         ·show Act.put _ (some 32) _ = _
          simp only [Act.put, List.setIfInBounds_toArray, List.set_cons_zero, List.set_cons_succ, i64_w, i32_w]
          rfl
         exact norm_ (by simp only [putAll, Act.put, List.setIfInBounds_toArray, List.set_cons_zero, List.set_cons_succ]) (hCont v186 _ ⟨hHeld, HO187.out, BK702.out, BK703.out, BK704.out, BK705.out, HB.out⟩)
        ·skip
         refine Kd.R_lit_step (Kd.int .i64) _ 2 ?hg (N := 32) ?hd (xs := ([rd l704 x8_1] : List Int)) (inner := [.int .i64 (rd l704 x8_1)]) (ok := fun _ => True) (okp := fun _ => True) ?hr ?hp (fun _ hk => hk) trivial (Below.refl _ _) (Nat.le_refl _) (by simp) ?_; (case hd => rfl); (case hg => rfl); (case hr => first | (go_simp; done) | (go_simp; rfl)); (case hp => exact (Reps.one (show Kd.M (Kd.int .i64) _ _ _ (rd l704 x8_1) [.int .i64 (rd l704 x8_1)] from rfl) (Reps.none _ _)))
         intro v186 w' ho hb hg_ hnew_
         clear hg_ hnew_
         have n5_ := Aside0.mk (Kd.R_lower ho (below_size HB.out))
         have n0_ := Aside0.mk (blk_below BK702.out hb)
         have n1_ := Aside0.mk (blk_below BK703.out hb)
         have n2_ := Aside0.mk (blk_below BK704.out hb)
         have n3_ := Aside0.mk (blk_below BK705.out hb)
         have n4_ := Aside0.mk (below_step HB.out hb)
         clear BK702 BK703 BK704 BK705 HB ho hb
         have BK702 := n0_
         have BK703 := n1_
         have BK704 := n2_
         have BK705 := n3_
         have HB := n4_
         have HO187 := n5_
         clear n0_ n1_ n2_ n3_ n4_ n5_
         refine hK.out _ _ ⟨(blk_cell BK705.out 0).trans rfl, (blk_cell BK704.out 0).trans rfl, ((HB.out.cell (World.block_lt_of_cell? wr _ hw184)).trans hw184)⟩ (fun hHeld => ?_)
         clear hK K
         refine norm_ (a' := ?_) ?_ ?_
         rotate_left
         ·show Act.put _ (some 32) _ = _
          simp only [Act.put, List.setIfInBounds_toArray, List.set_cons_zero, List.set_cons_succ, i64_w, i32_w]
          rfl
         refine one_ (i := 4) (N := some 27) #[true, true, true, true, true, true, true, true, true, true, false, false] rfl rfl (one_of HT_.out (by kernel_rfl)) (by decide) (fun K hK => ?_)
         refine goes_ Try.func163 (by kernel_rfl) rfl #[.slice A1 l1.length c1] (by rfl) rfl rfl (by (try simp only [List.map_toArray, List.map_cons, List.map_nil]); first | done | rfl) ?_
         refine (slices_Clip.calls A1 c1 l1 _ (Kd.C_below HR1r.out HB.out) HC1.out).mono ?_
         rintro e w' ⟨rfl, ⟨nd, rfl⟩⟩
         refine ⟨_, rfl, ?_⟩
         have n0_ := Aside0.mk (blk_drewN BK702.out nd)
         have n1_ := Aside0.mk (blk_drewN BK703.out nd)
         have n2_ := Aside0.mk (blk_drewN BK704.out nd)
         have n3_ := Aside0.mk (blk_drewN BK705.out nd)
         have n4_ := Aside0.mk (pw_below_drewN HB.out nd)
         have n5_ := Aside0.mk (Kd.R_drewN HO187.out nd)
         clear BK702 BK703 BK704 BK705 HB HO187
         have BK702 := n0_
         have BK703 := n1_
         have BK704 := n2_
         have BK705 := n3_
         have HB := n4_
         have HO187 := n5_
         clear n0_ n1_ n2_ n3_ n4_ n5_
         refine hK.out _ _ ⟨(blk_cell BK705.out 0).trans rfl, (blk_cell BK704.out 0).trans rfl, ((HB.out.cell (World.block_lt_of_cell? wr _ hw184)).trans hw184)⟩ (fun hHeld => ?_)
         clear hK K
         refine norm_ (a' := ?_) ?_ ?_
         rotate_left
         ·show Act.put _ (some 27) _ = _
          simp only [Act.put, List.setIfInBounds_toArray, List.set_cons_zero, List.set_cons_succ, i64_w, i32_w]
          rfl
         exact norm_ (by simp only [putAll, Act.put, List.setIfInBounds_toArray, List.set_cons_zero, List.set_cons_succ]) (hCont v186 _ ⟨hHeld, HO187.out, BK702.out, BK703.out, BK704.out, BK705.out, HB.out⟩)
       rintro v186 w30 ⟨hS_, h0_, h1_, h2_, h3_, h4_, h5_⟩
       clear BK702 BK703 BK704 BK705 HB
       have HO187 : Aside0 (Kd.R (Kd.int .i64) 2 w30 wr.heap.size (fun _ => True) v186 [rd l704 x8_1]) := ⟨h0_⟩
       have BK702 : Aside0 (w30.heap[gb702]? = some (.cells #[.int .i64 s702_0] 3 (0, 0))) := ⟨h1_⟩
       have BK703 : Aside0 (w30.heap[gb703]? = some (.cells #[.func (.func G1) #[] lb1] 125 (0, 0))) := ⟨h2_⟩
       have BK704 : Aside0 (w30.heap[gb704]? = some (.cells #[.slice (some ad184) l704.length c704] 62 (0, 0))) := ⟨h3_⟩
       have BK705 : Aside0 (w30.heap[gb705]? = some (.cells #[.func (.func 162) #[] #[.pointer (some ⟨gb702, 0, none⟩), .pointer (some ⟨gb703, 0, none⟩), .pointer (some ⟨gb704, 0, none⟩), .pointer (some ⟨gb705, 0, none⟩)]] 148 (0, 0))) := ⟨h4_⟩
       have HB : Aside0 (Below wr.heap.size wr w30) := ⟨h5_⟩
       clear h0_ h1_ h2_ h3_ h4_ h5_
       have hHeld : w30.cell? ⟨gb705, 0, none⟩ = some (.func (.func 162) #[] #[.pointer (some ⟨gb702, 0, none⟩), .pointer (some ⟨gb703, 0, none⟩), .pointer (some ⟨gb704, 0, none⟩), .pointer (some ⟨gb705, 0, none⟩)]) ∧ w30.cell? ⟨gb704, 0, none⟩ = some (.slice (some ad184) l704.length c704) ∧ w30.cell? (ad184.add (x8_1).toNat) = some (.int .i64 (rd l704 x8_1)) := hS_
       obtain ⟨Ao32, co32, eo32⟩ := Kd.R_slice HO187.out
       subst eo32
       obtain ⟨ad32, e32, hx32⟩ := Kd.at_int (Kd.R_reads' HO187.out).2.2 0 (by decide) (by simp)
       have hy32 : w30.cell? ad32 = some (.int .i64 (rd l704 x8_1)) := by simpa [Addr.add, rd] using hx32
       cases e32
       refine norm_ (a' := ?_) ?_ ?_
       rotate_left
       ·simp only [putAll, Act.put, List.setIfInBounds_toArray, List.set_cons_zero, List.set_cons_succ]
        rfl
       refine one_ (i := 10) (N := some 33) #[true, true, true, true, true, true, true, true, true, true, true, false] rfl rfl (one_of HT_.out (by kernel_rfl)) (by decide) (fun K hK => ?_)
       refine app_full_step w30 rfl (by rfl) (.tmp 27) (.tmp 32) 62 rfl 2 i0 .i64 8 Try.underlying62 INF.out.1 INF.out.2.1 INF.out.2.2.1 INF.out.2.2.2 (by decide) A1 l1 rfl (Kd.C_below HR1r.out HB.out) ad32 co32 (rd l704 x8_1) rfl hy32 (by have := LM.out; omega) ?_
       intro g cap w31 hC1 hcap hg hg2 hgr
       have hb := below_app (Below.refl w30.heap.size w30) hgr
       have n5_ := Aside0.mk hC1
       have n6_ := Aside0.mk hcap
       have n7_ := Aside0.mk (show wr.heap.size ≤ g from Nat.le_trans (below_size HB.out) hg)
       have n0_ := Aside0.mk (blk_below BK702.out hb)
       have n1_ := Aside0.mk (blk_below BK703.out hb)
       have n2_ := Aside0.mk (blk_below BK704.out hb)
       have n3_ := Aside0.mk (blk_below BK705.out hb)
       have n4_ := Aside0.mk (below_step HB.out hb)
       clear BK702 BK703 BK704 BK705 HB hb hC1 hcap hg hg2 hgr HO187 hx32 hy32
       have BK702 := n0_
       have BK703 := n1_
       have BK704 := n2_
       have BK705 := n3_
       have HB := n4_
       have HCn := n5_
       have HLn := n6_
       have HGn := n7_
       clear n0_ n1_ n2_ n3_ n4_ n5_ n6_ n7_
       refine hK.out _ _ ⟨(blk_cell BK705.out 0).trans rfl, (blk_cell BK704.out 0).trans rfl, ((HB.out.cell (World.block_lt_of_cell? wr _ hw184)).trans hw184)⟩ (fun hHeld => ?_)
       clear hK K
       refine norm_ (a' := ?_) ?_ ?_
       rotate_left
       ·show Act.put _ (some 33) _ = _
        simp only [Act.put, List.setIfInBounds_toArray, List.set_cons_zero, List.set_cons_succ, i64_w, i32_w]
        rfl
       refine one_ (i := 11) (N := some 34) #[true, true, true, true, true, true, true, true, true, true, true, true] rfl rfl (one_of HT_.out (by kernel_rfl)) (by decide) (fun K hK => ?_)
       refine goesV_ (EnterF.of Try.func162 (by kernel_rfl) rfl) #[.int .i64 (wrap64 (x8_1 + 1)), .slice (some ⟨g, 0, none⟩) (l1 ++ [rd l704 x8_1]).length cap] (by rfl) rfl rfl rfl (by (try simp only [List.map_toArray, List.map_cons, List.map_nil]); first | done | rfl) ?_
       have hcall := ih k (Nat.lt_succ_self k) (wrap64 (x8_1 + 1)) (some ⟨g, 0, none⟩) cap (l1 ++ [rd l704 x8_1]) s1 s2 w31 BK702.out BK703.out BK704.out BK705.out (Kd.C_below HRr.out HB.out) HCn.out HLn.out (fun ad e hm => by cases e; have h1 := HM.out _ hm; have h2 := HBut.out.size; have h3 := HBut0.out.size; have h4 := HGn.out; simp only at h1; omega) (hI.out _ _ _ HI.out HB.out) ((HBut0.out.trans HBut.out).trans (But.of_below HB.out)) A21.out
       refine Calls.mono hcall ?_
       clear hcall
       rintro e w34 ⟨rfl, hi2, hb2⟩
       refine ⟨_, rfl, ?_⟩
       have n0_ := Aside0.mk (hb2.blk BK702.out m702.out)
       have n1_ := Aside0.mk (hb2.blk BK703.out m703.out)
       have n2_ := Aside0.mk (hb2.blk BK704.out m704.out)
       have n3_ := Aside0.mk (hb2.blk BK705.out m705.out)
       have n4_ := Aside0.mk ((But.of_below (M := M) HB.out).trans hb2)
       have hcell := hb2.cell ((HB.out.cell (World.block_lt_of_cell? wr _ hw184)).trans hw184) (by rw [add_block]; exact mA.out ad184 rfl)
       clear BK702 BK703 BK704 BK705 HB
       have BK702 := n0_
       have BK703 := n1_
       have BK704 := n2_
       have BK705 := n3_
       have HBt := n4_
       clear n0_ n1_ n2_ n3_ n4_
       have HI2 := Aside0.mk hi2
       clear hi2 hb2
       refine hK.out _ _ ⟨(blk_cell BK705.out 0).trans rfl, (blk_cell BK704.out 0).trans rfl, hcell⟩ (fun hHeld => ?_)
       clear hK K
       refine norm_ (a' := ?_) ?_ ?_
       rotate_left
       ·show Act.put _ (some 34) _ = _
        simp only [Act.put, List.setIfInBounds_toArray, List.set_cons_zero, List.set_cons_succ, i64_w, i32_w]
        rfl
       refine done_ (done_of HT_.out (by kernel_rfl)) ?_
       try go_wp2
       go_roundg k1
       case measure => have := HK1.out; omega
       case rel => exact ⟨(wrap64 (x8_1 + 1)), s2, rfl, H', ⟨by have := HK1.out; omega⟩, BK702, BK703, BK704, BK705, HI2, ⟨HBut.out.trans HBt.out⟩⟩
      ·rw [if_neg c20] at H
       exact absurd H (by simp)
     ·rw [if_neg c19] at H
      exact absurd H (by simp)
    ·rw [if_neg c17] at H
     have c17b0 : decide (x8_1 < (l704.length : Int)) = false := decide_eq_false c17
     obtain rfl : s1 = a' := by simpa using H
     clear c17 H
     go_wp2
     first | go_end0 | ((try simp only [Exit.inBlock, Exit.then]); refine bodyPost_ret (results_none rfl _ _ _) rfl ?_)
     exact ⟨rfl, HI.out, HBut.out⟩

end Go.Proofs.Ytcepbgffnneagaa.Q
end

section
namespace Go.Proofs.Ytcepbgffnneagaa.Q
open Go.RowKit Go.Proofs.YtcepbgffnneagaaW.PrintWords Go.Proofs.YtcepbgffnneagaaW.PrintLast Go.Proofs.YtcepbgffnneagaaW.PrintMore
attribute [local go_sem] max2_int min2_int max_two min_two max_three min_three max_four min_four   -- for this text's walks alone
set_option linter.unusedVariables false
set_option linter.unusedSimpArgs false

/-- What is done with all ascending lists of so many numbers of a list, one after the other. -/
noncomputable def impl_chosen.fs {σ : Type} (cb : List Int → σ → Option σ) (l0 : List Int) (a1 : Int) (s : σ) : Option σ := tot fun k => impl_chosen_1.f cb a1 l0 k 0 [] s
theorem impl_chosen.store_func {P : Program} (w : World) (a : Addr) (fn : Fn) (first captured : Array Value) (m : Mode) : (store a (.func fn first captured) m).run P w = stored P w a (.func fn first captured) m := run_store P w a _ m rfl
attribute [local go_sem] impl_chosen.store_func
set_option maxHeartbeats 16000000 in
set_option maxRecDepth 100000 in
theorem impl_chosen.state {σ : Type} (cb : List Int → σ → Option σ) (I : σ → World → Prop) (M : Nat → Prop) (G1 : Nat) (lb1 : Array Value) (eg1 : EnterF Try.prog G1) (W0 : World) (hM : ∀ k, M k → k < W0.heap.size)
  (hI : Aside0 (∀ a W W', I a W → Below W.heap.size W W' → I a W'))
  (hcb : Aside0 (∀ (l : List Int) (a a' : σ) (A : Option Addr) (c : Nat) (W : World), I a W → Kd.C (Kd.int .i64) W A l.length l → l.length ≤ c → cb l a = some a' → But M W0 W → Calls Try.prog G1 (#[.slice A l.length c] ++ lb1) W fun e w' => e = .returned (.tuple #[]) ∧ I a' w' ∧ But M W w'))
  (A0 : Option Addr) (c0 : Nat) (l0 : List Int) (a1 : Int) (s s' : σ) (w : World) (hr0 : Kd.C (Kd.int .i64) w A0 l0.length l0) (hA0 : ∀ ad, A0 = some ad → ¬ M ad.block) (hi : I s w) (hB : But M W0 w) (h : impl_chosen.fs cb l0 a1 s = some s') :
  Calls Try.prog 115 #[.slice A0 l0.length c0, .int .i64 a1, .func (.func G1) #[] lb1] w fun e w' => e = .returned (.tuple #[]) ∧ I s' w' ∧ But M w w' := by
 obtain ⟨k, hk⟩ := tot_get h
 have H := Aside0.mk hk
 have mA := Aside0.mk hA0
 have HR0 := Aside0.mk hr0
 have HI0 := Aside0.mk hi
 have HBut0 := Aside0.mk hB
 have HM := Aside0.mk hM
 have HB := Aside0.mk (Below.refl w.heap.size w)
 clear h hk hA0 hr0 hi hB hM
 go_enter Try.func115, Try.ntmps115
 go_wp2_with (first | ((with_reducible refine gate_dst (N := 3) rfl ?_); refine box_event ?hg (N := 3) ?hd (cs := #[.slice A0 l0.length c0]) (t := 62) ?hr ?_; (case hd => rfl); (case hg => rfl); (case hr => first | (go_simp; done) | (go_simp; rfl) | kernel_rfl); intro gb3 hg w13 hbox hb; have n0_ := Aside0.mk (below_step HB.out hb); have n1_ := Aside0.mk hbox; have n2_ := Aside0.mk (by rw [hg]; exact below_size HB.out : w.heap.size ≤ gb3); clear HB; have HB := n0_; have BK3 := n1_; have GW3 := n2_; clear n0_ n1_ n2_; clear hb hbox hg) | ((with_reducible refine gate_dst (N := 4) rfl ?_); refine box_event ?hg (N := 4) ?hd (cs := #[.int .i64 a1]) (t := 3) ?hr ?_; (case hd => rfl); (case hg => rfl); (case hr => first | (go_simp; done) | (go_simp; rfl) | kernel_rfl); intro gb4 hg w14 hbox hb; have n0_ := Aside0.mk (blk_below BK3.out hb); have n1_ := Aside0.mk (below_step HB.out hb); have n2_ := Aside0.mk hbox; have n3_ := Aside0.mk (by rw [hg]; exact below_size HB.out : w.heap.size ≤ gb4); have n4_ := Aside0.mk (by rw [hg]; exact Nat.ne_of_lt (blk_lt BK3.out) : gb3 ≠ gb4); clear BK3 HB; have BK3 := n0_; have HB := n1_; have BK4 := n2_; have GW4 := n3_; have NB3_4 := n4_; clear n0_ n1_ n2_ n3_ n4_; clear hb hbox hg) | ((with_reducible refine gate_dst (N := 5) rfl ?_); refine box_event ?hg (N := 5) ?hd (cs := #[.func (.func G1) #[] lb1]) (t := 125) ?hr ?_; (case hd => rfl); (case hg => rfl); (case hr => first | (go_simp; done) | (go_simp; rfl) | kernel_rfl); intro gb5 hg w15 hbox hb; have n0_ := Aside0.mk (blk_below BK3.out hb); have n1_ := Aside0.mk (blk_below BK4.out hb); have n2_ := Aside0.mk (below_step HB.out hb); have n3_ := Aside0.mk hbox; have n4_ := Aside0.mk (by rw [hg]; exact below_size HB.out : w.heap.size ≤ gb5); have n5_ := Aside0.mk (by rw [hg]; exact Nat.ne_of_lt (blk_lt BK3.out) : gb3 ≠ gb5); have n6_ := Aside0.mk (by rw [hg]; exact Nat.ne_of_lt (blk_lt BK4.out) : gb4 ≠ gb5); clear BK3 BK4 HB; have BK3 := n0_; have BK4 := n1_; have HB := n2_; have BK5 := n3_; have GW5 := n4_; have NB3_5 := n5_; have NB4_5 := n6_; clear n0_ n1_ n2_ n3_ n4_ n5_ n6_; clear hb hbox hg) | ((with_reducible refine gate_dst (N := 6) rfl ?_); refine box_event ?hg (N := 6) ?hd (cs := #[.nilFunc]) (t := 148) ?hr ?_; (case hd => rfl); (case hg => rfl); (case hr => first | (go_simp; done) | (go_simp; rfl) | kernel_rfl); intro gb6 hg w16 hbox hb; have n0_ := Aside0.mk (blk_below BK3.out hb); have n1_ := Aside0.mk (blk_below BK4.out hb); have n2_ := Aside0.mk (blk_below BK5.out hb); have n3_ := Aside0.mk (below_step HB.out hb); have n4_ := Aside0.mk hbox; have n5_ := Aside0.mk (by rw [hg]; exact below_size HB.out : w.heap.size ≤ gb6); have n6_ := Aside0.mk (by rw [hg]; exact Nat.ne_of_lt (blk_lt BK3.out) : gb3 ≠ gb6); have n7_ := Aside0.mk (by rw [hg]; exact Nat.ne_of_lt (blk_lt BK4.out) : gb4 ≠ gb6); have n8_ := Aside0.mk (by rw [hg]; exact Nat.ne_of_lt (blk_lt BK5.out) : gb5 ≠ gb6); clear BK3 BK4 BK5 HB; have BK3 := n0_; have BK4 := n1_; have BK5 := n2_; have HB := n3_; have BK6 := n4_; have GW6 := n5_; have NB3_6 := n6_; have NB4_6 := n7_; have NB5_6 := n8_; clear n0_ n1_ n2_ n3_ n4_ n5_ n6_ n7_ n8_; clear hb hbox hg; have hcz6_0 : w16.cell? ⟨gb6, 0, none⟩ = some .nilFunc := (blk_cell BK6.out 0).trans rfl; have hfz6_0 := blk_frozen BK6.out 0) | ((with_reducible refine gate_value (t := 8) rfl ?_); refine goesF_ (some 9) rfl rfl (EnterF.of Try.func162 (by kernel_rfl) rfl) #[.int .i64 0, .slice none 0 0] rfl (by go_simp; rfl) (by (try simp only [List.map_toArray, List.map_cons, List.map_nil]); first | done | rfl) ?_; have HBc : Aside0 (Below w.heap.size w (w16.setCell ⟨gb6, 0, none⟩ (.func (.func 162) #[] #[.pointer (some ⟨gb4, 0, none⟩), .pointer (some ⟨gb5, 0, none⟩), .pointer (some ⟨gb3, 0, none⟩), .pointer (some ⟨gb6, 0, none⟩)]))) := ⟨(by repeat (first | exact HB.out | apply pw_below_drewN | apply below_drew1 | refine below_set ?_ GW6.out))⟩; (refine Calls.mono (impl_chosen_1.state cb I M G1 lb1 eg1 W0 HM.out hI hcb gb4 a1 gb5 gb3 A0 c0 l0 gb6 ⟨fun hm => by have h1 := HM.out _ hm; have h2 := GW4.out; have h3 := HBut0.out.size; omega⟩ ⟨fun hm => by have h1 := HM.out _ hm; have h2 := GW5.out; have h3 := HBut0.out.size; omega⟩ ⟨fun hm => by have h1 := HM.out _ hm; have h2 := GW3.out; have h3 := HBut0.out.size; omega⟩ ⟨fun hm => by have h1 := HM.out _ hm; have h2 := GW6.out; have h3 := HBut0.out.size; omega⟩ mA k 0 none 0 [] s s' _ (by repeat (first | exact BK4.out | apply blk_drewN | apply blk_drew | refine blk_far ?_ NB4_6.out _)) (by repeat (first | exact BK5.out | apply blk_drewN | apply blk_drew | refine blk_far ?_ NB5_6.out _)) (by repeat (first | exact BK3.out | apply blk_drewN | apply blk_drew | refine blk_far ?_ NB3_6.out _)) (by repeat (first | apply blk_drewN | apply blk_drew | (refine blk_put (cs := #[.nilFunc]) ?_ 0 _ rfl; repeat (first | exact BK6.out | apply blk_drewN | apply blk_drew)))) (Kd.C_below HR0.out HBc.out) (Kd.C_nil _ _) (Nat.le_refl _) (fun ad e => by cases e) (hI.out _ _ _ HI0.out HBc.out) (HBut0.out.trans (But.of_below HBc.out)) H.out) ?_); rintro e w' ⟨rfl, hi', hb'⟩; refine ⟨_, rfl, ?_⟩))
 first | go_end0 | ((try simp only [Exit.inBlock, Exit.then]); refine bodyPost_ret (results_none rfl _ _ _) rfl ?_)
 exact ⟨rfl, hi', (But.of_below HBc.out).trans hb'⟩
theorem impl_chosen.wcalls (cb : List Int → Int → Option Int) (G1 : Nat) (lb1 : Array Value) (eg1 : EnterF Try.prog G1) (g : Nat) (w : World)
  (hcb : Aside0 (∀ (l : List Int) (a a' : Int) (A : Option Addr) (c : Nat) (W : World), But (fun k => k = g) w W → W.heap[g]? = some (.cells #[.int .i64 a] 2 (0, 0)) → Kd.C (Kd.int .i64) W A l.length l → l.length ≤ c → cb l a = some a' → Calls Try.prog G1 (#[.slice A l.length c] ++ lb1) W fun e w' => e = .returned (.tuple #[]) ∧ w'.heap[g]? = some (.cells #[.int .i64 a'] 2 (0, 0)) ∧ But (fun k => k = g) W w'))
  (A0 : Option Addr) (c0 : Nat) (l0 : List Int) (a1 : Int) (s s' : Int) (hg : w.heap[g]? = some (.cells #[.int .i64 s] 2 (0, 0))) (hr0 : Kd.C (Kd.int .i64) w A0 l0.length l0) (_hc0 : l0.length ≤ c0) (hA : ∀ ad, A0 = some ad → ad.block ≠ g) (h : impl_chosen.fs cb l0 a1 s = some s') :
  Calls Try.prog 115 #[.slice A0 l0.length c0, .int .i64 a1, .func (.func G1) #[] lb1] w fun e w' => e = .returned (.tuple #[]) ∧ w'.heap[g]? = some (.cells #[.int .i64 s'] 2 (0, 0)) ∧ But (fun k => k = g) w w' :=
 impl_chosen.state cb (fun a W => W.heap[g]? = some (.cells #[.int .i64 a] 2 (0, 0))) (fun k => k = g) G1 lb1 eg1 w (fun k hk => hk ▸ blk_lt hg) ⟨fun a W W' h hb => blk_below h hb⟩
  ⟨fun l a a' A c W hI hC hc hcb1 hB => hcb.out l a a' A c W hB hI hC hc hcb1⟩ A0 c0 l0 a1 s s' w hr0 (fun ad e => hA ad e) hg (But.refl _ _) h
end Go.Proofs.Ytcepbgffnneagaa.Q
end
