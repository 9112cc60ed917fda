/- Contracts of Go functions and plain lemmas over what they compute; printed by the kit's print program or written by hand, joined. -/
import Derived.Test.YtjemkdpffjneaaaBFnExactAllFlags3
import Derived.Test.YtjemkdpffjneaaaBFnExactAllFlags4
import Derived.Test.YtjemkdpffjneaaaBFnExactAllFlags7
import Derived.Test.YtjemkdpffjneaaaBFnExactAllFlags8
section
namespace Go.Proofs.Ytjemkdpffjneaaa.Q
open Go.RowKit Go.Proofs.YtjemkdpffjneaaaW.PrintWords Go.Proofs.YtjemkdpffjneaaaW.PrintLast Go.Proofs.YtjemkdpffjneaaaW.PrintMore
attribute [local go_sem] max2_int min2_int max_two min_two max_three min_three max_four min_four   -- for this text's walks alone
set_option linter.unusedVariables false
set_option linter.unusedSimpArgs false

attribute [local go_sem high] eqA35
def spec_l03All.l0 : Nat → Int → List (S33) → List (S35) → Int → Int → Int → Int → Option ((List (S35)))
  | 0, _, _, _, _, _, _, _ => none
  | k + 1, x1, x2, x7, x8, x9, x504000, x504001 => (spec_l01Bits.f x1).bind fun t508 => (if 0 ≤ (IntKind.u64.wrap ((IntKind.u64.wrap (t508)) - x8)) then (if x9 < (shl .i64 1 (IntKind.u64.wrap ((IntKind.u64.wrap (t508)) - x8))) then (if 0 ≤ x8 then ((spec_l03Least.f k x504000 x1 (Go.bits .or .u32 x504001 ((shl .i64 x9 x8) % 4294967296))).bind fun bt510 => (if (bt510.1 == x504000 && ((bt510.2.1 == x1 && (bt510.2.2 == (Go.bits .or .u32 x504001 ((shl .i64 x9 x8) % 4294967296)))))) = true then ((spec_l01Free.f k x1 (Go.bits .or .u32 x504001 ((shl .i64 x9 x8) % 4294967296)) x2).bind fun t513 => (if t513 = true then (if x7.length < 5864062014805 then (spec_l03All.l0 k x1 x2 (x7 ++ [(⟨x504000, (⟨x1, Go.bits .or .u32 x504001 ((shl .i64 x9 x8) % 4294967296)⟩ : S33)⟩ : S35)]) x8 (wrap64 (x9 + 1)) x504000 x504001) else (none)) else (spec_l03All.l0 k x1 x2 x7 x8 (wrap64 (x9 + 1)) x504000 x504001))) else (spec_l03All.l0 k x1 x2 x7 x8 (wrap64 (x9 + 1)) x504000 x504001))) else (none)) else (some x7)) else (none))
def spec_l03All.f (k : Nat) (a0_0 : Int) (a0_1 : Int) (a1 : Int) (l2 : List (S33)) : Option ((List (S35))) := (spec_l01Bits.f a0_0).bind fun t507 => (spec_l03All.l0 k a1 l2 (([] : List (S35))) (IntKind.u64.wrap (t507)) 0 a0_0 a0_1)
def spec_l03All.T7 : Bool × List (List Nat × List Nat) := (true, [([], []), ([0], [0]), ([], []), ([1, 2], [1, 2]), ([3, 1], [3]), ([4], [4]), ([5, 4], [4, 5]), ([4], [4]), ([6, 7, 4, 4], [4, 6, 7]), ([4, 8], [4, 8])])
def spec_l03All.B7 : List Nat := [0, 1, 0, 7, 15, 31, 63, 31, 255, 511]
theorem spec_l03All.tab7 : rtab .any (opsOf Try.f86 7) = spec_l03All.T7 := by kernel_rfl
theorem spec_l03All.bits7 : waitsOk spec_l03All.T7.2 spec_l03All.B7 = true := by kernel_rfl
set_option maxHeartbeats 8000000 in
set_option maxRecDepth 100000 in
theorem spec_l03All.calls (k : Nat) (a0_0 : Int) (a0_1 : Int) (a1 : Int) (A2 : Option Addr) (c2 : Nat) (l2 : List (S33)) (r : List (S35)) (w : World) (hr2 : Kd.C k33 w A2 l2.length l2) (hc2 : l2.length ≤ c2) (h : spec_l03All.f k a0_0 a0_1 a1 l2 = some r) :
    Calls Try.prog 86 #[.agg #[.int .i64 a0_0, .int .u32 a0_1], .int .i64 a1, .slice A2 l2.length c2] w fun e w' => ∃ v0_ : Value, e = .returned (v0_) ∧ Kd.R k35 35 w' w.heap.size (fun _ => True) v0_ r ∧ Below w.heap.size w w' := by
  have hu33 := Try.underlying33
  have hu35 := Try.underlying35
  have HR2 := Aside0.mk hr2
  have HC2 := Aside0.mk hc2
  clear hr2 hc2
  have HB := Aside0.mk (Below.refl w.heap.size w)
  have H : ((spec_l01Bits.f a0_0).bind fun t507 => (spec_l03All.l0 k a1 l2 (([] : List (S35))) (IntKind.u64.wrap (t507)) 0 a0_0 a0_1)) = some r := h
  clear h
  obtain ⟨y504, hy504⟩ : ∃ y_ : List (S35), y_ = (([] : List (S35))) := ⟨_, rfl⟩
  replace H : ((spec_l01Bits.f a0_0).bind fun t507 => (spec_l03All.l0 k a1 l2 y504 (IntKind.u64.wrap (t507)) 0 a0_0 a0_1)) = some r := by first | (rw [hy504]; with_reducible exact H) | (have H2_ := (Option.bind_some _ _).symm.trans H; rw [hy504]; with_reducible exact H2_) | (have H2_ := (Option.bind_some _ _).symm.trans H; with_reducible exact H2_) | with_reducible exact H | (rw [hy504]; exact H) | exact H
  have Ny504 := Aside0.mk hy504
  clear hy504
  replace H := Option.bind_eq_some_iff.mp H
  obtain ⟨t507, A40, H⟩ := H
  replace H : (spec_l03All.l0 k a1 l2 y504 (IntKind.u64.wrap (t507)) 0 a0_0 a0_1) = some r := H
  have A4 := Aside0.mk A40
  clear A40
  have H' := Aside0.mk H
  clear H
  go_enter Try.func86, Try.ntmps86
  go_wp2_with (first | ((with_reducible refine gate_dst (N := 3) rfl ?_); refine box_event ?hg (N := 3) ?hd (cs := #[.int .i64 a0_0, .int .u32 a0_1]) (t := 33) ?hr ?_; (case hd => rfl); (case hg => rfl); (case hr => first | (go_simp; done) | (go_simp; rfl)); intro gb503 hg w5 hbox hb; have n0_ := Aside0.mk (below_step (by repeat (first | (with_reducible first | exact HB.out | apply below_alloc | apply pw_below_drewN | apply below_drew1) | exact HB.out)) hb); have n1_ := Aside0.mk (hbox); have n2_ := Aside0.mk ((by rw [hg]; exact (below_size (by repeat (first | (with_reducible first | exact HB.out | apply below_alloc | apply pw_below_drewN | apply below_drew1) | exact HB.out))) : w.heap.size ≤ gb503)); have n3_ := Aside0.mk ((by rw [hg]; exact (below_size (by repeat (first | (with_reducible first | exact HB.out | apply below_alloc | apply pw_below_drewN | apply below_drew1) | exact HB.out))) : w.heap.size ≤ gb503)); clear HB; have HB := n0_; have BK503 := n1_; have GW503 := n2_; have GE503 := n3_; clear n0_ n1_ n2_ n3_; clear hb hbox hg) | ((with_reducible refine gate_dst (N := 11) rfl ?_); refine Kd.R_lit k35 _ 35 ?hg (N := 11) ?hd (xs := ([] : List (S35))) (inner := []) (ok := fun _ => True) (okp := fun _ => True) ?hr ?hp (fun _ hk => hk) trivial (Below.refl _ _) (Nat.le_refl _) (by simp) ?_; (case hd => rfl); (case hg => rfl); (case hr => first | (go_simp; done) | (go_simp; rfl)); (case hp => exact (Reps.none _ _)); intro v505 w6 ho7 hb hg_ hnew_; clear hg_ hnew_; (first | rw [← Ny504.out] at ho7 | (simp only [Int.reduceToNat] at ho7; rw [← Ny504.out] at ho7)); have n0_ := Aside0.mk (Kd.R_lower ho7 (below_size (by repeat (first | (with_reducible first | exact HB.out | apply below_alloc | apply pw_below_drewN | apply below_drew1 | refine below_set ?_ GE503.out) | exact HB.out)))); have n1_ := Aside0.mk (blk_below (g := gb503) (o := .cells #[.int .i64 a0_0, .int .u32 a0_1] 33 (0, 0)) (by (with_reducible repeat (first | refine blk_drewN ?_ _ | refine blk_drew ?_ | refine blk_alloc ?_ _)); exact BK503.out) hb); have n2_ := Aside0.mk (below_step (by repeat (first | (with_reducible first | exact HB.out | apply below_alloc | apply pw_below_drewN | apply below_drew1 | refine below_set ?_ GE503.out) | exact HB.out)) hb); clear BK503; clear HB; have HO506 := n0_; have BK503 := n1_; have HB := n2_; clear n0_ n1_ n2_; clear hb ho7; have hcz8_0 : w6.cell? ⟨gb503, 0, none⟩ = some (.int .i64 a0_0) := (blk_cell BK503.out 0).trans rfl; have hcz8_1 : w6.cell? ⟨gb503, 1, none⟩ = some (.int .u32 a0_1) := (blk_cell BK503.out 1).trans rfl; have hfz8_0 := blk_frozen BK503.out 0; have hfz8_1 := blk_frozen BK503.out 1) | ((with_reducible refine gate_callee (f := 82) rfl ?_); refine goesL_ (some 14) rfl rfl Try.func82 (by kernel_rfl) rfl #[.int .i64 a0_0] rfl (by (try simp only [List.map_toArray, List.map_cons, List.map_nil]); first | done | rfl | (simp only [List.length_drop, List.length_take]; rfl)) ?_; (with_reducible refine (spec_l01Bits.calls a0_0 t507 _ A4.out).mono ?_); rintro e w' ⟨rfl, ⟨nd, rfl⟩⟩; refine ⟨_, rfl, ?_⟩))
  go_loopg [7, 9] k (fun kq v7 v9 w' => ∃ (x7_1 : List (S35)) (x9_1 : Int), v9 = .int .i64 x9_1 ∧ Aside0 (spec_l03All.l0 kq a1 l2 x7_1 (IntKind.u64.wrap (t507)) x9_1 a0_0 a0_1 = some r) ∧ Aside0 (kq ≤ k) ∧ Aside0 (Kd.R k35 35 w' w.heap.size (fun _ => True) v7 x7_1) ∧ Aside0 (w'.heap[gb503]? = some (.cells #[.int .i64 a0_0, .int .u32 a0_1] 33 (0, 0))) ∧ Aside0 (Below w.heap.size w w'))
  case atStart => exact ⟨(y504), (0), (by first | rfl | (simp; done) | (simp [*]; done)), H', ⟨Nat.le_refl _⟩, ⟨by (with_reducible repeat (first | apply Kd.R_alloc | apply Kd.R_drewN | apply Kd.R_drew)); exact HO506.out⟩, ⟨by (with_reducible repeat (first | refine blk_drewN ?_ _ | refine blk_drew ?_ | refine blk_alloc ?_ _)); exact BK503.out⟩, ⟨by repeat (first | (with_reducible first | exact HB.out | apply below_alloc | apply pw_below_drewN | apply below_drew1 | refine below_set ?_ GE503.out) | exact HB.out)⟩⟩
  case round =>
    clear H'
    try clear c2
    try clear p2
    try clear c8
    try clear hcz8_0
    try clear hcz8_1
    try clear hfz8_0
    try clear hfz8_1
    obtain ⟨x7_1, x9_1, rfl, HA, HK1, HO_7, BK503, HB⟩ := hrel
    cases gk with
    | zero => exact absurd HA.out (by simp [spec_l03All.l0])
    | succ k1 =>
      have H := HA.out
      clear HA
      simp only [spec_l03All.l0] at H
      replace H := Option.bind_eq_some_iff.mp H
      obtain ⟨t508, A90, H⟩ := H
      replace H : (if 0 ≤ (IntKind.u64.wrap ((IntKind.u64.wrap (t508)) - (IntKind.u64.wrap (t507)))) then (if x9_1 < (shl .i64 1 (IntKind.u64.wrap ((IntKind.u64.wrap (t508)) - (IntKind.u64.wrap (t507))))) then (if 0 ≤ (IntKind.u64.wrap (t507)) then ((spec_l03Least.f k1 a0_0 a1 (Go.bits .or .u32 a0_1 ((shl .i64 x9_1 (IntKind.u64.wrap (t507))) % 4294967296))).bind fun bt510 => (if (bt510.1 == a0_0 && ((bt510.2.1 == a1 && (bt510.2.2 == (Go.bits .or .u32 a0_1 ((shl .i64 x9_1 (IntKind.u64.wrap (t507))) % 4294967296)))))) = true then ((spec_l01Free.f k1 a1 (Go.bits .or .u32 a0_1 ((shl .i64 x9_1 (IntKind.u64.wrap (t507))) % 4294967296)) l2).bind fun t513 => (if t513 = true then (if x7_1.length < 5864062014805 then (spec_l03All.l0 k1 a1 l2 (x7_1 ++ [(⟨a0_0, (⟨a1, Go.bits .or .u32 a0_1 ((shl .i64 x9_1 (IntKind.u64.wrap (t507))) % 4294967296)⟩ : S33)⟩ : S35)]) (IntKind.u64.wrap (t507)) (wrap64 (x9_1 + 1)) a0_0 a0_1) else (none)) else (spec_l03All.l0 k1 a1 l2 x7_1 (IntKind.u64.wrap (t507)) (wrap64 (x9_1 + 1)) a0_0 a0_1))) else (spec_l03All.l0 k1 a1 l2 x7_1 (IntKind.u64.wrap (t507)) (wrap64 (x9_1 + 1)) a0_0 a0_1))) else (none)) else (some x7_1)) else (none)) = some r := H
      have A9 := Aside0.mk A90
      clear A90
      obtain ⟨ji10, hji10⟩ : ∃ j_ : Int, (IntKind.u64.wrap ((IntKind.u64.wrap (t508)) - (IntKind.u64.wrap (t507)))) = j_ := ⟨_, rfl⟩
      replace H : (if 0 ≤ (ji10) then (if x9_1 < (shl .i64 1 (ji10)) then (if 0 ≤ (IntKind.u64.wrap (t507)) then ((spec_l03Least.f k1 a0_0 a1 (Go.bits .or .u32 a0_1 ((shl .i64 x9_1 (IntKind.u64.wrap (t507))) % 4294967296))).bind fun bt510 => (if (bt510.1 == a0_0 && ((bt510.2.1 == a1 && (bt510.2.2 == (Go.bits .or .u32 a0_1 ((shl .i64 x9_1 (IntKind.u64.wrap (t507))) % 4294967296)))))) = true then ((spec_l01Free.f k1 a1 (Go.bits .or .u32 a0_1 ((shl .i64 x9_1 (IntKind.u64.wrap (t507))) % 4294967296)) l2).bind fun t513 => (if t513 = true then (if x7_1.length < 5864062014805 then (spec_l03All.l0 k1 a1 l2 (x7_1 ++ [(⟨a0_0, (⟨a1, Go.bits .or .u32 a0_1 ((shl .i64 x9_1 (IntKind.u64.wrap (t507))) % 4294967296)⟩ : S33)⟩ : S35)]) (IntKind.u64.wrap (t507)) (wrap64 (x9_1 + 1)) a0_0 a0_1) else (none)) else (spec_l03All.l0 k1 a1 l2 x7_1 (IntKind.u64.wrap (t507)) (wrap64 (x9_1 + 1)) a0_0 a0_1))) else (spec_l03All.l0 k1 a1 l2 x7_1 (IntKind.u64.wrap (t507)) (wrap64 (x9_1 + 1)) a0_0 a0_1))) else (none)) else (some x7_1)) else (none)) = some r := by first | (rw [hji10] at H; exact H) | (simp only [hji10] at H ⊢; exact H)
      (try rw [hji10] at A9)
      by_cases c11 : 0 ≤ (ji10)
      · rw [if_pos c11] at H
        have c11b0 := eq_true c11
        have c11b1 : decide (0 ≤ (ji10)) = true := decide_eq_true c11
        clear c11
        obtain ⟨ji12, hji12⟩ : ∃ j_ : Int, (shl .i64 1 (ji10)) = j_ := ⟨_, rfl⟩
        replace H : (if x9_1 < (ji12) then (if 0 ≤ (IntKind.u64.wrap (t507)) then ((spec_l03Least.f k1 a0_0 a1 (Go.bits .or .u32 a0_1 ((shl .i64 x9_1 (IntKind.u64.wrap (t507))) % 4294967296))).bind fun bt510 => (if (bt510.1 == a0_0 && ((bt510.2.1 == a1 && (bt510.2.2 == (Go.bits .or .u32 a0_1 ((shl .i64 x9_1 (IntKind.u64.wrap (t507))) % 4294967296)))))) = true then ((spec_l01Free.f k1 a1 (Go.bits .or .u32 a0_1 ((shl .i64 x9_1 (IntKind.u64.wrap (t507))) % 4294967296)) l2).bind fun t513 => (if t513 = true then (if x7_1.length < 5864062014805 then (spec_l03All.l0 k1 a1 l2 (x7_1 ++ [(⟨a0_0, (⟨a1, Go.bits .or .u32 a0_1 ((shl .i64 x9_1 (IntKind.u64.wrap (t507))) % 4294967296)⟩ : S33)⟩ : S35)]) (IntKind.u64.wrap (t507)) (wrap64 (x9_1 + 1)) a0_0 a0_1) else (none)) else (spec_l03All.l0 k1 a1 l2 x7_1 (IntKind.u64.wrap (t507)) (wrap64 (x9_1 + 1)) a0_0 a0_1))) else (spec_l03All.l0 k1 a1 l2 x7_1 (IntKind.u64.wrap (t507)) (wrap64 (x9_1 + 1)) a0_0 a0_1))) else (none)) else (some x7_1)) = some r := by first | (rw [hji12] at H; exact H) | (simp only [hji12] at H ⊢; exact H)
        (try rw [hji12] at A9)
        have hji12_ : (IntKind.i64.wrap (1 * 2 ^ min (ji10).toNat 64)) = ji12 := hji12
        have hji12z : (ji10) ≤ 64 → (IntKind.i64.wrap (1 * 2 ^ (ji10).toNat)) = ji12 := shl_small hji12
        have hji12u : (IntKind.i64.wrap (2 ^ min (ji10).toNat 64)) = ji12 := by have h_ := hji12_; rw [Int.one_mul] at h_; exact h_
        have hji12v : (ji10) ≤ 64 → (IntKind.i64.wrap (2 ^ (ji10).toNat)) = ji12 := fun hle_ => by have h_ := hji12z hle_; rw [Int.one_mul] at h_; exact h_
        have hji12y : (wrap64 (1 * 2 ^ min (ji10).toNat 64)) = ji12 := (i64_w _).symm.trans hji12_
        have hji12x : (ji10) ≤ 64 → (wrap64 (1 * 2 ^ (ji10).toNat)) = ji12 := fun h_ => (i64_w _).symm.trans (hji12z h_)
        by_cases c13 : x9_1 < (ji12)
        · rw [if_pos c13] at H
          have c13b0 : decide (x9_1 < (ji12)) = true := decide_eq_true c13
          clear c13
          by_cases c15 : 0 ≤ (IntKind.u64.wrap (t507))
          · rw [if_pos c15] at H
            have c15b0 := eq_true c15
            have c15b1 : decide (0 ≤ (IntKind.u64.wrap (t507))) = true := decide_eq_true c15
            clear c15
            obtain ⟨ji16, hji16⟩ : ∃ j_ : Int, (shl .i64 x9_1 (IntKind.u64.wrap (t507))) = j_ := ⟨_, rfl⟩
            replace H : ((spec_l03Least.f k1 a0_0 a1 (Go.bits .or .u32 a0_1 ((ji16) % 4294967296))).bind fun bt510 => (if (bt510.1 == a0_0 && ((bt510.2.1 == a1 && (bt510.2.2 == (Go.bits .or .u32 a0_1 ((ji16) % 4294967296)))))) = true then ((spec_l01Free.f k1 a1 (Go.bits .or .u32 a0_1 ((ji16) % 4294967296)) l2).bind fun t513 => (if t513 = true then (if x7_1.length < 5864062014805 then (spec_l03All.l0 k1 a1 l2 (x7_1 ++ [(⟨a0_0, (⟨a1, Go.bits .or .u32 a0_1 ((ji16) % 4294967296)⟩ : S33)⟩ : S35)]) (IntKind.u64.wrap (t507)) (wrap64 (x9_1 + 1)) a0_0 a0_1) else (none)) else (spec_l03All.l0 k1 a1 l2 x7_1 (IntKind.u64.wrap (t507)) (wrap64 (x9_1 + 1)) a0_0 a0_1))) else (spec_l03All.l0 k1 a1 l2 x7_1 (IntKind.u64.wrap (t507)) (wrap64 (x9_1 + 1)) a0_0 a0_1))) = some r := by first | (rw [hji16] at H; exact H) | (simp only [hji16] at H ⊢; exact H)
            (try rw [hji16] at A9)
            have hji16_ : (IntKind.i64.wrap (x9_1 * 2 ^ min (IntKind.u64.wrap (t507)).toNat 64)) = ji16 := hji16
            have hji16z : (IntKind.u64.wrap (t507)) ≤ 64 → (IntKind.i64.wrap (x9_1 * 2 ^ (IntKind.u64.wrap (t507)).toNat)) = ji16 := shl_small hji16
            have hji16y : (wrap64 (x9_1 * 2 ^ min (IntKind.u64.wrap (t507)).toNat 64)) = ji16 := (i64_w _).symm.trans hji16_
            have hji16x : (IntKind.u64.wrap (t507)) ≤ 64 → (wrap64 (x9_1 * 2 ^ (IntKind.u64.wrap (t507)).toNat)) = ji16 := fun h_ => (i64_w _).symm.trans (hji16z h_)
            replace H := Option.bind_eq_some_iff.mp H
            obtain ⟨⟨t510, t511, t512⟩, A170, H⟩ := H
            replace H : (if (t510 == a0_0 && ((t511 == a1 && (t512 == (Go.bits .or .u32 a0_1 ((ji16) % 4294967296)))))) = true then ((spec_l01Free.f k1 a1 (Go.bits .or .u32 a0_1 ((ji16) % 4294967296)) l2).bind fun t513 => (if t513 = true then (if x7_1.length < 5864062014805 then (spec_l03All.l0 k1 a1 l2 (x7_1 ++ [(⟨a0_0, (⟨a1, Go.bits .or .u32 a0_1 ((ji16) % 4294967296)⟩ : S33)⟩ : S35)]) (IntKind.u64.wrap (t507)) (wrap64 (x9_1 + 1)) a0_0 a0_1) else (none)) else (spec_l03All.l0 k1 a1 l2 x7_1 (IntKind.u64.wrap (t507)) (wrap64 (x9_1 + 1)) a0_0 a0_1))) else (spec_l03All.l0 k1 a1 l2 x7_1 (IntKind.u64.wrap (t507)) (wrap64 (x9_1 + 1)) a0_0 a0_1)) = some r := H
            have A17 := Aside0.mk A170
            clear A170
            by_cases c18 : (t510 == a0_0 && ((t511 == a1 && (t512 == (Go.bits .or .u32 a0_1 ((ji16) % 4294967296)))))) = true
            · rw [if_pos c18] at H
              have c18b0 : (t510 == a0_0 && ((t511 == a1 && (t512 == (Go.bits .or .u32 a0_1 ((ji16) % 4294967296)))))) = true := c18
              (try (have c18b1 : decide (t510 = a0_0 && ((t511 == a1 && (t512 == (Go.bits .or .u32 a0_1 ((ji16) % 4294967296)))))) = true := by simpa using c18))
              (try (have c18b2 : (t510 == a0_0 && ((t511 == a1 && (t512 == (Go.bits .or .u32 a0_1 ((ji16) % 4294967296)))))) = true := by simpa using c18))
              clear c18
              replace H := Option.bind_eq_some_iff.mp H
              obtain ⟨t513, A190, H⟩ := H
              replace H : (if t513 = true then (if x7_1.length < 5864062014805 then (spec_l03All.l0 k1 a1 l2 (x7_1 ++ [(⟨a0_0, (⟨a1, Go.bits .or .u32 a0_1 ((ji16) % 4294967296)⟩ : S33)⟩ : S35)]) (IntKind.u64.wrap (t507)) (wrap64 (x9_1 + 1)) a0_0 a0_1) else (none)) else (spec_l03All.l0 k1 a1 l2 x7_1 (IntKind.u64.wrap (t507)) (wrap64 (x9_1 + 1)) a0_0 a0_1)) = some r := H
              have A19 := Aside0.mk A190
              clear A190
              by_cases c20 : t513 = true
              · subst c20
                have H1 : (if x7_1.length < 5864062014805 then (spec_l03All.l0 k1 a1 l2 (x7_1 ++ [(⟨a0_0, (⟨a1, Go.bits .or .u32 a0_1 ((ji16) % 4294967296)⟩ : S33)⟩ : S35)]) (IntKind.u64.wrap (t507)) (wrap64 (x9_1 + 1)) a0_0 a0_1) else (none)) = some r := by rw [if_pos rfl] at H; exact H
                clear H
                have H := H1
                clear H1
                by_cases c21 : x7_1.length < 5864062014805
                · rw [if_pos c21] at H
                  have LMc21 := Aside0.mk c21
                  clear c21
                  obtain ⟨y514, hy514⟩ : ∃ y_ : List (S35), y_ = (x7_1 ++ [(⟨a0_0, (⟨a1, Go.bits .or .u32 a0_1 ((ji16) % 4294967296)⟩ : S33)⟩ : S35)]) := ⟨_, rfl⟩
                  replace H : (spec_l03All.l0 k1 a1 l2 y514 (IntKind.u64.wrap (t507)) (wrap64 (x9_1 + 1)) a0_0 a0_1) = some r := by first | (rw [hy514]; with_reducible exact H) | (have H2_ := (Option.bind_some _ _).symm.trans H; rw [hy514]; with_reducible exact H2_) | (have H2_ := (Option.bind_some _ _).symm.trans H; with_reducible exact H2_) | with_reducible exact H | (rw [hy514]; exact H) | exact H
                  have Ny514 := Aside0.mk hy514
                  clear hy514
                  have H' := Aside0.mk H
                  clear H
                  try go_wp2_with (first | ((with_reducible refine gate_callee (f := 82) rfl ?_); refine goesL_ (some 18) rfl rfl Try.func82 (by kernel_rfl) rfl #[.int .i64 a1] rfl (by (try simp only [List.map_toArray, List.map_cons, List.map_nil]); first | done | rfl | (simp only [List.length_drop, List.length_take]; rfl)) ?_; (with_reducible refine (spec_l01Bits.calls a1 t508 _ A9.out).mono ?_); rintro e w' ⟨rfl, ⟨nd, rfl⟩⟩; refine ⟨_, rfl, ?_⟩; (try (rw [drewN_self wr]; generalize hq_ : World.drewN wr _ = wr; have n0_ : Aside0 (Kd.R k35 35 wr w.heap.size (fun _ => True) u7 x7_1) := ⟨by rw [← hq_]; exact (by (with_reducible repeat (first | apply Kd.R_alloc | apply Kd.R_drewN | apply Kd.R_drew)); exact HO_7.out)⟩; have n1_ : Aside0 (wr.heap[gb503]? = some (.cells #[.int .i64 a0_0, .int .u32 a0_1] 33 (0, 0))) := ⟨by rw [← hq_]; exact (by (with_reducible repeat (first | refine blk_drewN ?_ _ | refine blk_drew ?_ | refine blk_alloc ?_ _)); exact BK503.out)⟩; have n2_ : Aside0 (Below w.heap.size w wr) := ⟨by rw [← hq_]; exact (by repeat (first | (with_reducible first | exact HB.out | apply below_alloc | apply pw_below_drewN | apply below_drew1 | refine below_set ?_ GE503.out) | exact HB.out))⟩; clear HO_7 BK503 HB hq_; have HO_7 := n0_; have BK503 := n1_; have HB := n2_; clear n0_ n1_ n2_)); have hcz22_0 : wr.cell? ⟨gb503, 0, none⟩ = some (.int .i64 a0_0) := (blk_cell BK503.out 0).trans rfl; have hcz22_1 : wr.cell? ⟨gb503, 1, none⟩ = some (.int .u32 a0_1) := (blk_cell BK503.out 1).trans rfl; have hfz22_0 := blk_frozen BK503.out 0; have hfz22_1 := blk_frozen BK503.out 1) | ((with_reducible refine gate_dst (N := 10) rfl ?_); refine box_event ?hg (N := 10) ?hd (cs := #[.int .i64 0, .int .i64 0, .int .u32 0]) (t := 35) ?hr ?_; (case hd => rfl); (case hg => rfl); (case hr => first | (go_simp; done) | (go_simp; rfl)); intro gb509 hg w23 hbox hb; have n0_ := Aside0.mk (Kd.R_below (Kd.R_elderB (by (with_reducible repeat (first | apply Kd.R_alloc | apply Kd.R_drewN | apply Kd.R_drew)); exact HO_7.out) gb509 (Nat.le_of_eq hg.symm)) hb); have n1_ := Aside0.mk (blk_below (g := gb503) (o := .cells #[.int .i64 a0_0, .int .u32 a0_1] 33 (0, 0)) (by (with_reducible repeat (first | refine blk_drewN ?_ _ | refine blk_drew ?_ | refine blk_alloc ?_ _)); exact BK503.out) hb); have n2_ := Aside0.mk (below_step (by repeat (first | (with_reducible first | exact HB.out | apply below_alloc | apply pw_below_drewN | apply below_drew1 | refine below_set ?_ GE503.out) | exact HB.out)) hb); have n3_ := Aside0.mk (hbox); have n4_ := Aside0.mk ((by rw [hg]; exact (below_size (by repeat (first | (with_reducible first | exact HB.out | apply below_alloc | apply pw_below_drewN | apply below_drew1 | refine below_set ?_ GE503.out) | exact HB.out))) : w.heap.size ≤ gb509)); have n5_ := Aside0.mk ((by rw [hg]; exact (below_size (by repeat (first | (with_reducible first | exact HB.out | apply below_alloc | apply pw_below_drewN | apply below_drew1 | refine below_set ?_ GE503.out) | exact HB.out))) : w.heap.size ≤ gb509)); have n6_ := Aside0.mk ((by rw [hg]; exact Nat.ne_of_lt (blk_lt (g := gb503) (o := .cells #[.int .i64 a0_0, .int .u32 a0_1] 33 (0, 0)) (by (with_reducible repeat (first | refine blk_drewN ?_ _ | refine blk_drew ?_ | refine blk_alloc ?_ _)); exact BK503.out)) : gb503 ≠ gb509)); have n7_ := Aside0.mk ((by rw [hg]; exact Nat.ne_of_gt (blk_lt (g := gb503) (o := .cells #[.int .i64 a0_0, .int .u32 a0_1] 33 (0, 0)) (by (with_reducible repeat (first | refine blk_drewN ?_ _ | refine blk_drew ?_ | refine blk_alloc ?_ _)); exact BK503.out)) : gb509 ≠ gb503)); clear HO_7; clear BK503; clear HB; have HO_7 := n0_; have BK503 := n1_; have HB := n2_; have BK509 := n3_; have GW509 := n4_; have GE509 := n5_; have NB503_509 := n6_; have NB509_503 := n7_; clear n0_ n1_ n2_ n3_ n4_ n5_ n6_ n7_; clear hb hbox hg; have hnb24 := NB509_503.out; have hnc24 := NB503_509.out; have hcz25_0 : w23.cell? ⟨gb509, 0, none⟩ = some (.int .i64 0) := (blk_cell BK509.out 0).trans rfl; have hcz25_1 : w23.cell? ⟨gb509, 1, none⟩ = some (.int .i64 0) := (blk_cell BK509.out 1).trans rfl; have hcz25_2 : w23.cell? ⟨gb509, 2, none⟩ = some (.int .u32 0) := (blk_cell BK509.out 2).trans rfl; have hfz25_0 := blk_frozen BK509.out 0; have hfz25_1 := blk_frozen BK509.out 1; have hfz25_2 := blk_frozen BK509.out 2))
                  have n0_ : Aside0 (Kd.R k35 35 (((w23.setCell ⟨gb509, 0, none⟩ (.int .i64 a0_0)).setCell ⟨gb509, 1, none⟩ (.int .i64 a1)).setCell ⟨gb509, 2, none⟩ (.int .u32 (Go.bits .or .u32 a0_1 ((ji16) % 4294967296)))) w.heap.size (fun k_ => k_ ≠ gb509) u7 x7_1) := ⟨by (with_reducible repeat (first | apply Kd.R_alloc | apply Kd.R_drewN | apply Kd.R_drew)); exact Kd.R_mono (Kd.R_far (p := ⟨gb509, 2, none⟩) (Kd.R_far (p := ⟨gb509, 1, none⟩) (Kd.R_far (p := ⟨gb509, 0, none⟩) (Kd.R_mono HO_7.out (fun k_ hk => (⟨hk, hk.2⟩ : _ ∧ k_ ≠ gb509))) (fun _ hk => hk.2) (.int .i64 a0_0)) (fun _ hk => hk.2) (.int .i64 a1)) (fun _ hk => hk.2) (.int .u32 (Go.bits .or .u32 a0_1 ((ji16) % 4294967296)))) (fun _ hk => hk.1.2)⟩
                  have n1_ : Aside0 ((((w23.setCell ⟨gb509, 0, none⟩ (.int .i64 a0_0)).setCell ⟨gb509, 1, none⟩ (.int .i64 a1)).setCell ⟨gb509, 2, none⟩ (.int .u32 (Go.bits .or .u32 a0_1 ((ji16) % 4294967296)))).heap[gb503]? = some (.cells #[.int .i64 a0_0, .int .u32 a0_1] 33 (0, 0))) := ⟨by (with_reducible repeat (first | refine blk_drewN ?_ _ | refine blk_drew ?_ | refine blk_alloc ?_ _)); refine blk_far ?_ NB503_509.out _; (with_reducible repeat (first | refine blk_drewN ?_ _ | refine blk_drew ?_ | refine blk_alloc ?_ _)); refine blk_far ?_ NB503_509.out _; (with_reducible repeat (first | refine blk_drewN ?_ _ | refine blk_drew ?_ | refine blk_alloc ?_ _)); refine blk_far ?_ NB503_509.out _; (with_reducible repeat (first | refine blk_drewN ?_ _ | refine blk_drew ?_ | refine blk_alloc ?_ _)); exact BK503.out⟩
                  have n2_ : Aside0 ((((w23.setCell ⟨gb509, 0, none⟩ (.int .i64 a0_0)).setCell ⟨gb509, 1, none⟩ (.int .i64 a1)).setCell ⟨gb509, 2, none⟩ (.int .u32 (Go.bits .or .u32 a0_1 ((ji16) % 4294967296)))).heap[gb509]? = some (.cells #[.int .i64 a0_0, .int .i64 a1, .int .u32 (Go.bits .or .u32 a0_1 ((ji16) % 4294967296))] 35 (0, 0))) := ⟨by (with_reducible repeat (first | refine blk_drewN ?_ _ | refine blk_drew ?_ | refine blk_alloc ?_ _)); refine blk_put (cs := #[.int .i64 a0_0, .int .i64 a1, .int .u32 0]) ?_ 2 _ rfl; (with_reducible repeat (first | refine blk_drewN ?_ _ | refine blk_drew ?_ | refine blk_alloc ?_ _)); refine blk_put (cs := #[.int .i64 a0_0, .int .i64 0, .int .u32 0]) ?_ 1 _ rfl; (with_reducible repeat (first | refine blk_drewN ?_ _ | refine blk_drew ?_ | refine blk_alloc ?_ _)); refine blk_put (cs := #[.int .i64 0, .int .i64 0, .int .u32 0]) ?_ 0 _ rfl; (with_reducible repeat (first | refine blk_drewN ?_ _ | refine blk_drew ?_ | refine blk_alloc ?_ _)); exact BK509.out⟩
                  have n3_ : Aside0 (Below w.heap.size w (((w23.setCell ⟨gb509, 0, none⟩ (.int .i64 a0_0)).setCell ⟨gb509, 1, none⟩ (.int .i64 a1)).setCell ⟨gb509, 2, none⟩ (.int .u32 (Go.bits .or .u32 a0_1 ((ji16) % 4294967296))))) := ⟨by repeat (first | (with_reducible first | exact HB.out | apply below_alloc | apply pw_below_drewN | apply below_drew1 | refine below_set ?_ GE503.out | refine below_set ?_ GE509.out) | exact HB.out)⟩
                  (try clear HO_7)
                  (try clear BK503)
                  (try clear BK509)
                  (try clear HB)
                  generalize (((w23.setCell ⟨gb509, 0, none⟩ (.int .i64 a0_0)).setCell ⟨gb509, 1, none⟩ (.int .i64 a1)).setCell ⟨gb509, 2, none⟩ (.int .u32 (Go.bits .or .u32 a0_1 ((ji16) % 4294967296)))) = w26 at n0_ n1_ n2_ n3_ ⊢
                  have HO_7 := n0_
                  have BK503 := n1_
                  have BK509 := n2_
                  have HB := n3_
                  clear n0_ n1_ n2_ n3_
                  have n0_ := Aside0.mk (Kd.R_drew HO_7.out)
                  have n1_ := Aside0.mk (blk_drew BK503.out)
                  have n2_ := Aside0.mk (blk_drew BK509.out)
                  have n3_ := Aside0.mk (below_drew1 HB.out)
                  clear HO_7
                  clear BK503
                  clear BK509
                  clear HB
                  have HO_7 := n0_
                  have BK503 := n1_
                  have BK509 := n2_
                  have HB := n3_
                  clear n0_ n1_ n2_ n3_
                  refine start_ (n := 10) (S := fun w' => w'.cell? ⟨gb509, 0, none⟩ = some (.int .i64 a0_0) ∧ w'.cell? ⟨gb509, 1, none⟩ = some (.int .i64 a1) ∧ w'.cell? ⟨gb509, 2, none⟩ = some (.int .u32 (Go.bits .or .u32 a0_1 ((ji16) % 4294967296)))) (ds := []) #[false, false, false, false, false, false, false, false, false, false] (by kernel_rfl) rfl rfl ⟨(blk_cell BK509.out 0).trans rfl, (blk_cell BK509.out 1).trans rfl, (blk_cell BK509.out 2).trans rfl⟩ (fun hHeld => ?_); refine with_tabW spec_l03All.tab7 spec_l03All.bits7 (fun HT_ HW_ => ?_)
                  generalize w26.drew = w27 at HO_7 BK503 BK509 HB hHeld ⊢
                  refine take_ (i := 0) (N := some 38) (v := ?_) (a' := ?_) #[true, false, false, false, false, false, false, false, false, false] rfl rfl (take_ofW HT_.out HW_.out (by kernel_rfl)) (fun _ _ _ h => h) (Or.inl ⟨by rfl, ?_⟩) hHeld ?_ ?_
                  rotate_left
                  · rintro w' ⟨s0, s1, s2⟩
                    go_simp
                    with_reducible rfl
                  rotate_left
                  · simp only [Act.put, List.setIfInBounds_toArray, List.set_cons_zero, List.set_cons_succ, i64_w, i32_w]
                    rfl
                  refine take_ (i := 2) (N := some 40) (v := ?_) (a' := ?_) #[true, false, true, false, false, false, false, false, false, false] rfl rfl (take_ofW HT_.out HW_.out (by kernel_rfl)) (fun _ _ _ h => h) (Or.inl ⟨by rfl, ?_⟩) hHeld ?_ ?_
                  rotate_left
                  · rintro w' ⟨s0, s1, s2⟩
                    go_simp
                    with_reducible rfl
                  rotate_left
                  · simp only [Act.put, List.setIfInBounds_toArray, List.set_cons_zero, List.set_cons_succ, i64_w, i32_w]
                    rfl
                  refine one_ (i := 1) (N := some 39) #[true, true, true, false, false, false, false, false, false, false] rfl rfl (one_of HT_.out (by kernel_rfl)) (by decide) (fun K hK => ?_)
                  refine goes_ Try.func69 (by kernel_rfl) rfl #[.agg #[.int .i64 a0_0, .int .i64 a1, .int .u32 (Go.bits .or .u32 a0_1 ((ji16) % 4294967296))]] (by rfl) rfl rfl (by (try simp only [List.map_toArray, List.map_cons, List.map_nil]); first | done | (simp only [hji16]; rfl) | rfl | (simp only [List.length_drop, List.length_take]; rfl)) ?_
                  with_reducible refine (spec_l03Least.calls k1 a0_0 a1 (Go.bits .or .u32 a0_1 ((ji16) % 4294967296)) t510 t511 t512 _ A17.out).mono ?_
                  rintro e w28 ⟨rfl, hb⟩
                  refine ⟨_, rfl, ?_⟩
                  have n0_ := Aside0.mk (Kd.R_below (by (with_reducible repeat (first | apply Kd.R_alloc | apply Kd.R_drewN | apply Kd.R_drew)); exact HO_7.out) hb)
                  have n1_ := Aside0.mk (blk_below (g := gb503) (o := .cells #[.int .i64 a0_0, .int .u32 a0_1] 33 (0, 0)) (by (with_reducible repeat (first | refine blk_drewN ?_ _ | refine blk_drew ?_ | refine blk_alloc ?_ _)); exact BK503.out) hb)
                  have n2_ := Aside0.mk (blk_below (g := gb509) (o := .cells #[.int .i64 a0_0, .int .i64 a1, .int .u32 (Go.bits .or .u32 a0_1 ((ji16) % 4294967296))] 35 (0, 0)) (by (with_reducible repeat (first | refine blk_drewN ?_ _ | refine blk_drew ?_ | refine blk_alloc ?_ _)); exact BK509.out) hb)
                  have n3_ := Aside0.mk (below_step (by repeat (first | (with_reducible first | exact HB.out | apply below_alloc | apply pw_below_drewN | apply below_drew1 | refine below_set ?_ GE503.out | refine below_set ?_ GE509.out) | exact HB.out)) hb)
                  clear HO_7
                  clear BK503
                  clear BK509
                  clear HB
                  have HO_7 := n0_
                  have BK503 := n1_
                  have BK509 := n2_
                  have HB := n3_
                  clear n0_ n1_ n2_ n3_
                  (try clear hb)
                  (try clear hb2)
                  (try clear hk)
                  (try clear hi)
                  refine hK.out _ _ ⟨(blk_cell BK509.out 0).trans rfl, (blk_cell BK509.out 1).trans rfl, (blk_cell BK509.out 2).trans rfl⟩ (fun hHeld => ?_)
                  clear hK K
                  refine norm_ (a' := ?_) ?_ ?_
                  rotate_left
                  · show Act.put _ (some 39) _ = _
                    simp only [Act.put, List.setIfInBounds_toArray, List.set_cons_zero, List.set_cons_succ, i64_w, i32_w]
                    rfl
                  refine pure_ (i := 3) (N := some 41) (v := ?_) (a' := ?_) #[true, true, true, true, false, false, false, false, false, false] rfl rfl (any_of HT_.out (by kernel_rfl)) (fun _ _ _ h => h) (Or.inl ⟨by rfl, ?_⟩) ?_ ?_
                  rotate_left
                  · intro w'
                    go_simp
                    with_reducible rfl
                  rotate_left
                  · simp only [Act.put, List.setIfInBounds_toArray, List.set_cons_zero, List.set_cons_succ, i64_w, i32_w]
                    rfl
                  refine pure_ (i := 4) (N := some 42) (v := ?_) (a' := ?_) #[true, true, true, true, true, false, false, false, false, false] rfl rfl (any_of HT_.out (by kernel_rfl)) (fun _ _ _ h => h) (Or.inl ⟨by rfl, ?_⟩) ?_ ?_
                  rotate_left
                  · intro w'
                    go_simp
                    with_reducible rfl
                  rotate_left
                  · simp only [Act.put, List.setIfInBounds_toArray, List.set_cons_zero, List.set_cons_succ, i64_w, i32_w]
                    rfl
                  refine pure_ (i := 5) (N := some 43) (v := ?_) (a' := ?_) #[true, true, true, true, true, true, false, false, false, false] rfl rfl (any_of HT_.out (by kernel_rfl)) (fun _ _ _ h => h) (Or.inl ⟨by rfl, ?_⟩) ?_ ?_
                  rotate_left
                  · intro w'
                    go_simp
                    with_reducible rfl
                  rotate_left
                  · simp only [Act.put, List.setIfInBounds_toArray, List.set_cons_zero, List.set_cons_succ, i64_w, i32_w]
                    rfl
                  refine pure_ (i := 7) (N := some 45) (v := ?_) (a' := ?_) #[true, true, true, true, true, true, false, true, false, false] rfl rfl (any_of HT_.out (by kernel_rfl)) (fun _ _ _ h => h) (Or.inl ⟨by rfl, ?_⟩) ?_ ?_
                  rotate_left
                  · intro w'
                    go_simp
                    with_reducible rfl
                  rotate_left
                  · simp only [Act.put, List.setIfInBounds_toArray, List.set_cons_zero, List.set_cons_succ, i64_w, i32_w]
                    rfl
                  refine take_ (i := 6) (N := some 44) (v := ?_) (a' := ?_) #[true, true, true, true, true, true, true, true, false, false] rfl rfl (take_ofW HT_.out HW_.out (by kernel_rfl)) (fun _ _ _ h => h) (Or.inl ⟨by rfl, ?_⟩) hHeld ?_ ?_
                  rotate_left
                  · rintro w' ⟨s0, s1, s2⟩
                    go_simp
                    with_reducible rfl
                  rotate_left
                  · simp only [Act.put, List.setIfInBounds_toArray, List.set_cons_zero, List.set_cons_succ, i64_w, i32_w]
                    rfl
                  refine one_ (i := 8) (N := some 46) #[true, true, true, true, true, true, true, true, true, false] rfl rfl (one_of HT_.out (by kernel_rfl)) (by decide) (fun K hK => ?_)
                  refine goes_ Try.func83 (by kernel_rfl) rfl #[.agg #[.int .i64 a1, .int .u32 (Go.bits .or .u32 a0_1 ((ji16) % 4294967296))], .slice A2 l2.length c2] (by rfl) rfl rfl (by (try simp only [List.map_toArray, List.map_cons, List.map_nil]); first | done | (simp only [hji16]; rfl) | rfl | (simp only [List.length_drop, List.length_take]; rfl)) ?_
                  with_reducible refine (spec_l01Free.calls k1 a1 (Go.bits .or .u32 a0_1 ((ji16) % 4294967296)) _ _ l2 true _ ?side1 ?side2 A19.out).mono ?_
                  (case side1 => repeat (first | exact (Kd.C_below HR2.out HB.out) | (with_reducible refine Kd.C_alloc ?_ _) | (with_reducible refine Kd.C_drewN ?_ _) | (with_reducible refine Kd.C_drew ?_)))
                  (case side2 => exact HC2.out)
                  rintro e w29 ⟨rfl, hb⟩
                  refine ⟨_, rfl, ?_⟩
                  have n0_ := Aside0.mk (Kd.R_below (by (with_reducible repeat (first | apply Kd.R_alloc | apply Kd.R_drewN | apply Kd.R_drew)); exact HO_7.out) hb)
                  have n1_ := Aside0.mk (blk_below (g := gb503) (o := .cells #[.int .i64 a0_0, .int .u32 a0_1] 33 (0, 0)) (by (with_reducible repeat (first | refine blk_drewN ?_ _ | refine blk_drew ?_ | refine blk_alloc ?_ _)); exact BK503.out) hb)
                  have n2_ := Aside0.mk (blk_below (g := gb509) (o := .cells #[.int .i64 a0_0, .int .i64 a1, .int .u32 (Go.bits .or .u32 a0_1 ((ji16) % 4294967296))] 35 (0, 0)) (by (with_reducible repeat (first | refine blk_drewN ?_ _ | refine blk_drew ?_ | refine blk_alloc ?_ _)); exact BK509.out) hb)
                  have n3_ := Aside0.mk (below_step (by repeat (first | (with_reducible first | exact HB.out | apply below_alloc | apply pw_below_drewN | apply below_drew1 | refine below_set ?_ GE503.out | refine below_set ?_ GE509.out) | exact HB.out)) hb)
                  clear HO_7
                  clear BK503
                  clear BK509
                  clear HB
                  have HO_7 := n0_
                  have BK503 := n1_
                  have BK509 := n2_
                  have HB := n3_
                  clear n0_ n1_ n2_ n3_
                  (try clear hb)
                  (try clear hb2)
                  (try clear hk)
                  (try clear hi)
                  refine hK.out _ _ ⟨(blk_cell BK509.out 0).trans rfl, (blk_cell BK509.out 1).trans rfl, (blk_cell BK509.out 2).trans rfl⟩ (fun hHeld => ?_)
                  clear hK K
                  refine norm_ (a' := ?_) ?_ ?_
                  rotate_left
                  · show Act.put _ (some 46) _ = _
                    simp only [Act.put, List.setIfInBounds_toArray, List.set_cons_zero, List.set_cons_succ, i64_w, i32_w]
                    rfl
                  refine pure_ (i := 9) (N := some 47) (v := ?_) (a' := ?_) #[true, true, true, true, true, true, true, true, true, true] rfl rfl (any_of HT_.out (by kernel_rfl)) (fun _ _ _ h => h) (Or.inl ⟨by rfl, ?_⟩) ?_ ?_
                  rotate_left
                  · intro w'
                    go_simp
                    with_reducible rfl
                  rotate_left
                  · simp only [Act.put, List.setIfInBounds_toArray, List.set_cons_zero, List.set_cons_succ, i64_w, i32_w]
                    rfl
                  refine done_ (done_of HT_.out (by kernel_rfl)) ?_
                  have hcz30_0 : w29.cell? ⟨gb509, 0, none⟩ = some (.int .i64 a0_0) := (blk_cell BK509.out 0).trans rfl
                  have hcz30_1 : w29.cell? ⟨gb509, 1, none⟩ = some (.int .i64 a1) := (blk_cell BK509.out 1).trans rfl
                  have hcz30_2 : w29.cell? ⟨gb509, 2, none⟩ = some (.int .u32 (Go.bits .or .u32 a0_1 ((ji16) % 4294967296))) := (blk_cell BK509.out 2).trans rfl
                  have hfz30_0 := blk_frozen BK509.out 0
                  have hfz30_1 := blk_frozen BK509.out 1
                  have hfz30_2 := blk_frozen BK509.out 2
                  try go_wp2_with (first | ((with_reducible refine gate_builtin (b := .append) (xs := #[.tmp 48, .tmp 50]) rfl ?_); at_builtin; refine Kd.R_append k35 (w0 := w) w.heap.size rfl (.tmp 48) (.tmp 50) 50 35 (.agg #[(.int .i64 0), (.int .i64 0), (.int .u32 0)]) 24 rfl Try.underlying50 info35 rfl (by decide) (by omega) u7 x7_1 (⟨a0_0, (⟨a1, Go.bits .or .u32 a0_1 ((ji16) % 4294967296)⟩ : S33)⟩ : S35) [.int .i64 a0_0, .int .i64 a1, .int .u32 (Go.bits .or .u32 a0_1 ((ji16) % 4294967296))] (fun k_ => k_ ≠ gb509) (fun _ => False) rfl rfl ?aP (fun _ hk => hk.elim) ?aF ?aO ?aB ?aS ?aL ?_; (case aP => exact k35_mkM _ _ _ (⟨a0_0, (⟨a1, Go.bits .or .u32 a0_1 ((ji16) % 4294967296)⟩ : S33)⟩ : S35)); (case aB => exact (by repeat (first | (with_reducible first | exact HB.out | apply below_alloc | apply pw_below_drewN | apply below_drew1 | refine below_set ?_ GE503.out | refine below_set ?_ GE509.out) | exact HB.out))); (case aF => exact (fun k_ hk => Kd.freshB (g := gb509) (o := .cells #[.int .i64 a0_0, .int .i64 a1, .int .u32 (Go.bits .or .u32 a0_1 ((ji16) % 4294967296))] 35 (0, 0)) (by (with_reducible repeat (first | refine blk_drewN ?_ _ | refine blk_drew ?_ | refine blk_alloc ?_ _)); exact BK509.out) k_ hk)); (case aO => exact (by (with_reducible repeat (first | apply Kd.R_alloc | apply Kd.R_drewN | apply Kd.R_drew)); exact HO_7.out)); (case aS => exact (below_size (by repeat (first | (with_reducible first | exact HB.out | apply below_alloc | apply pw_below_drewN | apply below_drew1 | refine below_set ?_ GE503.out | refine below_set ?_ GE509.out) | exact HB.out)))); (case aL => have := LMc21.out; omega); intro v515 w31 ho hb hg hat; rw [← Ny514.out] at ho; have n0_ := Aside0.mk (blk_grown (g := gb503) (o := .cells #[.int .i64 a0_0, .int .u32 a0_1] 33 (0, 0)) (by (with_reducible repeat (first | refine blk_drewN ?_ _ | refine blk_drew ?_ | refine blk_alloc ?_ _)); exact BK503.out) hg (Kd.R_ne HO_7.out BK503.out (by decide))); have n1_ := Aside0.mk (blk_grown (g := gb509) (o := .cells #[.int .i64 a0_0, .int .i64 a1, .int .u32 (Go.bits .or .u32 a0_1 ((ji16) % 4294967296))] 35 (0, 0)) (by (with_reducible repeat (first | refine blk_drewN ?_ _ | refine blk_drew ?_ | refine blk_alloc ?_ _)); exact BK509.out) hg (Kd.R_away HO_7.out (fun _ hk => hk))); have n2_ := Aside0.mk (hb); have n3_ := Aside0.mk (ho); clear BK503; clear BK509; clear HB; clear HO_7; have BK503 := n0_; have BK509 := n1_; have HB := n2_; have HO516 := n3_; clear n0_ n1_ n2_ n3_; clear ho hb hg hat))
                  go_roundg k1
                  case measure => have := HK1.out; omega
                  case rel => exact ⟨(y514), (wrap64 (x9_1 + 1)), (by first | rfl | (simp; done) | (simp [*]; done)), H', ⟨by have := HK1.out; omega⟩, ⟨by (with_reducible repeat (first | apply Kd.R_alloc | apply Kd.R_drewN | apply Kd.R_drew)); exact Kd.R_mono HO516.out (fun _ hk => trivial)⟩, ⟨by (with_reducible repeat (first | refine blk_drewN ?_ _ | refine blk_drew ?_ | refine blk_alloc ?_ _)); exact BK503.out⟩, ⟨by repeat (first | (with_reducible first | exact HB.out | apply below_alloc | apply pw_below_drewN | apply below_drew1 | refine below_set ?_ GE503.out | refine below_set ?_ GE509.out) | exact HB.out)⟩⟩
                · rw [if_neg c21] at H
                  exact absurd H (by simp)
              · replace c20 := Bool.eq_false_iff.mpr c20
                subst c20
                have H1 : (spec_l03All.l0 k1 a1 l2 x7_1 (IntKind.u64.wrap (t507)) (wrap64 (x9_1 + 1)) a0_0 a0_1) = some r := by rw [if_neg (show ¬ (false = true) by decide)] at H; exact H
                clear H
                have H := H1
                clear H1
                have H' := Aside0.mk H
                clear H
                try go_wp2_with (first | ((with_reducible refine gate_callee (f := 82) rfl ?_); refine goesL_ (some 18) rfl rfl Try.func82 (by kernel_rfl) rfl #[.int .i64 a1] rfl (by (try simp only [List.map_toArray, List.map_cons, List.map_nil]); first | done | rfl | (simp only [List.length_drop, List.length_take]; rfl)) ?_; (with_reducible refine (spec_l01Bits.calls a1 t508 _ A9.out).mono ?_); rintro e w' ⟨rfl, ⟨nd, rfl⟩⟩; refine ⟨_, rfl, ?_⟩; (try (rw [drewN_self wr]; generalize hq_ : World.drewN wr _ = wr; have n0_ : Aside0 (Kd.R k35 35 wr w.heap.size (fun _ => True) u7 x7_1) := ⟨by rw [← hq_]; exact (by (with_reducible repeat (first | apply Kd.R_alloc | apply Kd.R_drewN | apply Kd.R_drew)); exact HO_7.out)⟩; have n1_ : Aside0 (wr.heap[gb503]? = some (.cells #[.int .i64 a0_0, .int .u32 a0_1] 33 (0, 0))) := ⟨by rw [← hq_]; exact (by (with_reducible repeat (first | refine blk_drewN ?_ _ | refine blk_drew ?_ | refine blk_alloc ?_ _)); exact BK503.out)⟩; have n2_ : Aside0 (Below w.heap.size w wr) := ⟨by rw [← hq_]; exact (by repeat (first | (with_reducible first | exact HB.out | apply below_alloc | apply pw_below_drewN | apply below_drew1 | refine below_set ?_ GE503.out) | exact HB.out))⟩; clear HO_7 BK503 HB hq_; have HO_7 := n0_; have BK503 := n1_; have HB := n2_; clear n0_ n1_ n2_)); have hcz32_0 : wr.cell? ⟨gb503, 0, none⟩ = some (.int .i64 a0_0) := (blk_cell BK503.out 0).trans rfl; have hcz32_1 : wr.cell? ⟨gb503, 1, none⟩ = some (.int .u32 a0_1) := (blk_cell BK503.out 1).trans rfl; have hfz32_0 := blk_frozen BK503.out 0; have hfz32_1 := blk_frozen BK503.out 1) | ((with_reducible refine gate_dst (N := 10) rfl ?_); refine box_event ?hg (N := 10) ?hd (cs := #[.int .i64 0, .int .i64 0, .int .u32 0]) (t := 35) ?hr ?_; (case hd => rfl); (case hg => rfl); (case hr => first | (go_simp; done) | (go_simp; rfl)); intro gb509 hg w33 hbox hb; have n0_ := Aside0.mk (Kd.R_below (Kd.R_elderB (by (with_reducible repeat (first | apply Kd.R_alloc | apply Kd.R_drewN | apply Kd.R_drew)); exact HO_7.out) gb509 (Nat.le_of_eq hg.symm)) hb); have n1_ := Aside0.mk (blk_below (g := gb503) (o := .cells #[.int .i64 a0_0, .int .u32 a0_1] 33 (0, 0)) (by (with_reducible repeat (first | refine blk_drewN ?_ _ | refine blk_drew ?_ | refine blk_alloc ?_ _)); exact BK503.out) hb); have n2_ := Aside0.mk (below_step (by repeat (first | (with_reducible first | exact HB.out | apply below_alloc | apply pw_below_drewN | apply below_drew1 | refine below_set ?_ GE503.out) | exact HB.out)) hb); have n3_ := Aside0.mk (hbox); have n4_ := Aside0.mk ((by rw [hg]; exact (below_size (by repeat (first | (with_reducible first | exact HB.out | apply below_alloc | apply pw_below_drewN | apply below_drew1 | refine below_set ?_ GE503.out) | exact HB.out))) : w.heap.size ≤ gb509)); have n5_ := Aside0.mk ((by rw [hg]; exact (below_size (by repeat (first | (with_reducible first | exact HB.out | apply below_alloc | apply pw_below_drewN | apply below_drew1 | refine below_set ?_ GE503.out) | exact HB.out))) : w.heap.size ≤ gb509)); have n6_ := Aside0.mk ((by rw [hg]; exact Nat.ne_of_lt (blk_lt (g := gb503) (o := .cells #[.int .i64 a0_0, .int .u32 a0_1] 33 (0, 0)) (by (with_reducible repeat (first | refine blk_drewN ?_ _ | refine blk_drew ?_ | refine blk_alloc ?_ _)); exact BK503.out)) : gb503 ≠ gb509)); have n7_ := Aside0.mk ((by rw [hg]; exact Nat.ne_of_gt (blk_lt (g := gb503) (o := .cells #[.int .i64 a0_0, .int .u32 a0_1] 33 (0, 0)) (by (with_reducible repeat (first | refine blk_drewN ?_ _ | refine blk_drew ?_ | refine blk_alloc ?_ _)); exact BK503.out)) : gb509 ≠ gb503)); clear HO_7; clear BK503; clear HB; have HO_7 := n0_; have BK503 := n1_; have HB := n2_; have BK509 := n3_; have GW509 := n4_; have GE509 := n5_; have NB503_509 := n6_; have NB509_503 := n7_; clear n0_ n1_ n2_ n3_ n4_ n5_ n6_ n7_; clear hb hbox hg; have hnb34 := NB509_503.out; have hnc34 := NB503_509.out; have hcz35_0 : w33.cell? ⟨gb509, 0, none⟩ = some (.int .i64 0) := (blk_cell BK509.out 0).trans rfl; have hcz35_1 : w33.cell? ⟨gb509, 1, none⟩ = some (.int .i64 0) := (blk_cell BK509.out 1).trans rfl; have hcz35_2 : w33.cell? ⟨gb509, 2, none⟩ = some (.int .u32 0) := (blk_cell BK509.out 2).trans rfl; have hfz35_0 := blk_frozen BK509.out 0; have hfz35_1 := blk_frozen BK509.out 1; have hfz35_2 := blk_frozen BK509.out 2))
                have n0_ : Aside0 (Kd.R k35 35 (((w33.setCell ⟨gb509, 0, none⟩ (.int .i64 a0_0)).setCell ⟨gb509, 1, none⟩ (.int .i64 a1)).setCell ⟨gb509, 2, none⟩ (.int .u32 (Go.bits .or .u32 a0_1 ((ji16) % 4294967296)))) w.heap.size (fun k_ => k_ ≠ gb509) u7 x7_1) := ⟨by (with_reducible repeat (first | apply Kd.R_alloc | apply Kd.R_drewN | apply Kd.R_drew)); exact Kd.R_mono (Kd.R_far (p := ⟨gb509, 2, none⟩) (Kd.R_far (p := ⟨gb509, 1, none⟩) (Kd.R_far (p := ⟨gb509, 0, none⟩) (Kd.R_mono HO_7.out (fun k_ hk => (⟨hk, hk.2⟩ : _ ∧ k_ ≠ gb509))) (fun _ hk => hk.2) (.int .i64 a0_0)) (fun _ hk => hk.2) (.int .i64 a1)) (fun _ hk => hk.2) (.int .u32 (Go.bits .or .u32 a0_1 ((ji16) % 4294967296)))) (fun _ hk => hk.1.2)⟩
                have n1_ : Aside0 ((((w33.setCell ⟨gb509, 0, none⟩ (.int .i64 a0_0)).setCell ⟨gb509, 1, none⟩ (.int .i64 a1)).setCell ⟨gb509, 2, none⟩ (.int .u32 (Go.bits .or .u32 a0_1 ((ji16) % 4294967296)))).heap[gb503]? = some (.cells #[.int .i64 a0_0, .int .u32 a0_1] 33 (0, 0))) := ⟨by (with_reducible repeat (first | refine blk_drewN ?_ _ | refine blk_drew ?_ | refine blk_alloc ?_ _)); refine blk_far ?_ NB503_509.out _; (with_reducible repeat (first | refine blk_drewN ?_ _ | refine blk_drew ?_ | refine blk_alloc ?_ _)); refine blk_far ?_ NB503_509.out _; (with_reducible repeat (first | refine blk_drewN ?_ _ | refine blk_drew ?_ | refine blk_alloc ?_ _)); refine blk_far ?_ NB503_509.out _; (with_reducible repeat (first | refine blk_drewN ?_ _ | refine blk_drew ?_ | refine blk_alloc ?_ _)); exact BK503.out⟩
                have n2_ : Aside0 ((((w33.setCell ⟨gb509, 0, none⟩ (.int .i64 a0_0)).setCell ⟨gb509, 1, none⟩ (.int .i64 a1)).setCell ⟨gb509, 2, none⟩ (.int .u32 (Go.bits .or .u32 a0_1 ((ji16) % 4294967296)))).heap[gb509]? = some (.cells #[.int .i64 a0_0, .int .i64 a1, .int .u32 (Go.bits .or .u32 a0_1 ((ji16) % 4294967296))] 35 (0, 0))) := ⟨by (with_reducible repeat (first | refine blk_drewN ?_ _ | refine blk_drew ?_ | refine blk_alloc ?_ _)); refine blk_put (cs := #[.int .i64 a0_0, .int .i64 a1, .int .u32 0]) ?_ 2 _ rfl; (with_reducible repeat (first | refine blk_drewN ?_ _ | refine blk_drew ?_ | refine blk_alloc ?_ _)); refine blk_put (cs := #[.int .i64 a0_0, .int .i64 0, .int .u32 0]) ?_ 1 _ rfl; (with_reducible repeat (first | refine blk_drewN ?_ _ | refine blk_drew ?_ | refine blk_alloc ?_ _)); refine blk_put (cs := #[.int .i64 0, .int .i64 0, .int .u32 0]) ?_ 0 _ rfl; (with_reducible repeat (first | refine blk_drewN ?_ _ | refine blk_drew ?_ | refine blk_alloc ?_ _)); exact BK509.out⟩
                have n3_ : Aside0 (Below w.heap.size w (((w33.setCell ⟨gb509, 0, none⟩ (.int .i64 a0_0)).setCell ⟨gb509, 1, none⟩ (.int .i64 a1)).setCell ⟨gb509, 2, none⟩ (.int .u32 (Go.bits .or .u32 a0_1 ((ji16) % 4294967296))))) := ⟨by repeat (first | (with_reducible first | exact HB.out | apply below_alloc | apply pw_below_drewN | apply below_drew1 | refine below_set ?_ GE503.out | refine below_set ?_ GE509.out) | exact HB.out)⟩
                (try clear HO_7)
                (try clear BK503)
                (try clear BK509)
                (try clear HB)
                generalize (((w33.setCell ⟨gb509, 0, none⟩ (.int .i64 a0_0)).setCell ⟨gb509, 1, none⟩ (.int .i64 a1)).setCell ⟨gb509, 2, none⟩ (.int .u32 (Go.bits .or .u32 a0_1 ((ji16) % 4294967296)))) = w36 at n0_ n1_ n2_ n3_ ⊢
                have HO_7 := n0_
                have BK503 := n1_
                have BK509 := n2_
                have HB := n3_
                clear n0_ n1_ n2_ n3_
                have n0_ := Aside0.mk (Kd.R_drew HO_7.out)
                have n1_ := Aside0.mk (blk_drew BK503.out)
                have n2_ := Aside0.mk (blk_drew BK509.out)
                have n3_ := Aside0.mk (below_drew1 HB.out)
                clear HO_7
                clear BK503
                clear BK509
                clear HB
                have HO_7 := n0_
                have BK503 := n1_
                have BK509 := n2_
                have HB := n3_
                clear n0_ n1_ n2_ n3_
                refine start_ (n := 10) (S := fun w' => w'.cell? ⟨gb509, 0, none⟩ = some (.int .i64 a0_0) ∧ w'.cell? ⟨gb509, 1, none⟩ = some (.int .i64 a1) ∧ w'.cell? ⟨gb509, 2, none⟩ = some (.int .u32 (Go.bits .or .u32 a0_1 ((ji16) % 4294967296)))) (ds := []) #[false, false, false, false, false, false, false, false, false, false] (by kernel_rfl) rfl rfl ⟨(blk_cell BK509.out 0).trans rfl, (blk_cell BK509.out 1).trans rfl, (blk_cell BK509.out 2).trans rfl⟩ (fun hHeld => ?_); refine with_tabW spec_l03All.tab7 spec_l03All.bits7 (fun HT_ HW_ => ?_)
                generalize w36.drew = w37 at HO_7 BK503 BK509 HB hHeld ⊢
                refine take_ (i := 0) (N := some 38) (v := ?_) (a' := ?_) #[true, false, false, false, false, false, false, false, false, false] rfl rfl (take_ofW HT_.out HW_.out (by kernel_rfl)) (fun _ _ _ h => h) (Or.inl ⟨by rfl, ?_⟩) hHeld ?_ ?_
                rotate_left
                · rintro w' ⟨s0, s1, s2⟩
                  go_simp
                  with_reducible rfl
                rotate_left
                · simp only [Act.put, List.setIfInBounds_toArray, List.set_cons_zero, List.set_cons_succ, i64_w, i32_w]
                  rfl
                refine take_ (i := 2) (N := some 40) (v := ?_) (a' := ?_) #[true, false, true, false, false, false, false, false, false, false] rfl rfl (take_ofW HT_.out HW_.out (by kernel_rfl)) (fun _ _ _ h => h) (Or.inl ⟨by rfl, ?_⟩) hHeld ?_ ?_
                rotate_left
                · rintro w' ⟨s0, s1, s2⟩
                  go_simp
                  with_reducible rfl
                rotate_left
                · simp only [Act.put, List.setIfInBounds_toArray, List.set_cons_zero, List.set_cons_succ, i64_w, i32_w]
                  rfl
                refine one_ (i := 1) (N := some 39) #[true, true, true, false, false, false, false, false, false, false] rfl rfl (one_of HT_.out (by kernel_rfl)) (by decide) (fun K hK => ?_)
                refine goes_ Try.func69 (by kernel_rfl) rfl #[.agg #[.int .i64 a0_0, .int .i64 a1, .int .u32 (Go.bits .or .u32 a0_1 ((ji16) % 4294967296))]] (by rfl) rfl rfl (by (try simp only [List.map_toArray, List.map_cons, List.map_nil]); first | done | (simp only [hji16]; rfl) | rfl | (simp only [List.length_drop, List.length_take]; rfl)) ?_
                with_reducible refine (spec_l03Least.calls k1 a0_0 a1 (Go.bits .or .u32 a0_1 ((ji16) % 4294967296)) t510 t511 t512 _ A17.out).mono ?_
                rintro e w38 ⟨rfl, hb⟩
                refine ⟨_, rfl, ?_⟩
                have n0_ := Aside0.mk (Kd.R_below (by (with_reducible repeat (first | apply Kd.R_alloc | apply Kd.R_drewN | apply Kd.R_drew)); exact HO_7.out) hb)
                have n1_ := Aside0.mk (blk_below (g := gb503) (o := .cells #[.int .i64 a0_0, .int .u32 a0_1] 33 (0, 0)) (by (with_reducible repeat (first | refine blk_drewN ?_ _ | refine blk_drew ?_ | refine blk_alloc ?_ _)); exact BK503.out) hb)
                have n2_ := Aside0.mk (blk_below (g := gb509) (o := .cells #[.int .i64 a0_0, .int .i64 a1, .int .u32 (Go.bits .or .u32 a0_1 ((ji16) % 4294967296))] 35 (0, 0)) (by (with_reducible repeat (first | refine blk_drewN ?_ _ | refine blk_drew ?_ | refine blk_alloc ?_ _)); exact BK509.out) hb)
                have n3_ := Aside0.mk (below_step (by repeat (first | (with_reducible first | exact HB.out | apply below_alloc | apply pw_below_drewN | apply below_drew1 | refine below_set ?_ GE503.out | refine below_set ?_ GE509.out) | exact HB.out)) hb)
                clear HO_7
                clear BK503
                clear BK509
                clear HB
                have HO_7 := n0_
                have BK503 := n1_
                have BK509 := n2_
                have HB := n3_
                clear n0_ n1_ n2_ n3_
                (try clear hb)
                (try clear hb2)
                (try clear hk)
                (try clear hi)
                refine hK.out _ _ ⟨(blk_cell BK509.out 0).trans rfl, (blk_cell BK509.out 1).trans rfl, (blk_cell BK509.out 2).trans rfl⟩ (fun hHeld => ?_)
                clear hK K
                refine norm_ (a' := ?_) ?_ ?_
                rotate_left
                · show Act.put _ (some 39) _ = _
                  simp only [Act.put, List.setIfInBounds_toArray, List.set_cons_zero, List.set_cons_succ, i64_w, i32_w]
                  rfl
                refine pure_ (i := 3) (N := some 41) (v := ?_) (a' := ?_) #[true, true, true, true, false, false, false, false, false, false] rfl rfl (any_of HT_.out (by kernel_rfl)) (fun _ _ _ h => h) (Or.inl ⟨by rfl, ?_⟩) ?_ ?_
                rotate_left
                · intro w'
                  go_simp
                  with_reducible rfl
                rotate_left
                · simp only [Act.put, List.setIfInBounds_toArray, List.set_cons_zero, List.set_cons_succ, i64_w, i32_w]
                  rfl
                refine pure_ (i := 4) (N := some 42) (v := ?_) (a' := ?_) #[true, true, true, true, true, false, false, false, false, false] rfl rfl (any_of HT_.out (by kernel_rfl)) (fun _ _ _ h => h) (Or.inl ⟨by rfl, ?_⟩) ?_ ?_
                rotate_left
                · intro w'
                  go_simp
                  with_reducible rfl
                rotate_left
                · simp only [Act.put, List.setIfInBounds_toArray, List.set_cons_zero, List.set_cons_succ, i64_w, i32_w]
                  rfl
                refine pure_ (i := 5) (N := some 43) (v := ?_) (a' := ?_) #[true, true, true, true, true, true, false, false, false, false] rfl rfl (any_of HT_.out (by kernel_rfl)) (fun _ _ _ h => h) (Or.inl ⟨by rfl, ?_⟩) ?_ ?_
                rotate_left
                · intro w'
                  go_simp
                  with_reducible rfl
                rotate_left
                · simp only [Act.put, List.setIfInBounds_toArray, List.set_cons_zero, List.set_cons_succ, i64_w, i32_w]
                  rfl
                refine pure_ (i := 7) (N := some 45) (v := ?_) (a' := ?_) #[true, true, true, true, true, true, false, true, false, false] rfl rfl (any_of HT_.out (by kernel_rfl)) (fun _ _ _ h => h) (Or.inl ⟨by rfl, ?_⟩) ?_ ?_
                rotate_left
                · intro w'
                  go_simp
                  with_reducible rfl
                rotate_left
                · simp only [Act.put, List.setIfInBounds_toArray, List.set_cons_zero, List.set_cons_succ, i64_w, i32_w]
                  rfl
                refine take_ (i := 6) (N := some 44) (v := ?_) (a' := ?_) #[true, true, true, true, true, true, true, true, false, false] rfl rfl (take_ofW HT_.out HW_.out (by kernel_rfl)) (fun _ _ _ h => h) (Or.inl ⟨by rfl, ?_⟩) hHeld ?_ ?_
                rotate_left
                · rintro w' ⟨s0, s1, s2⟩
                  go_simp
                  with_reducible rfl
                rotate_left
                · simp only [Act.put, List.setIfInBounds_toArray, List.set_cons_zero, List.set_cons_succ, i64_w, i32_w]
                  rfl
                refine one_ (i := 8) (N := some 46) #[true, true, true, true, true, true, true, true, true, false] rfl rfl (one_of HT_.out (by kernel_rfl)) (by decide) (fun K hK => ?_)
                refine goes_ Try.func83 (by kernel_rfl) rfl #[.agg #[.int .i64 a1, .int .u32 (Go.bits .or .u32 a0_1 ((ji16) % 4294967296))], .slice A2 l2.length c2] (by rfl) rfl rfl (by (try simp only [List.map_toArray, List.map_cons, List.map_nil]); first | done | (simp only [hji16]; rfl) | rfl | (simp only [List.length_drop, List.length_take]; rfl)) ?_
                with_reducible refine (spec_l01Free.calls k1 a1 (Go.bits .or .u32 a0_1 ((ji16) % 4294967296)) _ _ l2 false _ ?side1 ?side2 A19.out).mono ?_
                (case side1 => repeat (first | exact (Kd.C_below HR2.out HB.out) | (with_reducible refine Kd.C_alloc ?_ _) | (with_reducible refine Kd.C_drewN ?_ _) | (with_reducible refine Kd.C_drew ?_)))
                (case side2 => exact HC2.out)
                rintro e w39 ⟨rfl, hb⟩
                refine ⟨_, rfl, ?_⟩
                have n0_ := Aside0.mk (Kd.R_below (by (with_reducible repeat (first | apply Kd.R_alloc | apply Kd.R_drewN | apply Kd.R_drew)); exact HO_7.out) hb)
                have n1_ := Aside0.mk (blk_below (g := gb503) (o := .cells #[.int .i64 a0_0, .int .u32 a0_1] 33 (0, 0)) (by (with_reducible repeat (first | refine blk_drewN ?_ _ | refine blk_drew ?_ | refine blk_alloc ?_ _)); exact BK503.out) hb)
                have n2_ := Aside0.mk (blk_below (g := gb509) (o := .cells #[.int .i64 a0_0, .int .i64 a1, .int .u32 (Go.bits .or .u32 a0_1 ((ji16) % 4294967296))] 35 (0, 0)) (by (with_reducible repeat (first | refine blk_drewN ?_ _ | refine blk_drew ?_ | refine blk_alloc ?_ _)); exact BK509.out) hb)
                have n3_ := Aside0.mk (below_step (by repeat (first | (with_reducible first | exact HB.out | apply below_alloc | apply pw_below_drewN | apply below_drew1 | refine below_set ?_ GE503.out | refine below_set ?_ GE509.out) | exact HB.out)) hb)
                clear HO_7
                clear BK503
                clear BK509
                clear HB
                have HO_7 := n0_
                have BK503 := n1_
                have BK509 := n2_
                have HB := n3_
                clear n0_ n1_ n2_ n3_
                (try clear hb)
                (try clear hb2)
                (try clear hk)
                (try clear hi)
                refine hK.out _ _ ⟨(blk_cell BK509.out 0).trans rfl, (blk_cell BK509.out 1).trans rfl, (blk_cell BK509.out 2).trans rfl⟩ (fun hHeld => ?_)
                clear hK K
                refine norm_ (a' := ?_) ?_ ?_
                rotate_left
                · show Act.put _ (some 46) _ = _
                  simp only [Act.put, List.setIfInBounds_toArray, List.set_cons_zero, List.set_cons_succ, i64_w, i32_w]
                  rfl
                refine pure_ (i := 9) (N := some 47) (v := ?_) (a' := ?_) #[true, true, true, true, true, true, true, true, true, true] rfl rfl (any_of HT_.out (by kernel_rfl)) (fun _ _ _ h => h) (Or.inl ⟨by rfl, ?_⟩) ?_ ?_
                rotate_left
                · intro w'
                  go_simp
                  with_reducible rfl
                rotate_left
                · simp only [Act.put, List.setIfInBounds_toArray, List.set_cons_zero, List.set_cons_succ, i64_w, i32_w]
                  rfl
                refine done_ (done_of HT_.out (by kernel_rfl)) ?_
                try go_wp2
                go_roundg k1
                case measure => have := HK1.out; omega
                case rel => exact ⟨(x7_1), (wrap64 (x9_1 + 1)), (by first | rfl | (simp; done) | (simp [*]; done)), H', ⟨by have := HK1.out; omega⟩, ⟨by (with_reducible repeat (first | apply Kd.R_alloc | apply Kd.R_drewN | apply Kd.R_drew)); exact Kd.R_mono HO_7.out (fun _ hk => trivial)⟩, ⟨by (with_reducible repeat (first | refine blk_drewN ?_ _ | refine blk_drew ?_ | refine blk_alloc ?_ _)); exact BK503.out⟩, ⟨by repeat (first | (with_reducible first | exact HB.out | apply below_alloc | apply pw_below_drewN | apply below_drew1 | refine below_set ?_ GE503.out | refine below_set ?_ GE509.out) | exact HB.out)⟩⟩
            · rw [if_neg c18] at H
              have c18b0 : (t510 == a0_0 && ((t511 == a1 && (t512 == (Go.bits .or .u32 a0_1 ((ji16) % 4294967296)))))) = false := by simpa using c18
              (try (have c18b1 : decide (t510 = a0_0 && ((t511 == a1 && (t512 == (Go.bits .or .u32 a0_1 ((ji16) % 4294967296)))))) = false := by simpa using c18))
              (try (have c18b2 : (t510 == a0_0 && ((t511 == a1 && (t512 == (Go.bits .or .u32 a0_1 ((ji16) % 4294967296)))))) = false := by simpa using c18))
              (try (have c18b3 : ¬ (t510 = a0_0 && ((t511 == a1 && (t512 == (Go.bits .or .u32 a0_1 ((ji16) % 4294967296)))))) := by simpa using c18))
              clear c18
              have H' := Aside0.mk H
              clear H
              try go_wp2_with (first | ((with_reducible refine gate_callee (f := 82) rfl ?_); refine goesL_ (some 18) rfl rfl Try.func82 (by kernel_rfl) rfl #[.int .i64 a1] rfl (by (try simp only [List.map_toArray, List.map_cons, List.map_nil]); first | done | rfl | (simp only [List.length_drop, List.length_take]; rfl)) ?_; (with_reducible refine (spec_l01Bits.calls a1 t508 _ A9.out).mono ?_); rintro e w' ⟨rfl, ⟨nd, rfl⟩⟩; refine ⟨_, rfl, ?_⟩; (try (rw [drewN_self wr]; generalize hq_ : World.drewN wr _ = wr; have n0_ : Aside0 (Kd.R k35 35 wr w.heap.size (fun _ => True) u7 x7_1) := ⟨by rw [← hq_]; exact (by (with_reducible repeat (first | apply Kd.R_alloc | apply Kd.R_drewN | apply Kd.R_drew)); exact HO_7.out)⟩; have n1_ : Aside0 (wr.heap[gb503]? = some (.cells #[.int .i64 a0_0, .int .u32 a0_1] 33 (0, 0))) := ⟨by rw [← hq_]; exact (by (with_reducible repeat (first | refine blk_drewN ?_ _ | refine blk_drew ?_ | refine blk_alloc ?_ _)); exact BK503.out)⟩; have n2_ : Aside0 (Below w.heap.size w wr) := ⟨by rw [← hq_]; exact (by repeat (first | (with_reducible first | exact HB.out | apply below_alloc | apply pw_below_drewN | apply below_drew1 | refine below_set ?_ GE503.out) | exact HB.out))⟩; clear HO_7 BK503 HB hq_; have HO_7 := n0_; have BK503 := n1_; have HB := n2_; clear n0_ n1_ n2_)); have hcz40_0 : wr.cell? ⟨gb503, 0, none⟩ = some (.int .i64 a0_0) := (blk_cell BK503.out 0).trans rfl; have hcz40_1 : wr.cell? ⟨gb503, 1, none⟩ = some (.int .u32 a0_1) := (blk_cell BK503.out 1).trans rfl; have hfz40_0 := blk_frozen BK503.out 0; have hfz40_1 := blk_frozen BK503.out 1) | ((with_reducible refine gate_dst (N := 10) rfl ?_); refine box_event ?hg (N := 10) ?hd (cs := #[.int .i64 0, .int .i64 0, .int .u32 0]) (t := 35) ?hr ?_; (case hd => rfl); (case hg => rfl); (case hr => first | (go_simp; done) | (go_simp; rfl)); intro gb509 hg w41 hbox hb; have n0_ := Aside0.mk (Kd.R_below (Kd.R_elderB (by (with_reducible repeat (first | apply Kd.R_alloc | apply Kd.R_drewN | apply Kd.R_drew)); exact HO_7.out) gb509 (Nat.le_of_eq hg.symm)) hb); have n1_ := Aside0.mk (blk_below (g := gb503) (o := .cells #[.int .i64 a0_0, .int .u32 a0_1] 33 (0, 0)) (by (with_reducible repeat (first | refine blk_drewN ?_ _ | refine blk_drew ?_ | refine blk_alloc ?_ _)); exact BK503.out) hb); have n2_ := Aside0.mk (below_step (by repeat (first | (with_reducible first | exact HB.out | apply below_alloc | apply pw_below_drewN | apply below_drew1 | refine below_set ?_ GE503.out) | exact HB.out)) hb); have n3_ := Aside0.mk (hbox); have n4_ := Aside0.mk ((by rw [hg]; exact (below_size (by repeat (first | (with_reducible first | exact HB.out | apply below_alloc | apply pw_below_drewN | apply below_drew1 | refine below_set ?_ GE503.out) | exact HB.out))) : w.heap.size ≤ gb509)); have n5_ := Aside0.mk ((by rw [hg]; exact (below_size (by repeat (first | (with_reducible first | exact HB.out | apply below_alloc | apply pw_below_drewN | apply below_drew1 | refine below_set ?_ GE503.out) | exact HB.out))) : w.heap.size ≤ gb509)); have n6_ := Aside0.mk ((by rw [hg]; exact Nat.ne_of_lt (blk_lt (g := gb503) (o := .cells #[.int .i64 a0_0, .int .u32 a0_1] 33 (0, 0)) (by (with_reducible repeat (first | refine blk_drewN ?_ _ | refine blk_drew ?_ | refine blk_alloc ?_ _)); exact BK503.out)) : gb503 ≠ gb509)); have n7_ := Aside0.mk ((by rw [hg]; exact Nat.ne_of_gt (blk_lt (g := gb503) (o := .cells #[.int .i64 a0_0, .int .u32 a0_1] 33 (0, 0)) (by (with_reducible repeat (first | refine blk_drewN ?_ _ | refine blk_drew ?_ | refine blk_alloc ?_ _)); exact BK503.out)) : gb509 ≠ gb503)); clear HO_7; clear BK503; clear HB; have HO_7 := n0_; have BK503 := n1_; have HB := n2_; have BK509 := n3_; have GW509 := n4_; have GE509 := n5_; have NB503_509 := n6_; have NB509_503 := n7_; clear n0_ n1_ n2_ n3_ n4_ n5_ n6_ n7_; clear hb hbox hg; have hnb42 := NB509_503.out; have hnc42 := NB503_509.out; have hcz43_0 : w41.cell? ⟨gb509, 0, none⟩ = some (.int .i64 0) := (blk_cell BK509.out 0).trans rfl; have hcz43_1 : w41.cell? ⟨gb509, 1, none⟩ = some (.int .i64 0) := (blk_cell BK509.out 1).trans rfl; have hcz43_2 : w41.cell? ⟨gb509, 2, none⟩ = some (.int .u32 0) := (blk_cell BK509.out 2).trans rfl; have hfz43_0 := blk_frozen BK509.out 0; have hfz43_1 := blk_frozen BK509.out 1; have hfz43_2 := blk_frozen BK509.out 2))
              have n0_ : Aside0 (Kd.R k35 35 (((w41.setCell ⟨gb509, 0, none⟩ (.int .i64 a0_0)).setCell ⟨gb509, 1, none⟩ (.int .i64 a1)).setCell ⟨gb509, 2, none⟩ (.int .u32 (Go.bits .or .u32 a0_1 ((ji16) % 4294967296)))) w.heap.size (fun k_ => k_ ≠ gb509) u7 x7_1) := ⟨by (with_reducible repeat (first | apply Kd.R_alloc | apply Kd.R_drewN | apply Kd.R_drew)); exact Kd.R_mono (Kd.R_far (p := ⟨gb509, 2, none⟩) (Kd.R_far (p := ⟨gb509, 1, none⟩) (Kd.R_far (p := ⟨gb509, 0, none⟩) (Kd.R_mono HO_7.out (fun k_ hk => (⟨hk, hk.2⟩ : _ ∧ k_ ≠ gb509))) (fun _ hk => hk.2) (.int .i64 a0_0)) (fun _ hk => hk.2) (.int .i64 a1)) (fun _ hk => hk.2) (.int .u32 (Go.bits .or .u32 a0_1 ((ji16) % 4294967296)))) (fun _ hk => hk.1.2)⟩
              have n1_ : Aside0 ((((w41.setCell ⟨gb509, 0, none⟩ (.int .i64 a0_0)).setCell ⟨gb509, 1, none⟩ (.int .i64 a1)).setCell ⟨gb509, 2, none⟩ (.int .u32 (Go.bits .or .u32 a0_1 ((ji16) % 4294967296)))).heap[gb503]? = some (.cells #[.int .i64 a0_0, .int .u32 a0_1] 33 (0, 0))) := ⟨by (with_reducible repeat (first | refine blk_drewN ?_ _ | refine blk_drew ?_ | refine blk_alloc ?_ _)); refine blk_far ?_ NB503_509.out _; (with_reducible repeat (first | refine blk_drewN ?_ _ | refine blk_drew ?_ | refine blk_alloc ?_ _)); refine blk_far ?_ NB503_509.out _; (with_reducible repeat (first | refine blk_drewN ?_ _ | refine blk_drew ?_ | refine blk_alloc ?_ _)); refine blk_far ?_ NB503_509.out _; (with_reducible repeat (first | refine blk_drewN ?_ _ | refine blk_drew ?_ | refine blk_alloc ?_ _)); exact BK503.out⟩
              have n2_ : Aside0 ((((w41.setCell ⟨gb509, 0, none⟩ (.int .i64 a0_0)).setCell ⟨gb509, 1, none⟩ (.int .i64 a1)).setCell ⟨gb509, 2, none⟩ (.int .u32 (Go.bits .or .u32 a0_1 ((ji16) % 4294967296)))).heap[gb509]? = some (.cells #[.int .i64 a0_0, .int .i64 a1, .int .u32 (Go.bits .or .u32 a0_1 ((ji16) % 4294967296))] 35 (0, 0))) := ⟨by (with_reducible repeat (first | refine blk_drewN ?_ _ | refine blk_drew ?_ | refine blk_alloc ?_ _)); refine blk_put (cs := #[.int .i64 a0_0, .int .i64 a1, .int .u32 0]) ?_ 2 _ rfl; (with_reducible repeat (first | refine blk_drewN ?_ _ | refine blk_drew ?_ | refine blk_alloc ?_ _)); refine blk_put (cs := #[.int .i64 a0_0, .int .i64 0, .int .u32 0]) ?_ 1 _ rfl; (with_reducible repeat (first | refine blk_drewN ?_ _ | refine blk_drew ?_ | refine blk_alloc ?_ _)); refine blk_put (cs := #[.int .i64 0, .int .i64 0, .int .u32 0]) ?_ 0 _ rfl; (with_reducible repeat (first | refine blk_drewN ?_ _ | refine blk_drew ?_ | refine blk_alloc ?_ _)); exact BK509.out⟩
              have n3_ : Aside0 (Below w.heap.size w (((w41.setCell ⟨gb509, 0, none⟩ (.int .i64 a0_0)).setCell ⟨gb509, 1, none⟩ (.int .i64 a1)).setCell ⟨gb509, 2, none⟩ (.int .u32 (Go.bits .or .u32 a0_1 ((ji16) % 4294967296))))) := ⟨by repeat (first | (with_reducible first | exact HB.out | apply below_alloc | apply pw_below_drewN | apply below_drew1 | refine below_set ?_ GE503.out | refine below_set ?_ GE509.out) | exact HB.out)⟩
              (try clear HO_7)
              (try clear BK503)
              (try clear BK509)
              (try clear HB)
              generalize (((w41.setCell ⟨gb509, 0, none⟩ (.int .i64 a0_0)).setCell ⟨gb509, 1, none⟩ (.int .i64 a1)).setCell ⟨gb509, 2, none⟩ (.int .u32 (Go.bits .or .u32 a0_1 ((ji16) % 4294967296)))) = w44 at n0_ n1_ n2_ n3_ ⊢
              have HO_7 := n0_
              have BK503 := n1_
              have BK509 := n2_
              have HB := n3_
              clear n0_ n1_ n2_ n3_
              have n0_ := Aside0.mk (Kd.R_drew HO_7.out)
              have n1_ := Aside0.mk (blk_drew BK503.out)
              have n2_ := Aside0.mk (blk_drew BK509.out)
              have n3_ := Aside0.mk (below_drew1 HB.out)
              clear HO_7
              clear BK503
              clear BK509
              clear HB
              have HO_7 := n0_
              have BK503 := n1_
              have BK509 := n2_
              have HB := n3_
              clear n0_ n1_ n2_ n3_
              refine start_ (n := 10) (S := fun w' => w'.cell? ⟨gb509, 0, none⟩ = some (.int .i64 a0_0) ∧ w'.cell? ⟨gb509, 1, none⟩ = some (.int .i64 a1) ∧ w'.cell? ⟨gb509, 2, none⟩ = some (.int .u32 (Go.bits .or .u32 a0_1 ((ji16) % 4294967296)))) (ds := []) #[false, false, false, false, false, false, false, false, false, false] (by kernel_rfl) rfl rfl ⟨(blk_cell BK509.out 0).trans rfl, (blk_cell BK509.out 1).trans rfl, (blk_cell BK509.out 2).trans rfl⟩ (fun hHeld => ?_); refine with_tabW spec_l03All.tab7 spec_l03All.bits7 (fun HT_ HW_ => ?_)
              generalize w44.drew = w45 at HO_7 BK503 BK509 HB hHeld ⊢
              refine take_ (i := 0) (N := some 38) (v := ?_) (a' := ?_) #[true, false, false, false, false, false, false, false, false, false] rfl rfl (take_ofW HT_.out HW_.out (by kernel_rfl)) (fun _ _ _ h => h) (Or.inl ⟨by rfl, ?_⟩) hHeld ?_ ?_
              rotate_left
              · rintro w' ⟨s0, s1, s2⟩
                go_simp
                with_reducible rfl
              rotate_left
              · simp only [Act.put, List.setIfInBounds_toArray, List.set_cons_zero, List.set_cons_succ, i64_w, i32_w]
                rfl
              refine take_ (i := 2) (N := some 40) (v := ?_) (a' := ?_) #[true, false, true, false, false, false, false, false, false, false] rfl rfl (take_ofW HT_.out HW_.out (by kernel_rfl)) (fun _ _ _ h => h) (Or.inl ⟨by rfl, ?_⟩) hHeld ?_ ?_
              rotate_left
              · rintro w' ⟨s0, s1, s2⟩
                go_simp
                with_reducible rfl
              rotate_left
              · simp only [Act.put, List.setIfInBounds_toArray, List.set_cons_zero, List.set_cons_succ, i64_w, i32_w]
                rfl
              refine one_ (i := 1) (N := some 39) #[true, true, true, false, false, false, false, false, false, false] rfl rfl (one_of HT_.out (by kernel_rfl)) (by decide) (fun K hK => ?_)
              refine goes_ Try.func69 (by kernel_rfl) rfl #[.agg #[.int .i64 a0_0, .int .i64 a1, .int .u32 (Go.bits .or .u32 a0_1 ((ji16) % 4294967296))]] (by rfl) rfl rfl (by (try simp only [List.map_toArray, List.map_cons, List.map_nil]); first | done | (simp only [hji16]; rfl) | rfl | (simp only [List.length_drop, List.length_take]; rfl)) ?_
              with_reducible refine (spec_l03Least.calls k1 a0_0 a1 (Go.bits .or .u32 a0_1 ((ji16) % 4294967296)) t510 t511 t512 _ A17.out).mono ?_
              rintro e w46 ⟨rfl, hb⟩
              refine ⟨_, rfl, ?_⟩
              have n0_ := Aside0.mk (Kd.R_below (by (with_reducible repeat (first | apply Kd.R_alloc | apply Kd.R_drewN | apply Kd.R_drew)); exact HO_7.out) hb)
              have n1_ := Aside0.mk (blk_below (g := gb503) (o := .cells #[.int .i64 a0_0, .int .u32 a0_1] 33 (0, 0)) (by (with_reducible repeat (first | refine blk_drewN ?_ _ | refine blk_drew ?_ | refine blk_alloc ?_ _)); exact BK503.out) hb)
              have n2_ := Aside0.mk (blk_below (g := gb509) (o := .cells #[.int .i64 a0_0, .int .i64 a1, .int .u32 (Go.bits .or .u32 a0_1 ((ji16) % 4294967296))] 35 (0, 0)) (by (with_reducible repeat (first | refine blk_drewN ?_ _ | refine blk_drew ?_ | refine blk_alloc ?_ _)); exact BK509.out) hb)
              have n3_ := Aside0.mk (below_step (by repeat (first | (with_reducible first | exact HB.out | apply below_alloc | apply pw_below_drewN | apply below_drew1 | refine below_set ?_ GE503.out | refine below_set ?_ GE509.out) | exact HB.out)) hb)
              clear HO_7
              clear BK503
              clear BK509
              clear HB
              have HO_7 := n0_
              have BK503 := n1_
              have BK509 := n2_
              have HB := n3_
              clear n0_ n1_ n2_ n3_
              (try clear hb)
              (try clear hb2)
              (try clear hk)
              (try clear hi)
              refine hK.out _ _ ⟨(blk_cell BK509.out 0).trans rfl, (blk_cell BK509.out 1).trans rfl, (blk_cell BK509.out 2).trans rfl⟩ (fun hHeld => ?_)
              clear hK K
              refine norm_ (a' := ?_) ?_ ?_
              rotate_left
              · show Act.put _ (some 39) _ = _
                simp only [Act.put, List.setIfInBounds_toArray, List.set_cons_zero, List.set_cons_succ, i64_w, i32_w]
                rfl
              refine pure_ (i := 3) (N := some 41) (v := ?_) (a' := ?_) #[true, true, true, true, false, false, false, false, false, false] rfl rfl (any_of HT_.out (by kernel_rfl)) (fun _ _ _ h => h) (Or.inl ⟨by rfl, ?_⟩) ?_ ?_
              rotate_left
              · intro w'
                go_simp
                with_reducible rfl
              rotate_left
              · simp only [Act.put, List.setIfInBounds_toArray, List.set_cons_zero, List.set_cons_succ, i64_w, i32_w]
                rfl
              refine pure_ (i := 4) (N := some 42) (v := ?_) (a' := ?_) #[true, true, true, true, true, false, false, false, false, false] rfl rfl (any_of HT_.out (by kernel_rfl)) (fun _ _ _ h => h) (Or.inl ⟨by rfl, ?_⟩) ?_ ?_
              rotate_left
              · intro w'
                go_simp
                with_reducible rfl
              rotate_left
              · simp only [Act.put, List.setIfInBounds_toArray, List.set_cons_zero, List.set_cons_succ, i64_w, i32_w]
                rfl
              refine pure_ (i := 5) (N := some 43) (v := undef) (a' := ?_) #[true, true, true, true, true, true, false, false, false, false] rfl rfl (any_of HT_.out (by kernel_rfl)) (fun _ _ _ h => h) (Or.inr ⟨by rfl, rfl⟩) ?_ ?_
              rotate_left
              · simp only [Act.put, List.setIfInBounds_toArray, List.set_cons_zero, List.set_cons_succ, i64_w, i32_w]
                rfl
              refine pure_ (i := 6) (N := some 44) (v := undef) (a' := ?_) #[true, true, true, true, true, true, true, false, false, false] rfl rfl (any_of HT_.out (by kernel_rfl)) (fun _ _ _ h => h) (Or.inr ⟨by rfl, rfl⟩) ?_ ?_
              rotate_left
              · simp only [Act.put, List.setIfInBounds_toArray, List.set_cons_zero, List.set_cons_succ, i64_w, i32_w]
                rfl
              refine pure_ (i := 7) (N := some 45) (v := undef) (a' := ?_) #[true, true, true, true, true, true, true, true, false, false] rfl rfl (any_of HT_.out (by kernel_rfl)) (fun _ _ _ h => h) (Or.inr ⟨by rfl, rfl⟩) ?_ ?_
              rotate_left
              · simp only [Act.put, List.setIfInBounds_toArray, List.set_cons_zero, List.set_cons_succ, i64_w, i32_w]
                rfl
              refine pure_ (i := 8) (N := some 46) (v := undef) (a' := ?_) #[true, true, true, true, true, true, true, true, true, false] rfl rfl (any_of HT_.out (by kernel_rfl)) (fun _ _ _ h => h) (Or.inr ⟨by rfl, rfl⟩) ?_ ?_
              rotate_left
              · simp only [Act.put, List.setIfInBounds_toArray, List.set_cons_zero, List.set_cons_succ, i64_w, i32_w]
                rfl
              refine pure_ (i := 9) (N := some 47) (v := ?_) (a' := ?_) #[true, true, true, true, true, true, true, true, true, true] rfl rfl (any_of HT_.out (by kernel_rfl)) (fun _ _ _ h => h) (Or.inl ⟨by rfl, ?_⟩) ?_ ?_
              rotate_left
              · intro w'
                go_simp
                with_reducible rfl
              rotate_left
              · simp only [Act.put, List.setIfInBounds_toArray, List.set_cons_zero, List.set_cons_succ, i64_w, i32_w]
                rfl
              refine done_ (done_of HT_.out (by kernel_rfl)) ?_
              try go_wp2
              go_roundg k1
              case measure => have := HK1.out; omega
              case rel => exact ⟨(x7_1), (wrap64 (x9_1 + 1)), (by first | rfl | (simp; done) | (simp [*]; done)), H', ⟨by have := HK1.out; omega⟩, ⟨by (with_reducible repeat (first | apply Kd.R_alloc | apply Kd.R_drewN | apply Kd.R_drew)); exact Kd.R_mono HO_7.out (fun _ hk => trivial)⟩, ⟨by (with_reducible repeat (first | refine blk_drewN ?_ _ | refine blk_drew ?_ | refine blk_alloc ?_ _)); exact BK503.out⟩, ⟨by repeat (first | (with_reducible first | exact HB.out | apply below_alloc | apply pw_below_drewN | apply below_drew1 | refine below_set ?_ GE503.out | refine below_set ?_ GE509.out) | exact HB.out)⟩⟩
          · rw [if_neg c15] at H
            exact absurd H (by simp)
        · rw [if_neg c13] at H
          have c13b0 : decide (x9_1 < (ji12)) = false := decide_eq_false c13
          clear c13
          obtain rfl := Option.some.inj H
          go_wp2_with (first | ((with_reducible refine gate_callee (f := 82) rfl ?_); refine goesL_ (some 18) rfl rfl Try.func82 (by kernel_rfl) rfl #[.int .i64 a1] rfl (by (try simp only [List.map_toArray, List.map_cons, List.map_nil]); first | done | rfl | (simp only [List.length_drop, List.length_take]; rfl)) ?_; (with_reducible refine (spec_l01Bits.calls a1 t508 _ A9.out).mono ?_); rintro e w' ⟨rfl, ⟨nd, rfl⟩⟩; refine ⟨_, rfl, ?_⟩))
          go_ret
          exact ⟨_, by first | rfl | (simp [errW_none, errW_some] <;> rfl) | (simp only [← hji10, ← hji12]; first | rfl | (simp [errW_none, errW_some] <;> rfl)) | (simp [*, errW_none, errW_some] <;> rfl), by (with_reducible repeat (first | apply Kd.R_alloc | apply Kd.R_drewN | apply Kd.R_drew)); exact HO_7.out, by repeat (first | (with_reducible first | exact HB.out | apply below_alloc | apply pw_below_drewN | apply below_drew1 | refine below_set ?_ GE503.out) | exact HB.out)⟩
      · rw [if_neg c11] at H
        exact absurd H (by simp)

end Go.Proofs.Ytjemkdpffjneaaa.Q
end
