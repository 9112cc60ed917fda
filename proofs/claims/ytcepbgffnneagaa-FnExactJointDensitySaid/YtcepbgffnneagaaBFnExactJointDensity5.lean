/- Contracts of Go functions and plain lemmas over what they compute; printed by the kit's print program or written by hand, joined. -/
import Derived.Test.YtcepbgffnneagaaBFnExactJointDensity3
import Derived.Test.YtcepbgffnneagaaBFnExactJointDensity4
section
namespace Go.Proofs.Ytcepbgffnneagaa.Q
open Go.RowKit Go.Proofs.YtcepbgffnneagaaW.PrintWords Go.Proofs.YtcepbgffnneagaaW.PrintLast Go.Proofs.YtcepbgffnneagaaW.PrintMore
attribute [local go_sem] max2_int min2_int max_two min_two max_three min_three max_four min_four
set_option linter.unusedVariables false
set_option linter.unusedSimpArgs false
section
mutual
def spec_l01Next.l0 : Nat → List Int → Int → Int → Int → Option (Bool × List Int)
 | 0, _, _, _, _ => none
 | k + 1, x0, x1, x5, x6 => if x6 ≥ 0 then (if 0 ≤ x6 then (if x6 < (x0.length : Int) then (spec_l01Next.l1 k x0 x1 x5 x6 (wrap64 ((rd x0 x6) + 1))) else (none)) else (none)) else (some (false, x0))
def spec_l01Next.l1 : Nat → List Int → Int → Int → Int → Int → Option (Bool × List Int)
 | 0, _, _, _, _, _ => none
 | k + 1, x0, x1, x5, x6, x7 => if x7 < x1 then (if 0 ≤ x6 then (if x6 ≤ (x0.length : Int) then ((spec_l01Among.f k (x0.take (x6 : Int).toNat) x7).bind fun t127 => (if t127 = true then (spec_l01Next.l1 k x0 x1 x5 x6 (wrap64 (x7 + 1))) else (if x6 < (x0.length : Int) then (spec_l01Next.l2 k (x0.set (x6 : Int).toNat x7) x5 (wrap64 (x6 + 1))) else (none)))) else (none)) else (none)) else (spec_l01Next.l0 k x0 x1 x5 (wrap64 (x6 - 1)))
def spec_l01Next.l2 : Nat → List Int → Int → Int → Option (Bool × List Int)
 | 0, _, _, _ => none
 | k + 1, x0, x5, x8 => if x8 < x5 then (spec_l01Next.l3 k x0 x5 x8 0) else (some (true, x0))
def spec_l01Next.l3 : Nat → List Int → Int → Int → Int → Option (Bool × List Int)
 | 0, _, _, _, _ => none
 | k + 1, x0, x5, x8, x9 => if 0 ≤ x8 then (if x8 ≤ (x0.length : Int) then ((spec_l01Among.f k (x0.take (x8 : Int).toNat) x9).bind fun t133 => (if t133 = true then (spec_l01Next.l3 k x0 x5 x8 (wrap64 (x9 + 1))) else (if x8 < (x0.length : Int) then (spec_l01Next.l2 k (x0.set (x8 : Int).toNat x9) x5 (wrap64 (x8 + 1))) else (none)))) else (none)) else (none)
end
def spec_l01Next.f (k : Nat) (l0 : List Int) (a1 : Int) : Option (Bool × List Int) := spec_l01Next.l0 k l0 a1 (l0.length : Int) (wrap64 ((l0.length : Int) - 1))
theorem spec_l01Next.mono_l : ∀ k, (∀ y0 y1 y2 y3, LeO (spec_l01Next.l0 k y0 y1 y2 y3) (spec_l01Next.l0 (k + 1) y0 y1 y2 y3)) ∧ (∀ y0 y1 y2 y3 y4, LeO (spec_l01Next.l1 k y0 y1 y2 y3 y4) (spec_l01Next.l1 (k + 1) y0 y1 y2 y3 y4)) ∧ (∀ y0 y1 y2, LeO (spec_l01Next.l2 k y0 y1 y2) (spec_l01Next.l2 (k + 1) y0 y1 y2)) ∧ (∀ y0 y1 y2 y3, LeO (spec_l01Next.l3 k y0 y1 y2 y3) (spec_l01Next.l3 (k + 1) y0 y1 y2 y3))
 | 0 => ⟨fun _ _ _ _ r h => by simp [spec_l01Next.l0] at h, fun _ _ _ _ _ r h => by simp [spec_l01Next.l1] at h, fun _ _ _ r h => by simp [spec_l01Next.l2] at h, fun _ _ _ _ r h => by simp [spec_l01Next.l3] at h⟩
 | k + 1 => by
  obtain ⟨ih0, ih1, ih2, ih3⟩ := spec_l01Next.mono_l k
  refine ⟨?_, ?_, ?_, ?_⟩
  ·intro y0 y1 y2 y3
   unfold spec_l01Next.l0
   repeat' first
   | (with_reducible exact ih0 _ _ _ _)
   | (with_reducible exact ih1 _ _ _ _ _)
   | (with_reducible exact ih2 _ _ _)
   | (with_reducible exact ih3 _ _ _ _)
   | (with_reducible exact spec_l01Among.mono _ _ _)
   | (with_reducible exact LeO.refl _)
   | (with_reducible exact LeO.none _)
   | (with_reducible refine LeO.ite ?_ ?_)
   | (with_reducible refine LeO.bind ?_ (fun _ => ?_))
   | exact ih0 _ _ _ _
   | exact ih1 _ _ _ _ _
   | exact ih2 _ _ _
   | exact ih3 _ _ _ _
   | exact spec_l01Among.mono _ _ _
   | exact LeO.none _
   | refine LeO.ite ?_ ?_
   | refine LeO.bind ?_ (fun _ => ?_)
  ·intro y0 y1 y2 y3 y4
   unfold spec_l01Next.l1
   repeat' first
   | (with_reducible exact ih0 _ _ _ _)
   | (with_reducible exact ih1 _ _ _ _ _)
   | (with_reducible exact ih2 _ _ _)
   | (with_reducible exact ih3 _ _ _ _)
   | (with_reducible exact spec_l01Among.mono _ _ _)
   | (with_reducible exact LeO.refl _)
   | (with_reducible exact LeO.none _)
   | (with_reducible refine LeO.ite ?_ ?_)
   | (with_reducible refine LeO.bind ?_ (fun _ => ?_))
   | exact ih0 _ _ _ _
   | exact ih1 _ _ _ _ _
   | exact ih2 _ _ _
   | exact ih3 _ _ _ _
   | exact spec_l01Among.mono _ _ _
   | exact LeO.none _
   | refine LeO.ite ?_ ?_
   | refine LeO.bind ?_ (fun _ => ?_)
  ·intro y0 y1 y2
   unfold spec_l01Next.l2
   repeat' first
   | (with_reducible exact ih0 _ _ _ _)
   | (with_reducible exact ih1 _ _ _ _ _)
   | (with_reducible exact ih2 _ _ _)
   | (with_reducible exact ih3 _ _ _ _)
   | (with_reducible exact spec_l01Among.mono _ _ _)
   | (with_reducible exact LeO.refl _)
   | (with_reducible exact LeO.none _)
   | (with_reducible refine LeO.ite ?_ ?_)
   | (with_reducible refine LeO.bind ?_ (fun _ => ?_))
   | exact ih0 _ _ _ _
   | exact ih1 _ _ _ _ _
   | exact ih2 _ _ _
   | exact ih3 _ _ _ _
   | exact spec_l01Among.mono _ _ _
   | exact LeO.none _
   | refine LeO.ite ?_ ?_
   | refine LeO.bind ?_ (fun _ => ?_)
  ·intro y0 y1 y2 y3
   unfold spec_l01Next.l3
   repeat' first
   | (with_reducible exact ih0 _ _ _ _)
   | (with_reducible exact ih1 _ _ _ _ _)
   | (with_reducible exact ih2 _ _ _)
   | (with_reducible exact ih3 _ _ _ _)
   | (with_reducible exact spec_l01Among.mono _ _ _)
   | (with_reducible exact LeO.refl _)
   | (with_reducible exact LeO.none _)
   | (with_reducible refine LeO.ite ?_ ?_)
   | (with_reducible refine LeO.bind ?_ (fun _ => ?_))
   | exact ih0 _ _ _ _
   | exact ih1 _ _ _ _ _
   | exact ih2 _ _ _
   | exact ih3 _ _ _ _
   | exact spec_l01Among.mono _ _ _
   | exact LeO.none _
   | refine LeO.ite ?_ ?_
   | refine LeO.bind ?_ (fun _ => ?_)
theorem spec_l01Next.mono : ∀ a0 a1 k, LeO (spec_l01Next.f k a0 a1) (spec_l01Next.f (k + 1) a0 a1) := by
 intro a0 a1 k
 obtain ⟨ih0, ih1, ih2, ih3⟩ := spec_l01Next.mono_l k
 unfold spec_l01Next.f
 repeat' first
   | (with_reducible exact ih0 _ _ _ _)
   | (with_reducible exact ih1 _ _ _ _ _)
   | (with_reducible exact ih2 _ _ _)
   | (with_reducible exact ih3 _ _ _ _)
   | (with_reducible exact spec_l01Among.mono _ _ _)
   | (with_reducible exact LeO.refl _)
   | (with_reducible exact LeO.none _)
   | (with_reducible refine LeO.ite ?_ ?_)
   | (with_reducible refine LeO.bind ?_ (fun _ => ?_))
   | exact ih0 _ _ _ _
   | exact ih1 _ _ _ _ _
   | exact ih2 _ _ _
   | exact ih3 _ _ _ _
   | exact spec_l01Among.mono _ _ _
   | exact LeO.none _
   | refine LeO.ite ?_ ?_
   | refine LeO.bind ?_ (fun _ => ?_)
set_option maxHeartbeats 8000000 in
set_option maxRecDepth 100000 in
theorem spec_l01Next.calls (k : Nat) (P0_ : Nat → Prop) (u9000_ : Value) (l0 : List Int) (a1 : Int) (r1 : Bool) (r2 : List Int) (w0 w : World) (hB : Below w0.heap.size w0 w) (ho0 : Kd.R (Kd.int .i64) 2 w w0.heap.size P0_ u9000_ l0) (h : spec_l01Next.f k l0 a1 = some (r1, r2)) :
  Calls Try.prog 94 #[u9000_, .int .i64 a1] w fun e w' => e = .returned (.bool r1) ∧ Kd.R (Kd.int .i64) 2 w' w0.heap.size (fun k_ => (P0_ k_ ∨ w.heap.size ≤ k_)) u9000_ r2 ∧ Below w0.heap.size w0 w' ∧ Kept w w' (fun k_ => P0_ k_) := by
 have HO0 := Aside0.mk (show Kd.R (Kd.int .i64) 2 w w0.heap.size (fun k_ => (P0_ k_ ∨ w.heap.size ≤ k_)) u9000_ l0 from Kd.R_mono ho0 (fun k_ hk => (.inl hk)))
 have HK := Aside0.mk (Kept.refl w (fun k_ => P0_ k_))
 have HW0 := Aside0.mk hB.size
 have HB := Aside0.mk hB
 clear hB
 unfold spec_l01Next.f at h
 have H := h
 clear h
 have H' := Aside0.mk H
 clear H
 obtain ⟨Ao3, co3, eo3⟩ := Kd.R_slice HO0.out
 subst eo3
 go_enter Try.func94, Try.ntmps94
 go_wp2
 go_loopg [6] k (fun kq v6 w' => ∃ (x0_1 : List Int) (x6_1 : Int), v6 = .int .i64 x6_1 ∧ Aside0 (spec_l01Next.l0 kq x0_1 a1 (l0.length : Int) x6_1 = some (r1, r2)) ∧ Aside0 (kq ≤ k) ∧ Aside0 (Kd.R (Kd.int .i64) 2 w' w0.heap.size (fun k_ => (P0_ k_ ∨ w.heap.size ≤ k_)) (.slice Ao3 l0.length co3) x0_1) ∧ Aside0 (Kept w w' (fun k_ => P0_ k_)) ∧ Aside0 (Below w0.heap.size w0 w'))
 case atStart => exact ⟨(l0), (wrap64 ((l0.length : Int) - 1)), (by first | rfl | (simp; done) | (simp [*]; done)), H', ⟨Nat.le_refl _⟩, ⟨by (with_reducible repeat (first | apply Kd.R_alloc | apply Kd.R_drewN | apply Kd.R_drew)); exact HO0.out⟩, ⟨by repeat (first | (with_reducible first | exact HK.out | apply Kept.alloc | apply Kept.drewN | apply Kept.drew) | exact HK.out)⟩, ⟨by repeat (first | (with_reducible first | exact HB.out | apply below_alloc | apply pw_below_drewN | apply below_drew1) | exact HB.out)⟩⟩
 case round =>
  clear H'
  try clear p2
  obtain ⟨x0_1, x6_1, rfl, HA, HK1, HO_0, HK, HB⟩ := hrel
  have hl0_1 := (Kd.R_reads' HO_0.out).1
  rw [hl0_1] at HO_0
  (try simp only [hl0_1])
  cases gk with
  | zero => exact absurd HA.out (by simp [spec_l01Next.l0])
  | succ k1 =>
   have H := HA.out
   clear HA
   simp only [spec_l01Next.l0] at H
   by_cases c4 : x6_1 ≥ 0
   ·rw [if_pos c4] at H
    have c4b0 : decide (0 ≤ x6_1) = true := decide_eq_true c4
    clear c4
    by_cases c5 : 0 ≤ x6_1
    ·rw [if_pos c5] at H
     have c5b0 : decide (0 ≤ x6_1) = true := decide_eq_true c5
     clear c5
     by_cases c6 : x6_1 < (x0_1.length : Int)
     ·rw [if_pos c6] at H
      have c6b0 : decide (x6_1 < (x0_1.length : Int)) = true := decide_eq_true c6
      clear c6
      have H' := Aside0.mk H
      clear H
      have p122 : 0 ≤ (x6_1 : Int) := of_decide_eq_true (by first | (with_reducible assumption) | assumption)
      have q122 : x6_1 < (x0_1.length : Int) := of_decide_eq_true (by first | (with_reducible assumption) | assumption)
      obtain ⟨ad122, e122, hx122_0⟩ := Kd.at_int (Kd.R_reads' HO_0.out).2.2 x6_1 p122 q122
      cases e122
      replace p122 := eq_true p122
      replace q122 := eq_true q122
      go_wp2
      go_loopg [7] k1 (fun kq v7 w' => ∃ (x0_2 : List Int) (x7_2 : Int), v7 = .int .i64 x7_2 ∧ Aside0 (spec_l01Next.l1 kq x0_2 a1 (l0.length : Int) x6_1 x7_2 = some (r1, r2)) ∧ Aside0 (kq ≤ k1) ∧ Aside0 (Kd.R (Kd.int .i64) 2 w' w0.heap.size (fun k_ => (P0_ k_ ∨ w.heap.size ≤ k_)) (.slice (some ad122) x0_1.length co3) x0_2) ∧ Aside0 (Kept w w' (fun k_ => P0_ k_)) ∧ Aside0 (Below w0.heap.size w0 w'))
      case atStart => exact ⟨(x0_1), (wrap64 ((rd x0_1 x6_1) + 1)), (by first | rfl | (simp; done) | (simp [*]; done)), H', ⟨Nat.le_refl _⟩, ⟨by (try simp only [hl0_1]); (with_reducible repeat (first | apply Kd.R_alloc | apply Kd.R_drewN | apply Kd.R_drew)); exact HO_0.out⟩, ⟨by repeat (first | (with_reducible first | exact HK.out | apply Kept.alloc | apply Kept.drewN | apply Kept.drew) | exact HK.out)⟩, ⟨by repeat (first | (with_reducible first | exact HB.out | apply below_alloc | apply pw_below_drewN | apply below_drew1) | exact HB.out)⟩⟩
      case round =>
       clear H'
       try clear p1
       try clear q1
       try clear hx1
       try clear p2
       try clear c4
       try clear c4b0
       try clear c5
       try clear c5b0
       try clear c6
       try clear c6b0
       try clear p6
       try clear hx122_0
       try clear p122
       try clear p2
       try clear q122
       obtain ⟨x0_2, x7_2, rfl, HA, HK2, HO_0, HK, HB⟩ := hrel
       have hl0_2 := (Kd.R_reads' HO_0.out).1
       rw [hl0_2] at HO_0
       (try simp only [hl0_2])
       cases gk with
       | zero => exact absurd HA.out (by simp [spec_l01Next.l1])
       | succ k2 =>
        have H := HA.out
        clear HA
        simp only [spec_l01Next.l1] at H
        by_cases c7 : x7_2 < a1
        ·rw [if_pos c7] at H
         have c7b0 : decide (x7_2 < a1) = true := decide_eq_true c7
         clear c7
         by_cases c8 : 0 ≤ x6_1
         ·rw [if_pos c8] at H
          have c8b0 := eq_true c8
          have c8b1 : decide (0 ≤ x6_1) = true := decide_eq_true c8
          clear c8
          by_cases c9 : x6_1 ≤ (x0_2.length : Int)
          ·rw [if_pos c9] at H
           have c9b0 := eq_true c9
           have c9b1 : decide (x6_1 ≤ (x0_2.length : Int)) = true := decide_eq_true c9
           clear c9
           obtain ⟨y123, hy123⟩ : ∃ y_ : List Int, y_ = (x0_2.take (x6_1 : Int).toNat) := ⟨_, rfl⟩
           replace H : ((spec_l01Among.f k2 y123 x7_2).bind fun t127 => (if t127 = true then (spec_l01Next.l1 k2 x0_2 a1 (l0.length : Int) x6_1 (wrap64 (x7_2 + 1))) else (if x6_1 < (x0_2.length : Int) then (spec_l01Next.l2 k2 (x0_2.set (x6_1 : Int).toNat x7_2) (l0.length : Int) (wrap64 (x6_1 + 1))) else (none)))) = some (r1, r2) := by first | (rw [hy123]; with_reducible exact H) | (have H2_ := (Option.bind_some _ _).symm.trans H; rw [hy123]; with_reducible exact H2_) | (have H2_ := (Option.bind_some _ _).symm.trans H; with_reducible exact H2_) | with_reducible exact H | (rw [hy123]; exact H) | exact H
           have Ny123 := Aside0.mk hy123
           clear hy123
           replace H := Option.bind_eq_some_iff.mp H
           obtain ⟨t127, A100, H⟩ := H
           (try dsimp only at H)
           have A10 := Aside0.mk A100
           clear A100
           by_cases c11 : t127 = true
           ·subst c11
            rw [if_pos rfl] at H
            have H' := Aside0.mk H
            clear H
            have q12 : (x6_1 : Int) ≤ ((x0_2.length : Int) : Int) := of_decide_eq_true (by first | (with_reducible assumption) | assumption)
            obtain ⟨i012, hi012, _, hsz12, _⟩ := info_parts info2
            have hroom12 : x0_2.length ≤ co3 := (Kd.R_reads' HO_0.out).2.1
            have hC12 : Kd.C (Kd.int .i64) _ (some ad122) x0_2.length x0_2 := (Kd.R_reads' HO_0.out).2.2
            have hcut12 := cut_to (P := Try.prog) 62 2 .i64 Try.underlying62 hi012 (some ad122) x0_2.length co3 x6_1 (of_decide_eq_true (by first | (with_reducible assumption) | assumption)) q12 hroom12
            have hr12 := Kd.C_take (m := (x6_1 : Int).toNat) hC12 (by omega)
            have hy12 : y123.length = (x6_1 : Int).toNat := (by rw [Ny123.out, List.length_take]; omega)
            rw [← Ny123.out] at hr12
            rw [← hy12] at hcut12
            have HR126 := Aside0.mk hr12
            have HC126 := Aside0.mk (show y123.length ≤ co3 from by omega)
            clear hr12 hC12 hroom12 hi012 hsz12
            have KY12 := Aside0.mk hy12
            clear hy12
            have KL12 := Aside0.mk (show (x6_1 : Int).toNat ≤ x0_2.length from by omega)
            replace q12 := eq_true q12
            go_wp2_with (first | ((with_reducible refine gate_callee (f := 150) rfl ?_); refine goesL_ (some 32) rfl rfl Try.func150 (by kernel_rfl) rfl #[.slice (some ad122) y123.length co3, .int .i64 x7_2] rfl (by (try simp only [maA, mbA, mcA]); first | done | rfl | (simp only [List.length_drop, List.length_take]; rfl)) ?_; (with_reducible refine (spec_l01Among.calls k2 _ _ y123 x7_2 true _ ?side1 ?side2 A10.out).mono ?_); (case side1 => repeat (first | exact (by repeat (first | (with_reducible exact HR126.out) | (with_reducible refine Kd.C_alloc ?_ _) | (with_reducible refine Kd.C_drewN ?_ _) | (with_reducible refine Kd.C_drew ?_) | exact HR126.out)) | (with_reducible refine Kd.C_alloc ?_ _) | (with_reducible refine Kd.C_drewN ?_ _) | (with_reducible refine Kd.C_drew ?_))); (case side2 => exact HC126.out); rintro e w' ⟨rfl, ⟨nd, rfl⟩⟩; refine ⟨_, rfl, ?_⟩))
            (try simp only [← hl0_2])
            go_roundg k2
            case measure => have := HK1.out; have := HK2.out; omega
            case rel => exact ⟨(x0_2), (wrap64 (x7_2 + 1)), (by first | rfl | (simp; done) | (simp [*]; done)), H', ⟨by have := HK1.out; have := HK2.out; omega⟩, ⟨by (try simp only [hl0_1]); (try simp only [hl0_2]); (with_reducible repeat (first | apply Kd.R_alloc | apply Kd.R_drewN | apply Kd.R_drew)); exact HO_0.out⟩, ⟨by repeat (first | (with_reducible first | exact HK.out | apply Kept.alloc | apply Kept.drewN | apply Kept.drew) | exact HK.out)⟩, ⟨by repeat (first | (with_reducible first | exact HB.out | apply below_alloc | apply pw_below_drewN | apply below_drew1) | exact HB.out)⟩⟩
           ·replace c11 := Bool.eq_false_iff.mpr c11
            subst c11
            rw [if_neg (show ¬ (false = true) by decide)] at H
            by_cases c13 : x6_1 < (x0_2.length : Int)
            ·rw [if_pos c13] at H
             have c13b0 : decide (x6_1 < (x0_2.length : Int)) = true := decide_eq_true c13
             clear c13
             obtain ⟨y128, hy128⟩ : ∃ y_ : List Int, y_ = (x0_2.set (x6_1 : Int).toNat x7_2) := ⟨_, rfl⟩
             replace H : (spec_l01Next.l2 k2 y128 (l0.length : Int) (wrap64 (x6_1 + 1))) = some (r1, r2) := by first | (rw [hy128]; with_reducible exact H) | (have H2_ := (Option.bind_some _ _).symm.trans H; rw [hy128]; with_reducible exact H2_) | (have H2_ := (Option.bind_some _ _).symm.trans H; with_reducible exact H2_) | with_reducible exact H | (rw [hy128]; exact H) | exact H
             have Ny128 := Aside0.mk hy128
             clear hy128
             have H' := Aside0.mk H
             clear H
             have q15 : (x6_1 : Int) ≤ ((x0_2.length : Int) : Int) := of_decide_eq_true (by first | (with_reducible assumption) | assumption)
             obtain ⟨i015, hi015, _, hsz15, _⟩ := info_parts info2
             have hroom15 : x0_2.length ≤ co3 := (Kd.R_reads' HO_0.out).2.1
             have hC15 : Kd.C (Kd.int .i64) _ (some ad122) x0_2.length x0_2 := (Kd.R_reads' HO_0.out).2.2
             have hcut15 := cut_to (P := Try.prog) 62 2 .i64 Try.underlying62 hi015 (some ad122) x0_2.length co3 x6_1 (of_decide_eq_true (by first | (with_reducible assumption) | assumption)) q15 hroom15
             have hr15 := Kd.C_take (m := (x6_1 : Int).toNat) hC15 (by omega)
             have hy15 : y123.length = (x6_1 : Int).toNat := (by rw [Ny123.out, List.length_take]; omega)
             rw [← Ny123.out] at hr15
             rw [← hy15] at hcut15
             have HR126 := Aside0.mk hr15
             have HC126 := Aside0.mk (show y123.length ≤ co3 from by omega)
             clear hr15 hC15 hroom15 hi015 hsz15
             have KY15 := Aside0.mk hy15
             clear hy15
             have KL15 := Aside0.mk (show (x6_1 : Int).toNat ≤ x0_2.length from by omega)
             replace q15 := eq_true q15
             go_wp2_with (first | ((with_reducible refine gate_callee (f := 150) rfl ?_); refine goesL_ (some 32) rfl rfl Try.func150 (by kernel_rfl) rfl #[.slice (some ad122) y123.length co3, .int .i64 x7_2] rfl (by (try simp only [maA, mbA, mcA]); first | done | rfl | (simp only [List.length_drop, List.length_take]; rfl)) ?_; (with_reducible refine (spec_l01Among.calls k2 _ _ y123 x7_2 false _ ?side1 ?side2 A10.out).mono ?_); (case side1 => repeat (first | exact (by repeat (first | (with_reducible exact HR126.out) | (with_reducible refine Kd.C_alloc ?_ _) | (with_reducible refine Kd.C_drewN ?_ _) | (with_reducible refine Kd.C_drew ?_) | exact HR126.out)) | (with_reducible refine Kd.C_alloc ?_ _) | (with_reducible refine Kd.C_drewN ?_ _) | (with_reducible refine Kd.C_drew ?_))); (case side2 => exact HC126.out); rintro e w' ⟨rfl, ⟨nd, rfl⟩⟩; refine ⟨_, rfl, ?_⟩; (try (rw [drewN_self wr]; generalize hq_ : World.drewN wr _ = wr; have n0_ : Aside0 (Kd.R (Kd.int .i64) 2 wr w0.heap.size (fun k_ => (P0_ k_ ∨ w.heap.size ≤ k_)) (.slice (some ad122) x0_2.length co3) x0_2) := ⟨by rw [← hq_]; exact (by (with_reducible repeat (first | apply Kd.R_alloc | apply Kd.R_drewN | apply Kd.R_drew)); exact HO_0.out)⟩; have n1_ : Aside0 (Kept w wr (fun k_ => P0_ k_)) := ⟨by rw [← hq_]; exact (by repeat (first | (with_reducible first | exact HK.out | apply Kept.alloc | apply Kept.drewN | apply Kept.drew) | exact HK.out))⟩; have n2_ : Aside0 (Below w0.heap.size w0 wr) := ⟨by rw [← hq_]; exact (by repeat (first | (with_reducible first | exact HB.out | apply below_alloc | apply pw_below_drewN | apply below_drew1) | exact HB.out))⟩; have n3_ : Aside0 (Kd.C (Kd.int .i64) wr (some ad122) y123.length y123) := ⟨by rw [← hq_]; exact (by repeat (first | (with_reducible exact HR126.out) | (with_reducible refine Kd.C_alloc ?_ _) | (with_reducible refine Kd.C_drewN ?_ _) | (with_reducible refine Kd.C_drew ?_) | exact HR126.out))⟩; clear HO_0 HK HB HR126 hq_; have HO_0 := n0_; have HK := n1_; have HB := n2_; have HR126 := n3_; clear n0_ n1_ n2_ n3_)); have p14 : 0 ≤ (x6_1 : Int) := of_decide_eq_true (by first | (with_reducible assumption) | assumption); have q14 : (x6_1 : Int) < ((x0_2.length : Int) : Int) := of_decide_eq_true (by first | (with_reducible assumption) | assumption); obtain ⟨go14, co14, eo14, gb14, gl14, cl14, HG14⟩ := Kd.R_form HO_0.out (by omega); (first | cases eo14 | (injection eo14 with ea_ en_ ec_; (first | subst ea_ | (injection ea_ with ea_; subst ea_)); subst ec_; clear en_)); have GB14 := Aside0.mk gb14; have GG14 := Aside0.mk HG14; clear gb14 gl14 HG14; have HMgo14 := Aside0.mk (show (P0_ go14 ∨ w.heap.size ≤ go14) from (HO_0.out.1 _ rfl)); (first | simp only [add_plain] at hx122_0 | skip); obtain ⟨hx14_0, hf14_0⟩ := Kd.R_celln 0 HO_0.out (x6_1 : Int) p14 q14; replace p14 := eq_true p14; replace q14 := eq_true q14; obtain ⟨hy16_, hz16_⟩ := Kd.R_celln 0 HO_0.out (x6_1 : Int) (of_decide_eq_true (by first | (with_reducible assumption) | assumption)) (of_decide_eq_true (by first | (with_reducible assumption) | assumption)); have HP16 := Kd.R_putg HO_0.out (x6_1 : Int) x7_2) | ((with_reducible refine gate_store (t := 2) (p := 37) rfl ?_); refine store_event (t := 2) (p := 37) (v := ?vo_w17) (w1 := (wr.setCell ⟨go14, (x6_1 : Int).toNat, none⟩ (.int .i64 x7_2))) ?hg ?ho ?hn ?hr ?_; (case ho => rfl); (case hg => rfl); (case hn => rfl); (case hr => first | (go_simp; done) | (go_simp; rfl)); intro w17 hw; have hg : wr.grownBy w17 (some go14) := (by rw [hw]; exact HP16.2); have hp_ : Kd.R (Kd.int .i64) 2 w17 w0.heap.size (fun k_ => (P0_ k_ ∨ w.heap.size ≤ k_)) (.slice (some ⟨go14, 0, none⟩) x0_2.length co3) y128 := (by rw [hw, Ny128.out]; exact HP16.1); clear HP16; replace HB := Aside0.mk ((by rw [hw]; exact below_set (HB.out) GB14.out : Below w0.heap.size w0 w17)); replace HK := Aside0.mk (Kept.of_grown (S := (fun k_ => P0_ k_)) hg (by repeat (first | (with_reducible first | exact HK.out | apply Kept.alloc | apply Kept.drewN | apply Kept.drew) | exact HK.out)) (fun k_ e_ => (HO_0.out.1 k_ e_))); replace HO_0 := Aside0.mk (hp_); clear hg hw hp_))
             go_loopg [8] k2 (fun kq v8 w' => ∃ (x0_3 : List Int) (x8_3 : Int), v8 = .int .i64 x8_3 ∧ Aside0 (spec_l01Next.l2 kq x0_3 (l0.length : Int) x8_3 = some (r1, r2)) ∧ Aside0 (kq ≤ k2) ∧ Aside0 (Kd.R (Kd.int .i64) 2 w' w0.heap.size (fun k_ => (P0_ k_ ∨ w.heap.size ≤ k_)) (.slice (some ⟨go14, 0, none⟩) x0_2.length co3) x0_3) ∧ Aside0 (Kept w w' (fun k_ => P0_ k_)) ∧ Aside0 (Below w0.heap.size w0 w'))
             case atStart => exact ⟨(y128), (wrap64 (x6_1 + 1)), (by first | rfl | (simp; done) | (simp [*]; done)), H', ⟨Nat.le_refl _⟩, ⟨by (try simp only [hl0_1]); (try simp only [hl0_2]); (with_reducible repeat (first | apply Kd.R_alloc | apply Kd.R_drewN | apply Kd.R_drew)); exact HO_0.out⟩, ⟨by repeat (first | (with_reducible first | exact HK.out | apply Kept.alloc | apply Kept.drewN | apply Kept.drew) | exact HK.out)⟩, ⟨by repeat (first | (with_reducible first | exact HB.out | apply below_alloc | apply pw_below_drewN | apply below_drew1) | exact HB.out)⟩⟩
             case round =>
              clear H'
              try clear c1
              try clear p1
              try clear q1
              try clear hx1
              try clear p2
              try clear c4
              try clear c4b0
              try clear c5
              try clear c5b0
              try clear c6
              try clear c6b0
              try clear p6
              try clear c7
              try clear c7b0
              try clear c8
              try clear c8b0
              try clear c8b1
              try clear c9
              try clear c9b0
              try clear c9b1
              try clear c11
              try clear p12
              try clear q12
              try clear hx12
              try clear c13
              try clear c13b0
              try clear p14
              try clear q14
              try clear hx14
              try clear hf14
              try clear c15
              try clear q15
              try clear hx122_0
              try clear hx14_0
              try clear p1
              try clear p122
              try clear p14
              try clear p2
              try clear p6
              try clear q1
              try clear q12
              try clear q122
              try clear q14
              try clear q15
              obtain ⟨x0_3, x8_3, rfl, HA, HK3, HO_0, HK, HB⟩ := hrel
              have hl0_3 := (Kd.R_reads' HO_0.out).1
              rw [hl0_3] at HO_0
              (try simp only [hl0_3])
              cases gk with
              | zero => exact absurd HA.out (by simp [spec_l01Next.l2])
              | succ k3 =>
               have H := HA.out
               clear HA
               simp only [spec_l01Next.l2] at H
               by_cases c18 : x8_3 < (l0.length : Int)
               ·rw [if_pos c18] at H
                have c18b0 : decide (x8_3 < (l0.length : Int)) = true := decide_eq_true c18
                (try have c18b0x1 : decide (x8_3 < (x0_1.length : Int)) = true := (by have e_ := c18b0; simp only [hl0_1] at e_; exact e_))
                (try have c18b0x2 : decide (x8_3 < (x0_2.length : Int)) = true := (by have e_ := c18b0; simp only [hl0_1, hl0_2] at e_; exact e_))
                (try have c18b0x3 : decide (x8_3 < (x0_3.length : Int)) = true := (by have e_ := c18b0; simp only [hl0_1, hl0_2, hl0_3] at e_; exact e_))
                (try have c18b0x4 : decide (x8_3 < (x0_4.length : Int)) = true := (by have e_ := c18b0; simp only [hl0_1, hl0_2, hl0_3, hl0_4] at e_; exact e_))
                clear c18
                have H' := Aside0.mk H
                clear H
                go_wp2
                go_loopg [9] k3 (fun kq v9 w' => ∃ (x9_4 : Int), v9 = .int .i64 x9_4 ∧ Aside0 (spec_l01Next.l3 kq x0_3 (l0.length : Int) x8_3 x9_4 = some (r1, r2)) ∧ Aside0 (kq ≤ k3) ∧ Aside0 (Kd.R (Kd.int .i64) 2 w' w0.heap.size (fun k_ => (P0_ k_ ∨ w.heap.size ≤ k_)) (.slice (some ⟨go14, 0, none⟩) x0_3.length co3) x0_3) ∧ Aside0 (Kept w w' (fun k_ => P0_ k_)) ∧ Aside0 (Below w0.heap.size w0 w'))
                case atStart => exact ⟨(0), (by first | rfl | (simp; done) | (simp [*]; done)), H', ⟨Nat.le_refl _⟩, ⟨by (try simp only [hl0_1]); (try simp only [hl0_2]); (try simp only [hl0_3]); (with_reducible repeat (first | apply Kd.R_alloc | apply Kd.R_drewN | apply Kd.R_drew)); exact HO_0.out⟩, ⟨by repeat (first | (with_reducible first | exact HK.out | apply Kept.alloc | apply Kept.drewN | apply Kept.drew) | exact HK.out)⟩, ⟨by repeat (first | (with_reducible first | exact HB.out | apply below_alloc | apply pw_below_drewN | apply below_drew1) | exact HB.out)⟩⟩
                case round =>
                 clear H'
                 try clear c1
                 try clear p1
                 try clear q1
                 try clear hx1
                 try clear p2
                 try clear c4
                 try clear c4b0
                 try clear c5
                 try clear c5b0
                 try clear c6
                 try clear c6b0
                 try clear p6
                 try clear c7
                 try clear c7b0
                 try clear c8
                 try clear c8b0
                 try clear c8b1
                 try clear c9
                 try clear c9b0
                 try clear c9b1
                 try clear c11
                 try clear p12
                 try clear q12
                 try clear hx12
                 try clear c13
                 try clear c13b0
                 try clear p14
                 try clear q14
                 try clear hx14
                 try clear hf14
                 try clear c15
                 try clear q15
                 try clear c18
                 try clear c18b0
                 try clear hx122_0
                 try clear hx14_0
                 try clear p1
                 try clear p12
                 try clear p122
                 try clear p14
                 try clear p2
                 try clear p6
                 try clear q1
                 try clear q12
                 try clear q122
                 try clear q14
                 try clear q15
                 obtain ⟨x9_4, rfl, HA, HK4, HO_0, HK, HB⟩ := hrel
                 cases gk with
                 | zero => exact absurd HA.out (by simp [spec_l01Next.l3])
                 | succ k4 =>
                  have H := HA.out
                  clear HA
                  simp only [spec_l01Next.l3] at H
                  by_cases c19 : 0 ≤ x8_3
                  ·rw [if_pos c19] at H
                   have c19b0 := eq_true c19
                   have c19b1 : decide (0 ≤ x8_3) = true := decide_eq_true c19
                   clear c19
                   by_cases c20 : x8_3 ≤ (x0_3.length : Int)
                   ·rw [if_pos c20] at H
                    have c20b0 := eq_true c20
                    have c20b1 : decide (x8_3 ≤ (x0_3.length : Int)) = true := decide_eq_true c20
                    clear c20
                    obtain ⟨y129, hy129⟩ : ∃ y_ : List Int, y_ = (x0_3.take (x8_3 : Int).toNat) := ⟨_, rfl⟩
                    replace H : ((spec_l01Among.f k4 y129 x9_4).bind fun t133 => (if t133 = true then (spec_l01Next.l3 k4 x0_3 (l0.length : Int) x8_3 (wrap64 (x9_4 + 1))) else (if x8_3 < (x0_3.length : Int) then (spec_l01Next.l2 k4 (x0_3.set (x8_3 : Int).toNat x9_4) (l0.length : Int) (wrap64 (x8_3 + 1))) else (none)))) = some (r1, r2) := by first | (rw [hy129]; with_reducible exact H) | (have H2_ := (Option.bind_some _ _).symm.trans H; rw [hy129]; with_reducible exact H2_) | (have H2_ := (Option.bind_some _ _).symm.trans H; with_reducible exact H2_) | with_reducible exact H | (rw [hy129]; exact H) | exact H
                    have Ny129 := Aside0.mk hy129
                    clear hy129
                    replace H := Option.bind_eq_some_iff.mp H
                    obtain ⟨t133, A210, H⟩ := H
                    (try dsimp only at H)
                    have A21 := Aside0.mk A210
                    clear A210
                    by_cases c22 : t133 = true
                    ·subst c22
                     rw [if_pos rfl] at H
                     have H' := Aside0.mk H
                     clear H
                     have q23 : (x8_3 : Int) ≤ ((x0_3.length : Int) : Int) := of_decide_eq_true (by first | (with_reducible assumption) | assumption)
                     obtain ⟨i023, hi023, _, hsz23, _⟩ := info_parts info2
                     have hroom23 : x0_3.length ≤ co3 := (Kd.R_reads' HO_0.out).2.1
                     have hC23 : Kd.C (Kd.int .i64) _ (some ⟨go14, 0, none⟩) x0_3.length x0_3 := (Kd.R_reads' HO_0.out).2.2
                     have hcut23 := cut_to (P := Try.prog) 62 2 .i64 Try.underlying62 hi023 (some ⟨go14, 0, none⟩) x0_3.length co3 x8_3 (of_decide_eq_true (by first | (with_reducible assumption) | assumption)) q23 hroom23
                     have hr23 := Kd.C_take (m := (x8_3 : Int).toNat) hC23 (by omega)
                     have hy23 : y129.length = (x8_3 : Int).toNat := (by rw [Ny129.out, List.length_take]; omega)
                     rw [← Ny129.out] at hr23
                     rw [← hy23] at hcut23
                     have HR132 := Aside0.mk hr23
                     have HC132 := Aside0.mk (show y129.length ≤ co3 from by omega)
                     clear hr23 hC23 hroom23 hi023 hsz23
                     have KY23 := Aside0.mk hy23
                     clear hy23
                     have KL23 := Aside0.mk (show (x8_3 : Int).toNat ≤ x0_3.length from by omega)
                     replace q23 := eq_true q23
                     go_wp2_with (first | ((with_reducible refine gate_callee (f := 150) rfl ?_); refine goesL_ (some 49) rfl rfl Try.func150 (by kernel_rfl) rfl #[.slice (some ⟨go14, 0, none⟩) y129.length co3, .int .i64 x9_4] rfl (by (try simp only [maA, mbA, mcA]); first | done | rfl | (simp only [List.length_drop, List.length_take]; rfl)) ?_; (with_reducible refine (spec_l01Among.calls k4 _ _ y129 x9_4 true _ ?side1 ?side2 A21.out).mono ?_); (case side1 => repeat (first | exact (by repeat (first | (with_reducible exact HR132.out) | (with_reducible refine Kd.C_alloc ?_ _) | (with_reducible refine Kd.C_drewN ?_ _) | (with_reducible refine Kd.C_drew ?_) | exact HR132.out)) | (with_reducible refine Kd.C_alloc ?_ _) | (with_reducible refine Kd.C_drewN ?_ _) | (with_reducible refine Kd.C_drew ?_))); (case side2 => exact HC132.out); rintro e w' ⟨rfl, ⟨nd, rfl⟩⟩; refine ⟨_, rfl, ?_⟩))
                     go_roundg k4
                     case measure => have := HK1.out; have := HK2.out; have := HK3.out; have := HK4.out; omega
                     case rel => exact ⟨(wrap64 (x9_4 + 1)), (by first | rfl | (simp; done) | (simp [*]; done)), H', ⟨by have := HK1.out; have := HK2.out; have := HK3.out; have := HK4.out; omega⟩, ⟨by (try simp only [hl0_1]); (try simp only [hl0_2]); (try simp only [hl0_3]); (with_reducible repeat (first | apply Kd.R_alloc | apply Kd.R_drewN | apply Kd.R_drew)); exact HO_0.out⟩, ⟨by repeat (first | (with_reducible first | exact HK.out | apply Kept.alloc | apply Kept.drewN | apply Kept.drew) | exact HK.out)⟩, ⟨by repeat (first | (with_reducible first | exact HB.out | apply below_alloc | apply pw_below_drewN | apply below_drew1) | exact HB.out)⟩⟩
                    ·replace c22 := Bool.eq_false_iff.mpr c22
                     subst c22
                     rw [if_neg (show ¬ (false = true) by decide)] at H
                     by_cases c24 : x8_3 < (x0_3.length : Int)
                     ·rw [if_pos c24] at H
                      have c24b0 : decide (x8_3 < (x0_3.length : Int)) = true := decide_eq_true c24
                      clear c24
                      obtain ⟨y134, hy134⟩ : ∃ y_ : List Int, y_ = (x0_3.set (x8_3 : Int).toNat x9_4) := ⟨_, rfl⟩
                      replace H : (spec_l01Next.l2 k4 y134 (l0.length : Int) (wrap64 (x8_3 + 1))) = some (r1, r2) := by first | (rw [hy134]; with_reducible exact H) | (have H2_ := (Option.bind_some _ _).symm.trans H; rw [hy134]; with_reducible exact H2_) | (have H2_ := (Option.bind_some _ _).symm.trans H; with_reducible exact H2_) | with_reducible exact H | (rw [hy134]; exact H) | exact H
                      have Ny134 := Aside0.mk hy134
                      clear hy134
                      have H' := Aside0.mk H
                      clear H
                      have q26 : (x8_3 : Int) ≤ ((x0_3.length : Int) : Int) := of_decide_eq_true (by first | (with_reducible assumption) | assumption)
                      obtain ⟨i026, hi026, _, hsz26, _⟩ := info_parts info2
                      have hroom26 : x0_3.length ≤ co3 := (Kd.R_reads' HO_0.out).2.1
                      have hC26 : Kd.C (Kd.int .i64) _ (some ⟨go14, 0, none⟩) x0_3.length x0_3 := (Kd.R_reads' HO_0.out).2.2
                      have hcut26 := cut_to (P := Try.prog) 62 2 .i64 Try.underlying62 hi026 (some ⟨go14, 0, none⟩) x0_3.length co3 x8_3 (of_decide_eq_true (by first | (with_reducible assumption) | assumption)) q26 hroom26
                      have hr26 := Kd.C_take (m := (x8_3 : Int).toNat) hC26 (by omega)
                      have hy26 : y129.length = (x8_3 : Int).toNat := (by rw [Ny129.out, List.length_take]; omega)
                      rw [← Ny129.out] at hr26
                      rw [← hy26] at hcut26
                      have HR132 := Aside0.mk hr26
                      have HC132 := Aside0.mk (show y129.length ≤ co3 from by omega)
                      clear hr26 hC26 hroom26 hi026 hsz26
                      have KY26 := Aside0.mk hy26
                      clear hy26
                      have KL26 := Aside0.mk (show (x8_3 : Int).toNat ≤ x0_3.length from by omega)
                      replace q26 := eq_true q26
                      go_wp2_with (first | ((with_reducible refine gate_callee (f := 150) rfl ?_); refine goesL_ (some 49) rfl rfl Try.func150 (by kernel_rfl) rfl #[.slice (some ⟨go14, 0, none⟩) y129.length co3, .int .i64 x9_4] rfl (by (try simp only [maA, mbA, mcA]); first | done | rfl | (simp only [List.length_drop, List.length_take]; rfl)) ?_; (with_reducible refine (spec_l01Among.calls k4 _ _ y129 x9_4 false _ ?side1 ?side2 A21.out).mono ?_); (case side1 => repeat (first | exact (by repeat (first | (with_reducible exact HR132.out) | (with_reducible refine Kd.C_alloc ?_ _) | (with_reducible refine Kd.C_drewN ?_ _) | (with_reducible refine Kd.C_drew ?_) | exact HR132.out)) | (with_reducible refine Kd.C_alloc ?_ _) | (with_reducible refine Kd.C_drewN ?_ _) | (with_reducible refine Kd.C_drew ?_))); (case side2 => exact HC132.out); rintro e w' ⟨rfl, ⟨nd, rfl⟩⟩; refine ⟨_, rfl, ?_⟩; (try (rw [drewN_self wr]; generalize hq_ : World.drewN wr _ = wr; have n0_ : Aside0 (Kd.R (Kd.int .i64) 2 wr w0.heap.size (fun k_ => (P0_ k_ ∨ w.heap.size ≤ k_)) (.slice (some ⟨go14, 0, none⟩) x0_3.length co3) x0_3) := ⟨by rw [← hq_]; exact (by (with_reducible repeat (first | apply Kd.R_alloc | apply Kd.R_drewN | apply Kd.R_drew)); exact HO_0.out)⟩; have n1_ : Aside0 (Kept w wr (fun k_ => P0_ k_)) := ⟨by rw [← hq_]; exact (by repeat (first | (with_reducible first | exact HK.out | apply Kept.alloc | apply Kept.drewN | apply Kept.drew) | exact HK.out))⟩; have n2_ : Aside0 (Below w0.heap.size w0 wr) := ⟨by rw [← hq_]; exact (by repeat (first | (with_reducible first | exact HB.out | apply below_alloc | apply pw_below_drewN | apply below_drew1) | exact HB.out))⟩; have n3_ : Aside0 (Kd.C (Kd.int .i64) wr (some ⟨go14, 0, none⟩) y129.length y129) := ⟨by rw [← hq_]; exact (by repeat (first | (with_reducible exact HR132.out) | (with_reducible refine Kd.C_alloc ?_ _) | (with_reducible refine Kd.C_drewN ?_ _) | (with_reducible refine Kd.C_drew ?_) | exact HR132.out))⟩; clear HO_0 HK HB HR132 hq_; have HO_0 := n0_; have HK := n1_; have HB := n2_; have HR132 := n3_; clear n0_ n1_ n2_ n3_)); have p25 : 0 ≤ (x8_3 : Int) := of_decide_eq_true (by first | (with_reducible assumption) | assumption); have q25 : (x8_3 : Int) < ((x0_3.length : Int) : Int) := of_decide_eq_true (by first | (with_reducible assumption) | assumption); obtain ⟨hx25_0, hf25_0⟩ := Kd.R_celln 0 HO_0.out (x8_3 : Int) p25 q25; replace p25 := eq_true p25; replace q25 := eq_true q25; obtain ⟨hy27_, hz27_⟩ := Kd.R_celln 0 HO_0.out (x8_3 : Int) (of_decide_eq_true (by first | (with_reducible assumption) | assumption)) (of_decide_eq_true (by first | (with_reducible assumption) | assumption)); have HP27 := Kd.R_putg HO_0.out (x8_3 : Int) x9_4) | ((with_reducible refine gate_store (t := 2) (p := 55) rfl ?_); refine store_event (t := 2) (p := 55) (v := ?vo_w28) (w1 := (wr.setCell ⟨go14, (x8_3 : Int).toNat, none⟩ (.int .i64 x9_4))) ?hg ?ho ?hn ?hr ?_; (case ho => rfl); (case hg => rfl); (case hn => rfl); (case hr => first | (go_simp; done) | (go_simp; rfl)); intro w28 hw; have hg : wr.grownBy w28 (some go14) := (by rw [hw]; exact HP27.2); have hp_ : Kd.R (Kd.int .i64) 2 w28 w0.heap.size (fun k_ => (P0_ k_ ∨ w.heap.size ≤ k_)) (.slice (some ⟨go14, 0, none⟩) x0_3.length co3) y134 := (by rw [hw, Ny134.out]; exact HP27.1); clear HP27; replace HB := Aside0.mk ((by rw [hw]; exact below_set (HB.out) GB14.out : Below w0.heap.size w0 w28)); replace HK := Aside0.mk (Kept.of_grown (S := (fun k_ => P0_ k_)) hg (by repeat (first | (with_reducible first | exact HK.out | apply Kept.alloc | apply Kept.drewN | apply Kept.drew) | exact HK.out)) (fun k_ e_ => (HO_0.out.1 k_ e_))); replace HO_0 := Aside0.mk (hp_); clear hg hw hp_))
                      (try simp only [← hl0_3])
                      go_roundg k4
                      case measure => have := HK1.out; have := HK2.out; have := HK3.out; have := HK4.out; omega
                      case rel => exact ⟨(y134), (wrap64 (x8_3 + 1)), (by first | rfl | (simp; done) | (simp [*]; done)), H', ⟨by have := HK1.out; have := HK2.out; have := HK3.out; have := HK4.out; omega⟩, ⟨by (try simp only [hl0_1]); (try simp only [hl0_2]); (try simp only [hl0_3]); (with_reducible repeat (first | apply Kd.R_alloc | apply Kd.R_drewN | apply Kd.R_drew)); exact HO_0.out⟩, ⟨by repeat (first | (with_reducible first | exact HK.out | apply Kept.alloc | apply Kept.drewN | apply Kept.drew) | exact HK.out)⟩, ⟨by repeat (first | (with_reducible first | exact HB.out | apply below_alloc | apply pw_below_drewN | apply below_drew1) | exact HB.out)⟩⟩
                     ·rw [if_neg c24] at H
                      exact absurd H (by simp)
                   ·rw [if_neg c20] at H
                    exact absurd H (by simp)
                  ·rw [if_neg c19] at H
                   exact absurd H (by simp)
               ·rw [if_neg c18] at H
                have c18b0 : decide (x8_3 < (l0.length : Int)) = false := decide_eq_false c18
                (try have c18b0x1 : decide (x8_3 < (x0_1.length : Int)) = false := (by have e_ := c18b0; simp only [hl0_1] at e_; exact e_))
                (try have c18b0x2 : decide (x8_3 < (x0_2.length : Int)) = false := (by have e_ := c18b0; simp only [hl0_1, hl0_2] at e_; exact e_))
                (try have c18b0x3 : decide (x8_3 < (x0_3.length : Int)) = false := (by have e_ := c18b0; simp only [hl0_1, hl0_2, hl0_3] at e_; exact e_))
                (try have c18b0x4 : decide (x8_3 < (x0_4.length : Int)) = false := (by have e_ := c18b0; simp only [hl0_1, hl0_2, hl0_3, hl0_4] at e_; exact e_))
                clear c18
                simp only [Option.some.injEq, Prod.mk.injEq] at H
                obtain ⟨rfl, rfl⟩ := H
                go_wp2
                go_ret
                exact ⟨by first | rfl | (simp [*, errW_none, errW_some] <;> rfl), (by first | exact (by (with_reducible repeat (first | apply Kd.R_alloc | apply Kd.R_drewN | apply Kd.R_drew)); exact HO_0.out) | (simp only [hl0_1, hl0_2, hl0_3]; exact (by (with_reducible repeat (first | apply Kd.R_alloc | apply Kd.R_drewN | apply Kd.R_drew)); exact HO_0.out))), by repeat (first | (with_reducible first | exact HB.out | apply below_alloc | apply pw_below_drewN | apply below_drew1) | exact HB.out), by repeat (first | (with_reducible first | exact HK.out | apply Kept.alloc | apply Kept.drewN | apply Kept.drew) | exact HK.out)⟩
            ·rw [if_neg c13] at H
             exact absurd H (by simp)
          ·rw [if_neg c9] at H
           exact absurd H (by simp)
         ·rw [if_neg c8] at H
          exact absurd H (by simp)
        ·rw [if_neg c7] at H
         have c7b0 : decide (x7_2 < a1) = false := decide_eq_false c7
         clear c7
         have H' := Aside0.mk H
         clear H
         go_wp2
         (try simp only [← hl0_1, ← hl0_2])
         go_roundg k2
         case measure => have := HK1.out; have := HK2.out; omega
         case rel => exact ⟨(x0_2), (wrap64 (x6_1 - 1)), (by first | rfl | (simp; done) | (simp [*]; done)), H', ⟨by have := HK1.out; have := HK2.out; omega⟩, ⟨by (try simp only [hl0_1]); (try simp only [hl0_2]); (with_reducible repeat (first | apply Kd.R_alloc | apply Kd.R_drewN | apply Kd.R_drew)); exact HO_0.out⟩, ⟨by repeat (first | (with_reducible first | exact HK.out | apply Kept.alloc | apply Kept.drewN | apply Kept.drew) | exact HK.out)⟩, ⟨by repeat (first | (with_reducible first | exact HB.out | apply below_alloc | apply pw_below_drewN | apply below_drew1) | exact HB.out)⟩⟩
     ·rw [if_neg c6] at H
      exact absurd H (by simp)
    ·rw [if_neg c5] at H
     exact absurd H (by simp)
   ·rw [if_neg c4] at H
    have c4b0 : decide (0 ≤ x6_1) = false := decide_eq_false c4
    clear c4
    simp only [Option.some.injEq, Prod.mk.injEq] at H
    obtain ⟨rfl, rfl⟩ := H
    go_wp2
    go_ret
    exact ⟨by first | rfl | (simp [*, errW_none, errW_some] <;> rfl), (by first | exact (by (with_reducible repeat (first | apply Kd.R_alloc | apply Kd.R_drewN | apply Kd.R_drew)); exact HO_0.out) | (simp only [hl0_1]; exact (by (with_reducible repeat (first | apply Kd.R_alloc | apply Kd.R_drewN | apply Kd.R_drew)); exact HO_0.out))), by repeat (first | (with_reducible first | exact HB.out | apply below_alloc | apply pw_below_drewN | apply below_drew1) | exact HB.out), by repeat (first | (with_reducible first | exact HK.out | apply Kept.alloc | apply Kept.drewN | apply Kept.drew) | exact HK.out)⟩
end
section
def spec_l03Order.l0 : Nat → Int → List Int → List Int → Int → Option (List Int)
 | 0, _, _, _, _ => none
 | k + 1, x0, x1, x5, x6 => if x6 < (x1.length : Int) then (if 0 ≤ x6 then (if x5.length < 17592186044416 then (spec_l03Order.l0 k x0 x1 (x5 ++ [wrap64 (x0 + (rd x1 x6))]) (wrap64 (x6 + 1))) else (none)) else (none)) else (some x5)
def spec_l03Order.f (k : Nat) (a0 : Int) (l1 : List Int) : Option (List Int) := (spec_l01First.f k a0).bind fun t251 => (spec_l03Order.l0 k a0 l1 t251 0)
set_option maxHeartbeats 8000000 in
set_option maxRecDepth 100000 in
theorem spec_l03Order.calls (k : Nat) (a0 : Int) (A1 : Option Addr) (c1 : Nat) (l1 : List Int) (r : List Int) (w : World) (hr1 : Kd.C (Kd.int .i64) w A1 l1.length l1) (hc1 : l1.length ≤ c1) (h : spec_l03Order.f k a0 l1 = some r) :
  Calls Try.prog 167 #[.int .i64 a0, .slice A1 l1.length c1] w fun e w' => ∃ v0_ : Value, e = .returned (v0_) ∧ Kd.R (Kd.int .i64) 2 w' w.heap.size (fun _ => True) v0_ r ∧ Below w.heap.size w w' := by
 have HR1 := Aside0.mk hr1
 have HC1 := Aside0.mk hc1
 clear hr1 hc1
 have HB := Aside0.mk (Below.refl w.heap.size w)
 unfold spec_l03Order.f at h
 have H := h
 clear h
 replace H := Option.bind_eq_some_iff.mp H
 obtain ⟨t251, A30, H⟩ := H
 (try dsimp only at H)
 have A3 := Aside0.mk A30
 clear A30
 have H' := Aside0.mk H
 clear H
 go_enter Try.func167, Try.ntmps167
 go_wp2_with (first | ((with_reducible refine gate_callee (f := 92) rfl ?_); refine goesL_ (some 8) rfl rfl Try.func92 (by kernel_rfl) rfl #[.int .i64 a0] rfl (by (try simp only [maA, mbA, mcA]); first | done | rfl | (simp only [List.length_drop, List.length_take]; rfl)) ?_; (with_reducible refine (spec_l01First.calls k a0 t251 _ A3.out).mono ?_); rintro e w4 ⟨v252, rfl, ho0, hb⟩; refine ⟨_, rfl, ?_⟩; have HO253 := Aside0.mk (Kd.R_lower ho0 (below_size HB.out)); replace HB := hbB HB hb; (try clear hb); (try clear hk); (try clear ho0)))
 go_loopg [5, 6] k (fun kq v5 v6 w' => ∃ (x5_1 : List Int) (x6_1 : Int), v6 = .int .i64 x6_1 ∧ Aside0 (spec_l03Order.l0 kq a0 l1 x5_1 x6_1 = some r) ∧ Aside0 (kq ≤ k) ∧ Aside0 (Kd.R (Kd.int .i64) 2 w' w.heap.size (fun _ => True) v5 x5_1) ∧ Aside0 (Below w.heap.size w w'))
 case atStart => exact ⟨(t251), (0), (by first | rfl | (simp; done) | (simp [*]; done)), H', ⟨Nat.le_refl _⟩, ⟨by (with_reducible repeat (first | apply Kd.R_alloc | apply Kd.R_drewN | apply Kd.R_drew)); exact HO253.out⟩, ⟨by repeat (first | (with_reducible first | exact HB.out | apply below_alloc | apply pw_below_drewN | apply below_drew1) | exact HB.out)⟩⟩
 case round =>
  clear H'
  try clear c1
  try clear p2
  obtain ⟨x5_1, x6_1, rfl, HA, HK1, HO_5, HB⟩ := hrel
  cases gk with
  | zero => exact absurd HA.out (by simp [spec_l03Order.l0])
  | succ k1 =>
   have H := HA.out
   clear HA
   simp only [spec_l03Order.l0] at H
   by_cases c5 : x6_1 < (l1.length : Int)
   ·rw [if_pos c5] at H
    have c5b0 : decide (x6_1 < (l1.length : Int)) = true := decide_eq_true c5
    clear c5
    by_cases c6 : 0 ≤ x6_1
    ·rw [if_pos c6] at H
     have c6b0 : decide (0 ≤ x6_1) = true := decide_eq_true c6
     clear c6
     by_cases c7 : x5_1.length < 17592186044416
     ·rw [if_pos c7] at H
      have LMc7 := Aside0.mk c7
      clear c7
      obtain ⟨y255, hy255⟩ : ∃ y_ : List Int, y_ = (x5_1 ++ [wrap64 (a0 + (rd l1 x6_1))]) := ⟨_, rfl⟩
      replace H : (spec_l03Order.l0 k1 a0 l1 y255 (wrap64 (x6_1 + 1))) = some r := by first | (rw [hy255]; with_reducible exact H) | (have H2_ := (Option.bind_some _ _).symm.trans H; rw [hy255]; with_reducible exact H2_) | (have H2_ := (Option.bind_some _ _).symm.trans H; with_reducible exact H2_) | with_reducible exact H | (rw [hy255]; exact H) | exact H
      have Ny255 := Aside0.mk hy255
      clear hy255
      have H' := Aside0.mk H
      clear H
      have p254 : 0 ≤ (x6_1 : Int) := of_decide_eq_true (by first | (with_reducible assumption) | assumption)
      have q254 : x6_1 < (l1.length : Int) := of_decide_eq_true (by first | (with_reducible assumption) | assumption)
      obtain ⟨ad254, e254, hx254_0⟩ := Kd.at_int HR1.out x6_1 p254 q254
      cases e254
      replace hx254_0 := (HB.out.cell (World.block_lt_of_cell? w _ hx254_0)).trans hx254_0
      replace p254 := eq_true p254
      replace q254 := eq_true q254
      go_wp2_with (first | ((with_reducible refine gate_builtin (b := .append) (xs := #[.tmp 15, .tmp 22]) rfl ?_); at_builtin; refine Kd.R_append (Kd.int .i64) (w0 := w) w.heap.size rfl (.tmp 15) (.tmp 22) 62 2 (.int .i64 0) 8 rfl Try.underlying62 info2 rfl (by decide) (by omega) u5 x5_1 (wrap64 (a0 + (rd l1 x6_1))) [.int .i64 (wrap64 (a0 + (rd l1 x6_1)))] (fun _ => True) (fun _ => False) rfl rfl ?aP (fun _ hk => hk.elim) ?aF ?aO ?aB ?aS ?aL ?_; (case aP => exact rfl); (case aB => exact (by repeat (first | (with_reducible first | exact HB.out | apply below_alloc | apply pw_below_drewN | apply below_drew1) | exact HB.out))); (case aF => exact (fun _ _ => trivial)); (case aO => exact (by (with_reducible repeat (first | apply Kd.R_alloc | apply Kd.R_drewN | apply Kd.R_drew)); exact HO_5.out)); (case aS => exact (below_size (by repeat (first | (with_reducible first | exact HB.out | apply below_alloc | apply pw_below_drewN | apply below_drew1) | exact HB.out)))); (case aL => have := LMc7.out; omega); intro v256 w8 ho hb hg hat; rw [← Ny255.out] at ho; replace HB := Aside0.mk (hb); have HO257 := Aside0.mk (ho); clear HO_5; clear ho hb hg hat))
      go_roundg k1
      case measure => have := HK1.out; omega
      case rel => exact ⟨(y255), (wrap64 (x6_1 + 1)), (by first | rfl | (simp; done) | (simp [*]; done)), H', ⟨by have := HK1.out; omega⟩, ⟨by (with_reducible repeat (first | apply Kd.R_alloc | apply Kd.R_drewN | apply Kd.R_drew)); exact HO257.out⟩, ⟨by repeat (first | (with_reducible first | exact HB.out | apply below_alloc | apply pw_below_drewN | apply below_drew1) | exact HB.out)⟩⟩
     ·rw [if_neg c7] at H
      exact absurd H (by simp)
    ·rw [if_neg c6] at H
     exact absurd H (by simp)
   ·rw [if_neg c5] at H
    have c5b0 : decide (x6_1 < (l1.length : Int)) = false := decide_eq_false c5
    clear c5
    obtain rfl := Option.some.inj H
    go_wp2
    go_ret
    exact ⟨_, by first | rfl | (simp [*, errW_none, errW_some] <;> rfl), by (with_reducible repeat (first | apply Kd.R_alloc | apply Kd.R_drewN | apply Kd.R_drew)); exact HO_5.out, by repeat (first | (with_reducible first | exact HB.out | apply below_alloc | apply pw_below_drewN | apply below_drew1) | exact HB.out)⟩
end
end Go.Proofs.Ytcepbgffnneagaa.Q
end
