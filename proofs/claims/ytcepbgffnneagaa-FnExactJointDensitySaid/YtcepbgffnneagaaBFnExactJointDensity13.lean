/- Contracts of Go functions and plain lemmas over what they compute; printed by the kit's print program or written by hand, joined. -/
import Derived.Test.YtcepbgffnneagaaBFnExactJointDensity3
import Derived.Test.YtcepbgffnneagaaBFnExactJointDensity11
import Derived.Test.YtcepbgffnneagaaBFnExactJointDensity12
import Derived.Test.YtcepbgffnneagaaBFnExactJointDensity10
section
namespace Go.Proofs.Ytcepbgffnneagaa.Q
open Go.RowKit Go.Proofs.YtcepbgffnneagaaW.PrintWords Go.Proofs.YtcepbgffnneagaaW.PrintLast Go.Proofs.YtcepbgffnneagaaW.PrintMore
attribute [local go_sem] max2_int min2_int max_two min_two max_three min_three max_four min_four
set_option linter.unusedVariables false
set_option linter.unusedSimpArgs false
section
def impl_joint_1_2.f (l0 : List Int) (s701_0 : Int) (s702_0 : Bool) (s703_0 : Int) (s703_1 : Int) (s703_2 : Int) (s704_0 : Int) (s704_1 : Int) (s704_2 : Int) (s705_0 : Int) : Option (Int × Int) := if s702_0 = true then ((impl_Flag_on.f s703_0 s703_1 s703_2 l0).bind fun bt729 => ((impl_Flag_alike.f bt729.1 bt729.2.1 bt729.2.2 s704_0 s704_1 s704_2).bind fun t732 => (if t732 = true then (some (wrap64 (s701_0 + 1), wrap64 (s705_0 + 1))) else (some (wrap64 (s701_0 + 1), s705_0))))) else (some (wrap64 (s701_0 + 1), s705_0))
def impl_joint_1_2.T1 : Bool × List (List Nat × List Nat) := (true, [([], []), ([0], [0]), ([1], [1]), ([1], [1]), ([2, 3, 1, 1], [1, 2, 3]), ([1], [1]), ([4, 5, 4, 1], [1, 4, 5]), ([1, 6], [1, 6])])
def impl_joint_1_2.B1 : List Nat := [0, 1, 3, 3, 15, 3, 63, 127]
theorem impl_joint_1_2.tab1 : rtab .any (opsOf Try.f141 1) = impl_joint_1_2.T1 := by kernel_rfl
theorem impl_joint_1_2.bits1 : waitsOk impl_joint_1_2.T1.2 impl_joint_1_2.B1 = true := by kernel_rfl
set_option maxHeartbeats 8000000 in
set_option maxRecDepth 100000 in
theorem impl_joint_1_2.state (A0 : Option Addr) (c0 : Nat) (l0 : List Int) (gb701 : Nat) (s701_0 : Int) (gb702 : Nat) (s702_0 : Bool) (gb703 : Nat) (s703_0 s703_1 s703_2 : Int) (gb704 : Nat) (s704_0 s704_1 s704_2 : Int) (gb705 : Nat) (s705_0 : Int) (r : Int × Int) (w : World) (hne : gb702 ≠ gb701 ∧ gb703 ≠ gb701 ∧ gb704 ≠ gb701 ∧ gb705 ≠ gb701) (hb701 : w.heap[gb701]? = some (.cells #[.int .i64 s701_0] 2 (0, 0))) (hb702 : w.heap[gb702]? = some (.cells #[.bool s702_0] 4 (0, 0))) (hb703 : w.heap[gb703]? = some (.cells #[.int .i64 s703_0, .int .i64 s703_1, .int .u32 s703_2] 45 (0, 0))) (hb704 : w.heap[gb704]? = some (.cells #[.int .i64 s704_0, .int .i64 s704_1, .int .u32 s704_2] 45 (0, 0))) (hb705 : w.heap[gb705]? = some (.cells #[.int .i64 s705_0] 2 (0, 0))) (hr0 : Kd.C (Kd.int .i64) w A0 l0.length l0) (hc0 : l0.length ≤ c0) (hA0 : ∀ ad, A0 = some ad → ¬ (ad.block = gb701 ∨ ad.block = gb705)) (h : impl_joint_1_2.f l0 s701_0 s702_0 s703_0 s703_1 s703_2 s704_0 s704_1 s704_2 s705_0 = some r) :
  Calls Try.prog 141 #[.slice A0 l0.length c0, .pointer (some ⟨gb701, 0, none⟩), .pointer (some ⟨gb702, 0, none⟩), .pointer (some ⟨gb703, 0, none⟩), .pointer (some ⟨gb704, 0, none⟩), .pointer (some ⟨gb705, 0, none⟩)] w fun e w' => e = .returned (.tuple #[]) ∧ w'.heap[gb701]? = some (.cells #[.int .i64 r.1] 2 (0, 0)) ∧ w'.heap[gb705]? = some (.cells #[.int .i64 r.2] 2 (0, 0)) ∧ But (fun k => k = gb701 ∨ k = gb705) w w' := by
 have huF := Try.underlying45
 have NB702_701 := Aside0.mk hne.1
 have NB703_701 := Aside0.mk hne.2.1
 have NB704_701 := Aside0.mk hne.2.2.1
 have NB705_701 := Aside0.mk hne.2.2.2
 have BK701 := Aside0.mk hb701
 clear hb701
 have BK702 := Aside0.mk hb702
 clear hb702
 have BK703 := Aside0.mk hb703
 clear hb703
 have BK704 := Aside0.mk hb704
 clear hb704
 have BK705 := Aside0.mk hb705
 clear hb705
 have HR0 := Aside0.mk hr0
 have HC0 := Aside0.mk hc0
 have HA0 := Aside0.mk hA0
 clear hr0 hc0 hA0
 have HB := Aside0.mk (Below.refl w.heap.size w)
 have H : (if s702_0 = true then ((impl_Flag_on.f s703_0 s703_1 s703_2 l0).bind fun bt729 => ((impl_Flag_alike.f bt729.1 bt729.2.1 bt729.2.2 s704_0 s704_1 s704_2).bind fun t732 => (if t732 = true then (some (wrap64 (s701_0 + 1), wrap64 (s705_0 + 1))) else (some (wrap64 (s701_0 + 1), s705_0))))) else (some (wrap64 (s701_0 + 1), s705_0))) = some r := h
 clear h
 by_cases c2 : s702_0 = true
 ·subst c2
  rw [if_pos rfl] at H
  replace H := Option.bind_eq_some_iff.mp H
  obtain ⟨⟨t729, t730, t731⟩, A30, H⟩ := H
  (try dsimp only at H)
  have A3 := Aside0.mk A30
  clear A30
  replace H := Option.bind_eq_some_iff.mp H
  obtain ⟨t732, A40, H⟩ := H
  (try dsimp only at H)
  have A4 := Aside0.mk A40
  clear A40
  by_cases c5 : t732 = true
  ·subst c5
   rw [if_pos rfl] at H
   have hcz10_0 : w.cell? ⟨gb701, 0, none⟩ = some (.int .i64 s701_0) := bcA BK701 0 rfl
   have hfz10_0 := blk_frozen BK701.out 0
   go_enter Try.func141, Try.ntmps141
   try go_wp2
   have n0_ : Aside0 ((w.setCell ⟨gb701, 0, none⟩ (.int .i64 (wrap64 (s701_0 + 1)))).heap[gb701]? = some (.cells #[.int .i64 (wrap64 (s701_0 + 1))] 2 (0, 0))) := ⟨by (with_reducible repeat (first | refine blk_drewN ?_ _ | refine blk_drew ?_ | refine blk_alloc ?_ _)); refine blk_put (cs := #[.int .i64 s701_0]) ?_ 0 _ rfl; (with_reducible repeat (first | refine blk_drewN ?_ _ | refine blk_drew ?_ | refine blk_alloc ?_ _)); exact BK701.out⟩
   have n1_ : Aside0 ((w.setCell ⟨gb701, 0, none⟩ (.int .i64 (wrap64 (s701_0 + 1)))).heap[gb702]? = some (.cells #[.bool true] 4 (0, 0))) := ⟨by (with_reducible repeat (first | refine blk_drewN ?_ _ | refine blk_drew ?_ | refine blk_alloc ?_ _)); refine blk_far ?_ NB702_701.out _; (with_reducible repeat (first | refine blk_drewN ?_ _ | refine blk_drew ?_ | refine blk_alloc ?_ _)); exact BK702.out⟩
   have n2_ : Aside0 ((w.setCell ⟨gb701, 0, none⟩ (.int .i64 (wrap64 (s701_0 + 1)))).heap[gb703]? = some (.cells #[.int .i64 s703_0, .int .i64 s703_1, .int .u32 s703_2] 45 (0, 0))) := ⟨by (with_reducible repeat (first | refine blk_drewN ?_ _ | refine blk_drew ?_ | refine blk_alloc ?_ _)); refine blk_far ?_ NB703_701.out _; (with_reducible repeat (first | refine blk_drewN ?_ _ | refine blk_drew ?_ | refine blk_alloc ?_ _)); exact BK703.out⟩
   have n3_ : Aside0 ((w.setCell ⟨gb701, 0, none⟩ (.int .i64 (wrap64 (s701_0 + 1)))).heap[gb704]? = some (.cells #[.int .i64 s704_0, .int .i64 s704_1, .int .u32 s704_2] 45 (0, 0))) := ⟨by (with_reducible repeat (first | refine blk_drewN ?_ _ | refine blk_drew ?_ | refine blk_alloc ?_ _)); refine blk_far ?_ NB704_701.out _; (with_reducible repeat (first | refine blk_drewN ?_ _ | refine blk_drew ?_ | refine blk_alloc ?_ _)); exact BK704.out⟩
   have n4_ : Aside0 ((w.setCell ⟨gb701, 0, none⟩ (.int .i64 (wrap64 (s701_0 + 1)))).heap[gb705]? = some (.cells #[.int .i64 s705_0] 2 (0, 0))) := ⟨by (with_reducible repeat (first | refine blk_drewN ?_ _ | refine blk_drew ?_ | refine blk_alloc ?_ _)); refine blk_far ?_ NB705_701.out _; (with_reducible repeat (first | refine blk_drewN ?_ _ | refine blk_drew ?_ | refine blk_alloc ?_ _)); exact BK705.out⟩
   have n5_ : Aside0 (But (fun k => k = gb701 ∨ k = gb705) w (w.setCell ⟨gb701, 0, none⟩ (.int .i64 (wrap64 (s701_0 + 1))))) := ⟨But.set (But.refl _ _) (Or.inl (Or.inl rfl)) 0 _⟩
   have n6_ : Aside0 (Kd.C (Kd.int .i64) (w.setCell ⟨gb701, 0, none⟩ (.int .i64 (wrap64 (s701_0 + 1)))) A0 l0.length l0) := ⟨n5_.out.C_int HR0.out HA0.out⟩
   (try clear BK701)
   (try clear BK702)
   (try clear BK703)
   (try clear BK704)
   (try clear BK705)
   (try clear HB)
   generalize (w.setCell ⟨gb701, 0, none⟩ (.int .i64 (wrap64 (s701_0 + 1)))) = w11 at n0_ n1_ n2_ n3_ n4_ n5_ n6_ ⊢
   have BK701 := n0_
   have BK702 := n1_
   have BK703 := n2_
   have BK704 := n3_
   have BK705 := n4_
   clear HR0
   have HR0 := n6_
   have HBut := n5_
   have HB := Aside0.mk (Below.refl w11.heap.size w11)
   clear n0_ n1_ n2_ n3_ n4_ n5_ n6_
   replace BK701 := Aside0.mk (blk_drew BK701.out)
   replace BK702 := Aside0.mk (blk_drew BK702.out)
   replace BK703 := Aside0.mk (blk_drew BK703.out)
   replace BK704 := Aside0.mk (blk_drew BK704.out)
   replace BK705 := Aside0.mk (blk_drew BK705.out)
   replace HB := Aside0.mk (below_drew1 HB.out)
   refine start_ (n := 8) (S := fun w' => w'.cell? ⟨gb702, 0, none⟩ = some (.bool true) ∧ w'.cell? ⟨gb703, 0, none⟩ = some (.int .i64 s703_0) ∧ w'.cell? ⟨gb703, 1, none⟩ = some (.int .i64 s703_1) ∧ w'.cell? ⟨gb703, 2, none⟩ = some (.int .u32 s703_2) ∧ w'.cell? ⟨gb704, 0, none⟩ = some (.int .i64 s704_0) ∧ w'.cell? ⟨gb704, 1, none⟩ = some (.int .i64 s704_1) ∧ w'.cell? ⟨gb704, 2, none⟩ = some (.int .u32 s704_2)) (ds := []) #[false, false, false, false, false, false, false, false] (by kernel_rfl) rfl rfl ⟨bcA BK702 0 rfl, bcA BK703 0 rfl, bcA BK703 1 rfl, bcA BK703 2 rfl, bcA BK704 0 rfl, bcA BK704 1 rfl, bcA BK704 2 rfl⟩ (fun hHeld => ?_); refine with_tabW impl_joint_1_2.tab1 impl_joint_1_2.bits1 (fun HT_ HW_ => ?_)
   generalize w11.drew = w12 at BK701 BK702 BK703 BK704 BK705 HB hHeld ⊢
   refine take_ (i := 0) (N := some 9) (v := ?_) (a' := ?_) #[true, false, false, false, false, false, false, false] rfl rfl (take_ofW HT_.out HW_.out (by kernel_rfl)) (fun _ _ _ h => h) (Or.inl ⟨by rfl, ?_⟩) hHeld ?_ ?_
   rotate_left;(rintro w' ⟨s0, s1, s2, s3, s4, s5, s6⟩;go_simp;with_reducible rfl);rotate_left;(simp only [Act.put, psA, pzA, pnA, i64_w, i32_w];rfl)
   refine pure_ (i := 1) (N := some 10) (v := ?_) (a' := ?_) #[true, true, false, false, false, false, false, false] rfl rfl (any_of HT_.out (by kernel_rfl)) (fun _ _ _ h => h) (Or.inl ⟨by rfl, ?_⟩) ?_ ?_
   rotate_left;(intro w';go_simp;with_reducible rfl);rotate_left;(simp only [Act.put, psA, pzA, pnA, i64_w, i32_w];rfl)
   refine pure_ (i := 3) (N := some 12) (v := ?_) (a' := ?_) #[true, true, false, true, false, false, false, false] rfl rfl (any_of HT_.out (by kernel_rfl)) (fun _ _ _ h => h) (Or.inl ⟨by rfl, ?_⟩) ?_ ?_
   rotate_left;(intro w';go_simp;with_reducible rfl);rotate_left;(simp only [Act.put, psA, pzA, pnA, i64_w, i32_w];rfl)
   refine take_ (i := 2) (N := some 11) (v := ?_) (a' := ?_) #[true, true, true, true, false, false, false, false] rfl rfl (take_ofW HT_.out HW_.out (by kernel_rfl)) (fun _ _ _ h => h) (Or.inl ⟨by rfl, ?_⟩) hHeld ?_ ?_
   rotate_left;(rintro w' ⟨s0, s1, s2, s3, s4, s5, s6⟩;go_simp;with_reducible rfl);rotate_left;(simp only [Act.put, psA, pzA, pnA, i64_w, i32_w];rfl)
   refine take_ (i := 5) (N := some 14) (v := ?_) (a' := ?_) #[true, true, true, true, false, true, false, false] rfl rfl (take_ofW HT_.out HW_.out (by kernel_rfl)) (fun _ _ _ h => h) (Or.inl ⟨by rfl, ?_⟩) hHeld ?_ ?_
   rotate_left;(rintro w' ⟨s0, s1, s2, s3, s4, s5, s6⟩;go_simp;with_reducible rfl);rotate_left;(simp only [Act.put, psA, pzA, pnA, i64_w, i32_w];rfl)
   refine one_ (i := 4) (N := some 13) #[true, true, true, true, true, true, false, false] rfl rfl (one_of HT_.out (by kernel_rfl)) (by decide) (fun K hK => ?_)
   refine goes_ Try.func130 (by kernel_rfl) rfl #[.agg #[.int .i64 s703_0, .int .i64 s703_1, .int .u32 s703_2], .slice A0 l0.length c0] (by rfl) rfl rfl (by first | rfl | (simp only [List.map_toArray, List.map_cons, List.map_nil, List.length_drop, List.length_take]; rfl)) ?_
   with_reducible refine (impl_Flag_on.calls s703_0 s703_1 s703_2 _ _ l0 t729 t730 t731 _ ?side1 ?side2 A3.out).mono ?_
   (case side1 => repeat (first | exact (Kd.C_below HR0.out HB.out) | (with_reducible refine Kd.C_alloc ?_ _) | (with_reducible refine Kd.C_drewN ?_ _) | (with_reducible refine Kd.C_drew ?_)))
   (case side2 => exact HC0.out)
   rintro e w13 ⟨rfl, hb⟩
   refine ⟨_, rfl, ?_⟩
   replace BK701 := bkB BK701 hb
   replace BK702 := bkB BK702 hb
   replace BK703 := bkB BK703 hb
   replace BK704 := bkB BK704 hb
   replace BK705 := bkB BK705 hb
   replace HB := hbB HB hb
   (try clear hb)
   refine hK.out _ _ ⟨bcA BK702 0 rfl, bcA BK703 0 rfl, bcA BK703 1 rfl, bcA BK703 2 rfl, bcA BK704 0 rfl, bcA BK704 1 rfl, bcA BK704 2 rfl⟩ (fun hHeld => ?_)
   clear hK K
   refine norm_ (a' := ?_) ?_ ?_
   rotate_left;(show Act.put _ (some 13) _ = _;simp only [Act.put, psA, pzA, pnA, i64_w, i32_w];rfl)
   refine one_ (i := 6) (N := some 15) #[true, true, true, true, true, true, true, false] rfl rfl (one_of HT_.out (by kernel_rfl)) (by decide) (fun K hK => ?_)
   refine goes_ Try.func131 (by kernel_rfl) rfl #[.agg #[.int .i64 t729, .int .i64 t730, .int .u32 t731], .agg #[.int .i64 s704_0, .int .i64 s704_1, .int .u32 s704_2]] (by rfl) rfl rfl (by first | rfl | (simp only [List.map_toArray, List.map_cons, List.map_nil, List.length_drop, List.length_take]; rfl)) ?_
   with_reducible refine (impl_Flag_alike.calls t729 t730 t731 s704_0 s704_1 s704_2 true _ A4.out).mono ?_
   rintro e w14 ⟨rfl, hb⟩
   refine ⟨_, rfl, ?_⟩
   replace BK701 := bkB BK701 hb
   replace BK702 := bkB BK702 hb
   replace BK703 := bkB BK703 hb
   replace BK704 := bkB BK704 hb
   replace BK705 := bkB BK705 hb
   replace HB := hbB HB hb
   (try clear hb)
   refine hK.out _ _ ⟨bcA BK702 0 rfl, bcA BK703 0 rfl, bcA BK703 1 rfl, bcA BK703 2 rfl, bcA BK704 0 rfl, bcA BK704 1 rfl, bcA BK704 2 rfl⟩ (fun hHeld => ?_)
   clear hK K
   refine norm_ (a' := ?_) ?_ ?_
   rotate_left;(show Act.put _ (some 15) _ = _;simp only [Act.put, psA, pzA, pnA, i64_w, i32_w];rfl)
   refine pure_ (i := 7) (N := some 16) (v := ?_) (a' := ?_) #[true, true, true, true, true, true, true, true] rfl rfl (any_of HT_.out (by kernel_rfl)) (fun _ _ _ h => h) (Or.inl ⟨by rfl, ?_⟩) ?_ ?_
   rotate_left;(intro w';go_simp;with_reducible rfl);rotate_left;(simp only [Act.put, psA, pzA, pnA, i64_w, i32_w];rfl)
   refine done_ (done_of HT_.out (by kernel_rfl)) ?_
   have hcz18_0 : w14.cell? ⟨gb705, 0, none⟩ = some (.int .i64 s705_0) := bcA BK705 0 rfl
   have hfz18_0 := blk_frozen BK705.out 0
   try go_wp2
   first | go_end0 | ((try simp only [Exit.inBlock, Exit.then]); refine bodyPost_ret (results_none rfl _ _ _) rfl ?_)
   obtain rfl := Option.some.inj H
   exact ⟨rfl, blk_far BK701.out hne.2.2.2.symm _, blk_put (cs := #[.int .i64 s705_0]) BK705.out 0 _ rfl, But.set (HBut.out.trans (But.of_below HB.out)) (Or.inl (Or.inr rfl)) 0 _⟩
  ·replace c5 := Bool.eq_false_iff.mpr c5
   subst c5
   rw [if_neg (show ¬ (false = true) by decide)] at H
   have hcz23_0 : w.cell? ⟨gb701, 0, none⟩ = some (.int .i64 s701_0) := bcA BK701 0 rfl
   have hfz23_0 := blk_frozen BK701.out 0
   go_enter Try.func141, Try.ntmps141
   try go_wp2
   have n0_ : Aside0 ((w.setCell ⟨gb701, 0, none⟩ (.int .i64 (wrap64 (s701_0 + 1)))).heap[gb701]? = some (.cells #[.int .i64 (wrap64 (s701_0 + 1))] 2 (0, 0))) := ⟨by (with_reducible repeat (first | refine blk_drewN ?_ _ | refine blk_drew ?_ | refine blk_alloc ?_ _)); refine blk_put (cs := #[.int .i64 s701_0]) ?_ 0 _ rfl; (with_reducible repeat (first | refine blk_drewN ?_ _ | refine blk_drew ?_ | refine blk_alloc ?_ _)); exact BK701.out⟩
   have n1_ : Aside0 ((w.setCell ⟨gb701, 0, none⟩ (.int .i64 (wrap64 (s701_0 + 1)))).heap[gb702]? = some (.cells #[.bool true] 4 (0, 0))) := ⟨by (with_reducible repeat (first | refine blk_drewN ?_ _ | refine blk_drew ?_ | refine blk_alloc ?_ _)); refine blk_far ?_ NB702_701.out _; (with_reducible repeat (first | refine blk_drewN ?_ _ | refine blk_drew ?_ | refine blk_alloc ?_ _)); exact BK702.out⟩
   have n2_ : Aside0 ((w.setCell ⟨gb701, 0, none⟩ (.int .i64 (wrap64 (s701_0 + 1)))).heap[gb703]? = some (.cells #[.int .i64 s703_0, .int .i64 s703_1, .int .u32 s703_2] 45 (0, 0))) := ⟨by (with_reducible repeat (first | refine blk_drewN ?_ _ | refine blk_drew ?_ | refine blk_alloc ?_ _)); refine blk_far ?_ NB703_701.out _; (with_reducible repeat (first | refine blk_drewN ?_ _ | refine blk_drew ?_ | refine blk_alloc ?_ _)); exact BK703.out⟩
   have n3_ : Aside0 ((w.setCell ⟨gb701, 0, none⟩ (.int .i64 (wrap64 (s701_0 + 1)))).heap[gb704]? = some (.cells #[.int .i64 s704_0, .int .i64 s704_1, .int .u32 s704_2] 45 (0, 0))) := ⟨by (with_reducible repeat (first | refine blk_drewN ?_ _ | refine blk_drew ?_ | refine blk_alloc ?_ _)); refine blk_far ?_ NB704_701.out _; (with_reducible repeat (first | refine blk_drewN ?_ _ | refine blk_drew ?_ | refine blk_alloc ?_ _)); exact BK704.out⟩
   have n4_ : Aside0 ((w.setCell ⟨gb701, 0, none⟩ (.int .i64 (wrap64 (s701_0 + 1)))).heap[gb705]? = some (.cells #[.int .i64 s705_0] 2 (0, 0))) := ⟨by (with_reducible repeat (first | refine blk_drewN ?_ _ | refine blk_drew ?_ | refine blk_alloc ?_ _)); refine blk_far ?_ NB705_701.out _; (with_reducible repeat (first | refine blk_drewN ?_ _ | refine blk_drew ?_ | refine blk_alloc ?_ _)); exact BK705.out⟩
   have n5_ : Aside0 (But (fun k => k = gb701 ∨ k = gb705) w (w.setCell ⟨gb701, 0, none⟩ (.int .i64 (wrap64 (s701_0 + 1))))) := ⟨But.set (But.refl _ _) (Or.inl (Or.inl rfl)) 0 _⟩
   have n6_ : Aside0 (Kd.C (Kd.int .i64) (w.setCell ⟨gb701, 0, none⟩ (.int .i64 (wrap64 (s701_0 + 1)))) A0 l0.length l0) := ⟨n5_.out.C_int HR0.out HA0.out⟩
   (try clear BK701)
   (try clear BK702)
   (try clear BK703)
   (try clear BK704)
   (try clear BK705)
   (try clear HB)
   generalize (w.setCell ⟨gb701, 0, none⟩ (.int .i64 (wrap64 (s701_0 + 1)))) = w24 at n0_ n1_ n2_ n3_ n4_ n5_ n6_ ⊢
   have BK701 := n0_
   have BK702 := n1_
   have BK703 := n2_
   have BK704 := n3_
   have BK705 := n4_
   clear HR0
   have HR0 := n6_
   have HBut := n5_
   have HB := Aside0.mk (Below.refl w24.heap.size w24)
   clear n0_ n1_ n2_ n3_ n4_ n5_ n6_
   replace BK701 := Aside0.mk (blk_drew BK701.out)
   replace BK702 := Aside0.mk (blk_drew BK702.out)
   replace BK703 := Aside0.mk (blk_drew BK703.out)
   replace BK704 := Aside0.mk (blk_drew BK704.out)
   replace BK705 := Aside0.mk (blk_drew BK705.out)
   replace HB := Aside0.mk (below_drew1 HB.out)
   refine start_ (n := 8) (S := fun w' => w'.cell? ⟨gb702, 0, none⟩ = some (.bool true) ∧ w'.cell? ⟨gb703, 0, none⟩ = some (.int .i64 s703_0) ∧ w'.cell? ⟨gb703, 1, none⟩ = some (.int .i64 s703_1) ∧ w'.cell? ⟨gb703, 2, none⟩ = some (.int .u32 s703_2) ∧ w'.cell? ⟨gb704, 0, none⟩ = some (.int .i64 s704_0) ∧ w'.cell? ⟨gb704, 1, none⟩ = some (.int .i64 s704_1) ∧ w'.cell? ⟨gb704, 2, none⟩ = some (.int .u32 s704_2)) (ds := []) #[false, false, false, false, false, false, false, false] (by kernel_rfl) rfl rfl ⟨bcA BK702 0 rfl, bcA BK703 0 rfl, bcA BK703 1 rfl, bcA BK703 2 rfl, bcA BK704 0 rfl, bcA BK704 1 rfl, bcA BK704 2 rfl⟩ (fun hHeld => ?_); refine with_tabW impl_joint_1_2.tab1 impl_joint_1_2.bits1 (fun HT_ HW_ => ?_)
   generalize w24.drew = w25 at BK701 BK702 BK703 BK704 BK705 HB hHeld ⊢
   refine take_ (i := 0) (N := some 9) (v := ?_) (a' := ?_) #[true, false, false, false, false, false, false, false] rfl rfl (take_ofW HT_.out HW_.out (by kernel_rfl)) (fun _ _ _ h => h) (Or.inl ⟨by rfl, ?_⟩) hHeld ?_ ?_
   rotate_left;(rintro w' ⟨s0, s1, s2, s3, s4, s5, s6⟩;go_simp;with_reducible rfl);rotate_left;(simp only [Act.put, psA, pzA, pnA, i64_w, i32_w];rfl)
   refine pure_ (i := 1) (N := some 10) (v := ?_) (a' := ?_) #[true, true, false, false, false, false, false, false] rfl rfl (any_of HT_.out (by kernel_rfl)) (fun _ _ _ h => h) (Or.inl ⟨by rfl, ?_⟩) ?_ ?_
   rotate_left;(intro w';go_simp;with_reducible rfl);rotate_left;(simp only [Act.put, psA, pzA, pnA, i64_w, i32_w];rfl)
   refine pure_ (i := 3) (N := some 12) (v := ?_) (a' := ?_) #[true, true, false, true, false, false, false, false] rfl rfl (any_of HT_.out (by kernel_rfl)) (fun _ _ _ h => h) (Or.inl ⟨by rfl, ?_⟩) ?_ ?_
   rotate_left;(intro w';go_simp;with_reducible rfl);rotate_left;(simp only [Act.put, psA, pzA, pnA, i64_w, i32_w];rfl)
   refine take_ (i := 2) (N := some 11) (v := ?_) (a' := ?_) #[true, true, true, true, false, false, false, false] rfl rfl (take_ofW HT_.out HW_.out (by kernel_rfl)) (fun _ _ _ h => h) (Or.inl ⟨by rfl, ?_⟩) hHeld ?_ ?_
   rotate_left;(rintro w' ⟨s0, s1, s2, s3, s4, s5, s6⟩;go_simp;with_reducible rfl);rotate_left;(simp only [Act.put, psA, pzA, pnA, i64_w, i32_w];rfl)
   refine take_ (i := 5) (N := some 14) (v := ?_) (a' := ?_) #[true, true, true, true, false, true, false, false] rfl rfl (take_ofW HT_.out HW_.out (by kernel_rfl)) (fun _ _ _ h => h) (Or.inl ⟨by rfl, ?_⟩) hHeld ?_ ?_
   rotate_left;(rintro w' ⟨s0, s1, s2, s3, s4, s5, s6⟩;go_simp;with_reducible rfl);rotate_left;(simp only [Act.put, psA, pzA, pnA, i64_w, i32_w];rfl)
   refine one_ (i := 4) (N := some 13) #[true, true, true, true, true, true, false, false] rfl rfl (one_of HT_.out (by kernel_rfl)) (by decide) (fun K hK => ?_)
   refine goes_ Try.func130 (by kernel_rfl) rfl #[.agg #[.int .i64 s703_0, .int .i64 s703_1, .int .u32 s703_2], .slice A0 l0.length c0] (by rfl) rfl rfl (by first | rfl | (simp only [List.map_toArray, List.map_cons, List.map_nil, List.length_drop, List.length_take]; rfl)) ?_
   with_reducible refine (impl_Flag_on.calls s703_0 s703_1 s703_2 _ _ l0 t729 t730 t731 _ ?side1 ?side2 A3.out).mono ?_
   (case side1 => repeat (first | exact (Kd.C_below HR0.out HB.out) | (with_reducible refine Kd.C_alloc ?_ _) | (with_reducible refine Kd.C_drewN ?_ _) | (with_reducible refine Kd.C_drew ?_)))
   (case side2 => exact HC0.out)
   rintro e w26 ⟨rfl, hb⟩
   refine ⟨_, rfl, ?_⟩
   replace BK701 := bkB BK701 hb
   replace BK702 := bkB BK702 hb
   replace BK703 := bkB BK703 hb
   replace BK704 := bkB BK704 hb
   replace BK705 := bkB BK705 hb
   replace HB := hbB HB hb
   (try clear hb)
   refine hK.out _ _ ⟨bcA BK702 0 rfl, bcA BK703 0 rfl, bcA BK703 1 rfl, bcA BK703 2 rfl, bcA BK704 0 rfl, bcA BK704 1 rfl, bcA BK704 2 rfl⟩ (fun hHeld => ?_)
   clear hK K
   refine norm_ (a' := ?_) ?_ ?_
   rotate_left;(show Act.put _ (some 13) _ = _;simp only [Act.put, psA, pzA, pnA, i64_w, i32_w];rfl)
   refine one_ (i := 6) (N := some 15) #[true, true, true, true, true, true, true, false] rfl rfl (one_of HT_.out (by kernel_rfl)) (by decide) (fun K hK => ?_)
   refine goes_ Try.func131 (by kernel_rfl) rfl #[.agg #[.int .i64 t729, .int .i64 t730, .int .u32 t731], .agg #[.int .i64 s704_0, .int .i64 s704_1, .int .u32 s704_2]] (by rfl) rfl rfl (by first | rfl | (simp only [List.map_toArray, List.map_cons, List.map_nil, List.length_drop, List.length_take]; rfl)) ?_
   with_reducible refine (impl_Flag_alike.calls t729 t730 t731 s704_0 s704_1 s704_2 false _ A4.out).mono ?_
   rintro e w27 ⟨rfl, hb⟩
   refine ⟨_, rfl, ?_⟩
   replace BK701 := bkB BK701 hb
   replace BK702 := bkB BK702 hb
   replace BK703 := bkB BK703 hb
   replace BK704 := bkB BK704 hb
   replace BK705 := bkB BK705 hb
   replace HB := hbB HB hb
   (try clear hb)
   refine hK.out _ _ ⟨bcA BK702 0 rfl, bcA BK703 0 rfl, bcA BK703 1 rfl, bcA BK703 2 rfl, bcA BK704 0 rfl, bcA BK704 1 rfl, bcA BK704 2 rfl⟩ (fun hHeld => ?_)
   clear hK K
   refine norm_ (a' := ?_) ?_ ?_
   rotate_left;(show Act.put _ (some 15) _ = _;simp only [Act.put, psA, pzA, pnA, i64_w, i32_w];rfl)
   refine pure_ (i := 7) (N := some 16) (v := ?_) (a' := ?_) #[true, true, true, true, true, true, true, true] rfl rfl (any_of HT_.out (by kernel_rfl)) (fun _ _ _ h => h) (Or.inl ⟨by rfl, ?_⟩) ?_ ?_
   rotate_left;(intro w';go_simp;with_reducible rfl);rotate_left;(simp only [Act.put, psA, pzA, pnA, i64_w, i32_w];rfl)
   refine done_ (done_of HT_.out (by kernel_rfl)) ?_
   try go_wp2
   first | go_end0 | ((try simp only [Exit.inBlock, Exit.then]); refine bodyPost_ret (results_none rfl _ _ _) rfl ?_)
   obtain rfl := Option.some.inj H
   exact ⟨rfl, BK701.out, BK705.out, HBut.out.trans (But.of_below HB.out)⟩
 ·replace c2 := Bool.eq_false_iff.mpr c2
  subst c2
  rw [if_neg (show ¬ (false = true) by decide)] at H
  have hcz32_0 : w.cell? ⟨gb701, 0, none⟩ = some (.int .i64 s701_0) := bcA BK701 0 rfl
  have hfz32_0 := blk_frozen BK701.out 0
  go_enter Try.func141, Try.ntmps141
  try go_wp2
  have n0_ : Aside0 ((w.setCell ⟨gb701, 0, none⟩ (.int .i64 (wrap64 (s701_0 + 1)))).heap[gb701]? = some (.cells #[.int .i64 (wrap64 (s701_0 + 1))] 2 (0, 0))) := ⟨by (with_reducible repeat (first | refine blk_drewN ?_ _ | refine blk_drew ?_ | refine blk_alloc ?_ _)); refine blk_put (cs := #[.int .i64 s701_0]) ?_ 0 _ rfl; (with_reducible repeat (first | refine blk_drewN ?_ _ | refine blk_drew ?_ | refine blk_alloc ?_ _)); exact BK701.out⟩
  have n1_ : Aside0 ((w.setCell ⟨gb701, 0, none⟩ (.int .i64 (wrap64 (s701_0 + 1)))).heap[gb702]? = some (.cells #[.bool false] 4 (0, 0))) := ⟨by (with_reducible repeat (first | refine blk_drewN ?_ _ | refine blk_drew ?_ | refine blk_alloc ?_ _)); refine blk_far ?_ NB702_701.out _; (with_reducible repeat (first | refine blk_drewN ?_ _ | refine blk_drew ?_ | refine blk_alloc ?_ _)); exact BK702.out⟩
  have n2_ : Aside0 ((w.setCell ⟨gb701, 0, none⟩ (.int .i64 (wrap64 (s701_0 + 1)))).heap[gb703]? = some (.cells #[.int .i64 s703_0, .int .i64 s703_1, .int .u32 s703_2] 45 (0, 0))) := ⟨by (with_reducible repeat (first | refine blk_drewN ?_ _ | refine blk_drew ?_ | refine blk_alloc ?_ _)); refine blk_far ?_ NB703_701.out _; (with_reducible repeat (first | refine blk_drewN ?_ _ | refine blk_drew ?_ | refine blk_alloc ?_ _)); exact BK703.out⟩
  have n3_ : Aside0 ((w.setCell ⟨gb701, 0, none⟩ (.int .i64 (wrap64 (s701_0 + 1)))).heap[gb704]? = some (.cells #[.int .i64 s704_0, .int .i64 s704_1, .int .u32 s704_2] 45 (0, 0))) := ⟨by (with_reducible repeat (first | refine blk_drewN ?_ _ | refine blk_drew ?_ | refine blk_alloc ?_ _)); refine blk_far ?_ NB704_701.out _; (with_reducible repeat (first | refine blk_drewN ?_ _ | refine blk_drew ?_ | refine blk_alloc ?_ _)); exact BK704.out⟩
  have n4_ : Aside0 ((w.setCell ⟨gb701, 0, none⟩ (.int .i64 (wrap64 (s701_0 + 1)))).heap[gb705]? = some (.cells #[.int .i64 s705_0] 2 (0, 0))) := ⟨by (with_reducible repeat (first | refine blk_drewN ?_ _ | refine blk_drew ?_ | refine blk_alloc ?_ _)); refine blk_far ?_ NB705_701.out _; (with_reducible repeat (first | refine blk_drewN ?_ _ | refine blk_drew ?_ | refine blk_alloc ?_ _)); exact BK705.out⟩
  have n5_ : Aside0 (But (fun k => k = gb701 ∨ k = gb705) w (w.setCell ⟨gb701, 0, none⟩ (.int .i64 (wrap64 (s701_0 + 1))))) := ⟨But.set (But.refl _ _) (Or.inl (Or.inl rfl)) 0 _⟩
  have n6_ : Aside0 (Kd.C (Kd.int .i64) (w.setCell ⟨gb701, 0, none⟩ (.int .i64 (wrap64 (s701_0 + 1)))) A0 l0.length l0) := ⟨n5_.out.C_int HR0.out HA0.out⟩
  (try clear BK701)
  (try clear BK702)
  (try clear BK703)
  (try clear BK704)
  (try clear BK705)
  (try clear HB)
  generalize (w.setCell ⟨gb701, 0, none⟩ (.int .i64 (wrap64 (s701_0 + 1)))) = w33 at n0_ n1_ n2_ n3_ n4_ n5_ n6_ ⊢
  have BK701 := n0_
  have BK702 := n1_
  have BK703 := n2_
  have BK704 := n3_
  have BK705 := n4_
  clear HR0
  have HR0 := n6_
  have HBut := n5_
  have HB := Aside0.mk (Below.refl w33.heap.size w33)
  clear n0_ n1_ n2_ n3_ n4_ n5_ n6_
  replace BK701 := Aside0.mk (blk_drew BK701.out)
  replace BK702 := Aside0.mk (blk_drew BK702.out)
  replace BK703 := Aside0.mk (blk_drew BK703.out)
  replace BK704 := Aside0.mk (blk_drew BK704.out)
  replace BK705 := Aside0.mk (blk_drew BK705.out)
  replace HB := Aside0.mk (below_drew1 HB.out)
  refine start_ (n := 8) (S := fun w' => w'.cell? ⟨gb702, 0, none⟩ = some (.bool false)) (ds := []) #[false, false, false, false, false, false, false, false] (by kernel_rfl) rfl rfl (bcA BK702 0 rfl) (fun hHeld => ?_); refine with_tabW impl_joint_1_2.tab1 impl_joint_1_2.bits1 (fun HT_ HW_ => ?_)
  generalize w33.drew = w34 at BK701 BK702 BK703 BK704 BK705 HB hHeld ⊢
  refine take_ (i := 0) (N := some 9) (v := ?_) (a' := ?_) #[true, false, false, false, false, false, false, false] rfl rfl (take_ofW HT_.out HW_.out (by kernel_rfl)) (fun _ _ _ h => h) (Or.inl ⟨by rfl, ?_⟩) hHeld ?_ ?_
  rotate_left;(intro w' s0;go_simp;with_reducible rfl);rotate_left;(simp only [Act.put, psA, pzA, pnA, i64_w, i32_w];rfl)
  refine pure_ (i := 1) (N := some 10) (v := ?_) (a' := ?_) #[true, true, false, false, false, false, false, false] rfl rfl (any_of HT_.out (by kernel_rfl)) (fun _ _ _ h => h) (Or.inl ⟨by rfl, ?_⟩) ?_ ?_
  rotate_left;(intro w';go_simp;with_reducible rfl);rotate_left;(simp only [Act.put, psA, pzA, pnA, i64_w, i32_w];rfl)
  refine pure_ (i := 2) (N := some 11) (v := undef) (a' := ?_) #[true, true, true, false, false, false, false, false] rfl rfl (any_of HT_.out (by kernel_rfl)) (fun _ _ _ h => h) (Or.inr ⟨by rfl, rfl⟩) ?_ ?_
  rotate_left;(simp only [Act.put, psA, pzA, pnA, i64_w, i32_w];rfl)
  refine pure_ (i := 3) (N := some 12) (v := undef) (a' := ?_) #[true, true, true, true, false, false, false, false] rfl rfl (any_of HT_.out (by kernel_rfl)) (fun _ _ _ h => h) (Or.inr ⟨by rfl, rfl⟩) ?_ ?_
  rotate_left;(simp only [Act.put, psA, pzA, pnA, i64_w, i32_w];rfl)
  refine pure_ (i := 4) (N := some 13) (v := undef) (a' := ?_) #[true, true, true, true, true, false, false, false] rfl rfl (any_of HT_.out (by kernel_rfl)) (fun _ _ _ h => h) (Or.inr ⟨by rfl, rfl⟩) ?_ ?_
  rotate_left;(simp only [Act.put, psA, pzA, pnA, i64_w, i32_w];rfl)
  refine pure_ (i := 5) (N := some 14) (v := undef) (a' := ?_) #[true, true, true, true, true, true, false, false] rfl rfl (any_of HT_.out (by kernel_rfl)) (fun _ _ _ h => h) (Or.inr ⟨by rfl, rfl⟩) ?_ ?_
  rotate_left;(simp only [Act.put, psA, pzA, pnA, i64_w, i32_w];rfl)
  refine pure_ (i := 6) (N := some 15) (v := undef) (a' := ?_) #[true, true, true, true, true, true, true, false] rfl rfl (any_of HT_.out (by kernel_rfl)) (fun _ _ _ h => h) (Or.inr ⟨by rfl, rfl⟩) ?_ ?_
  rotate_left;(simp only [Act.put, psA, pzA, pnA, i64_w, i32_w];rfl)
  refine pure_ (i := 7) (N := some 16) (v := ?_) (a' := ?_) #[true, true, true, true, true, true, true, true] rfl rfl (any_of HT_.out (by kernel_rfl)) (fun _ _ _ h => h) (Or.inl ⟨by rfl, ?_⟩) ?_ ?_
  rotate_left;(intro w';go_simp;with_reducible rfl);rotate_left;(simp only [Act.put, psA, pzA, pnA, i64_w, i32_w];rfl)
  refine done_ (done_of HT_.out (by kernel_rfl)) ?_
  try go_wp2
  first | go_end0 | ((try simp only [Exit.inBlock, Exit.then]); refine bodyPost_ret (results_none rfl _ _ _) rfl ?_)
  obtain rfl := Option.some.inj H
  exact ⟨rfl, BK701.out, BK705.out, HBut.out.trans (But.of_below HB.out)⟩
end
section
noncomputable def impl_joint_1.has (l0 : List Int) (y : Int) : Option Bool := tot fun k => impl_joint_1_1.f k y l0
noncomputable def impl_joint_1.f (l0 : List Int) (s701_0 s701_1 s701_2 s702_0 s702_1 s702_2 s703_0 s703_1 s703_2 : Int) (s : Int × Int) : Option (Int × Int) :=
 (impl_Flag_on.f s701_0 s701_1 s701_2 l0).bind fun bt => (impl_Flag_alike.f bt.1 bt.2.1 bt.2.2 s702_0 s702_1 s702_2).bind fun t737 => (impl_Flag_others.f s701_0 s701_1 s701_2).bind fun t739 => (tot fun k => slices_DeleteFunc_int64_int64.f (impl_joint_1.has l0) k t739).bind fun t742 => (impl_Flag_free.f s703_0 s703_1 s703_2).bind fun t745 => impl_chosen.fs (fun l a => impl_joint_1_2.f l a.1 t737 s701_0 s701_1 s701_2 s703_0 s703_1 s703_2 a.2) t742 t745 s
theorem impl_joint_1.hasCalls (a0 : Int) (r : Bool) (gb701 : Nat) (A701 : Option Addr) (c701 : Nat) (l701 : List Int) (w : World) (hb701 : w.heap[gb701]? = some (.cells #[.slice A701 l701.length c701] 62 (0, 0))) (hr701 : Kd.C (Kd.int .i64) w A701 l701.length l701) (hc701 : l701.length ≤ c701) (h : impl_joint_1.has l701 a0 = some r) :
  Calls Try.prog 139 (#[] ++ #[.int .i64 a0] ++ #[.pointer (some ⟨gb701, 0, none⟩)]) w fun e w' => e = .returned (.bool r) ∧ Below w.heap.size w w' := by
 obtain ⟨k, hk⟩ := tot_get h
 exact impl_joint_1_1.calls k a0 r gb701 A701 c701 l701 w hb701 hr701 hc701 hk
set_option maxHeartbeats 8000000 in
set_option maxRecDepth 100000 in
theorem impl_joint_1.state (A0 : Option Addr) (c0 : Nat) (l0 : List Int) (gb701 : Nat) (s701_0 s701_1 s701_2 : Int) (gb702 : Nat) (s702_0 s702_1 s702_2 : Int) (gb703 : Nat) (s703_0 s703_1 s703_2 : Int) (gb704 gb705 : Nat) (s r : Int × Int) (w : World) (hne : gb701 ≠ gb704 ∧ gb703 ≠ gb704 ∧ gb705 ≠ gb704 ∧ gb701 ≠ gb705 ∧ gb703 ≠ gb705) (hb701 : w.heap[gb701]? = some (.cells #[.int .i64 s701_0, .int .i64 s701_1, .int .u32 s701_2] 45 (0, 0))) (hb702 : w.heap[gb702]? = some (.cells #[.int .i64 s702_0, .int .i64 s702_1, .int .u32 s702_2] 45 (0, 0))) (hb703 : w.heap[gb703]? = some (.cells #[.int .i64 s703_0, .int .i64 s703_1, .int .u32 s703_2] 45 (0, 0))) (hb704 : w.heap[gb704]? = some (.cells #[.int .i64 s.1] 2 (0, 0))) (hb705 : w.heap[gb705]? = some (.cells #[.int .i64 s.2] 2 (0, 0))) (hr0 : Kd.C (Kd.int .i64) w A0 l0.length l0) (hc0 : l0.length ≤ c0) (h : impl_joint_1.f l0 s701_0 s701_1 s701_2 s702_0 s702_1 s702_2 s703_0 s703_1 s703_2 s = some r) :
  Calls Try.prog 137 #[.slice A0 l0.length c0, .pointer (some ⟨gb701, 0, none⟩), .pointer (some ⟨gb702, 0, none⟩), .pointer (some ⟨gb703, 0, none⟩), .pointer (some ⟨gb704, 0, none⟩), .pointer (some ⟨gb705, 0, none⟩)] w fun e w' => e = .returned (.tuple #[]) ∧ w'.heap[gb704]? = some (.cells #[.int .i64 r.1] 2 (0, 0)) ∧ w'.heap[gb705]? = some (.cells #[.int .i64 r.2] 2 (0, 0)) ∧ But (fun k => k = gb704 ∨ k = gb705) w w' := by
 have huF := Try.underlying45
 have BK701 := Aside0.mk hb701
 clear hb701
 have BK702 := Aside0.mk hb702
 clear hb702
 have BK703 := Aside0.mk hb703
 clear hb703
 have BK704 := Aside0.mk hb704
 clear hb704
 have BK705 := Aside0.mk hb705
 clear hb705
 have HR0 := Aside0.mk hr0
 have HC0 := Aside0.mk hc0
 have HNE := Aside0.mk hne
 clear hr0 hc0 hne
 have HB := Aside0.mk (Below.refl w.heap.size w)
 unfold impl_joint_1.f at h
 obtain ⟨⟨t734, t735, t736⟩, A20, h⟩ := Option.bind_eq_some_iff.mp h
 have A2 := Aside0.mk A20
 obtain ⟨t737, A30, h⟩ := Option.bind_eq_some_iff.mp h
 have A3 : Aside0 (impl_Flag_alike.f t734 t735 t736 s702_0 s702_1 s702_2 = some t737) := ⟨A30⟩
 obtain ⟨t739, A40, h⟩ := Option.bind_eq_some_iff.mp h
 have A4 := Aside0.mk A40
 obtain ⟨t742, A50, h⟩ := Option.bind_eq_some_iff.mp h
 obtain ⟨kD, A51⟩ := tot_get A50
 have A5 := Aside0.mk A51
 obtain ⟨t745, A60, h⟩ := Option.bind_eq_some_iff.mp h
 have A6 := Aside0.mk A60
 have A7 := Aside0.mk h
 clear A20 A30 A40 A50 A51 A60 h
 go_enter Try.func137, Try.ntmps137
 try go_wp2_with (first | ((with_reducible refine gate_dst (N := 6) rfl ?_); refine box_event rfl (N := 6) rfl (cs := #[.slice A0 l0.length c0]) (t := 62) ?hr ?_; (case hr => first | (go_simp; done) | (go_simp; rfl)); intro gb733 hg w8 hbox hb; have BK733 := Aside0.mk (hbox); have GW733 := geA HB hg; replace HB := hbB HB hb; have GE733 := GW733; have NB701_733 := nbA hg BK701; replace BK701 := bkB BK701 hb; have NB733_701 := neA NB701_733; have NB702_733 := nbA hg BK702; replace BK702 := bkB BK702 hb; have NB733_702 := neA NB702_733; have NB703_733 := nbA hg BK703; replace BK703 := bkB BK703 hb; have NB733_703 := neA NB703_733; have NB704_733 := nbA hg BK704; replace BK704 := bkB BK704 hb; have NB733_704 := neA NB704_733; have NB705_733 := nbA hg BK705; replace BK705 := bkB BK705 hb; have NB733_705 := neA NB705_733; clear hb hbox hg))
 replace BK701 := Aside0.mk (blk_drew BK701.out)
 replace BK702 := Aside0.mk (blk_drew BK702.out)
 replace BK703 := Aside0.mk (blk_drew BK703.out)
 replace BK704 := Aside0.mk (blk_drew BK704.out)
 replace BK705 := Aside0.mk (blk_drew BK705.out)
 replace BK733 := Aside0.mk (blk_drew BK733.out)
 replace HB := Aside0.mk (below_drew1 HB.out)
 refine start_ (n := 7) (S := fun w' => w'.cell? ⟨gb701, 0, none⟩ = some (.int .i64 s701_0) ∧ w'.cell? ⟨gb701, 1, none⟩ = some (.int .i64 s701_1) ∧ w'.cell? ⟨gb701, 2, none⟩ = some (.int .u32 s701_2) ∧ w'.cell? ⟨gb733, 0, none⟩ = some (.slice A0 l0.length c0) ∧ w'.cell? ⟨gb702, 0, none⟩ = some (.int .i64 s702_0) ∧ w'.cell? ⟨gb702, 1, none⟩ = some (.int .i64 s702_1) ∧ w'.cell? ⟨gb702, 2, none⟩ = some (.int .u32 s702_2)) (ds := []) #[false, false, false, false, false, false, false] (by kernel_rfl) rfl rfl ⟨bcA BK701 0 rfl, bcA BK701 1 rfl, bcA BK701 2 rfl, bcA BK733 0 rfl, bcA BK702 0 rfl, bcA BK702 1 rfl, bcA BK702 2 rfl⟩ (fun hHeld => ?_)
 generalize w8.drew = w9 at BK701 BK702 BK703 BK704 BK705 BK733 HB hHeld ⊢
 refine take_ (i := 0) (N := some 9) (v := ?_) (a' := ?_) #[true, false, false, false, false, false, false] rfl rfl (by kernel_rfl) (fun _ _ _ h => h) (Or.inl ⟨by rfl, ?_⟩) hHeld ?_ ?_
 rotate_left;(rintro w' ⟨s0, s1, s2, s3, s4, s5, s6⟩;go_simp;with_reducible rfl);rotate_left;(simp only [Act.put, psA, pzA, pnA, i64_w, i32_w];rfl)
 refine take_ (i := 1) (N := some 10) (v := ?_) (a' := ?_) #[true, true, false, false, false, false, false] rfl rfl (by kernel_rfl) (fun _ _ _ h => h) (Or.inl ⟨by rfl, ?_⟩) hHeld ?_ ?_
 rotate_left;(rintro w' ⟨s0, s1, s2, s3, s4, s5, s6⟩;go_simp;with_reducible rfl);rotate_left;(simp only [Act.put, psA, pzA, pnA, i64_w, i32_w];rfl)
 refine take_ (i := 3) (N := some 12) (v := ?_) (a' := ?_) #[true, true, false, true, false, false, false] rfl rfl (by kernel_rfl) (fun _ _ _ h => h) (Or.inl ⟨by rfl, ?_⟩) hHeld ?_ ?_
 rotate_left;(rintro w' ⟨s0, s1, s2, s3, s4, s5, s6⟩;go_simp;with_reducible rfl);rotate_left;(simp only [Act.put, psA, pzA, pnA, i64_w, i32_w];rfl)
 refine join_ (σ := Nat) 1 #[true, true, true, true, true, true, false] (fun s_ => [(11, .agg #[.int .i64 t734, .int .i64 t735, .int .u32 t736]), (13, .bool t737), (7, .pointer (some ⟨s_, 0, none⟩))]) (fun s_ w' => (w'.cell? ⟨gb701, 0, none⟩ = some (.int .i64 s701_0) ∧ w'.cell? ⟨gb701, 1, none⟩ = some (.int .i64 s701_1) ∧ w'.cell? ⟨gb701, 2, none⟩ = some (.int .u32 s701_2) ∧ w'.cell? ⟨gb733, 0, none⟩ = some (.slice A0 l0.length c0) ∧ w'.cell? ⟨gb702, 0, none⟩ = some (.int .i64 s702_0) ∧ w'.cell? ⟨gb702, 1, none⟩ = some (.int .i64 s702_1) ∧ w'.cell? ⟨gb702, 2, none⟩ = some (.int .u32 s702_2)) ∧ (w'.heap[gb701]? = some (.cells #[.int .i64 s701_0, .int .i64 s701_1, .int .u32 s701_2] 45 (0, 0))) ∧ (w'.heap[gb702]? = some (.cells #[.int .i64 s702_0, .int .i64 s702_1, .int .u32 s702_2] 45 (0, 0))) ∧ (w'.heap[gb703]? = some (.cells #[.int .i64 s703_0, .int .i64 s703_1, .int .u32 s703_2] 45 (0, 0))) ∧ (w'.heap[gb704]? = some (.cells #[.int .i64 s.1] 2 (0, 0))) ∧ (w'.heap[gb705]? = some (.cells #[.int .i64 s.2] 2 (0, 0))) ∧ (w'.heap[gb733]? = some (.cells #[.slice A0 l0.length c0] 62 (0, 0))) ∧ (w'.heap[s_]? = some (.cells #[.bool false] 4 (0, 0))) ∧ (w.heap.size ≤ s_) ∧ (w.heap.size ≤ s_) ∧ (gb701 ≠ s_) ∧ (s_ ≠ gb701) ∧ (gb702 ≠ s_) ∧ (s_ ≠ gb702) ∧ (gb703 ≠ s_) ∧ (s_ ≠ gb703) ∧ (gb704 ≠ s_) ∧ (s_ ≠ gb704) ∧ (gb705 ≠ s_) ∧ (s_ ≠ gb705) ∧ (gb733 ≠ s_) ∧ (s_ ≠ gb733) ∧ (Below w.heap.size w w')) ?_ ?_
 rotate_left
 ·intro hCont
  refine two_ (i := 2) (j := 5) (Ni := some 11) (Nj := some 7) #[true, true, true, true, false, false, false] #[true, true, false, true, false, true, false] rfl rfl rfl rfl (by kernel_rfl) (by decide) (by decide) (fun K hK => ?_) (fun K hK => ?_)
  ·skip
   refine goes_ Try.func130 (by kernel_rfl) rfl #[.agg #[.int .i64 s701_0, .int .i64 s701_1, .int .u32 s701_2], .slice A0 l0.length c0] (by rfl) rfl rfl (by first | rfl | (simp only [List.map_toArray, List.map_cons, List.map_nil, List.length_drop, List.length_take]; rfl)) ?_
   with_reducible refine (impl_Flag_on.calls s701_0 s701_1 s701_2 _ _ l0 t734 t735 t736 _ ?side1 ?side2 A2.out).mono ?_
   (case side1 => repeat (first | exact (Kd.C_below HR0.out HB.out) | (with_reducible refine Kd.C_alloc ?_ _) | (with_reducible refine Kd.C_drewN ?_ _) | (with_reducible refine Kd.C_drew ?_)))
   (case side2 => exact HC0.out)
   rintro e w10 ⟨rfl, hb⟩
   refine ⟨_, rfl, ?_⟩
   replace BK701 := bkB BK701 hb
   replace BK702 := bkB BK702 hb
   replace BK703 := bkB BK703 hb
   replace BK704 := bkB BK704 hb
   replace BK705 := bkB BK705 hb
   replace BK733 := bkB BK733 hb
   replace HB := hbB HB hb
   (try clear hb)
   (try clear hk)
   refine hK.out _ _ ⟨bcA BK701 0 rfl, bcA BK701 1 rfl, bcA BK701 2 rfl, bcA BK733 0 rfl, bcA BK702 0 rfl, bcA BK702 1 rfl, bcA BK702 2 rfl⟩ (fun hHeld => ?_)
   clear hK K
   refine norm_ (a' := ?_) ?_ ?_
   rotate_left;(show Act.put _ (some 11) _ = _;simp only [Act.put, psA, pzA, pnA, i64_w, i32_w];rfl)
   refine two_ (i := 4) (j := 5) (Ni := some 13) (Nj := some 7) #[true, true, true, true, true, false, false] #[true, true, true, true, false, true, false] rfl rfl rfl rfl (by kernel_rfl) (by decide) (by decide) (fun K hK => ?_) (fun K hK => ?_)
   ·skip
    refine goes_ Try.func131 (by kernel_rfl) rfl #[.agg #[.int .i64 t734, .int .i64 t735, .int .u32 t736], .agg #[.int .i64 s702_0, .int .i64 s702_1, .int .u32 s702_2]] (by rfl) rfl rfl (by first | rfl | (simp only [List.map_toArray, List.map_cons, List.map_nil, List.length_drop, List.length_take]; rfl)) ?_
    with_reducible refine (impl_Flag_alike.calls t734 t735 t736 s702_0 s702_1 s702_2 t737 _ A3.out).mono ?_
    rintro e w11 ⟨rfl, hb⟩
    refine ⟨_, rfl, ?_⟩
    replace BK701 := bkB BK701 hb
    replace BK702 := bkB BK702 hb
    replace BK703 := bkB BK703 hb
    replace BK704 := bkB BK704 hb
    replace BK705 := bkB BK705 hb
    replace BK733 := bkB BK733 hb
    replace HB := hbB HB hb
    (try clear hb)
    (try clear hk)
    refine hK.out _ _ ⟨bcA BK701 0 rfl, bcA BK701 1 rfl, bcA BK701 2 rfl, bcA BK733 0 rfl, bcA BK702 0 rfl, bcA BK702 1 rfl, bcA BK702 2 rfl⟩ (fun hHeld => ?_)
    clear hK K
    refine norm_ (a' := ?_) ?_ ?_
    rotate_left;(show Act.put _ (some 13) _ = _;simp only [Act.put, psA, pzA, pnA, i64_w, i32_w];rfl)
    refine one_ (i := 5) (N := some 7) #[true, true, true, true, true, true, false] rfl rfl (by kernel_rfl) (by decide) (fun K hK => ?_)
    refine box_step ?hg (N := 7) ?hd (cs := #[.bool false]) (t := 4) ?hr ?_; (case hd => rfl); (case hg => rfl); (case hr => first | (go_simp; done) | (go_simp; rfl))
    intro gb738 hg w12 hbox hb
    have BK738 := Aside0.mk (hbox)
    have GW738 := geA HB hg
    replace HB := hbB HB hb
    have GE738 := GW738
    have NB701_738 := nbA hg BK701
    replace BK701 := bkB BK701 hb
    have NB738_701 := neA NB701_738
    have NB702_738 := nbA hg BK702
    replace BK702 := bkB BK702 hb
    have NB738_702 := neA NB702_738
    have NB703_738 := nbA hg BK703
    replace BK703 := bkB BK703 hb
    have NB738_703 := neA NB703_738
    have NB704_738 := nbA hg BK704
    replace BK704 := bkB BK704 hb
    have NB738_704 := neA NB704_738
    have NB705_738 := nbA hg BK705
    replace BK705 := bkB BK705 hb
    have NB738_705 := neA NB705_738
    have NB733_738 := nbA hg BK733
    replace BK733 := bkB BK733 hb
    have NB738_733 := neA NB733_738
    clear hb hbox hg
    refine hK.out _ _ ⟨bcA BK701 0 rfl, bcA BK701 1 rfl, bcA BK701 2 rfl, bcA BK733 0 rfl, bcA BK702 0 rfl, bcA BK702 1 rfl, bcA BK702 2 rfl⟩ (fun hHeld => ?_)
    clear hK K
    refine norm_ (a' := ?_) ?_ ?_
    rotate_left;(show Act.put _ (some 7) _ = _;simp only [Act.put, psA, pzA, pnA, i64_w, i32_w];rfl)
    exact norm_ (by simp only [putAll, Act.put, psA, pzA, pnA]) (hCont (gb738) _ ⟨hHeld, BK701.out, BK702.out, BK703.out, BK704.out, BK705.out, BK733.out, BK738.out, GW738.out, GE738.out, NB701_738.out, NB738_701.out, NB702_738.out, NB738_702.out, NB703_738.out, NB738_703.out, NB704_738.out, NB738_704.out, NB705_738.out, NB738_705.out, NB733_738.out, NB738_733.out, HB.out⟩)
   ·skip
    refine box_step ?hg (N := 7) ?hd (cs := #[.bool false]) (t := 4) ?hr ?_; (case hd => rfl); (case hg => rfl); (case hr => first | (go_simp; done) | (go_simp; rfl))
    intro gb738 hg w11 hbox hb
    have BK738 := Aside0.mk (hbox)
    have GW738 := geA HB hg
    replace HB := hbB HB hb
    have GE738 := GW738
    have NB701_738 := nbA hg BK701
    replace BK701 := bkB BK701 hb
    have NB738_701 := neA NB701_738
    have NB702_738 := nbA hg BK702
    replace BK702 := bkB BK702 hb
    have NB738_702 := neA NB702_738
    have NB703_738 := nbA hg BK703
    replace BK703 := bkB BK703 hb
    have NB738_703 := neA NB703_738
    have NB704_738 := nbA hg BK704
    replace BK704 := bkB BK704 hb
    have NB738_704 := neA NB704_738
    have NB705_738 := nbA hg BK705
    replace BK705 := bkB BK705 hb
    have NB738_705 := neA NB705_738
    have NB733_738 := nbA hg BK733
    replace BK733 := bkB BK733 hb
    have NB738_733 := neA NB733_738
    clear hb hbox hg
    refine hK.out _ _ ⟨bcA BK701 0 rfl, bcA BK701 1 rfl, bcA BK701 2 rfl, bcA BK733 0 rfl, bcA BK702 0 rfl, bcA BK702 1 rfl, bcA BK702 2 rfl⟩ (fun hHeld => ?_)
    clear hK K
    refine norm_ (a' := ?_) ?_ ?_
    rotate_left;(show Act.put _ (some 7) _ = _;simp only [Act.put, psA, pzA, pnA, i64_w, i32_w];rfl)
    refine one_ (i := 4) (N := some 13) #[true, true, true, true, true, true, false] rfl rfl (by kernel_rfl) (by decide) (fun K hK => ?_)
    refine goes_ Try.func131 (by kernel_rfl) rfl #[.agg #[.int .i64 t734, .int .i64 t735, .int .u32 t736], .agg #[.int .i64 s702_0, .int .i64 s702_1, .int .u32 s702_2]] (by rfl) rfl rfl (by first | rfl | (simp only [List.map_toArray, List.map_cons, List.map_nil, List.length_drop, List.length_take]; rfl)) ?_
    with_reducible refine (impl_Flag_alike.calls t734 t735 t736 s702_0 s702_1 s702_2 t737 _ A3.out).mono ?_
    rintro e w12 ⟨rfl, hb⟩
    refine ⟨_, rfl, ?_⟩
    replace BK701 := bkB BK701 hb
    replace BK702 := bkB BK702 hb
    replace BK703 := bkB BK703 hb
    replace BK704 := bkB BK704 hb
    replace BK705 := bkB BK705 hb
    replace BK733 := bkB BK733 hb
    replace BK738 := bkB BK738 hb
    replace HB := hbB HB hb
    (try clear hb)
    (try clear hk)
    refine hK.out _ _ ⟨bcA BK701 0 rfl, bcA BK701 1 rfl, bcA BK701 2 rfl, bcA BK733 0 rfl, bcA BK702 0 rfl, bcA BK702 1 rfl, bcA BK702 2 rfl⟩ (fun hHeld => ?_)
    clear hK K
    refine norm_ (a' := ?_) ?_ ?_
    rotate_left;(show Act.put _ (some 13) _ = _;simp only [Act.put, psA, pzA, pnA, i64_w, i32_w];rfl)
    exact norm_ (by simp only [putAll, Act.put, psA, pzA, pnA]) (hCont (gb738) _ ⟨hHeld, BK701.out, BK702.out, BK703.out, BK704.out, BK705.out, BK733.out, BK738.out, GW738.out, GE738.out, NB701_738.out, NB738_701.out, NB702_738.out, NB738_702.out, NB703_738.out, NB738_703.out, NB704_738.out, NB738_704.out, NB705_738.out, NB738_705.out, NB733_738.out, NB738_733.out, HB.out⟩)
  ·skip
   refine box_step ?hg (N := 7) ?hd (cs := #[.bool false]) (t := 4) ?hr ?_; (case hd => rfl); (case hg => rfl); (case hr => first | (go_simp; done) | (go_simp; rfl))
   intro gb738 hg w10 hbox hb
   have BK738 := Aside0.mk (hbox)
   have GW738 := geA HB hg
   replace HB := hbB HB hb
   have GE738 := GW738
   have NB701_738 := nbA hg BK701
   replace BK701 := bkB BK701 hb
   have NB738_701 := neA NB701_738
   have NB702_738 := nbA hg BK702
   replace BK702 := bkB BK702 hb
   have NB738_702 := neA NB702_738
   have NB703_738 := nbA hg BK703
   replace BK703 := bkB BK703 hb
   have NB738_703 := neA NB703_738
   have NB704_738 := nbA hg BK704
   replace BK704 := bkB BK704 hb
   have NB738_704 := neA NB704_738
   have NB705_738 := nbA hg BK705
   replace BK705 := bkB BK705 hb
   have NB738_705 := neA NB705_738
   have NB733_738 := nbA hg BK733
   replace BK733 := bkB BK733 hb
   have NB738_733 := neA NB733_738
   clear hb hbox hg
   refine hK.out _ _ ⟨bcA BK701 0 rfl, bcA BK701 1 rfl, bcA BK701 2 rfl, bcA BK733 0 rfl, bcA BK702 0 rfl, bcA BK702 1 rfl, bcA BK702 2 rfl⟩ (fun hHeld => ?_)
   clear hK K
   refine norm_ (a' := ?_) ?_ ?_
   rotate_left;(show Act.put _ (some 7) _ = _;simp only [Act.put, psA, pzA, pnA, i64_w, i32_w];rfl)
   refine one_ (i := 2) (N := some 11) #[true, true, true, true, false, true, false] rfl rfl (by kernel_rfl) (by decide) (fun K hK => ?_)
   refine goes_ Try.func130 (by kernel_rfl) rfl #[.agg #[.int .i64 s701_0, .int .i64 s701_1, .int .u32 s701_2], .slice A0 l0.length c0] (by rfl) rfl rfl (by first | rfl | (simp only [List.map_toArray, List.map_cons, List.map_nil, List.length_drop, List.length_take]; rfl)) ?_
   with_reducible refine (impl_Flag_on.calls s701_0 s701_1 s701_2 _ _ l0 t734 t735 t736 _ ?side1 ?side2 A2.out).mono ?_
   (case side1 => repeat (first | exact (Kd.C_below HR0.out HB.out) | (with_reducible refine Kd.C_alloc ?_ _) | (with_reducible refine Kd.C_drewN ?_ _) | (with_reducible refine Kd.C_drew ?_)))
   (case side2 => exact HC0.out)
   rintro e w11 ⟨rfl, hb⟩
   refine ⟨_, rfl, ?_⟩
   replace BK701 := bkB BK701 hb
   replace BK702 := bkB BK702 hb
   replace BK703 := bkB BK703 hb
   replace BK704 := bkB BK704 hb
   replace BK705 := bkB BK705 hb
   replace BK733 := bkB BK733 hb
   replace BK738 := bkB BK738 hb
   replace HB := hbB HB hb
   (try clear hb)
   (try clear hk)
   refine hK.out _ _ ⟨bcA BK701 0 rfl, bcA BK701 1 rfl, bcA BK701 2 rfl, bcA BK733 0 rfl, bcA BK702 0 rfl, bcA BK702 1 rfl, bcA BK702 2 rfl⟩ (fun hHeld => ?_)
   clear hK K
   refine norm_ (a' := ?_) ?_ ?_
   rotate_left;(show Act.put _ (some 11) _ = _;simp only [Act.put, psA, pzA, pnA, i64_w, i32_w];rfl)
   refine one_ (i := 4) (N := some 13) #[true, true, true, true, true, true, false] rfl rfl (by kernel_rfl) (by decide) (fun K hK => ?_)
   refine goes_ Try.func131 (by kernel_rfl) rfl #[.agg #[.int .i64 t734, .int .i64 t735, .int .u32 t736], .agg #[.int .i64 s702_0, .int .i64 s702_1, .int .u32 s702_2]] (by rfl) rfl rfl (by first | rfl | (simp only [List.map_toArray, List.map_cons, List.map_nil, List.length_drop, List.length_take]; rfl)) ?_
   with_reducible refine (impl_Flag_alike.calls t734 t735 t736 s702_0 s702_1 s702_2 t737 _ A3.out).mono ?_
   rintro e w12 ⟨rfl, hb⟩
   refine ⟨_, rfl, ?_⟩
   replace BK701 := bkB BK701 hb
   replace BK702 := bkB BK702 hb
   replace BK703 := bkB BK703 hb
   replace BK704 := bkB BK704 hb
   replace BK705 := bkB BK705 hb
   replace BK733 := bkB BK733 hb
   replace BK738 := bkB BK738 hb
   replace HB := hbB HB hb
   (try clear hb)
   (try clear hk)
   refine hK.out _ _ ⟨bcA BK701 0 rfl, bcA BK701 1 rfl, bcA BK701 2 rfl, bcA BK733 0 rfl, bcA BK702 0 rfl, bcA BK702 1 rfl, bcA BK702 2 rfl⟩ (fun hHeld => ?_)
   clear hK K
   refine norm_ (a' := ?_) ?_ ?_
   rotate_left;(show Act.put _ (some 13) _ = _;simp only [Act.put, psA, pzA, pnA, i64_w, i32_w];rfl)
   exact norm_ (by simp only [putAll, Act.put, psA, pzA, pnA]) (hCont (gb738) _ ⟨hHeld, BK701.out, BK702.out, BK703.out, BK704.out, BK705.out, BK733.out, BK738.out, GW738.out, GE738.out, NB701_738.out, NB738_701.out, NB702_738.out, NB738_702.out, NB703_738.out, NB738_703.out, NB704_738.out, NB738_704.out, NB705_738.out, NB738_705.out, NB733_738.out, NB738_733.out, HB.out⟩)
 rintro gb738 w13 ⟨hS_, h0_, h1_, h2_, h3_, h4_, h5_, h6_, h7_, h8_, h9_, h10_, h11_, h12_, h13_, h14_, h15_, h16_, h17_, h18_, h19_, h20_, h21_⟩
 have n0_ : Aside0 (w13.heap[gb701]? = some (.cells #[.int .i64 s701_0, .int .i64 s701_1, .int .u32 s701_2] 45 (0, 0))) := ⟨h0_⟩
 have n1_ : Aside0 (w13.heap[gb702]? = some (.cells #[.int .i64 s702_0, .int .i64 s702_1, .int .u32 s702_2] 45 (0, 0))) := ⟨h1_⟩
 have n2_ : Aside0 (w13.heap[gb703]? = some (.cells #[.int .i64 s703_0, .int .i64 s703_1, .int .u32 s703_2] 45 (0, 0))) := ⟨h2_⟩
 have n3_ : Aside0 (w13.heap[gb704]? = some (.cells #[.int .i64 s.1] 2 (0, 0))) := ⟨h3_⟩
 have n4_ : Aside0 (w13.heap[gb705]? = some (.cells #[.int .i64 s.2] 2 (0, 0))) := ⟨h4_⟩
 have n5_ : Aside0 (w13.heap[gb733]? = some (.cells #[.slice A0 l0.length c0] 62 (0, 0))) := ⟨h5_⟩
 have n6_ : Aside0 (w13.heap[gb738]? = some (.cells #[.bool false] 4 (0, 0))) := ⟨h6_⟩
 have n7_ : Aside0 (w.heap.size ≤ gb738) := ⟨h7_⟩
 have n8_ : Aside0 (w.heap.size ≤ gb738) := ⟨h8_⟩
 have n9_ : Aside0 (gb701 ≠ gb738) := ⟨h9_⟩
 have n10_ : Aside0 (gb738 ≠ gb701) := ⟨h10_⟩
 have n11_ : Aside0 (gb702 ≠ gb738) := ⟨h11_⟩
 have n12_ : Aside0 (gb738 ≠ gb702) := ⟨h12_⟩
 have n13_ : Aside0 (gb703 ≠ gb738) := ⟨h13_⟩
 have n14_ : Aside0 (gb738 ≠ gb703) := ⟨h14_⟩
 have n15_ : Aside0 (gb704 ≠ gb738) := ⟨h15_⟩
 have n16_ : Aside0 (gb738 ≠ gb704) := ⟨h16_⟩
 have n17_ : Aside0 (gb705 ≠ gb738) := ⟨h17_⟩
 have n18_ : Aside0 (gb738 ≠ gb705) := ⟨h18_⟩
 have n19_ : Aside0 (gb733 ≠ gb738) := ⟨h19_⟩
 have n20_ : Aside0 (gb738 ≠ gb733) := ⟨h20_⟩
 have n21_ : Aside0 (Below w.heap.size w w13) := ⟨h21_⟩
 clear BK701 BK702 BK703 BK704 BK705 BK733 HB
 clear h0_ h1_ h2_ h3_ h4_ h5_ h6_ h7_ h8_ h9_ h10_ h11_ h12_ h13_ h14_ h15_ h16_ h17_ h18_ h19_ h20_ h21_
 have BK701 := n0_
 have BK702 := n1_
 have BK703 := n2_
 have BK704 := n3_
 have BK705 := n4_
 have BK733 := n5_
 have BK738 := n6_
 have GW738 := n7_
 have GE738 := n8_
 have NB701_738 := n9_
 have NB738_701 := n10_
 have NB702_738 := n11_
 have NB738_702 := n12_
 have NB703_738 := n13_
 have NB738_703 := n14_
 have NB704_738 := n15_
 have NB738_704 := n16_
 have NB705_738 := n17_
 have NB738_705 := n18_
 have NB733_738 := n19_
 have NB738_733 := n20_
 have HB := n21_
 clear n0_ n1_ n2_ n3_ n4_ n5_ n6_ n7_ n8_ n9_ n10_ n11_ n12_ n13_ n14_ n15_ n16_ n17_ n18_ n19_ n20_ n21_
 have hHeld : w13.cell? ⟨gb701, 0, none⟩ = some (.int .i64 s701_0) ∧ w13.cell? ⟨gb701, 1, none⟩ = some (.int .i64 s701_1) ∧ w13.cell? ⟨gb701, 2, none⟩ = some (.int .u32 s701_2) ∧ w13.cell? ⟨gb733, 0, none⟩ = some (.slice A0 l0.length c0) ∧ w13.cell? ⟨gb702, 0, none⟩ = some (.int .i64 s702_0) ∧ w13.cell? ⟨gb702, 1, none⟩ = some (.int .i64 s702_1) ∧ w13.cell? ⟨gb702, 2, none⟩ = some (.int .u32 s702_2) := hS_
 refine norm_ (a' := ?_) ?_ ?_
 rotate_left;(simp only [putAll, Act.put, psA, pzA, pnA];rfl)
 refine one_ (i := 6) (N := none) #[true, true, true, true, true, true, true] rfl rfl (by kernel_rfl) (by decide) (fun K hK => ?_)
 have hs14 : w13.cell? ⟨gb738, 0, none⟩ = some (.bool false) := bcA BK738 0 rfl
 have hfs14 := blk_frozen BK738.out 0
 have hns14_0 := NB701_738.out
 have hns14_1 := NB702_738.out
 have hns14_2 := NB703_738.out
 have hns14_3 := NB704_738.out
 have hns14_4 := NB705_738.out
 have hns14_5 := NB733_738.out
 have hms14_0 := NB738_701.out
 have hms14_1 := NB738_702.out
 have hms14_2 := NB738_703.out
 have hms14_3 := NB738_704.out
 have hms14_4 := NB738_705.out
 have hms14_5 := NB738_733.out
 refine skip_ (w1 := ?_) (by rfl) rfl ?_ ?_
 rotate_left
 ·go_simp
  rfl
 refine hK.out _ _ ⟨((cell_far (p := ⟨gb738, _, none⟩) NB701_738.out _).trans (hHeld.1)), ((cell_far (p := ⟨gb738, _, none⟩) NB701_738.out _).trans (hHeld.2.1)), ((cell_far (p := ⟨gb738, _, none⟩) NB701_738.out _).trans (hHeld.2.2.1)), ((cell_far (p := ⟨gb738, _, none⟩) NB733_738.out _).trans (hHeld.2.2.2.1)), ((cell_far (p := ⟨gb738, _, none⟩) NB702_738.out _).trans (hHeld.2.2.2.2.1)), ((cell_far (p := ⟨gb738, _, none⟩) NB702_738.out _).trans (hHeld.2.2.2.2.2.1)), ((cell_far (p := ⟨gb738, _, none⟩) NB702_738.out _).trans (hHeld.2.2.2.2.2.2))⟩ (fun hHeld => ?_)
 clear hK K
 refine done_ (by kernel_rfl) ?_
 have n0_ : Aside0 ((w13.setCell ⟨gb738, 0, none⟩ (.bool t737)).heap[gb701]? = some (.cells #[.int .i64 s701_0, .int .i64 s701_1, .int .u32 s701_2] 45 (0, 0))) := ⟨blk_far BK701.out NB701_738.out _⟩
 have n1_ : Aside0 ((w13.setCell ⟨gb738, 0, none⟩ (.bool t737)).heap[gb702]? = some (.cells #[.int .i64 s702_0, .int .i64 s702_1, .int .u32 s702_2] 45 (0, 0))) := ⟨blk_far BK702.out NB702_738.out _⟩
 have n2_ : Aside0 ((w13.setCell ⟨gb738, 0, none⟩ (.bool t737)).heap[gb703]? = some (.cells #[.int .i64 s703_0, .int .i64 s703_1, .int .u32 s703_2] 45 (0, 0))) := ⟨blk_far BK703.out NB703_738.out _⟩
 have n3_ : Aside0 ((w13.setCell ⟨gb738, 0, none⟩ (.bool t737)).heap[gb704]? = some (.cells #[.int .i64 s.1] 2 (0, 0))) := ⟨blk_far BK704.out NB704_738.out _⟩
 have n4_ : Aside0 ((w13.setCell ⟨gb738, 0, none⟩ (.bool t737)).heap[gb705]? = some (.cells #[.int .i64 s.2] 2 (0, 0))) := ⟨blk_far BK705.out NB705_738.out _⟩
 have n5_ : Aside0 ((w13.setCell ⟨gb738, 0, none⟩ (.bool t737)).heap[gb733]? = some (.cells #[.slice A0 l0.length c0] 62 (0, 0))) := ⟨blk_far BK733.out NB733_738.out _⟩
 have n6_ : Aside0 ((w13.setCell ⟨gb738, 0, none⟩ (.bool t737)).heap[gb738]? = some (.cells #[.bool t737] 4 (0, 0))) := ⟨blk_put (cs := #[.bool false]) BK738.out 0 _ rfl⟩
 have n7_ : Aside0 (Below w.heap.size w (w13.setCell ⟨gb738, 0, none⟩ (.bool t737))) := ⟨below_set HB.out GE738.out⟩
 clear BK701 BK702 BK703 BK704 BK705 BK733 BK738 HB
 generalize (w13.setCell ⟨gb738, 0, none⟩ (.bool t737)) = wB at n0_ n1_ n2_ n3_ n4_ n5_ n6_ n7_ ⊢
 have BK701 := n0_
 have BK702 := n1_
 have BK703 := n2_
 have BK704 := n3_
 have BK705 := n4_
 have BK733 := n5_
 have BK738 := n6_
 have HB := n7_
 clear n0_ n1_ n2_ n3_ n4_ n5_ n6_ n7_ hHeld
 have hcz21_0 : wB.cell? ⟨gb701, 0, none⟩ = some (.int .i64 s701_0) := bcA BK701 0 rfl
 have hcz21_1 : wB.cell? ⟨gb701, 1, none⟩ = some (.int .i64 s701_1) := bcA BK701 1 rfl
 have hcz21_2 : wB.cell? ⟨gb701, 2, none⟩ = some (.int .u32 s701_2) := bcA BK701 2 rfl
 have hfz21_0 := blk_frozen BK701.out 0
 have hfz21_1 := blk_frozen BK701.out 1
 have hfz21_2 := blk_frozen BK701.out 2
 go_wp2_with (first | ((with_reducible refine gate_callee (f := 128) rfl ?_); refine goesL_ (some 15) rfl rfl Try.func128 (by kernel_rfl) rfl #[.agg #[.int .i64 s701_0, .int .i64 s701_1, .int .u32 s701_2]] rfl (by (try simp only [maA, mbA, mcA]); first | done | rfl | (simp only [List.length_drop, List.length_take]; rfl)) ?_; (with_reducible refine (impl_Flag_others.calls s701_0 s701_1 s701_2 t739 _ A4.out).mono ?_); rintro e w22 ⟨v740, rfl, ho0, hb⟩; refine ⟨_, rfl, ?_⟩; have HOx := Aside0.mk ho0; have HBx := Aside0.mk hb; clear ho0 hb; obtain ⟨Ao23, co23, eo23, _⟩ := Kd.Q_slice HOx.out; subst eo23) | ((with_reducible refine gate_callee (f := 138) rfl ?_); refine goesL_ (some 17) rfl rfl Try.func138 (by kernel_rfl) rfl #[.slice Ao23 t739.length co23, .func (.func 139) #[] #[.pointer (some ⟨gb733, 0, none⟩)]] rfl (by (try simp only [maA, mbA, mcA]); first | done | rfl | (simp only [List.length_drop, List.length_take]; rfl)) ?_; (refine (slices_DeleteFunc_int64_int64.qcalls (impl_joint_1.has l0) 139 #[] #[.pointer (some ⟨gb733, 0, none⟩)] (EnterF.of Try.func139 (by kernel_rfl) rfl) wB ⟨fun a_ r_ W_ hc_ hB_ => impl_joint_1.hasCalls a_ r_ gb733 A0 c0 l0 W_ (blk_below BK733.out hB_) (Kd.C_below HR0.out (below_via HB.out hB_)) HC0.out hc_⟩ kD (fun k_ => some k_ = (.slice Ao23 t739.length co23 : Value).ownBlock) (.slice Ao23 t739.length co23) t739 t742 wB w22 HBx.out (Kd.Q_tight rfl HOx.out) A5.out ⟨Below.refl _ _⟩).mono ?_); rintro e w24 ⟨v743, rfl, ho0, hb, _⟩; refine ⟨_, rfl, ?_⟩; have HO744 := Aside0.mk (Kd.Q_mono (ok' := fun _ => True) ho0 (fun _ _ => trivial)); have HG := Aside0.mk (blk_lt BK704.out); have HH := Aside0.mk (blk_lt BK705.out); have HZ := Aside0.mk hb; replace BK701 := bkB BK701 hb; replace BK702 := bkB BK702 hb; replace BK703 := bkB BK703 hb; replace BK704 := bkB BK704 hb; replace BK705 := bkB BK705 hb; replace BK733 := bkB BK733 hb; replace BK738 := bkB BK738 hb; replace HB := hbB HB hb; clear HOx HBx ho0 hb; have hcz30_0 : w24.cell? ⟨gb703, 0, none⟩ = some (.int .i64 s703_0) := bcA BK703 0 rfl; have hcz30_1 : w24.cell? ⟨gb703, 1, none⟩ = some (.int .i64 s703_1) := bcA BK703 1 rfl; have hcz30_2 : w24.cell? ⟨gb703, 2, none⟩ = some (.int .u32 s703_2) := bcA BK703 2 rfl; have hfz30_0 := blk_frozen BK703.out 0; have hfz30_1 := blk_frozen BK703.out 1; have hfz30_2 := blk_frozen BK703.out 2) | ((with_reducible refine gate_callee (f := 83) rfl ?_); refine goesL_ (some 20) rfl rfl Try.func83 (by kernel_rfl) rfl #[.agg #[.int .i64 s703_0, .int .i64 s703_1, .int .u32 s703_2]] rfl (by (try simp only [maA, mbA, mcA]); first | done | rfl | (simp only [List.length_drop, List.length_take]; rfl)) ?_; (with_reducible refine (impl_Flag_free.calls s703_0 s703_1 s703_2 t745 _ A6.out).mono ?_); rintro e w31 ⟨rfl, hb⟩; refine ⟨_, rfl, ?_⟩; have n8_ := Aside0.mk (Kd.Q_below HO744.out hb); have n0_ := bkB BK701 hb; have n1_ := bkB BK702 hb; have n2_ := bkB BK703 hb; have n3_ := bkB BK704 hb; have n4_ := bkB BK705 hb; have n5_ := bkB BK733 hb; have n6_ := bkB BK738 hb; have n7_ := hbB HB hb; clear BK701 BK702 BK703 BK704 BK705 BK733 BK738 HB HO744 hb; have BK701 := n0_; have BK702 := n1_; have BK703 := n2_; have BK704 := n3_; have BK705 := n4_; have BK733 := n5_; have BK738 := n6_; have HB := n7_; have HO744 := n8_; clear n0_ n1_ n2_ n3_ n4_ n5_ n6_ n7_ n8_; obtain ⟨Ao32, co32, eo32, _⟩ := Kd.Q_slice HO744.out; subst eo32) | ((with_reducible refine gate_callee (f := 115) rfl ?_); refine goesL_ (some 22) rfl rfl Try.func115 (by kernel_rfl) rfl #[.slice Ao32 t742.length co32, .int .i64 t745, .func (.func 141) #[] #[.pointer (some ⟨gb704, 0, none⟩), .pointer (some ⟨gb738, 0, none⟩), .pointer (some ⟨gb701, 0, none⟩), .pointer (some ⟨gb703, 0, none⟩), .pointer (some ⟨gb705, 0, none⟩)]] rfl (by (try simp only [maA, mbA, mcA]); first | done | rfl | (simp only [List.length_drop, List.length_take]; rfl)) ?_; (refine (impl_chosen.state (fun l a => impl_joint_1_2.f l a.1 t737 s701_0 s701_1 s701_2 s703_0 s703_1 s703_2 a.2) (fun (a_ : Int × Int) W_ => W_.heap[gb704]? = some (.cells #[.int .i64 a_.1] 2 (0, 0)) ∧ W_.heap[gb705]? = some (.cells #[.int .i64 a_.2] 2 (0, 0)) ∧ W_.heap[gb738]? = some (.cells #[.bool t737] 4 (0, 0)) ∧ W_.heap[gb701]? = some (.cells #[.int .i64 s701_0, .int .i64 s701_1, .int .u32 s701_2] 45 (0, 0)) ∧ W_.heap[gb703]? = some (.cells #[.int .i64 s703_0, .int .i64 s703_1, .int .u32 s703_2] 45 (0, 0))) (fun k_ => k_ = gb704 ∨ k_ = gb705) 141 #[.pointer (some ⟨gb704, 0, none⟩), .pointer (some ⟨gb738, 0, none⟩), .pointer (some ⟨gb701, 0, none⟩), .pointer (some ⟨gb703, 0, none⟩), .pointer (some ⟨gb705, 0, none⟩)] (EnterF.of Try.func141 (by kernel_rfl) rfl) w31 (fun k_ hk_ => hk_.elim (fun e_ => by rw [e_]; exact blk_lt BK704.out) (fun e_ => by rw [e_]; exact blk_lt BK705.out)) ⟨fun a_ W_ W2_ h_ b_ => ⟨blk_below h_.1 b_, blk_below h_.2.1 b_, blk_below h_.2.2.1 b_, blk_below h_.2.2.2.1 b_, blk_below h_.2.2.2.2 b_⟩⟩ ⟨fun l_ a_ a2_ A_ c_ W_ hI_ hC_ hc_ hcb_ hB_ hm_ => (impl_joint_1_2.state A_ c_ l_ gb704 a_.1 gb738 t737 gb701 s701_0 s701_1 s701_2 gb703 s703_0 s703_1 s703_2 gb705 a_.2 a2_ W_ ⟨NB738_704.out, HNE.out.1, HNE.out.2.1, HNE.out.2.2.1⟩ hI_.1 hI_.2.2.1 hI_.2.2.2.1 hI_.2.2.2.2 hI_.2.1 hC_ hc_ hm_ hcb_).mono fun _ _ h_ => ⟨h_.1, ⟨h_.2.1, h_.2.2.1, h_.2.2.2.blk hI_.2.2.1 (fun e_ => e_.elim NB738_704.out NB738_705.out), h_.2.2.2.blk hI_.2.2.2.1 (fun e_ => e_.elim HNE.out.1 HNE.out.2.2.2.1), h_.2.2.2.blk hI_.2.2.2.2 (fun e_ => e_.elim HNE.out.2.1 HNE.out.2.2.2.2)⟩, h_.2.2.2⟩⟩ Ao32 co32 t742 t745 s r w31 (Kd.Q_reads' HO744.out).2.2 (fun ad_ e_ hm_ => by subst e_; have hq_ := Kd.Q_base HO744.out ad_.block rfl; exact hm_.elim (fun e_ => absurd HG.out (by omega)) (fun e_ => absurd HH.out (by omega))) ⟨BK704.out, BK705.out, BK738.out, BK701.out, BK703.out⟩ (But.refl _ _) A7.out).mono ?_); rintro e w33 ⟨rfl, hI_, hb⟩; refine ⟨_, rfl, ?_⟩))
 first | go_end0 | ((try simp only [Exit.inBlock, Exit.then]); refine bodyPost_ret (results_none rfl _ _ _) rfl ?_)
 exact ⟨rfl, hI_.1, hI_.2.1, (But.of_below HB.out).trans hb⟩
end
section
noncomputable def impl_joint.f (k : Nat) (a0_0 : Int) (a0_1 : Int) (a0_2 : Int) (a1_0 : Int) (a1_1 : Int) (a1_2 : Int) (a2_0 : Int) (a2_1 : Int) (a2_2 : Int) : Option (Int × Int) := (impl_Flag_others.f a2_0 a2_1 a2_2).bind fun t752 => ((impl_Flag_free.f a0_0 a0_1 a0_2).bind fun t755 => ((impl_chosen.fs (fun l a => impl_joint_1.f l a2_0 a2_1 a2_2 a0_0 a0_1 a0_2 a1_0 a1_1 a1_2 a) t752 t755 (0, 0)).bind fun s_ => ((impl_lowest.f k s_.2 s_.1).bind fun bt756 => (some (bt756.1, bt756.2)))))
set_option maxHeartbeats 8000000 in
set_option maxRecDepth 100000 in
theorem impl_joint.calls (k : Nat) (a0_0 : Int) (a0_1 : Int) (a0_2 : Int) (a1_0 : Int) (a1_1 : Int) (a1_2 : Int) (a2_0 : Int) (a2_1 : Int) (a2_2 : Int) (r1 : Int) (r2 : Int) (w : World) (h : impl_joint.f k a0_0 a0_1 a0_2 a1_0 a1_1 a1_2 a2_0 a2_1 a2_2 = some (r1, r2)) :
  Calls Try.prog 84 #[.agg #[.int .i64 a0_0, .int .i64 a0_1, .int .u32 a0_2], .agg #[.int .i64 a1_0, .int .i64 a1_1, .int .u32 a1_2], .agg #[.int .i64 a2_0, .int .i64 a2_1, .int .u32 a2_2]] w fun e w' => e = .returned (.agg #[.int .i64 r1, .int .i64 r2]) ∧ Below w.heap.size w w' := by
 have huF := Try.underlying45
 have huR := Try.underlying31
 have HB := Aside0.mk (Below.refl w.heap.size w)
 unfold impl_joint.f at h
 have H := h
 clear h
 replace H := Option.bind_eq_some_iff.mp H
 obtain ⟨t752, A40, H⟩ := H
 (try dsimp only at H)
 have A4 := Aside0.mk A40
 clear A40
 replace H := Option.bind_eq_some_iff.mp H
 obtain ⟨t755, A50, H⟩ := H
 (try dsimp only at H)
 have A5 := Aside0.mk A50
 clear A50
 replace H := Option.bind_eq_some_iff.mp H
 obtain ⟨⟨tA, tM⟩, A60, H⟩ := H
 (try dsimp only at H)
 have A6 := Aside0.mk A60
 clear A60
 replace H := Option.bind_eq_some_iff.mp H
 obtain ⟨⟨t756, t757⟩, A70, H⟩ := H
 (try dsimp only at H)
 have A7 := Aside0.mk A70
 clear A70
 simp only [Option.some.injEq, Prod.mk.injEq] at H
 obtain ⟨rfl, rfl⟩ := H
 go_enter Try.func84, Try.ntmps84
 try go_wp2_with (first | ((with_reducible refine gate_dst (N := 3) rfl ?_); refine box_event rfl (N := 3) rfl (cs := #[.int .i64 a0_0, .int .i64 a0_1, .int .u32 a0_2]) (t := 45) ?hr ?_; (case hr => first | (go_simp; done) | (go_simp; rfl)); intro gb746 hg w8 hbox hb; have BK746 := Aside0.mk (hbox); have GW746 := geA HB hg; replace HB := hbB HB hb; have GE746 := GW746; clear hb hbox hg) | ((with_reducible refine gate_dst (N := 4) rfl ?_); refine box_event rfl (N := 4) rfl (cs := #[.int .i64 a1_0, .int .i64 a1_1, .int .u32 a1_2]) (t := 45) ?hr ?_; (case hr => first | (go_simp; done) | (go_simp; rfl)); intro gb747 hg w9 hbox hb; have BK747 := Aside0.mk (hbox); have GW747 := geA HB hg; replace HB := hbB HB hb; have GE747 := GW747; have NB746_747 := nbA hg BK746; replace BK746 := bkB BK746 hb; have NB747_746 := neA NB746_747; clear hb hbox hg) | ((with_reducible refine gate_dst (N := 5) rfl ?_); refine box_event rfl (N := 5) rfl (cs := #[.int .i64 a2_0, .int .i64 a2_1, .int .u32 a2_2]) (t := 45) ?hr ?_; (case hr => first | (go_simp; done) | (go_simp; rfl)); intro gb748 hg w10 hbox hb; have BK748 := Aside0.mk (hbox); have GW748 := geA HB hg; replace HB := hbB HB hb; have GE748 := GW748; have NB746_748 := nbA hg BK746; replace BK746 := bkB BK746 hb; have NB748_746 := neA NB746_748; have NB747_748 := nbA hg BK747; replace BK747 := bkB BK747 hb; have NB748_747 := neA NB747_748; clear hb hbox hg) | ((with_reducible refine gate_dst (N := 6) rfl ?_); refine box_event rfl (N := 6) rfl (cs := #[.int .i64 0, .int .i64 0]) (t := 31) ?hr ?_; (case hr => first | (go_simp; done) | (go_simp; rfl)); intro gb749 hg w11 hbox hb; have BK749 := Aside0.mk (hbox); have GW749 := geA HB hg; replace HB := hbB HB hb; have GE749 := GW749; have NB746_749 := nbA hg BK746; replace BK746 := bkB BK746 hb; have NB749_746 := neA NB746_749; have NB747_749 := nbA hg BK747; replace BK747 := bkB BK747 hb; have NB749_747 := neA NB747_749; have NB748_749 := nbA hg BK748; replace BK748 := bkB BK748 hb; have NB749_748 := neA NB748_749; clear hb hbox hg) | ((with_reducible refine gate_dst (N := 7) rfl ?_); refine box_event rfl (N := 7) rfl (cs := #[.int .i64 0]) (t := 2) ?hr ?_; (case hr => first | (go_simp; done) | (go_simp; rfl)); intro gb750 hg w12 hbox hb; have BK750 := Aside0.mk (hbox); have GW750 := geA HB hg; replace HB := hbB HB hb; have GE750 := GW750; have NB746_750 := nbA hg BK746; replace BK746 := bkB BK746 hb; have NB750_746 := neA NB746_750; have NB747_750 := nbA hg BK747; replace BK747 := bkB BK747 hb; have NB750_747 := neA NB747_750; have NB748_750 := nbA hg BK748; replace BK748 := bkB BK748 hb; have NB750_748 := neA NB748_750; have NB749_750 := nbA hg BK749; replace BK749 := bkB BK749 hb; have NB750_749 := neA NB749_750; clear hb hbox hg) | ((with_reducible refine gate_dst (N := 8) rfl ?_); refine box_event rfl (N := 8) rfl (cs := #[.int .i64 0]) (t := 2) ?hr ?_; (case hr => first | (go_simp; done) | (go_simp; rfl)); intro gb751 hg w13 hbox hb; have BK751 := Aside0.mk (hbox); have GW751 := geA HB hg; replace HB := hbB HB hb; have GE751 := GW751; have NB746_751 := nbA hg BK746; replace BK746 := bkB BK746 hb; have NB751_746 := neA NB746_751; have NB747_751 := nbA hg BK747; replace BK747 := bkB BK747 hb; have NB751_747 := neA NB747_751; have NB748_751 := nbA hg BK748; replace BK748 := bkB BK748 hb; have NB751_748 := neA NB748_751; have NB749_751 := nbA hg BK749; replace BK749 := bkB BK749 hb; have NB751_749 := neA NB749_751; have NB750_751 := nbA hg BK750; replace BK750 := bkB BK750 hb; have NB751_750 := neA NB750_751; clear hb hbox hg; have hnb14 := NB750_746.out; have hnc14 := NB746_750.out; have hnb15 := NB750_747.out; have hnc15 := NB747_750.out; have hnb16 := NB750_748.out; have hnc16 := NB748_750.out; have hnb17 := NB750_749.out; have hnc17 := NB749_750.out; have hnb18 := NB750_751.out; have hnc18 := NB751_750.out; have hcz19_0 : w13.cell? ⟨gb750, 0, none⟩ = some (.int .i64 0) := bcA BK750 0 rfl; have hfz19_0 := blk_frozen BK750.out 0; have hnb20 := NB751_746.out; have hnc20 := NB746_751.out; have hnb21 := NB751_747.out; have hnc21 := NB747_751.out; have hnb22 := NB751_748.out; have hnc22 := NB748_751.out; have hnb23 := NB751_749.out; have hnc23 := NB749_751.out; have hcz24_0 : w13.cell? ⟨gb751, 0, none⟩ = some (.int .i64 0) := bcA BK751 0 rfl; have hfz24_0 := blk_frozen BK751.out 0))
 have n0_ : Aside0 (((w13.setCell ⟨gb750, 0, none⟩ (.int .i64 0)).setCell ⟨gb751, 0, none⟩ (.int .i64 0)).heap[gb746]? = some (.cells #[.int .i64 a0_0, .int .i64 a0_1, .int .u32 a0_2] 45 (0, 0))) := ⟨by (with_reducible repeat (first | refine blk_drewN ?_ _ | refine blk_drew ?_ | refine blk_alloc ?_ _)); refine blk_far ?_ NB746_751.out _; (with_reducible repeat (first | refine blk_drewN ?_ _ | refine blk_drew ?_ | refine blk_alloc ?_ _)); refine blk_far ?_ NB746_750.out _; (with_reducible repeat (first | refine blk_drewN ?_ _ | refine blk_drew ?_ | refine blk_alloc ?_ _)); exact BK746.out⟩
 have n1_ : Aside0 (((w13.setCell ⟨gb750, 0, none⟩ (.int .i64 0)).setCell ⟨gb751, 0, none⟩ (.int .i64 0)).heap[gb747]? = some (.cells #[.int .i64 a1_0, .int .i64 a1_1, .int .u32 a1_2] 45 (0, 0))) := ⟨by (with_reducible repeat (first | refine blk_drewN ?_ _ | refine blk_drew ?_ | refine blk_alloc ?_ _)); refine blk_far ?_ NB747_751.out _; (with_reducible repeat (first | refine blk_drewN ?_ _ | refine blk_drew ?_ | refine blk_alloc ?_ _)); refine blk_far ?_ NB747_750.out _; (with_reducible repeat (first | refine blk_drewN ?_ _ | refine blk_drew ?_ | refine blk_alloc ?_ _)); exact BK747.out⟩
 have n2_ : Aside0 (((w13.setCell ⟨gb750, 0, none⟩ (.int .i64 0)).setCell ⟨gb751, 0, none⟩ (.int .i64 0)).heap[gb748]? = some (.cells #[.int .i64 a2_0, .int .i64 a2_1, .int .u32 a2_2] 45 (0, 0))) := ⟨by (with_reducible repeat (first | refine blk_drewN ?_ _ | refine blk_drew ?_ | refine blk_alloc ?_ _)); refine blk_far ?_ NB748_751.out _; (with_reducible repeat (first | refine blk_drewN ?_ _ | refine blk_drew ?_ | refine blk_alloc ?_ _)); refine blk_far ?_ NB748_750.out _; (with_reducible repeat (first | refine blk_drewN ?_ _ | refine blk_drew ?_ | refine blk_alloc ?_ _)); exact BK748.out⟩
 have n3_ : Aside0 (((w13.setCell ⟨gb750, 0, none⟩ (.int .i64 0)).setCell ⟨gb751, 0, none⟩ (.int .i64 0)).heap[gb749]? = some (.cells #[.int .i64 0, .int .i64 0] 31 (0, 0))) := ⟨by (with_reducible repeat (first | refine blk_drewN ?_ _ | refine blk_drew ?_ | refine blk_alloc ?_ _)); refine blk_far ?_ NB749_751.out _; (with_reducible repeat (first | refine blk_drewN ?_ _ | refine blk_drew ?_ | refine blk_alloc ?_ _)); refine blk_far ?_ NB749_750.out _; (with_reducible repeat (first | refine blk_drewN ?_ _ | refine blk_drew ?_ | refine blk_alloc ?_ _)); exact BK749.out⟩
 have n4_ : Aside0 (((w13.setCell ⟨gb750, 0, none⟩ (.int .i64 0)).setCell ⟨gb751, 0, none⟩ (.int .i64 0)).heap[gb750]? = some (.cells #[.int .i64 0] 2 (0, 0))) := ⟨by (with_reducible repeat (first | refine blk_drewN ?_ _ | refine blk_drew ?_ | refine blk_alloc ?_ _)); refine blk_far ?_ NB750_751.out _; (with_reducible repeat (first | refine blk_drewN ?_ _ | refine blk_drew ?_ | refine blk_alloc ?_ _)); refine blk_put (cs := #[.int .i64 0]) ?_ 0 _ rfl; (with_reducible repeat (first | refine blk_drewN ?_ _ | refine blk_drew ?_ | refine blk_alloc ?_ _)); exact BK750.out⟩
 have n5_ : Aside0 (((w13.setCell ⟨gb750, 0, none⟩ (.int .i64 0)).setCell ⟨gb751, 0, none⟩ (.int .i64 0)).heap[gb751]? = some (.cells #[.int .i64 0] 2 (0, 0))) := ⟨by (with_reducible repeat (first | refine blk_drewN ?_ _ | refine blk_drew ?_ | refine blk_alloc ?_ _)); refine blk_put (cs := #[.int .i64 0]) ?_ 0 _ rfl; (with_reducible repeat (first | refine blk_drewN ?_ _ | refine blk_drew ?_ | refine blk_alloc ?_ _)); refine blk_far ?_ NB751_750.out _; (with_reducible repeat (first | refine blk_drewN ?_ _ | refine blk_drew ?_ | refine blk_alloc ?_ _)); exact BK751.out⟩
 have n6_ : Aside0 (Below w.heap.size w ((w13.setCell ⟨gb750, 0, none⟩ (.int .i64 0)).setCell ⟨gb751, 0, none⟩ (.int .i64 0))) := ⟨by repeat (first | (with_reducible first | exact HB.out | apply below_alloc | apply pw_below_drewN | apply below_drew1 | refine below_set ?_ (Aside0.out (by assumption))) | exact HB.out)⟩
 (try clear BK746)
 (try clear BK747)
 (try clear BK748)
 (try clear BK749)
 (try clear BK750)
 (try clear BK751)
 (try clear HB)
 generalize ((w13.setCell ⟨gb750, 0, none⟩ (.int .i64 0)).setCell ⟨gb751, 0, none⟩ (.int .i64 0)) = w25 at n0_ n1_ n2_ n3_ n4_ n5_ n6_ ⊢
 have BK746 := n0_
 have BK747 := n1_
 have BK748 := n2_
 have BK749 := n3_
 have BK750 := n4_
 have BK751 := n5_
 have HB := n6_
 clear n0_ n1_ n2_ n3_ n4_ n5_ n6_
 replace BK746 := Aside0.mk (blk_drew BK746.out)
 replace BK747 := Aside0.mk (blk_drew BK747.out)
 replace BK748 := Aside0.mk (blk_drew BK748.out)
 replace BK749 := Aside0.mk (blk_drew BK749.out)
 replace BK750 := Aside0.mk (blk_drew BK750.out)
 replace BK751 := Aside0.mk (blk_drew BK751.out)
 replace HB := Aside0.mk (below_drew1 HB.out)
 refine start_ (n := 6) (S := fun w' => w'.cell? ⟨gb748, 0, none⟩ = some (.int .i64 a2_0) ∧ w'.cell? ⟨gb748, 1, none⟩ = some (.int .i64 a2_1) ∧ w'.cell? ⟨gb748, 2, none⟩ = some (.int .u32 a2_2) ∧ w'.cell? ⟨gb746, 0, none⟩ = some (.int .i64 a0_0) ∧ w'.cell? ⟨gb746, 1, none⟩ = some (.int .i64 a0_1) ∧ w'.cell? ⟨gb746, 2, none⟩ = some (.int .u32 a0_2)) (ds := []) #[false, false, false, false, false, false] (by kernel_rfl) rfl rfl ⟨bcA BK748 0 rfl, bcA BK748 1 rfl, bcA BK748 2 rfl, bcA BK746 0 rfl, bcA BK746 1 rfl, bcA BK746 2 rfl⟩ (fun hHeld => ?_)
 generalize w25.drew = w26 at BK746 BK747 BK748 BK749 BK750 BK751 HB hHeld ⊢
 refine pure_ (i := 4) (N := some 13) (v := ?_) (a' := ?_) #[false, false, false, false, true, false] rfl rfl (by kernel_rfl) (fun _ _ _ h => h) (Or.inl ⟨by rfl, ?_⟩) ?_ ?_
 rotate_left;(intro w';go_simp;with_reducible rfl);rotate_left;(simp only [Act.put, psA, pzA, pnA, i64_w, i32_w];rfl)
 refine take_ (i := 0) (N := some 9) (v := ?_) (a' := ?_) #[true, false, false, false, true, false] rfl rfl (by kernel_rfl) (fun _ _ _ h => h) (Or.inl ⟨by rfl, ?_⟩) hHeld ?_ ?_
 rotate_left;(rintro w' ⟨s0, s1, s2, s3, s4, s5⟩;go_simp;with_reducible rfl);rotate_left;(simp only [Act.put, psA, pzA, pnA, i64_w, i32_w];rfl)
 refine take_ (i := 2) (N := some 11) (v := ?_) (a' := ?_) #[true, false, true, false, true, false] rfl rfl (by kernel_rfl) (fun _ _ _ h => h) (Or.inl ⟨by rfl, ?_⟩) hHeld ?_ ?_
 rotate_left;(rintro w' ⟨s0, s1, s2, s3, s4, s5⟩;go_simp;with_reducible rfl);rotate_left;(simp only [Act.put, psA, pzA, pnA, i64_w, i32_w];rfl)
 refine one_ (i := 1) (N := some 10) #[true, true, true, false, true, false] rfl rfl (by kernel_rfl) (by decide) (fun K hK => ?_)
 refine goes_ Try.func128 (by kernel_rfl) rfl #[.agg #[.int .i64 a2_0, .int .i64 a2_1, .int .u32 a2_2]] (by rfl) rfl rfl (by first | rfl | (simp only [List.map_toArray, List.map_cons, List.map_nil, List.length_drop, List.length_take]; rfl)) ?_
 with_reducible refine (impl_Flag_others.calls a2_0 a2_1 a2_2 t752 _ A4.out).mono ?_
 rintro e w27 ⟨v753, rfl, ho0, hb⟩
 refine ⟨_, rfl, ?_⟩
 have HO754 := Aside0.mk (Kd.Q_lower (Kd.Q_newB (Kd.Q_newB ho0 (g := gb750) (o := .cells #[.int .i64 0] 2 (0, 0)) BK750.out) (g := gb751) (o := .cells #[.int .i64 0] 2 (0, 0)) BK751.out) (below_size HB.out))
 replace BK746 := bkB BK746 hb
 replace BK747 := bkB BK747 hb
 replace BK748 := bkB BK748 hb
 replace BK749 := bkB BK749 hb
 replace BK750 := bkB BK750 hb
 replace BK751 := bkB BK751 hb
 replace HB := hbB HB hb
 (try clear hb)
 (try clear ho0)
 refine hK.out _ _ ⟨bcA BK748 0 rfl, bcA BK748 1 rfl, bcA BK748 2 rfl, bcA BK746 0 rfl, bcA BK746 1 rfl, bcA BK746 2 rfl⟩ (fun hHeld => ?_)
 clear hK K
 refine norm_ (a' := ?_) ?_ ?_
 rotate_left;(show Act.put _ (some 10) _ = _;simp only [Act.put, psA, pzA, pnA, i64_w, i32_w];rfl)
 refine one_ (i := 3) (N := some 12) #[true, true, true, true, true, false] rfl rfl (by kernel_rfl) (by decide) (fun K hK => ?_)
 refine goes_ Try.func83 (by kernel_rfl) rfl #[.agg #[.int .i64 a0_0, .int .i64 a0_1, .int .u32 a0_2]] (by rfl) rfl rfl (by first | rfl | (simp only [List.map_toArray, List.map_cons, List.map_nil, List.length_drop, List.length_take]; rfl)) ?_
 with_reducible refine (impl_Flag_free.calls a0_0 a0_1 a0_2 t755 _ A5.out).mono ?_
 rintro e w28 ⟨rfl, hb⟩
 refine ⟨_, rfl, ?_⟩
 replace HO754 := Kd.Q_b HO754 hb
 replace BK746 := bkB BK746 hb
 replace BK747 := bkB BK747 hb
 replace BK748 := bkB BK748 hb
 replace BK749 := bkB BK749 hb
 replace BK750 := bkB BK750 hb
 replace BK751 := bkB BK751 hb
 replace HB := hbB HB hb
 (try clear hb)
 obtain ⟨Ao29, co29, eo29, _⟩ := Kd.Q_slice HO754.out
 (first | subst eo29 | (injection eo29 with f1_ f2_ f3_; have f4_ := f1_.symm; have f5_ := f3_.symm; clear f1_ f2_ f3_; subst f4_; subst f5_))
 refine hK.out _ _ ⟨bcA BK748 0 rfl, bcA BK748 1 rfl, bcA BK748 2 rfl, bcA BK746 0 rfl, bcA BK746 1 rfl, bcA BK746 2 rfl⟩ (fun hHeld => ?_)
 clear hK K
 refine norm_ (a' := ?_) ?_ ?_
 rotate_left;(show Act.put _ (some 12) _ = _;simp only [Act.put, psA, pzA, pnA, i64_w, i32_w];rfl)
 refine one_ (i := 5) (N := some 14) #[true, true, true, true, true, true] rfl rfl (by kernel_rfl) (by decide) (fun K hK => ?_)
 refine goes_ Try.func115 (by kernel_rfl) rfl #[.slice Ao29 t752.length co29, .int .i64 t755, .func (.func 137) #[] #[.pointer (some ⟨gb748, 0, none⟩), .pointer (some ⟨gb746, 0, none⟩), .pointer (some ⟨gb747, 0, none⟩), .pointer (some ⟨gb751, 0, none⟩), .pointer (some ⟨gb750, 0, none⟩)]] (by rfl) rfl rfl (by first | rfl | (simp only [List.map_toArray, List.map_cons, List.map_nil, List.length_drop, List.length_take]; rfl)) ?_
 refine (impl_chosen.state (fun l a => impl_joint_1.f l a2_0 a2_1 a2_2 a0_0 a0_1 a0_2 a1_0 a1_1 a1_2 a) (fun (a_ : Int × Int) W_ => W_.heap[gb751]? = some (.cells #[.int .i64 a_.1] 2 (0, 0)) ∧ W_.heap[gb750]? = some (.cells #[.int .i64 a_.2] 2 (0, 0)) ∧ W_.heap[gb748]? = some (.cells #[.int .i64 a2_0, .int .i64 a2_1, .int .u32 a2_2] 45 (0, 0)) ∧ W_.heap[gb746]? = some (.cells #[.int .i64 a0_0, .int .i64 a0_1, .int .u32 a0_2] 45 (0, 0)) ∧ W_.heap[gb747]? = some (.cells #[.int .i64 a1_0, .int .i64 a1_1, .int .u32 a1_2] 45 (0, 0))) (fun k_ => k_ = gb751 ∨ k_ = gb750) 137 #[.pointer (some ⟨gb748, 0, none⟩), .pointer (some ⟨gb746, 0, none⟩), .pointer (some ⟨gb747, 0, none⟩), .pointer (some ⟨gb751, 0, none⟩), .pointer (some ⟨gb750, 0, none⟩)] (EnterF.of Try.func137 (by kernel_rfl) rfl) w28 (fun k_ hk_ => hk_.elim (fun e_ => by rw [e_]; exact blk_lt BK751.out) (fun e_ => by rw [e_]; exact blk_lt BK750.out)) ⟨fun a_ W_ W2_ h_ b_ => ⟨blk_below h_.1 b_, blk_below h_.2.1 b_, blk_below h_.2.2.1 b_, blk_below h_.2.2.2.1 b_, blk_below h_.2.2.2.2 b_⟩⟩
  ⟨fun l_ a_ a2_ A_ c_ W_ hI_ hC_ hc_ hcb_ hB_ _ => (impl_joint_1.state A_ c_ l_ gb748 a2_0 a2_1 a2_2 gb746 a0_0 a0_1 a0_2 gb747 a1_0 a1_1 a1_2 gb751 gb750 a_ a2_ W_ ⟨NB748_751.out, NB747_751.out, NB750_751.out, NB748_750.out, NB747_750.out⟩ hI_.2.2.1 hI_.2.2.2.1 hI_.2.2.2.2 hI_.1 hI_.2.1 hC_ hc_ hcb_).mono fun _ _ h_ => ⟨h_.1, ⟨h_.2.1, h_.2.2.1, h_.2.2.2.blk hI_.2.2.1 (fun e_ => e_.elim NB748_751.out NB748_750.out), h_.2.2.2.blk hI_.2.2.2.1 (fun e_ => e_.elim NB746_751.out NB746_750.out), h_.2.2.2.blk hI_.2.2.2.2 (fun e_ => e_.elim NB747_751.out NB747_750.out)⟩, h_.2.2.2⟩⟩
  Ao29 co29 t752 t755 (0, 0) (tA, tM) w28 (Kd.Q_reads' HO754.out).2.2 (fun ad_ e_ hm_ => by subst e_; have h_ := HO754.out.1 ad_.block rfl; exact hm_.elim h_.2 h_.1.2) ⟨BK751.out, BK750.out, BK748.out, BK746.out, BK747.out⟩ (But.refl _ _) A6.out).mono ?_
 rintro e w30 ⟨rfl, hI_, hb⟩
 refine ⟨_, rfl, ?_⟩
 replace HO754 := Aside0.mk (trivial)
 replace BK746 := Aside0.mk (hI_.2.2.2.1)
 replace BK747 := Aside0.mk (hI_.2.2.2.2)
 replace BK748 := Aside0.mk (hI_.2.2.1)
 replace BK749 := Aside0.mk (hb.blk BK749.out (fun e_ => e_.elim NB749_751.out NB749_750.out))
 replace BK750 := Aside0.mk (hI_.2.1)
 replace BK751 := Aside0.mk (hI_.1)
 replace HB := Aside0.mk ((But.trans (But.of_below HB.out) hb).below (fun i_ hi_ hm_ => hm_.elim (fun e_ => absurd GE751.out (by omega)) (fun e_ => absurd GE750.out (by omega))))
 clear hb hI_
 refine hK.out _ _ ⟨bcA BK748 0 rfl, bcA BK748 1 rfl, bcA BK748 2 rfl, bcA BK746 0 rfl, bcA BK746 1 rfl, bcA BK746 2 rfl⟩ (fun hHeld => ?_)
 clear hK K
 refine norm_ (a' := ?_) ?_ ?_
 rotate_left;(show Act.put _ (some 14) _ = _;simp only [Act.put, psA, pzA, pnA, i64_w, i32_w];rfl)
 refine done_ (by kernel_rfl) ?_
 have hcz31_0 : w30.cell? ⟨gb750, 0, none⟩ = some (.int .i64 tM) := bcA BK750 0 rfl
 have hfz31_0 := blk_frozen BK750.out 0
 have hcz32_0 : w30.cell? ⟨gb751, 0, none⟩ = some (.int .i64 tA) := bcA BK751 0 rfl
 have hfz32_0 := blk_frozen BK751.out 0
 try go_wp2_with (first | ((with_reducible refine gate_callee (f := 66) rfl ?_); refine goesL_ (some 17) rfl rfl Try.func66 (by kernel_rfl) rfl #[.int .i64 tM, .int .i64 tA] rfl (by (try simp only [maA, mbA, mcA]); first | done | rfl | (simp only [List.length_drop, List.length_take]; rfl)) ?_; (with_reducible refine (impl_lowest.calls k tM tA t756 t757 _ A7.out).mono ?_); rintro e w33 ⟨rfl, hb⟩; refine ⟨_, rfl, ?_⟩; replace HO754 := Aside0.mk (trivial); replace BK746 := bkB BK746 hb; replace BK747 := bkB BK747 hb; replace BK748 := bkB BK748 hb; replace BK749 := bkB BK749 hb; replace BK750 := bkB BK750 hb; replace BK751 := bkB BK751 hb; replace HB := hbB HB hb; (try clear hb); have hnb34 := NB749_746.out; have hnc34 := NB746_749.out; have hnb35 := NB749_747.out; have hnc35 := NB747_749.out; have hnb36 := NB749_748.out; have hnc36 := NB748_749.out; have hcz37_0 : w33.cell? ⟨gb749, 0, none⟩ = some (.int .i64 0) := bcA BK749 0 rfl; have hcz37_1 : w33.cell? ⟨gb749, 1, none⟩ = some (.int .i64 0) := bcA BK749 1 rfl; have hfz37_0 := blk_frozen BK749.out 0; have hfz37_1 := blk_frozen BK749.out 1))
 refine bodyPost_ret (results_cell_row rfl _ _ gb749 31 #[.int .i64 t756, .int .i64 t757] (0, 0) _ rfl (by (with_reducible repeat (first | refine blk_drewN ?_ _ | refine blk_drew ?_ | refine blk_alloc ?_ _)); refine blk_put (cs := #[.int .i64 t756, .int .i64 0]) ?_ 1 _ rfl; (with_reducible repeat (first | refine blk_drewN ?_ _ | refine blk_drew ?_ | refine blk_alloc ?_ _)); refine blk_put (cs := #[.int .i64 0, .int .i64 0]) ?_ 0 _ rfl; (with_reducible repeat (first | refine blk_drewN ?_ _ | refine blk_drew ?_ | refine blk_alloc ?_ _)); exact BK749.out) Try.underlying31 rfl (by kernel_rfl)) rfl ?_
 exact ⟨by first | rfl | (simp [*, errW_none, errW_some] <;> rfl), by repeat (first | (with_reducible first | exact HB.out | apply below_alloc | apply pw_below_drewN | apply below_drew1 | refine below_set ?_ (Aside0.out (by assumption))) | exact HB.out)⟩
end
end Go.Proofs.Ytcepbgffnneagaa.Q
end
