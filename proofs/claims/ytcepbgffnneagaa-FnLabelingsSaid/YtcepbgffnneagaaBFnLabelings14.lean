/- Contracts of Go functions and plain lemmas over what they compute; printed by the kit's print program or written by hand, joined. -/
import Derived.Test.YtcepbgffnneagaaBFnLabelings3
import Derived.Test.YtcepbgffnneagaaBFnLabelings4
import Derived.Test.YtcepbgffnneagaaBFnLabelings5
import Derived.Test.YtcepbgffnneagaaBFnLabelings7
import Derived.Test.YtcepbgffnneagaaBFnLabelings8
import Derived.Test.YtcepbgffnneagaaBFnLabelings9
import Derived.Test.YtcepbgffnneagaaBFnLabelings10
import Derived.Test.YtcepbgffnneagaaBFnLabelings11
import Derived.Test.YtcepbgffnneagaaBFnLabelings12
import Derived.Test.YtcepbgffnneagaaBFnLabelings13
section
namespace Go.Proofs.Ytcepbgffnneagaa.Q
open Go.RowKit Go.Proofs.YtcepbgffnneagaaW.PrintWords Go.Proofs.YtcepbgffnneagaaW.PrintLast Go.Proofs.YtcepbgffnneagaaW.PrintMore
attribute [local go_sem] max2_int min2_int max_two min_two max_three min_three max_four min_four   -- for this text's walks alone
set_option linter.unusedVariables false
set_option linter.unusedSimpArgs false

attribute [local go_sem high] eqA45
mutual
noncomputable def laws_FnLabelings.j0 : Nat → List Int → List Int → Int → Int → Int → Int → Option (Bool)
 | 0, _, _, _, _, _, _ => none
 | k + 1, x0, x1, x5, x7, x1085000, x1085001 => (impl_AllTypes.f k x7 (([] : List (S27)))).bind fun bt1089 => (if bt1089.2 = 0 then (laws_FnLabelings.l0 k x0 x1 x5 x7 bt1089.1 0 0 x1085000 x1085001) else (some false))
noncomputable def laws_FnLabelings.l0 : Nat → List Int → List Int → Int → Int → List (S27) → Int → Int → Int → Int → Option (Bool)
 | 0, _, _, _, _, _, _, _, _, _ => none
 | k + 1, x0, x1, x5, x7, x8, x10, x11, x1085000, x1085001 => if x11 < (x8.length : Int) then (if 0 ≤ x11 then ((impl_AllFlags.f k ((rd_T27 x8 x11).f0) ((rd_T27 x8 x11).f1) x5 (([] : List (S27)))).bind fun bt1097 => (if bt1097.2 = 0 then (laws_FnLabelings.l1 k x0 x1 x5 x7 x8 x10 x11 bt1097.1 0 x1085000 x1085001) else (some false))) else (none)) else (laws_FnLabelings.l2 k x0 x1 x5 x7 x10 1 0 x1085000 x1085001)
noncomputable def laws_FnLabelings.l1 : Nat → List Int → List Int → Int → Int → List (S27) → Int → Int → List (S45) → Int → Int → Int → Option (Bool)
 | 0, _, _, _, _, _, _, _, _, _, _, _ => none
 | k + 1, x0, x1, x5, x7, x8, x10, x11, x12, x14, x1085000, x1085001 => if x14 < (x12.length : Int) then (if 0 ≤ x14 then ((impl_AreAlike.f ((rd_T45 x12 x14).f1.f0) ((rd_T45 x12 x14).f1.f1) x1085000 x1085001).bind fun bt1102 => ((impl_CountLabelings.f ((rd_T45 x12 x14).f0) ((rd_T45 x12 x14).f1.f0) ((rd_T45 x12 x14).f1.f1)).bind fun bt1105 => (if bt1102.2 = 0 then (if bt1105.2 = 0 then (laws_FnLabelings.j3 k x0 x1 x5 x7 x8 x10 x11 x12 x14 bt1102.1 bt1105.1 (decide (bt1105.1 < 1)) x1085000 x1085001) else (laws_FnLabelings.j3 k x0 x1 x5 x7 x8 x10 x11 x12 x14 bt1102.1 bt1105.1 true x1085000 x1085001)) else (laws_FnLabelings.j3 k x0 x1 x5 x7 x8 x10 x11 x12 x14 bt1102.1 bt1105.1 true x1085000 x1085001)))) else (none)) else (laws_FnLabelings.l0 k x0 x1 x5 x7 x8 x10 (wrap64 (x11 + 1)) x1085000 x1085001)
noncomputable def laws_FnLabelings.j3 : Nat → List Int → List Int → Int → Int → List (S27) → Int → Int → List (S45) → Int → Bool → Int → Bool → Int → Int → Option (Bool)
 | 0, _, _, _, _, _, _, _, _, _, _, _, _, _, _ => none
 | k + 1, x0, x1, x5, x7, x8, x10, x11, x12, x14, x15, x17, x112, x1085000, x1085001 => if x112 = true then (some false) else (if x15 = true then (laws_FnLabelings.l1 k x0 x1 x5 x7 x8 (wrap64 (x10 + x17)) x11 x12 (wrap64 (x14 + 1)) x1085000 x1085001) else (laws_FnLabelings.l1 k x0 x1 x5 x7 x8 x10 x11 x12 (wrap64 (x14 + 1)) x1085000 x1085001))
noncomputable def laws_FnLabelings.l2 : Nat → List Int → List Int → Int → Int → Int → Int → Int → Int → Int → Option (Bool)
 | 0, _, _, _, _, _, _, _, _, _ => none
 | k + 1, x0, x1, x5, x7, x10, x19, x20, x1085000, x1085001 => if x20 < x7 then (laws_FnLabelings.l2 k x0 x1 x5 x7 x10 (wrap64 (x19 * (wrap64 (x5 - x20)))) (wrap64 (x20 + 1)) x1085000 x1085001) else ((spec_A2Order.f k x1 x5).bind fun t1107 => (if 0 ≤ x7 then (if x7 ≤ (t1107.length : Int) then ((impl_FlagOf.f k x1085000 x1085001 (t1107.take (x7 : Int).toNat)).bind fun bt1114 => ((impl_ForgetLabels.f bt1114.1 bt1114.2.1 bt1114.2.2.1 0).bind fun bt1119 => ((impl_LeastGraph.f x1085000 x1085001).bind fun bt1124 => ((spec_A2Order.f k x0 x7).bind fun t1128 => (if (x7 : Int).toNat ≤ 35184372088832 then (laws_FnLabelings.l3 k x7 x10 x19 bt1114.2.2.2 bt1119.2.2.2 bt1124.2.2 t1128 (List.replicate (x7 : Int).toNat 0) 0 bt1114.1 bt1114.2.1 bt1114.2.2.1 bt1119.1 bt1119.2.1 bt1119.2.2.1 bt1124.1 bt1124.2.1) else (none)))))) else (none)) else (none)))
noncomputable def laws_FnLabelings.l3 : Nat → Int → Int → Int → Int → Int → Int → List Int → List Int → Int → Int → Int → Int → Int → Int → Int → Int → Int → Option (Bool)
 | 0, _, _, _, _, _, _, _, _, _, _, _, _, _, _, _, _, _ => none
 | k + 1, x7, x10, x19, x23, x25, x27, x28, x29, x30, x1119000, x1119001, x1119002, x1124000, x1124001, x1124002, x1128000, x1128001 => if x30 < x7 then (if 0 ≤ x30 then (if x30 < (x28.length : Int) then (if 0 ≤ (rd x28 x30) then (if (rd x28 x30) < (x29.length : Int) then (laws_FnLabelings.l3 k x7 x10 x19 x23 x25 x27 x28 (x29.set ((rd x28 x30) : Int).toNat x30) (wrap64 (x30 + 1)) x1119000 x1119001 x1119002 x1124000 x1124001 x1124002 x1128000 x1128001) else (none)) else (none)) else (none)) else (none)) else ((impl_TurnLabels.f k x1119000 x1119001 x1119002 x28).bind fun bt1136 => ((impl_TurnLabels.f k bt1136.1 bt1136.2.1 bt1136.2.2.1 x29).bind fun bt1141 => ((impl_LeastFlag.f x1119000 x1119001 x1119002).bind fun bt1146 => ((impl_PlainFlag.f k x1128000 x1128001).bind fun bt1151 => (if x10 = x19 then (if x23 = 0 then (if x25 = 0 then (if x27 = 0 then (if (x1124000 == bt1151.1 && ((x1124001 == bt1151.2.1 && (x1124002 == bt1151.2.2.1)))) = true then (if bt1136.2.2.2 = 0 then (if bt1141.2.2.2 = 0 then (if bt1146.2.2.2 = 0 then (if (bt1141.1 == bt1146.1 && ((bt1141.2.1 == bt1146.2.1 && (bt1141.2.2.1 == bt1146.2.2.1)))) = true then (some (bt1151.2.2.2 == 0)) else (some false)) else (some false)) else (some false)) else (some false)) else (some false)) else (some false)) else (some false)) else (some false)) else (some false))))))
end
noncomputable def laws_FnLabelings.f (k : Nat) (l0 : List Int) (l1 : List Int) : Option (Bool) := (laws_a2Long.f l0 l1).bind fun t1080 => (if t1080 = true then (some true) else ((laws_a2At.f l1 0 5).bind fun t1081 => ((spec_A2Graph.f l0 t1081).bind fun bt1082 => ((laws_a2At.f l1 1 4).bind fun t1085 => (if t1085 > t1081 then (laws_FnLabelings.j0 k l0 l1 t1081 t1081 bt1082.1 bt1082.2) else (laws_FnLabelings.j0 k l0 l1 t1081 t1085 bt1082.1 bt1082.2))))))
noncomputable def laws_FnLabelings.T21 : Bool × List (List Nat × List Nat) := (true, [([], []), ([], []), ([0, 1], [0, 1]), ([2], [2]), ([3], [3]), ([], []), ([4, 5], [4, 5]), ([6], [6]), ([7], [7]), ([7], [7]), ([8, 6, 0, 1, 2, 3, 4, 5, 6, 7, 8], [8]), ([9, 10, 0, 1, 2, 3, 4, 5, 6, 7, 8, 9, 10], [9])])
noncomputable def laws_FnLabelings.B21 : List Nat := [0, 0, 3, 7, 15, 0, 63, 127, 255, 255, 511, 2047]
theorem laws_FnLabelings.tab21 : rtab .any (opsOf Try.f11 21) = laws_FnLabelings.T21 := by kernel_rfl
theorem laws_FnLabelings.bits21 : waitsOk laws_FnLabelings.T21.2 laws_FnLabelings.B21 = true := by kernel_rfl
theorem laws_FnLabelings.j3_no (k : Nat) (x0 : List Int) (x1 : List Int) (x5 : Int) (x7 : Int) (x8 : List (S27)) (x10 : Int) (x11 : Int) (x12 : List (S45)) (x14 : Int) (x15 : Bool) (x17 : Int) (x1085000 : Int) (x1085001 : Int) : laws_FnLabelings.j3 k x0 x1 x5 x7 x8 x10 x11 x12 x14 x15 x17 true x1085000 x1085001 ≠ some true := by cases k <;> simp [laws_FnLabelings.j3]
set_option maxHeartbeats 8000000 in
set_option maxRecDepth 100000 in
theorem laws_FnLabelings.calls (k : Nat) (A0 : Option Addr) (c0 : Nat) (l0 : List Int) (A1 : Option Addr) (c1 : Nat) (l1 : List Int) (r : Bool) (w : World) (hr0 : Kd.C (Kd.int .u8) w A0 l0.length l0) (hc0 : l0.length ≤ c0) (hr1 : Kd.C (Kd.int .u8) w A1 l1.length l1) (hc1 : l1.length ≤ c1) (h : laws_FnLabelings.f k l0 l1 = some true) :
  Calls Try.prog 11 #[.slice A0 l0.length c0, .slice A1 l1.length c1] w fun e w' => e = .returned (.bool true) ∧ Below w.heap.size w w' := by
 have hu27 := Try.underlying27
 have hu45 := Try.underlying45
 have HR0 := Aside0.mk hr0
 have HC0 := Aside0.mk hc0
 clear hr0 hc0
 have HR1 := Aside0.mk hr1
 have HC1 := Aside0.mk hc1
 clear hr1 hc1
 have HB := Aside0.mk (Below.refl w.heap.size w)
 have H : ((laws_a2Long.f l0 l1).bind fun t1080 => (if t1080 = true then (some true) else ((laws_a2At.f l1 0 5).bind fun t1081 => ((spec_A2Graph.f l0 t1081).bind fun bt1082 => ((laws_a2At.f l1 1 4).bind fun t1085 => (if t1085 > t1081 then (laws_FnLabelings.j0 k l0 l1 t1081 t1081 bt1082.1 bt1082.2) else (laws_FnLabelings.j0 k l0 l1 t1081 t1085 bt1082.1 bt1082.2))))))) = some true := h
 clear h
 replace H := Option.bind_eq_some_iff.mp H
 obtain ⟨t1080, A30, H⟩ := H
 replace H : (if t1080 = true then (some true) else ((laws_a2At.f l1 0 5).bind fun t1081 => ((spec_A2Graph.f l0 t1081).bind fun bt1082 => ((laws_a2At.f l1 1 4).bind fun t1085 => (if t1085 > t1081 then (laws_FnLabelings.j0 k l0 l1 t1081 t1081 bt1082.1 bt1082.2) else (laws_FnLabelings.j0 k l0 l1 t1081 t1085 bt1082.1 bt1082.2)))))) = some true := H
 have A3 := Aside0.mk A30
 clear A30
 by_cases c4 : t1080 = true
 ·subst c4
  have H1 : (some true) = some true := rfl
  clear H
  have H := H1
  clear H1
  clear H
  go_enter Try.func11, Try.ntmps11
  go_wp2_with (first | ((with_reducible refine gate_callee (f := 31) rfl ?_); refine goesL_ (some 41) rfl rfl Try.func31 (by kernel_rfl) rfl #[.slice A0 l0.length c0, .slice A1 l1.length c1] rfl (by (try simp only [List.map_toArray, List.map_cons, List.map_nil]); first | done | rfl | (simp only [List.length_drop, List.length_take]; rfl)) ?_; (with_reducible refine (laws_a2Long.calls _ _ l0 _ _ l1 true _ ?side1 ?side2 ?side3 ?side4 A3.out).mono ?_); (case side1 => repeat (first | exact HR0.out | (with_reducible refine Kd.C_alloc ?_ _) | (with_reducible refine Kd.C_drewN ?_ _) | (with_reducible refine Kd.C_drew ?_))); (case side2 => exact HC0.out); (case side3 => repeat (first | exact HR1.out | (with_reducible refine Kd.C_alloc ?_ _) | (with_reducible refine Kd.C_drewN ?_ _) | (with_reducible refine Kd.C_drew ?_))); (case side4 => exact HC1.out); rintro e w' ⟨rfl, ⟨nd, rfl⟩⟩; refine ⟨_, rfl, ?_⟩))
  go_ret
  exact ⟨by first | rfl | (simp [errW_none, errW_some] <;> rfl) | (simp [*, errW_none, errW_some] <;> rfl), by repeat (first | (with_reducible first | exact HB.out | apply below_alloc | apply pw_below_drewN | apply below_drew1) | exact HB.out)⟩
 ·replace c4 := Bool.eq_false_iff.mpr c4
  subst c4
  have H1 : ((laws_a2At.f l1 0 5).bind fun t1081 => ((spec_A2Graph.f l0 t1081).bind fun bt1082 => ((laws_a2At.f l1 1 4).bind fun t1085 => (if t1085 > t1081 then (laws_FnLabelings.j0 k l0 l1 t1081 t1081 bt1082.1 bt1082.2) else (laws_FnLabelings.j0 k l0 l1 t1081 t1085 bt1082.1 bt1082.2))))) = some true := by rw [if_neg (show ¬ (false = true) by decide)] at H; exact H
  clear H
  have H := H1
  clear H1
  replace H := Option.bind_eq_some_iff.mp H
  obtain ⟨t1081, A50, H⟩ := H
  replace H : ((spec_A2Graph.f l0 t1081).bind fun bt1082 => ((laws_a2At.f l1 1 4).bind fun t1085 => (if t1085 > t1081 then (laws_FnLabelings.j0 k l0 l1 t1081 t1081 bt1082.1 bt1082.2) else (laws_FnLabelings.j0 k l0 l1 t1081 t1085 bt1082.1 bt1082.2)))) = some true := H
  have A5 := Aside0.mk A50
  clear A50
  replace H := Option.bind_eq_some_iff.mp H
  obtain ⟨⟨t1082, t1083⟩, A60, H⟩ := H
  replace H : ((laws_a2At.f l1 1 4).bind fun t1085 => (if t1085 > t1081 then (laws_FnLabelings.j0 k l0 l1 t1081 t1081 t1082 t1083) else (laws_FnLabelings.j0 k l0 l1 t1081 t1085 t1082 t1083))) = some true := H
  have A6 := Aside0.mk A60
  clear A60
  replace H := Option.bind_eq_some_iff.mp H
  obtain ⟨t1085, A70, H⟩ := H
  replace H : (if t1085 > t1081 then (laws_FnLabelings.j0 k l0 l1 t1081 t1081 t1082 t1083) else (laws_FnLabelings.j0 k l0 l1 t1081 t1085 t1082 t1083)) = some true := H
  have A7 := Aside0.mk A70
  clear A70
  have HC8 := Aside0.mk H
  clear H
  go_enter Try.func11, Try.ntmps11
  go_upto_if 51 with (first | ((with_reducible refine gate_callee (f := 31) rfl ?_); refine goesL_ (some 41) rfl rfl Try.func31 (by kernel_rfl) rfl #[.slice A0 l0.length c0, .slice A1 l1.length c1] rfl (by (try simp only [List.map_toArray, List.map_cons, List.map_nil]); first | done | rfl | (simp only [List.length_drop, List.length_take]; rfl)) ?_; (with_reducible refine (laws_a2Long.calls _ _ l0 _ _ l1 false _ ?side1 ?side2 ?side3 ?side4 A3.out).mono ?_); (case side1 => repeat (first | exact HR0.out | (with_reducible refine Kd.C_alloc ?_ _) | (with_reducible refine Kd.C_drewN ?_ _) | (with_reducible refine Kd.C_drew ?_))); (case side2 => exact HC0.out); (case side3 => repeat (first | exact HR1.out | (with_reducible refine Kd.C_alloc ?_ _) | (with_reducible refine Kd.C_drewN ?_ _) | (with_reducible refine Kd.C_drew ?_))); (case side4 => exact HC1.out); rintro e w' ⟨rfl, ⟨nd, rfl⟩⟩; refine ⟨_, rfl, ?_⟩) | ((with_reducible refine gate_callee (f := 32) rfl ?_); refine goesL_ (some 43) rfl rfl Try.func32 (by kernel_rfl) rfl #[.slice A1 l1.length c1, .int .i64 0, .int .i64 5] rfl (by (try simp only [List.map_toArray, List.map_cons, List.map_nil]); first | done | rfl | (simp only [List.length_drop, List.length_take]; rfl)) ?_; (with_reducible refine (laws_a2At.calls _ _ l1 0 5 t1081 _ ?side1 ?side2 A5.out).mono ?_); (case side1 => repeat (first | exact HR1.out | (with_reducible refine Kd.C_alloc ?_ _) | (with_reducible refine Kd.C_drewN ?_ _) | (with_reducible refine Kd.C_drew ?_))); (case side2 => exact HC1.out); rintro e w' ⟨rfl, ⟨nd, rfl⟩⟩; refine ⟨_, rfl, ?_⟩) | ((with_reducible refine gate_callee (f := 33) rfl ?_); refine goesL_ (some 46) rfl rfl Try.func33 (by kernel_rfl) rfl #[.slice A0 l0.length c0, .int .i64 t1081] rfl (by (try simp only [List.map_toArray, List.map_cons, List.map_nil]); first | done | rfl | (simp only [List.length_drop, List.length_take]; rfl)) ?_; (with_reducible refine (spec_A2Graph.calls _ _ l0 t1081 t1082 t1083 _ ?side1 ?side2 A6.out).mono ?_); (case side1 => repeat (first | exact HR0.out | (with_reducible refine Kd.C_alloc ?_ _) | (with_reducible refine Kd.C_drewN ?_ _) | (with_reducible refine Kd.C_drew ?_))); (case side2 => exact HC0.out); rintro e w9 ⟨rfl, hb⟩; refine ⟨_, rfl, ?_⟩; have n0_ := Aside0.mk (below_step (by repeat (first | (with_reducible first | exact HB.out | apply below_alloc | apply pw_below_drewN | apply below_drew1) | exact HB.out)) hb); clear HB; have HB := n0_; clear n0_; (try clear hb); (try clear hb2); (try clear hk); (try clear hi)) | ((with_reducible refine gate_dst (N := 6) rfl ?_); refine box_event ?hg (N := 6) ?hd (cs := #[.int .i64 0, .int .u32 0]) (t := 27) ?hr ?_; (case hd => rfl); (case hg => rfl); (case hr => first | (go_simp; done) | (go_simp; rfl)); intro gb1084 hg w10 hbox hb; have n0_ := Aside0.mk (below_step (by repeat (first | (with_reducible first | exact HB.out | apply below_alloc | apply pw_below_drewN | apply below_drew1) | exact HB.out)) hb); have n1_ := Aside0.mk (hbox); have n2_ := Aside0.mk ((by rw [hg]; exact (below_size (by repeat (first | (with_reducible first | exact HB.out | apply below_alloc | apply pw_below_drewN | apply below_drew1) | exact HB.out))) : w.heap.size ≤ gb1084)); have n3_ := n2_; clear HB; have HB := n0_; have BK1084 := n1_; have GW1084 := n2_; have GE1084 := n3_; clear n0_ n1_ n2_ n3_; clear hb hbox hg; have hcz11_0 : w10.cell? ⟨gb1084, 0, none⟩ = some (.int .i64 0) := (blk_cell BK1084.out 0).trans rfl; have hcz11_1 : w10.cell? ⟨gb1084, 1, none⟩ = some (.int .u32 0) := (blk_cell BK1084.out 1).trans rfl; have hfz11_0 := blk_frozen BK1084.out 0; have hfz11_1 := blk_frozen BK1084.out 1) | ((with_reducible refine gate_callee (f := 32) rfl ?_); refine goesL_ (some 48) rfl rfl Try.func32 (by kernel_rfl) rfl #[.slice A1 l1.length c1, .int .i64 1, .int .i64 4] rfl (by (try simp only [List.map_toArray, List.map_cons, List.map_nil]); first | done | rfl | (simp only [List.length_drop, List.length_take]; rfl)) ?_; (with_reducible refine (laws_a2At.calls _ _ l1 1 4 t1085 _ ?side1 ?side2 A7.out).mono ?_); (case side1 => exact Kd.C_below HR1.out (by repeat (first | (with_reducible first | exact HB.out | apply below_alloc | apply pw_below_drewN | apply below_drew1 | refine below_set ?_ GE1084.out) | exact HB.out))); (case side2 => exact HC1.out); rintro e w' ⟨rfl, ⟨nd, rfl⟩⟩; refine ⟨_, rfl, ?_⟩))
  (try simp only [Act.put, List.setIfInBounds_toArray, List.set_cons_zero, List.set_cons_succ])
  go_cut [7] (fun v7 wc => ∃ (kq : Nat) (x7_7 : Int), v7 = .int .i64 x7_7 ∧ Aside0 (laws_FnLabelings.j0 kq l0 l1 t1081 x7_7 t1082 t1083 = some true) ∧ Aside0 (kq ≤ k) ∧ Aside0 (wc.heap[gb1084]? = some (.cells #[.int .i64 t1082, .int .u32 t1083] 27 (0, 0))) ∧ Aside0 (Below w.heap.size w wc))
  case first =>
   have H := HC8.out
   clear HC8
   by_cases c12 : t1085 > t1081
   ·rw [if_pos c12] at H
    have c12b0 : decide (t1081 < t1085) = true := decide_eq_true c12
    clear c12
    (first | rw [c12b0] | (simp only [i64_w, i32_w]; rw [c12b0]) | skip)
    have H' := Aside0.mk H
    clear H
    go_wp2
    go_meet
    case rel => exact ⟨_, (t1081), (by first | rfl | (simp; done) | (simp [*]; done)), H', ⟨by first | omega | exact Nat.le_refl _⟩, ⟨by (with_reducible repeat (first | refine blk_drewN ?_ _ | refine blk_drew ?_ | refine blk_alloc ?_ _)); refine blk_put (cs := #[.int .i64 t1082, .int .u32 0]) ?_ 1 _ rfl; (with_reducible repeat (first | refine blk_drewN ?_ _ | refine blk_drew ?_ | refine blk_alloc ?_ _)); refine blk_put (cs := #[.int .i64 0, .int .u32 0]) ?_ 0 _ rfl; (with_reducible repeat (first | refine blk_drewN ?_ _ | refine blk_drew ?_ | refine blk_alloc ?_ _)); exact BK1084.out⟩, ⟨by repeat (first | (with_reducible first | exact HB.out | apply below_alloc | apply pw_below_drewN | apply below_drew1 | refine below_set ?_ GE1084.out) | exact HB.out)⟩⟩
   ·rw [if_neg c12] at H
    have c12b0 : decide (t1081 < t1085) = false := decide_eq_false c12
    clear c12
    (first | rw [c12b0] | (simp only [i64_w, i32_w]; rw [c12b0]) | skip)
    have H' := Aside0.mk H
    clear H
    go_wp2
    go_meet
    case rel => exact ⟨_, (t1085), (by first | rfl | (simp; done) | (simp [*]; done)), H', ⟨by first | omega | exact Nat.le_refl _⟩, ⟨by (with_reducible repeat (first | refine blk_drewN ?_ _ | refine blk_drew ?_ | refine blk_alloc ?_ _)); refine blk_put (cs := #[.int .i64 t1082, .int .u32 0]) ?_ 1 _ rfl; (with_reducible repeat (first | refine blk_drewN ?_ _ | refine blk_drew ?_ | refine blk_alloc ?_ _)); refine blk_put (cs := #[.int .i64 0, .int .u32 0]) ?_ 0 _ rfl; (with_reducible repeat (first | refine blk_drewN ?_ _ | refine blk_drew ?_ | refine blk_alloc ?_ _)); exact BK1084.out⟩, ⟨by repeat (first | (with_reducible first | exact HB.out | apply below_alloc | apply pw_below_drewN | apply below_drew1 | refine below_set ?_ GE1084.out) | exact HB.out)⟩⟩
  case rest =>
   clear HC8
   try clear c1
   try clear p2
   try clear c3
   try clear c4
   try clear c11
   try clear c12
   try clear c12b0
   try clear hcz11_0
   try clear hcz11_1
   try clear hfz11_0
   try clear hfz11_1
   obtain ⟨kq, x7_7, rfl, HA, HJ7, BK1084, HB⟩ := hcut
   cases kq with
   | zero => exact absurd HA.out (by simp [laws_FnLabelings.j0])
   | succ kj7 =>
    have H := HA.out
    clear HA
    simp only [laws_FnLabelings.j0] at H
    obtain ⟨y1086, hy1086⟩ : ∃ y_ : List (S27), y_ = (([] : List (S27))) := ⟨_, rfl⟩
    replace H : ((impl_AllTypes.f kj7 x7_7 y1086).bind fun bt1089 => (if bt1089.2 = 0 then (laws_FnLabelings.l0 kj7 l0 l1 t1081 x7_7 bt1089.1 0 0 t1082 t1083) else (some false))) = some true := by first | (rw [hy1086]; with_reducible exact H) | (have H2_ := (Option.bind_some _ _).symm.trans H; rw [hy1086]; with_reducible exact H2_) | (have H2_ := (Option.bind_some _ _).symm.trans H; with_reducible exact H2_) | with_reducible exact H | (rw [hy1086]; exact H) | exact H
    have Ny1086 := Aside0.mk hy1086
    clear hy1086
    replace H := Option.bind_eq_some_iff.mp H
    obtain ⟨⟨t1089, t1090⟩, A130, H⟩ := H
    replace H : (if t1090 = 0 then (laws_FnLabelings.l0 kj7 l0 l1 t1081 x7_7 t1089 0 0 t1082 t1083) else (some false)) = some true := H
    have A13 := Aside0.mk A130
    clear A130
    by_cases c14 : t1090 = 0
    ·rw [if_pos c14] at H
     have c14b0 : (t1090 == 0) = true := beq_iff_eq.mpr c14
     have c14b1 : (t1090 != 0) = false := bne_eq_false_iff_eq.mpr c14
     clear c14
     have H' := Aside0.mk H
     clear H
     go_wp2_with (first | ((with_reducible refine gate_dst (N := 55) rfl ?_); refine Kd.R_lit k27 _ 27 ?hg (N := 55) ?hd (xs := ([] : List (S27))) (inner := []) (ok := fun _ => True) (okp := fun _ => True) ?hr ?hp (fun _ hk => hk) trivial (Below.refl _ _) (Nat.le_refl _) (by simp) ?_; (case hd => rfl); (case hg => rfl); (case hr => first | (go_simp; done) | (go_simp; rfl)); (case hp => exact (Reps.none _ _)); intro v1087 w15 ho16 hb hg_ hnew_; clear hg_ hnew_; (first | rw [← Ny1086.out] at ho16 | (simp only [Int.reduceToNat] at ho16; rw [← Ny1086.out] at ho16)); have n0_ := Aside0.mk (Kd.R_lower (Kd.R_newB ho16 (g := gb1084) (o := .cells #[.int .i64 t1082, .int .u32 t1083] 27 (0, 0)) (by (with_reducible repeat (first | refine blk_drewN ?_ _ | refine blk_drew ?_ | refine blk_alloc ?_ _)); exact BK1084.out)) (below_size (by repeat (first | (with_reducible first | exact HB.out | apply below_alloc | apply pw_below_drewN | apply below_drew1 | refine below_set ?_ GE1084.out) | exact HB.out)))); have n1_ := Aside0.mk (blk_below (g := gb1084) (o := .cells #[.int .i64 t1082, .int .u32 t1083] 27 (0, 0)) (by (with_reducible repeat (first | refine blk_drewN ?_ _ | refine blk_drew ?_ | refine blk_alloc ?_ _)); exact BK1084.out) hb); have n2_ := Aside0.mk (below_step (by repeat (first | (with_reducible first | exact HB.out | apply below_alloc | apply pw_below_drewN | apply below_drew1 | refine below_set ?_ GE1084.out) | exact HB.out)) hb); clear BK1084; clear HB; have HO1088 := n0_; have BK1084 := n1_; have HB := n2_; clear n0_ n1_ n2_; clear hb ho16; obtain ⟨Ao17, co17, eo17⟩ := Kd.R_slice HO1088.out; subst eo17) | ((with_reducible refine gate_callee (f := 45) rfl ?_); refine goesL_ (some 56) rfl rfl Try.func45 (by kernel_rfl) rfl #[.int .i64 x7_7, .slice Ao17 y1086.length co17] rfl (by (try simp only [List.map_toArray, List.map_cons, List.map_nil]); first | done | rfl | (simp only [List.length_drop, List.length_take]; rfl)) ?_; (with_reducible refine (impl_AllTypes.calls kj7 x7_7 _ _ y1086 t1089 t1090 _ ?side1 ?side2 A13.out).mono ?_); (case side1 => repeat (first | exact (Kd.R_reads' HO1088.out).2.2 | (with_reducible refine Kd.C_alloc ?_ _) | (with_reducible refine Kd.C_drewN ?_ _) | (with_reducible refine Kd.C_drew ?_))); (case side2 => exact (Kd.R_reads' HO1088.out).2.1); rintro e w18 ⟨v1091, rfl, ho0, hb⟩; refine ⟨_, rfl, ?_⟩; have n0_ := Aside0.mk (Kd.R_elder' (by (with_reducible repeat (first | apply Kd.R_alloc | apply Kd.R_drewN | apply Kd.R_drew)); exact HO1088.out) (Kd.R_base ho0) hb); have n1_ := Aside0.mk (Kd.R_lower (Kd.R_newB (Kd.R_new' ho0 (Kd.R_lt (by (with_reducible repeat (first | apply Kd.R_alloc | apply Kd.R_drewN | apply Kd.R_drew)); exact HO1088.out))) (g := gb1084) (o := .cells #[.int .i64 t1082, .int .u32 t1083] 27 (0, 0)) (by (with_reducible repeat (first | refine blk_drewN ?_ _ | refine blk_drew ?_ | refine blk_alloc ?_ _)); exact BK1084.out)) (below_size (by repeat (first | (with_reducible first | exact HB.out | apply below_alloc | apply pw_below_drewN | apply below_drew1 | refine below_set ?_ GE1084.out) | exact HB.out)))); have n2_ := Aside0.mk (blk_below (g := gb1084) (o := .cells #[.int .i64 t1082, .int .u32 t1083] 27 (0, 0)) (by (with_reducible repeat (first | refine blk_drewN ?_ _ | refine blk_drew ?_ | refine blk_alloc ?_ _)); exact BK1084.out) hb); have n3_ := Aside0.mk (below_step (by repeat (first | (with_reducible first | exact HB.out | apply below_alloc | apply pw_below_drewN | apply below_drew1 | refine below_set ?_ GE1084.out) | exact HB.out)) hb); clear HO1088; clear BK1084; clear HB; have HO1088 := n0_; have HO1092 := n1_; have BK1084 := n2_; have HB := n3_; clear n0_ n1_ n2_ n3_; (try clear hb); (try clear hb2); (try clear hk); (try clear hi); (try clear ho0)))
     go_loopg [10, 11] kj7 (fun kq v10 v11 w' => ∃ (x10_2 : Int) (x11_2 : Int), v10 = .int .i64 x10_2 ∧ v11 = .int .i64 x11_2 ∧ Aside0 (laws_FnLabelings.l0 kq l0 l1 t1081 x7_7 t1089 x10_2 x11_2 t1082 t1083 = some true) ∧ Aside0 (kq ≤ kj7) ∧ Aside0 (Kd.R k27 27 w' w.heap.size (fun k_ => k_ ≠ gb1084) v1091 t1089) ∧ Aside0 (w'.heap[gb1084]? = some (.cells #[.int .i64 t1082, .int .u32 t1083] 27 (0, 0))) ∧ Aside0 (Below w.heap.size w w'))
     case atStart => exact ⟨(0), (0), (by first | rfl | (simp; done) | (simp [*]; done)), (by first | rfl | (simp; done) | (simp [*]; done)), H', ⟨Nat.le_refl _⟩, ⟨by (with_reducible repeat (first | apply Kd.R_alloc | apply Kd.R_drewN | apply Kd.R_drew)); exact Kd.R_mono HO1092.out (fun _ hk => hk.2)⟩, ⟨by (with_reducible repeat (first | refine blk_drewN ?_ _ | refine blk_drew ?_ | refine blk_alloc ?_ _)); exact BK1084.out⟩, ⟨by repeat (first | (with_reducible first | exact HB.out | apply below_alloc | apply pw_below_drewN | apply below_drew1 | refine below_set ?_ GE1084.out) | exact HB.out)⟩⟩
     case round =>
      clear H'
      try clear c1
      try clear p2
      try clear c3
      try clear c4
      try clear c11
      try clear c12
      try clear c12b0
      try clear c14
      try clear c14b0
      try clear c14b1
      try clear hcz11_0
      try clear hcz11_1
      try clear hfz11_0
      try clear hfz11_1
      try clear p2
      obtain ⟨x10_2, x11_2, rfl, rfl, HA, HK2, HO_8, BK1084, HB⟩ := hrel
      cases gk with
      | zero => exact absurd HA.out (by simp [laws_FnLabelings.l0])
      | succ k2 =>
       have H := HA.out
       clear HA
       simp only [laws_FnLabelings.l0] at H
       by_cases c19 : x11_2 < (t1089.length : Int)
       ·rw [if_pos c19] at H
        have c19b0 : decide (x11_2 < (t1089.length : Int)) = true := decide_eq_true c19
        clear c19
        by_cases c20 : 0 ≤ x11_2
        ·rw [if_pos c20] at H
         have c20b0 : decide (0 ≤ x11_2) = true := decide_eq_true c20
         clear c20
         obtain ⟨y1094, hy1094⟩ : ∃ y_ : List (S27), y_ = (([] : List (S27))) := ⟨_, rfl⟩
         replace H : ((impl_AllFlags.f k2 ((rd_T27 t1089 x11_2).f0) ((rd_T27 t1089 x11_2).f1) t1081 y1094).bind fun bt1097 => (if bt1097.2 = 0 then (laws_FnLabelings.l1 k2 l0 l1 t1081 x7_7 t1089 x10_2 x11_2 bt1097.1 0 t1082 t1083) else (some false))) = some true := by first | (rw [hy1094]; with_reducible exact H) | (have H2_ := (Option.bind_some _ _).symm.trans H; rw [hy1094]; with_reducible exact H2_) | (have H2_ := (Option.bind_some _ _).symm.trans H; with_reducible exact H2_) | with_reducible exact H | (rw [hy1094]; exact H) | exact H
         have Ny1094 := Aside0.mk hy1094
         clear hy1094
         replace H := Option.bind_eq_some_iff.mp H
         obtain ⟨⟨t1097, t1100⟩, A210, H⟩ := H
         replace H : (if t1100 = 0 then (laws_FnLabelings.l1 k2 l0 l1 t1081 x7_7 t1089 x10_2 x11_2 t1097 0 t1082 t1083) else (some false)) = some true := H
         have A21 := Aside0.mk A210
         clear A210
         by_cases c22 : t1100 = 0
         ·rw [if_pos c22] at H
          have c22b0 : (t1100 == 0) = true := beq_iff_eq.mpr c22
          have c22b1 : (t1100 != 0) = false := bne_eq_false_iff_eq.mpr c22
          clear c22
          have H' := Aside0.mk H
          clear H
          obtain ⟨Ao23, co23, eo23⟩ := Kd.R_slice HO_8.out
          subst eo23
          have p1093 : 0 ≤ (x11_2 : Int) := of_decide_eq_true (by first | (with_reducible assumption) | assumption)
          have q1093 : x11_2 < (t1089.length : Int) := of_decide_eq_true (by first | (with_reducible assumption) | assumption)
          obtain ⟨ad1093, e1093, hx1093_0, hx1093_1⟩ := at_T27 (Kd.R_reads' HO_8.out).2.2 x11_2 p1093 q1093
          cases e1093
          replace p1093 := eq_true p1093
          replace q1093 := eq_true q1093
          go_wp2_with (first | ((with_reducible refine gate_dst (N := 73) rfl ?_); refine Kd.R_lit k27 _ 27 ?hg (N := 73) ?hd (xs := ([] : List (S27))) (inner := []) (ok := fun _ => True) (okp := fun _ => True) ?hr ?hp (fun _ hk => hk) trivial (Below.refl _ _) (Nat.le_refl _) (by simp) ?_; (case hd => rfl); (case hg => rfl); (case hr => first | (go_simp; done) | (go_simp; rfl)); (case hp => exact (Reps.none _ _)); intro v1095 w24 ho25 hb hg_ hnew_; clear hg_ hnew_; (first | rw [← Ny1094.out] at ho25 | (simp only [Int.reduceToNat] at ho25; rw [← Ny1094.out] at ho25)); have n0_ := Aside0.mk (Kd.R_elder' (by (with_reducible repeat (first | apply Kd.R_alloc | apply Kd.R_drewN | apply Kd.R_drew)); exact HO_8.out) (Kd.R_base ho25) hb); have n1_ := Aside0.mk (Kd.R_lower (Kd.R_newB (Kd.R_new' ho25 (Kd.R_lt (by (with_reducible repeat (first | apply Kd.R_alloc | apply Kd.R_drewN | apply Kd.R_drew)); exact HO_8.out))) (g := gb1084) (o := .cells #[.int .i64 t1082, .int .u32 t1083] 27 (0, 0)) (by (with_reducible repeat (first | refine blk_drewN ?_ _ | refine blk_drew ?_ | refine blk_alloc ?_ _)); exact BK1084.out)) (below_size (by repeat (first | (with_reducible first | exact HB.out | apply below_alloc | apply pw_below_drewN | apply below_drew1 | refine below_set ?_ GE1084.out) | exact HB.out)))); have n2_ := Aside0.mk (blk_below (g := gb1084) (o := .cells #[.int .i64 t1082, .int .u32 t1083] 27 (0, 0)) (by (with_reducible repeat (first | refine blk_drewN ?_ _ | refine blk_drew ?_ | refine blk_alloc ?_ _)); exact BK1084.out) hb); have n3_ := Aside0.mk (below_step (by repeat (first | (with_reducible first | exact HB.out | apply below_alloc | apply pw_below_drewN | apply below_drew1 | refine below_set ?_ GE1084.out) | exact HB.out)) hb); clear HO_8; clear BK1084; clear HB; have HO_8 := n0_; have HO1096 := n1_; have BK1084 := n2_; have HB := n3_; clear n0_ n1_ n2_ n3_; clear hb ho25; obtain ⟨Ao26, co26, eo26⟩ := Kd.R_slice HO1096.out; subst eo26) | ((with_reducible refine gate_callee (f := 46) rfl ?_); refine goesL_ (some 74) rfl rfl Try.func46 (by kernel_rfl) rfl #[.agg #[.int .i64 ((rd_T27 t1089 x11_2).f0), .int .u32 ((rd_T27 t1089 x11_2).f1)], .int .i64 t1081, .slice Ao26 y1094.length co26] rfl (by (try simp only [List.map_toArray, List.map_cons, List.map_nil]); first | done | rfl | (simp only [List.length_drop, List.length_take]; rfl)) ?_; (with_reducible refine (impl_AllFlags.calls k2 ((rd_T27 t1089 x11_2).f0) ((rd_T27 t1089 x11_2).f1) t1081 _ _ y1094 t1097 t1100 _ ?side1 ?side2 A21.out).mono ?_); (case side1 => repeat (first | exact (Kd.R_reads' HO1096.out).2.2 | (with_reducible refine Kd.C_alloc ?_ _) | (with_reducible refine Kd.C_drewN ?_ _) | (with_reducible refine Kd.C_drew ?_))); (case side2 => exact (Kd.R_reads' HO1096.out).2.1); rintro e w27 ⟨v1098, rfl, ho0, hb⟩; refine ⟨_, rfl, ?_⟩; have n0_ := Aside0.mk (Kd.R_below (by (with_reducible repeat (first | apply Kd.R_alloc | apply Kd.R_drewN | apply Kd.R_drew)); exact HO_8.out) hb); have n1_ := Aside0.mk (Kd.R_below (by (with_reducible repeat (first | apply Kd.R_alloc | apply Kd.R_drewN | apply Kd.R_drew)); exact HO1096.out) hb); have n2_ := Aside0.mk (Kd.R_lower ho0 (below_size (by repeat (first | (with_reducible first | exact HB.out | apply below_alloc | apply pw_below_drewN | apply below_drew1 | refine below_set ?_ GE1084.out) | exact HB.out)))); have n3_ := Aside0.mk (blk_below (g := gb1084) (o := .cells #[.int .i64 t1082, .int .u32 t1083] 27 (0, 0)) (by (with_reducible repeat (first | refine blk_drewN ?_ _ | refine blk_drew ?_ | refine blk_alloc ?_ _)); exact BK1084.out) hb); have n4_ := Aside0.mk (below_step (by repeat (first | (with_reducible first | exact HB.out | apply below_alloc | apply pw_below_drewN | apply below_drew1 | refine below_set ?_ GE1084.out) | exact HB.out)) hb); clear HO_8; clear HO1096; clear BK1084; clear HB; have HO_8 := n0_; have HO1096 := n1_; have HO1099 := n2_; have BK1084 := n3_; have HB := n4_; clear n0_ n1_ n2_ n3_ n4_; (try clear hb); (try clear hb2); (try clear hk); (try clear hi); (try clear ho0)))
          go_loopg [10, 14] k2 (fun kq v10 v14 w' => ∃ (x10_3 : Int) (x14_3 : Int), v10 = .int .i64 x10_3 ∧ v14 = .int .i64 x14_3 ∧ Aside0 (laws_FnLabelings.l1 kq l0 l1 t1081 x7_7 t1089 x10_3 x11_2 t1097 x14_3 t1082 t1083 = some true) ∧ Aside0 (kq ≤ k2) ∧ Aside0 (Kd.R k27 27 w' w.heap.size (fun k_ => k_ ≠ gb1084) (.slice (some ad1093) t1089.length co23) t1089) ∧ Aside0 (Kd.R k45 45 w' w.heap.size (fun _ => True) v1098 t1097) ∧ Aside0 (w'.heap[gb1084]? = some (.cells #[.int .i64 t1082, .int .u32 t1083] 27 (0, 0))) ∧ Aside0 (Below w.heap.size w w'))
          case atStart => exact ⟨(x10_2), (0), (by first | rfl | (simp; done) | (simp [*]; done)), (by first | rfl | (simp; done) | (simp [*]; done)), H', ⟨Nat.le_refl _⟩, ⟨by (with_reducible repeat (first | apply Kd.R_alloc | apply Kd.R_drewN | apply Kd.R_drew)); exact Kd.R_mono HO_8.out (fun _ hk => hk.1)⟩, ⟨by (with_reducible repeat (first | apply Kd.R_alloc | apply Kd.R_drewN | apply Kd.R_drew)); exact HO1099.out⟩, ⟨by (with_reducible repeat (first | refine blk_drewN ?_ _ | refine blk_drew ?_ | refine blk_alloc ?_ _)); exact BK1084.out⟩, ⟨by repeat (first | (with_reducible first | exact HB.out | apply below_alloc | apply pw_below_drewN | apply below_drew1 | refine below_set ?_ GE1084.out) | exact HB.out)⟩⟩
          case round =>
           clear H'
           try clear c1
           try clear p1
           try clear q1
           try clear hx1
           try clear c2
           try clear p2
           try clear c3
           try clear c4
           try clear p10
           try clear q10
           try clear hx10
           try clear c11
           try clear c12
           try clear c12b0
           try clear c14
           try clear c14b0
           try clear c14b1
           try clear c19
           try clear c19b0
           try clear c20
           try clear c20b0
           try clear c22
           try clear c22b0
           try clear c22b1
           try clear hcz11_0
           try clear hcz11_1
           try clear hfz11_0
           try clear hfz11_1
           try clear hx1093_0
           try clear hx1093_1
           try clear p1093
           try clear p2
           try clear q1093
           obtain ⟨x10_3, x14_3, rfl, rfl, HA, HK3, HO_8, HO_12, BK1084, HB⟩ := hrel
           cases gk with
           | zero => exact absurd HA.out (by simp [laws_FnLabelings.l1])
           | succ k3 =>
            have H := HA.out
            clear HA
            simp only [laws_FnLabelings.l1] at H
            by_cases c28 : x14_3 < (t1097.length : Int)
            ·rw [if_pos c28] at H
             have c28b0 : decide (x14_3 < (t1097.length : Int)) = true := decide_eq_true c28
             clear c28
             by_cases c29 : 0 ≤ x14_3
             ·rw [if_pos c29] at H
              have c29b0 : decide (0 ≤ x14_3) = true := decide_eq_true c29
              clear c29
              replace H := Option.bind_eq_some_iff.mp H
              obtain ⟨⟨t1102, t1103⟩, A300, H⟩ := H
              replace H : ((impl_CountLabelings.f ((rd_T45 t1097 x14_3).f0) ((rd_T45 t1097 x14_3).f1.f0) ((rd_T45 t1097 x14_3).f1.f1)).bind fun bt1105 => (if t1103 = 0 then (if bt1105.2 = 0 then (laws_FnLabelings.j3 k3 l0 l1 t1081 x7_7 t1089 x10_3 x11_2 t1097 x14_3 t1102 bt1105.1 (decide (bt1105.1 < 1)) t1082 t1083) else (laws_FnLabelings.j3 k3 l0 l1 t1081 x7_7 t1089 x10_3 x11_2 t1097 x14_3 t1102 bt1105.1 true t1082 t1083)) else (laws_FnLabelings.j3 k3 l0 l1 t1081 x7_7 t1089 x10_3 x11_2 t1097 x14_3 t1102 bt1105.1 true t1082 t1083))) = some true := H
              have A30 := Aside0.mk A300
              clear A300
              replace H := Option.bind_eq_some_iff.mp H
              obtain ⟨⟨t1105, t1106⟩, A310, H⟩ := H
              replace H : (if t1103 = 0 then (if t1106 = 0 then (laws_FnLabelings.j3 k3 l0 l1 t1081 x7_7 t1089 x10_3 x11_2 t1097 x14_3 t1102 t1105 (decide (t1105 < 1)) t1082 t1083) else (laws_FnLabelings.j3 k3 l0 l1 t1081 x7_7 t1089 x10_3 x11_2 t1097 x14_3 t1102 t1105 true t1082 t1083)) else (laws_FnLabelings.j3 k3 l0 l1 t1081 x7_7 t1089 x10_3 x11_2 t1097 x14_3 t1102 t1105 true t1082 t1083)) = some true := H
              have A31 := Aside0.mk A310
              clear A310
              have HC32 := Aside0.mk H
              clear H
              obtain ⟨Ao33, co33, eo33⟩ := Kd.R_slice HO_12.out
              subst eo33
              try go_wp2
              have n0_ := Aside0.mk (Kd.R_drew HO_8.out)
              have n1_ := Aside0.mk (Kd.R_drew HO_12.out)
              have n2_ := Aside0.mk (blk_drew BK1084.out)
              have n3_ := Aside0.mk (below_drew1 HB.out)
              clear HO_8 HO_12 BK1084 HB
              have HO_8 := n0_
              have HO_12 := n1_
              have BK1084 := n2_
              have HB := n3_
              clear n0_ n1_ n2_ n3_
              have p1101 : 0 ≤ (x14_3 : Int) := of_decide_eq_true (by first | (with_reducible assumption) | assumption)
              have q1101 : x14_3 < (t1097.length : Int) := of_decide_eq_true (by first | (with_reducible assumption) | assumption)
              obtain ⟨ad1101, e1101, hx1101_0, hx1101_1, hx1101_2⟩ := at_T45 (Kd.R_reads' HO_12.out).2.2 x14_3 p1101 q1101
              cases e1101
              replace p1101 := eq_true p1101
              replace q1101 := eq_true q1101
              refine start_ (n := 12) (S := fun w' => w'.cell? ⟨gb1084, 0, none⟩ = some (.int .i64 t1082) ∧ w'.cell? ⟨gb1084, 1, none⟩ = some (.int .u32 t1083) ∧ w'.cell? (ad1101.add ((x14_3).toNat * 3)) = some (.int .i64 ((rd_T45 t1097 x14_3).f0)) ∧ w'.cell? ⟨(ad1101.add ((x14_3).toNat * 3)).block, (ad1101.add ((x14_3).toNat * 3)).off + 1, none⟩ = some (.int .i64 ((rd_T45 t1097 x14_3).f1.f0)) ∧ w'.cell? ⟨(ad1101.add ((x14_3).toNat * 3)).block, (ad1101.add ((x14_3).toNat * 3)).off + 2, none⟩ = some (.int .u32 ((rd_T45 t1097 x14_3).f1.f1))) (ds := []) #[false, false, false, false, false, false, false, false, false, false, false, false] (by kernel_rfl) rfl rfl ⟨(blk_cell BK1084.out 0).trans rfl, (blk_cell BK1084.out 1).trans rfl, hx1101_0, hx1101_1, hx1101_2⟩ (fun hHeld => ?_); refine with_tabW laws_FnLabelings.tab21 laws_FnLabelings.bits21 (fun HT_ HW_ => ?_)
              generalize wr.drew = w34 at HO_8 HO_12 BK1084 HB hx1101_0 hx1101_1 hx1101_2 hHeld ⊢
              refine pure_ (i := 0) (N := some 86) (v := ?_) (a' := ?_) #[true, false, false, false, false, false, false, false, false, false, false, false] rfl rfl (any_of HT_.out (by kernel_rfl)) (fun _ _ _ h => h) (Or.inl ⟨by rfl, ?_⟩) ?_ ?_
              rotate_left
              ·intro w'
               go_simp
               with_reducible rfl
              rotate_left
              ·simp only [Act.put, List.setIfInBounds_toArray, List.set_cons_zero, List.set_cons_succ, i64_w, i32_w]
               rfl
              refine pure_ (i := 1) (N := some 87) (v := ?_) (a' := ?_) #[true, true, false, false, false, false, false, false, false, false, false, false] rfl rfl (any_of HT_.out (by kernel_rfl)) (fun _ _ _ h => h) (Or.inl ⟨by rfl, ?_⟩) ?_ ?_
              rotate_left
              ·intro w'
               go_simp
               with_reducible rfl
              rotate_left
              ·simp only [Act.put, List.setIfInBounds_toArray, List.set_cons_zero, List.set_cons_succ, i64_w, i32_w]
               rfl
              refine pure_ (i := 2) (N := some 88) (v := ?_) (a' := ?_) #[true, true, true, false, false, false, false, false, false, false, false, false] rfl rfl (any_of HT_.out (by kernel_rfl)) (fun _ _ _ h => h) (Or.inl ⟨by rfl, ?_⟩) ?_ ?_
              rotate_left
              ·intro w'
               go_simp
               with_reducible rfl
              rotate_left
              ·simp only [Act.put, List.setIfInBounds_toArray, List.set_cons_zero, List.set_cons_succ, i64_w, i32_w]
               rfl
              refine pure_ (i := 3) (N := some 89) (v := ?_) (a' := ?_) #[true, true, true, true, false, false, false, false, false, false, false, false] rfl rfl (any_of HT_.out (by kernel_rfl)) (fun _ _ _ h => h) (Or.inl ⟨by rfl, ?_⟩) ?_ ?_
              rotate_left
              ·intro w'
               go_simp
               with_reducible rfl
              rotate_left
              ·simp only [Act.put, List.setIfInBounds_toArray, List.set_cons_zero, List.set_cons_succ, i64_w, i32_w]
               rfl
              refine take_ (i := 4) (N := some 90) (v := ?_) (a' := ?_) #[true, true, true, true, true, false, false, false, false, false, false, false] rfl rfl (take_ofW HT_.out HW_.out (by kernel_rfl)) (fun _ _ _ h => h) (Or.inl ⟨by rfl, ?_⟩) hHeld ?_ ?_
              rotate_left
              ·rintro w' ⟨s0, s1, s2, s3, s4⟩
               go_simp
               with_reducible rfl
              rotate_left
              ·simp only [Act.put, List.setIfInBounds_toArray, List.set_cons_zero, List.set_cons_succ, i64_w, i32_w]
               rfl
              refine take_ (i := 5) (N := some 91) (v := ?_) (a' := ?_) #[true, true, true, true, true, true, false, false, false, false, false, false] rfl rfl (take_ofW HT_.out HW_.out (by kernel_rfl)) (fun _ _ _ h => h) (Or.inl ⟨by rfl, ?_⟩) hHeld ?_ ?_
              rotate_left
              ·rintro w' ⟨s0, s1, s2, s3, s4⟩
               go_simp
               with_reducible rfl
              rotate_left
              ·simp only [Act.put, List.setIfInBounds_toArray, List.set_cons_zero, List.set_cons_succ, i64_w, i32_w]
               rfl
              refine one_ (i := 6) (N := some 92) #[true, true, true, true, true, true, true, false, false, false, false, false] rfl rfl (one_of HT_.out (by kernel_rfl)) (by decide) (fun K hK => ?_)
              refine goes_ Try.func41 (by kernel_rfl) rfl #[.agg #[.int .i64 ((rd_T45 t1097 x14_3).f1.f0), .int .u32 ((rd_T45 t1097 x14_3).f1.f1)], .agg #[.int .i64 t1082, .int .u32 t1083]] (by rfl) rfl rfl (by first | rfl | (simp only [List.map_toArray, List.map_cons, List.map_nil, List.length_drop, List.length_take]; rfl)) ?_
              with_reducible refine (impl_AreAlike.calls ((rd_T45 t1097 x14_3).f1.f0) ((rd_T45 t1097 x14_3).f1.f1) t1082 t1083 t1102 t1103 _ A30.out).mono ?_
              rintro e w35 ⟨rfl, hb⟩
              have HS2_ := (hb.cell (World.block_lt_of_cell? _ _ (hHeld.2.2.1))).trans (hHeld.2.2.1)
              have HS3_ := (hb.cell (World.block_lt_of_cell? _ _ (hHeld.2.2.2.1))).trans (hHeld.2.2.2.1)
              have HS4_ := (hb.cell (World.block_lt_of_cell? _ _ (hHeld.2.2.2.2))).trans (hHeld.2.2.2.2)
              refine ⟨_, rfl, ?_⟩
              have n0_ := Aside0.mk (Kd.R_below (by (with_reducible repeat (first | apply Kd.R_alloc | apply Kd.R_drewN | apply Kd.R_drew)); exact HO_8.out) hb)
              have n1_ := Aside0.mk (Kd.R_below (by (with_reducible repeat (first | apply Kd.R_alloc | apply Kd.R_drewN | apply Kd.R_drew)); exact HO_12.out) hb)
              have n2_ := Aside0.mk (blk_below BK1084.out hb)
              have n3_ := Aside0.mk (below_step HB.out hb)
              clear HO_8 HO_12 BK1084 HB
              have HO_8 := n0_
              have HO_12 := n1_
              have BK1084 := n2_
              have HB := n3_
              clear n0_ n1_ n2_ n3_
              (try clear hb)
              (try clear hb2)
              (try clear hk)
              (try clear hi)
              refine hK.out _ _ ⟨(blk_cell BK1084.out 0).trans rfl, (blk_cell BK1084.out 1).trans rfl, HS2_, HS3_, HS4_⟩ (fun hHeld => ?_)
              clear hK K
              refine norm_ (a' := ?_) ?_ ?_
              rotate_left
              ·show Act.put _ (some 92) _ = _
               simp only [Act.put, List.setIfInBounds_toArray, List.set_cons_zero, List.set_cons_succ, i64_w, i32_w]
               rfl
              refine pure_ (i := 7) (N := some 85) (v := ?_) (a' := ?_) #[true, true, true, true, true, true, true, true, false, false, false, false] rfl rfl (any_of HT_.out (by kernel_rfl)) (fun _ _ _ h => h) (Or.inl ⟨by rfl, ?_⟩) ?_ ?_
              rotate_left
              ·intro w'
               go_simp
               with_reducible rfl
              rotate_left
              ·simp only [Act.put, List.setIfInBounds_toArray, List.set_cons_zero, List.set_cons_succ, i64_w, i32_w]
               rfl
              refine pure_ (i := 8) (N := some 93) (v := ?_) (a' := ?_) #[true, true, true, true, true, true, true, true, true, false, false, false] rfl rfl (any_of HT_.out (by kernel_rfl)) (fun _ _ _ h => h) (Or.inl ⟨by rfl, ?_⟩) ?_ ?_
              rotate_left
              ·intro w'
               go_simp
               with_reducible rfl
              rotate_left
              ·simp only [Act.put, List.setIfInBounds_toArray, List.set_cons_zero, List.set_cons_succ, i64_w, i32_w]
               rfl
              refine pure_ (i := 9) (N := some 94) (v := ?_) (a' := ?_) #[true, true, true, true, true, true, true, true, true, true, false, false] rfl rfl (any_of HT_.out (by kernel_rfl)) (fun _ _ _ h => h) (Or.inl ⟨by rfl, ?_⟩) ?_ ?_
              rotate_left
              ·intro w'
               go_simp
               with_reducible rfl
              rotate_left
              ·simp only [Act.put, List.setIfInBounds_toArray, List.set_cons_zero, List.set_cons_succ, i64_w, i32_w]
               rfl
              refine pure_ (i := 10) (N := some 15) (v := ?_) (a' := ?_) #[true, true, true, true, true, true, true, true, true, true, true, false] rfl rfl (any_of HT_.out (by kernel_rfl)) (fun _ _ _ h => h) (Or.inl ⟨by rfl, ?_⟩) ?_ ?_
              rotate_left
              ·intro w'
               go_simp
               with_reducible rfl
              rotate_left
              ·simp only [Act.put, List.setIfInBounds_toArray, List.set_cons_zero, List.set_cons_succ, i64_w, i32_w]
               rfl
              refine pure_ (i := 11) (N := some 16) (v := ?_) (a' := ?_) #[true, true, true, true, true, true, true, true, true, true, true, true] rfl rfl (any_of HT_.out (by kernel_rfl)) (fun _ _ _ h => h) (Or.inl ⟨by rfl, ?_⟩) ?_ ?_
              rotate_left
              ·intro w'
               go_simp
               with_reducible rfl
              rotate_left
              ·simp only [Act.put, List.setIfInBounds_toArray, List.set_cons_zero, List.set_cons_succ, i64_w, i32_w]
               rfl
              refine done_ (done_of HT_.out (by kernel_rfl)) ?_
              have p1104 : 0 ≤ (x14_3 : Int) := of_decide_eq_true (by first | (with_reducible assumption) | assumption)
              have q1104 : x14_3 < (t1097.length : Int) := of_decide_eq_true (by first | (with_reducible assumption) | assumption)
              obtain ⟨ad1104, e1104, hx1104_0, hx1104_1, hx1104_2⟩ := at_T45 (Kd.R_reads' HO_12.out).2.2 x14_3 p1104 q1104
              obtain rfl : ad1101 = ad1104 := (by injection e1104)
              replace p1104 := eq_true p1104
              replace q1104 := eq_true q1104
              go_upto_region 23 with (first | ((with_reducible refine gate_callee (f := 47) rfl ?_); refine goesL_ (some 100) rfl rfl Try.func47 (by kernel_rfl) rfl #[.agg #[.int .i64 ((rd_T45 t1097 x14_3).f0), .int .i64 ((rd_T45 t1097 x14_3).f1.f0), .int .u32 ((rd_T45 t1097 x14_3).f1.f1)]] rfl (by (try simp only [List.map_toArray, List.map_cons, List.map_nil]); first | done | rfl | (simp only [List.length_drop, List.length_take]; rfl)) ?_; (with_reducible refine (impl_CountLabelings.calls ((rd_T45 t1097 x14_3).f0) ((rd_T45 t1097 x14_3).f1.f0) ((rd_T45 t1097 x14_3).f1.f1) t1105 t1106 _ A31.out).mono ?_); rintro e w36 ⟨rfl, hb⟩; refine ⟨_, rfl, ?_⟩; have n0_ := Aside0.mk (Kd.R_below (by (with_reducible repeat (first | apply Kd.R_alloc | apply Kd.R_drewN | apply Kd.R_drew)); exact HO_8.out) hb); have n1_ := Aside0.mk (Kd.R_below (by (with_reducible repeat (first | apply Kd.R_alloc | apply Kd.R_drewN | apply Kd.R_drew)); exact HO_12.out) hb); have n2_ := Aside0.mk (blk_below (g := gb1084) (o := .cells #[.int .i64 t1082, .int .u32 t1083] 27 (0, 0)) (by (with_reducible repeat (first | refine blk_drewN ?_ _ | refine blk_drew ?_ | refine blk_alloc ?_ _)); exact BK1084.out) hb); have n3_ := Aside0.mk (below_step (by repeat (first | (with_reducible first | exact HB.out | apply below_alloc | apply pw_below_drewN | apply below_drew1 | refine below_set ?_ GE1084.out) | exact HB.out)) hb); clear HO_8; clear HO_12; clear BK1084; clear HB; have HO_8 := n0_; have HO_12 := n1_; have BK1084 := n2_; have HB := n3_; clear n0_ n1_ n2_ n3_; (try clear hb); (try clear hb2); (try clear hk); (try clear hi)))
              (try simp only [Act.put, List.setIfInBounds_toArray, List.set_cons_zero, List.set_cons_succ])
              go_cut [112] (fun v112 wc => ∃ (kq : Nat) (x112_31 : Bool), v112 = .bool x112_31 ∧ Aside0 (laws_FnLabelings.j3 kq l0 l1 t1081 x7_7 t1089 x10_3 x11_2 t1097 x14_3 t1102 t1105 x112_31 t1082 t1083 = some true) ∧ Aside0 (kq ≤ k3) ∧ Aside0 (Kd.R k27 27 wc w.heap.size (fun k_ => k_ ≠ gb1084) (.slice (some ad1093) t1089.length co23) t1089) ∧ Aside0 (Kd.R k45 45 wc w.heap.size (fun _ => True) (.slice (some ad1101) t1097.length co33) t1097) ∧ Aside0 (wc.heap[gb1084]? = some (.cells #[.int .i64 t1082, .int .u32 t1083] 27 (0, 0))) ∧ Aside0 (Below w.heap.size w wc))
              case first =>
               have H := HC32.out
               clear HC32
               by_cases c37 : t1103 = 0
               ·rw [if_pos c37] at H
                have c37b0 : (t1103 == 0) = true := beq_iff_eq.mpr c37
                have c37b1 : (t1103 != 0) = false := bne_eq_false_iff_eq.mpr c37
                clear c37
                (first | rw [c37b0] | (simp only [i64_w, i32_w]; rw [c37b0]) | skip)
                by_cases c38 : t1106 = 0
                ·rw [if_pos c38] at H
                 have c38b0 : (t1106 == 0) = true := beq_iff_eq.mpr c38
                 have c38b1 : (t1106 != 0) = false := bne_eq_false_iff_eq.mpr c38
                 clear c38
                 have H' := Aside0.mk H
                 clear H
                 go_wp2
                 go_meet
                 case rel => exact ⟨_, (decide (t1105 < 1)), (by first | rfl | (simp; done) | (simp [*]; done)), H', ⟨by have := HJ7.out; have := HK2.out; have := HK3.out; first | omega | exact Nat.le_refl _⟩, ⟨by (with_reducible repeat (first | apply Kd.R_alloc | apply Kd.R_drewN | apply Kd.R_drew)); exact HO_8.out⟩, ⟨by (with_reducible repeat (first | apply Kd.R_alloc | apply Kd.R_drewN | apply Kd.R_drew)); exact HO_12.out⟩, ⟨by (with_reducible repeat (first | refine blk_drewN ?_ _ | refine blk_drew ?_ | refine blk_alloc ?_ _)); exact BK1084.out⟩, ⟨by repeat (first | (with_reducible first | exact HB.out | apply below_alloc | apply pw_below_drewN | apply below_drew1 | refine below_set ?_ GE1084.out) | exact HB.out)⟩⟩
                ·rw [if_neg c38] at H
                 exact absurd H (by apply laws_FnLabelings.j3_no)
               ·rw [if_neg c37] at H
                exact absurd H (by apply laws_FnLabelings.j3_no)
              case rest =>
               clear HC32
               try clear c1
               try clear p1
               try clear q1
               try clear hx1
               try clear c2
               try clear p2
               try clear c3
               try clear c4
               try clear p10
               try clear q10
               try clear hx10
               try clear c11
               try clear p11
               try clear q11
               try clear hx11
               try clear c12
               try clear c12b0
               try clear c14
               try clear c14b0
               try clear c14b1
               try clear c19
               try clear c19b0
               try clear c20
               try clear c20b0
               try clear c22
               try clear c22b0
               try clear c22b1
               try clear c28
               try clear c28b0
               try clear c29
               try clear c29b0
               try clear c31
               try clear c32
               try clear c33
               try clear c37
               try clear c37b0
               try clear c37b1
               try clear c38
               try clear c38b0
               try clear c38b1
               try clear hcz11_0
               try clear hcz11_1
               try clear hfz11_0
               try clear hfz11_1
               try clear hx1093_0
               try clear hx1093_1
               try clear hx1101_0
               try clear hx1101_1
               try clear hx1101_2
               try clear hx1104_0
               try clear hx1104_1
               try clear hx1104_2
               try clear p1
               try clear p10
               try clear p1093
               try clear p1101
               try clear p1104
               try clear p2
               try clear q1
               try clear q10
               try clear q1093
               try clear q1101
               try clear q1104
               obtain ⟨kq, x112_31, rfl, HA, HJ31, HO_8, HO_12, BK1084, HB⟩ := hcut
               cases kq with
               | zero => exact absurd HA.out (by simp [laws_FnLabelings.j3])
               | succ kj31 =>
                have H := HA.out
                clear HA
                simp only [laws_FnLabelings.j3] at H
                by_cases c39 : x112_31 = true
                ·subst c39
                 have H1 : (some false) = some true := by rw [if_pos rfl] at H; exact H
                 clear H
                 have H := H1
                 clear H1
                 exact absurd H (by simp)
                ·replace c39 := Bool.eq_false_iff.mpr c39
                 subst c39
                 have H1 : (if t1102 = true then (laws_FnLabelings.l1 kj31 l0 l1 t1081 x7_7 t1089 (wrap64 (x10_3 + t1105)) x11_2 t1097 (wrap64 (x14_3 + 1)) t1082 t1083) else (laws_FnLabelings.l1 kj31 l0 l1 t1081 x7_7 t1089 x10_3 x11_2 t1097 (wrap64 (x14_3 + 1)) t1082 t1083)) = some true := by rw [if_neg (show ¬ (false = true) by decide)] at H; exact H
                 clear H
                 have H := H1
                 clear H1
                 by_cases c40 : t1102 = true
                 ·subst c40
                  have H1 : (laws_FnLabelings.l1 kj31 l0 l1 t1081 x7_7 t1089 (wrap64 (x10_3 + t1105)) x11_2 t1097 (wrap64 (x14_3 + 1)) t1082 t1083) = some true := by rw [if_pos rfl] at H; exact H
                  clear H
                  have H := H1
                  clear H1
                  have H' := Aside0.mk H
                  clear H
                  go_wp2
                  go_roundg kj31
                  case measure => have := HJ7.out; have := HK2.out; have := HK3.out; have := HJ31.out; omega
                  case rel => exact ⟨(wrap64 (x10_3 + t1105)), (wrap64 (x14_3 + 1)), (by first | rfl | (simp; done) | (simp [*]; done)), (by first | rfl | (simp; done) | (simp [*]; done)), H', ⟨by have := HJ7.out; have := HK2.out; have := HK3.out; have := HJ31.out; omega⟩, ⟨by (with_reducible repeat (first | apply Kd.R_alloc | apply Kd.R_drewN | apply Kd.R_drew)); exact HO_8.out⟩, ⟨by (with_reducible repeat (first | apply Kd.R_alloc | apply Kd.R_drewN | apply Kd.R_drew)); exact HO_12.out⟩, ⟨by (with_reducible repeat (first | refine blk_drewN ?_ _ | refine blk_drew ?_ | refine blk_alloc ?_ _)); exact BK1084.out⟩, ⟨by repeat (first | (with_reducible first | exact HB.out | apply below_alloc | apply pw_below_drewN | apply below_drew1 | refine below_set ?_ GE1084.out) | exact HB.out)⟩⟩
                 ·replace c40 := Bool.eq_false_iff.mpr c40
                  subst c40
                  have H1 : (laws_FnLabelings.l1 kj31 l0 l1 t1081 x7_7 t1089 x10_3 x11_2 t1097 (wrap64 (x14_3 + 1)) t1082 t1083) = some true := by rw [if_neg (show ¬ (false = true) by decide)] at H; exact H
                  clear H
                  have H := H1
                  clear H1
                  have H' := Aside0.mk H
                  clear H
                  go_wp2
                  go_roundg kj31
                  case measure => have := HJ7.out; have := HK2.out; have := HK3.out; have := HJ31.out; omega
                  case rel => exact ⟨(x10_3), (wrap64 (x14_3 + 1)), (by first | rfl | (simp; done) | (simp [*]; done)), (by first | rfl | (simp; done) | (simp [*]; done)), H', ⟨by have := HJ7.out; have := HK2.out; have := HK3.out; have := HJ31.out; omega⟩, ⟨by (with_reducible repeat (first | apply Kd.R_alloc | apply Kd.R_drewN | apply Kd.R_drew)); exact HO_8.out⟩, ⟨by (with_reducible repeat (first | apply Kd.R_alloc | apply Kd.R_drewN | apply Kd.R_drew)); exact HO_12.out⟩, ⟨by (with_reducible repeat (first | refine blk_drewN ?_ _ | refine blk_drew ?_ | refine blk_alloc ?_ _)); exact BK1084.out⟩, ⟨by repeat (first | (with_reducible first | exact HB.out | apply below_alloc | apply pw_below_drewN | apply below_drew1 | refine below_set ?_ GE1084.out) | exact HB.out)⟩⟩
             ·rw [if_neg c29] at H
              exact absurd H (by simp)
            ·rw [if_neg c28] at H
             have c28b0 : decide (x14_3 < (t1097.length : Int)) = false := decide_eq_false c28
             clear c28
             have H' := Aside0.mk H
             clear H
             obtain ⟨Ao41, co41, eo41⟩ := Kd.R_slice HO_12.out
             subst eo41
             go_wp2
             go_roundg k3
             case measure => have := HJ7.out; have := HK2.out; have := HK3.out; omega
             case rel => exact ⟨(x10_3), (wrap64 (x11_2 + 1)), (by first | rfl | (simp; done) | (simp [*]; done)), (by first | rfl | (simp; done) | (simp [*]; done)), H', ⟨by have := HJ7.out; have := HK2.out; have := HK3.out; omega⟩, ⟨by (with_reducible repeat (first | apply Kd.R_alloc | apply Kd.R_drewN | apply Kd.R_drew)); exact HO_8.out⟩, ⟨by (with_reducible repeat (first | refine blk_drewN ?_ _ | refine blk_drew ?_ | refine blk_alloc ?_ _)); exact BK1084.out⟩, ⟨by repeat (first | (with_reducible first | exact HB.out | apply below_alloc | apply pw_below_drewN | apply below_drew1 | refine below_set ?_ GE1084.out) | exact HB.out)⟩⟩
         ·rw [if_neg c22] at H
          have c22b0 : (t1100 == 0) = false := beq_eq_false_iff_ne.mpr c22
          have c22b1 : (t1100 != 0) = true := bne_iff_ne.mpr c22
          exact absurd H (by simp)
        ·rw [if_neg c20] at H
         exact absurd H (by simp)
       ·rw [if_neg c19] at H
        have c19b0 : decide (x11_2 < (t1089.length : Int)) = false := decide_eq_false c19
        clear c19
        have H' := Aside0.mk H
        clear H
        obtain ⟨Ao47, co47, eo47⟩ := Kd.R_slice HO_8.out
        subst eo47
        go_wp2
        go_loopg [19, 20] k2 (fun kq v19 v20 w' => ∃ (x19_3 : Int) (x20_3 : Int), v19 = .int .i64 x19_3 ∧ v20 = .int .i64 x20_3 ∧ Aside0 (laws_FnLabelings.l2 kq l0 l1 t1081 x7_7 x10_2 x19_3 x20_3 t1082 t1083 = some true) ∧ Aside0 (kq ≤ k2) ∧ Aside0 (w'.heap[gb1084]? = some (.cells #[.int .i64 t1082, .int .u32 t1083] 27 (0, 0))) ∧ Aside0 (Below w.heap.size w w'))
        case atStart => exact ⟨(1), (0), (by first | rfl | (simp; done) | (simp [*]; done)), (by first | rfl | (simp; done) | (simp [*]; done)), H', ⟨Nat.le_refl _⟩, ⟨by (with_reducible repeat (first | refine blk_drewN ?_ _ | refine blk_drew ?_ | refine blk_alloc ?_ _)); exact BK1084.out⟩, ⟨by repeat (first | (with_reducible first | exact HB.out | apply below_alloc | apply pw_below_drewN | apply below_drew1 | refine below_set ?_ GE1084.out) | exact HB.out)⟩⟩
        case round =>
         clear H'
         try clear c1
         try clear p1
         try clear q1
         try clear hx1
         try clear c2
         try clear p2
         try clear c3
         try clear c4
         try clear p6
         try clear p10
         try clear q10
         try clear hx10
         try clear c11
         try clear p11
         try clear q11
         try clear hx11
         try clear c12
         try clear c12b0
         try clear c14
         try clear c14b0
         try clear c14b1
         try clear c19
         try clear c19b0
         try clear c20
         try clear c20b0
         try clear c22
         try clear c22b0
         try clear c22b1
         try clear c28
         try clear c28b0
         try clear c29
         try clear c29b0
         try clear c31
         try clear c32
         try clear c33
         try clear c37
         try clear c37b0
         try clear c37b1
         try clear c38
         try clear c38b0
         try clear c38b1
         try clear c39
         try clear c40
         try clear c41
         try clear c45
         try clear c46
         try clear c47
         try clear hcz11_0
         try clear hcz11_1
         try clear hfz11_0
         try clear hfz11_1
         try clear hx1093_0
         try clear hx1093_1
         try clear hx1101_0
         try clear hx1101_1
         try clear hx1101_2
         try clear hx1104_0
         try clear hx1104_1
         try clear hx1104_2
         try clear p1
         try clear p10
         try clear p1093
         try clear p11
         try clear p1101
         try clear p1104
         try clear p2
         try clear q1
         try clear q10
         try clear q1093
         try clear q11
         try clear q1101
         try clear q1104
         obtain ⟨x19_3, x20_3, rfl, rfl, HA, HK3, BK1084, HB⟩ := hrel
         cases gk with
         | zero => exact absurd HA.out (by simp [laws_FnLabelings.l2])
         | succ k3 =>
          have H := HA.out
          clear HA
          simp only [laws_FnLabelings.l2] at H
          by_cases c48 : x20_3 < x7_7
          ·rw [if_pos c48] at H
           have c48b0 : decide (x20_3 < x7_7) = true := decide_eq_true c48
           clear c48
           have H' := Aside0.mk H
           clear H
           go_wp2
           go_roundg k3
           case measure => have := HJ7.out; have := HK2.out; have := HK3.out; omega
           case rel => exact ⟨(wrap64 (x19_3 * (wrap64 (t1081 - x20_3)))), (wrap64 (x20_3 + 1)), (by first | rfl | (simp; done) | (simp [*]; done)), (by first | rfl | (simp; done) | (simp [*]; done)), H', ⟨by have := HJ7.out; have := HK2.out; have := HK3.out; omega⟩, ⟨by (with_reducible repeat (first | refine blk_drewN ?_ _ | refine blk_drew ?_ | refine blk_alloc ?_ _)); exact BK1084.out⟩, ⟨by repeat (first | (with_reducible first | exact HB.out | apply below_alloc | apply pw_below_drewN | apply below_drew1 | refine below_set ?_ GE1084.out) | exact HB.out)⟩⟩
          ·rw [if_neg c48] at H
           have c48b0 : decide (x20_3 < x7_7) = false := decide_eq_false c48
           clear c48
           replace H := Option.bind_eq_some_iff.mp H
           obtain ⟨t1107, A490, H⟩ := H
           replace H : (if 0 ≤ x7_7 then (if x7_7 ≤ (t1107.length : Int) then ((impl_FlagOf.f k3 t1082 t1083 (t1107.take (x7_7 : Int).toNat)).bind fun bt1114 => ((impl_ForgetLabels.f bt1114.1 bt1114.2.1 bt1114.2.2.1 0).bind fun bt1119 => ((impl_LeastGraph.f t1082 t1083).bind fun bt1124 => ((spec_A2Order.f k3 l0 x7_7).bind fun t1128 => (if (x7_7 : Int).toNat ≤ 35184372088832 then (laws_FnLabelings.l3 k3 x7_7 x10_2 x19_3 bt1114.2.2.2 bt1119.2.2.2 bt1124.2.2 t1128 (List.replicate (x7_7 : Int).toNat 0) 0 bt1114.1 bt1114.2.1 bt1114.2.2.1 bt1119.1 bt1119.2.1 bt1119.2.2.1 bt1124.1 bt1124.2.1) else (none)))))) else (none)) else (none)) = some true := H
           have A49 := Aside0.mk A490
           clear A490
           by_cases c50 : 0 ≤ x7_7
           ·rw [if_pos c50] at H
            have c50b0 := eq_true c50
            have c50b1 : decide (0 ≤ x7_7) = true := decide_eq_true c50
            clear c50
            by_cases c51 : x7_7 ≤ (t1107.length : Int)
            ·rw [if_pos c51] at H
             have c51b0 := eq_true c51
             have c51b1 : decide (x7_7 ≤ (t1107.length : Int)) = true := decide_eq_true c51
             clear c51
             obtain ⟨y1110, hy1110⟩ : ∃ y_ : List Int, y_ = (t1107.take (x7_7 : Int).toNat) := ⟨_, rfl⟩
             replace H : ((impl_FlagOf.f k3 t1082 t1083 y1110).bind fun bt1114 => ((impl_ForgetLabels.f bt1114.1 bt1114.2.1 bt1114.2.2.1 0).bind fun bt1119 => ((impl_LeastGraph.f t1082 t1083).bind fun bt1124 => ((spec_A2Order.f k3 l0 x7_7).bind fun t1128 => (if (x7_7 : Int).toNat ≤ 35184372088832 then (laws_FnLabelings.l3 k3 x7_7 x10_2 x19_3 bt1114.2.2.2 bt1119.2.2.2 bt1124.2.2 t1128 (List.replicate (x7_7 : Int).toNat 0) 0 bt1114.1 bt1114.2.1 bt1114.2.2.1 bt1119.1 bt1119.2.1 bt1119.2.2.1 bt1124.1 bt1124.2.1) else (none)))))) = some true := by first | (rw [hy1110]; with_reducible exact H) | (have H2_ := (Option.bind_some _ _).symm.trans H; rw [hy1110]; with_reducible exact H2_) | (have H2_ := (Option.bind_some _ _).symm.trans H; with_reducible exact H2_) | with_reducible exact H | (rw [hy1110]; exact H) | exact H
             have Ny1110 := Aside0.mk hy1110
             clear hy1110
             replace H := Option.bind_eq_some_iff.mp H
             obtain ⟨⟨t1114, t1115, t1116, t1117⟩, A520, H⟩ := H
             replace H : ((impl_ForgetLabels.f t1114 t1115 t1116 0).bind fun bt1119 => ((impl_LeastGraph.f t1082 t1083).bind fun bt1124 => ((spec_A2Order.f k3 l0 x7_7).bind fun t1128 => (if (x7_7 : Int).toNat ≤ 35184372088832 then (laws_FnLabelings.l3 k3 x7_7 x10_2 x19_3 t1117 bt1119.2.2.2 bt1124.2.2 t1128 (List.replicate (x7_7 : Int).toNat 0) 0 t1114 t1115 t1116 bt1119.1 bt1119.2.1 bt1119.2.2.1 bt1124.1 bt1124.2.1) else (none))))) = some true := H
             have A52 := Aside0.mk A520
             clear A520
             replace H := Option.bind_eq_some_iff.mp H
             obtain ⟨⟨t1119, t1120, t1121, t1122⟩, A530, H⟩ := H
             replace H : ((impl_LeastGraph.f t1082 t1083).bind fun bt1124 => ((spec_A2Order.f k3 l0 x7_7).bind fun t1128 => (if (x7_7 : Int).toNat ≤ 35184372088832 then (laws_FnLabelings.l3 k3 x7_7 x10_2 x19_3 t1117 t1122 bt1124.2.2 t1128 (List.replicate (x7_7 : Int).toNat 0) 0 t1114 t1115 t1116 t1119 t1120 t1121 bt1124.1 bt1124.2.1) else (none)))) = some true := H
             have A53 := Aside0.mk A530
             clear A530
             replace H := Option.bind_eq_some_iff.mp H
             obtain ⟨⟨t1124, t1125, t1126⟩, A540, H⟩ := H
             replace H : ((spec_A2Order.f k3 l0 x7_7).bind fun t1128 => (if (x7_7 : Int).toNat ≤ 35184372088832 then (laws_FnLabelings.l3 k3 x7_7 x10_2 x19_3 t1117 t1122 t1126 t1128 (List.replicate (x7_7 : Int).toNat 0) 0 t1114 t1115 t1116 t1119 t1120 t1121 t1124 t1125) else (none))) = some true := H
             have A54 := Aside0.mk A540
             clear A540
             replace H := Option.bind_eq_some_iff.mp H
             obtain ⟨t1128, A550, H⟩ := H
             replace H : (if (x7_7 : Int).toNat ≤ 35184372088832 then (laws_FnLabelings.l3 k3 x7_7 x10_2 x19_3 t1117 t1122 t1126 t1128 (List.replicate (x7_7 : Int).toNat 0) 0 t1114 t1115 t1116 t1119 t1120 t1121 t1124 t1125) else (none)) = some true := H
             have A55 := Aside0.mk A550
             clear A550
             by_cases c56 : (x7_7 : Int).toNat ≤ 35184372088832
             ·rw [if_pos c56] at H
              have c56b0 := eq_true c56
              have c56b1 : decide ((x7_7 : Int).toNat ≤ 35184372088832) = true := decide_eq_true c56
              clear c56
              obtain ⟨y1131, hy1131⟩ : ∃ y_ : List Int, y_ = (List.replicate (x7_7 : Int).toNat 0) := ⟨_, rfl⟩
              replace H : (laws_FnLabelings.l3 k3 x7_7 x10_2 x19_3 t1117 t1122 t1126 t1128 y1131 0 t1114 t1115 t1116 t1119 t1120 t1121 t1124 t1125) = some true := by first | (rw [hy1131]; with_reducible exact H) | (have H2_ := (Option.bind_some _ _).symm.trans H; rw [hy1131]; with_reducible exact H2_) | (have H2_ := (Option.bind_some _ _).symm.trans H; with_reducible exact H2_) | with_reducible exact H | (rw [hy1131]; exact H) | exact H
              have Ny1131 := Aside0.mk hy1131
              clear hy1131
              have H' := Aside0.mk H
              clear H
              go_wp2_with (first | ((with_reducible refine gate_callee (f := 37) rfl ?_); refine goesL_ (some 129) rfl rfl Try.func37 (by kernel_rfl) rfl #[.slice A1 l1.length c1, .int .i64 t1081] rfl (by (try simp only [List.map_toArray, List.map_cons, List.map_nil]); first | done | rfl | (simp only [List.length_drop, List.length_take]; rfl)) ?_; (with_reducible refine (spec_A2Order.calls k3 _ _ l1 t1081 t1107 _ ?side1 ?side2 A49.out).mono ?_); (case side1 => repeat (first | exact (Kd.C_below HR1.out HB.out) | (with_reducible refine Kd.C_alloc ?_ _) | (with_reducible refine Kd.C_drewN ?_ _) | (with_reducible refine Kd.C_drew ?_))); (case side2 => exact HC1.out); rintro e w57 ⟨v1108, rfl, ho0, hb⟩; refine ⟨_, rfl, ?_⟩; have n0_ := Aside0.mk (Kd.R_lower ho0 (below_size (by repeat (first | (with_reducible first | exact HB.out | apply below_alloc | apply pw_below_drewN | apply below_drew1 | refine below_set ?_ GE1084.out) | exact HB.out)))); have n1_ := Aside0.mk (blk_below (g := gb1084) (o := .cells #[.int .i64 t1082, .int .u32 t1083] 27 (0, 0)) (by (with_reducible repeat (first | refine blk_drewN ?_ _ | refine blk_drew ?_ | refine blk_alloc ?_ _)); exact BK1084.out) hb); have n2_ := Aside0.mk (below_step (by repeat (first | (with_reducible first | exact HB.out | apply below_alloc | apply pw_below_drewN | apply below_drew1 | refine below_set ?_ GE1084.out) | exact HB.out)) hb); clear BK1084; clear HB; have HO1109 := n0_; have BK1084 := n1_; have HB := n2_; clear n0_ n1_ n2_; (try clear hb); (try clear hb2); (try clear hk); (try clear hi); (try clear ho0); obtain ⟨Ao59, co59, eo59⟩ := Kd.R_slice HO1109.out; subst eo59; have q58 : (x7_7 : Int) ≤ ((t1107.length : Int) : Int) := of_decide_eq_true (by first | (with_reducible assumption) | assumption); obtain ⟨i058, hi058, _, hsz58, _⟩ := info_parts info2; have hroom58 : t1107.length ≤ co59 := (Kd.R_reads' HO1109.out).2.1; have hC58 : Kd.C (Kd.int .i64) _ Ao59 t1107.length t1107 := (Kd.R_reads' HO1109.out).2.2; have hcut58 := cut_to (P := Try.prog) 62 2 .i64 Try.underlying62 hi058 Ao59 t1107.length co59 x7_7 (of_decide_eq_true (by first | (with_reducible assumption) | assumption)) q58 hroom58; have hr58 := Kd.C_take (m := (x7_7 : Int).toNat) hC58 (by omega); have hy58 : y1110.length = (x7_7 : Int).toNat := (by rw [Ny1110.out, List.length_take]; omega); rw [← Ny1110.out] at hr58; rw [← hy58] at hcut58; have HR1113 := Aside0.mk hr58; have HC1113 := Aside0.mk (show y1110.length ≤ co59 from by omega); clear hr58 hC58 hroom58 hi058 hsz58; have KY58 := Aside0.mk hy58; clear hy58; have KL58 := Aside0.mk (show (x7_7 : Int).toNat ≤ t1107.length from by omega); replace q58 := eq_true q58; have hcz60_0 : w57.cell? ⟨gb1084, 0, none⟩ = some (.int .i64 t1082) := (blk_cell BK1084.out 0).trans rfl; have hcz60_1 : w57.cell? ⟨gb1084, 1, none⟩ = some (.int .u32 t1083) := (blk_cell BK1084.out 1).trans rfl; have hfz60_0 := blk_frozen BK1084.out 0; have hfz60_1 := blk_frozen BK1084.out 1) | ((with_reducible refine gate_callee (f := 48) rfl ?_); refine goesL_ (some 135) rfl rfl Try.func48 (by kernel_rfl) rfl #[.agg #[.int .i64 t1082, .int .u32 t1083], .slice Ao59 y1110.length co59] rfl (by (try simp only [List.map_toArray, List.map_cons, List.map_nil]); first | done | rfl | (simp only [List.length_drop, List.length_take]; rfl)) ?_; (with_reducible refine (impl_FlagOf.calls k3 t1082 t1083 _ _ y1110 t1114 t1115 t1116 t1117 _ ?side1 ?side2 A52.out).mono ?_); (case side1 => repeat (first | exact (by repeat (first | (with_reducible exact HR1113.out) | (with_reducible refine Kd.C_alloc ?_ _) | (with_reducible refine Kd.C_drewN ?_ _) | (with_reducible refine Kd.C_drew ?_) | exact HR1113.out)) | (with_reducible refine Kd.C_alloc ?_ _) | (with_reducible refine Kd.C_drewN ?_ _) | (with_reducible refine Kd.C_drew ?_))); (case side2 => exact HC1113.out); rintro e w61 ⟨rfl, hb⟩; refine ⟨_, rfl, ?_⟩; have n0_ := Aside0.mk (Kd.R_below (by (with_reducible repeat (first | apply Kd.R_alloc | apply Kd.R_drewN | apply Kd.R_drew)); exact HO1109.out) hb); have n1_ := Aside0.mk (blk_below (g := gb1084) (o := .cells #[.int .i64 t1082, .int .u32 t1083] 27 (0, 0)) (by (with_reducible repeat (first | refine blk_drewN ?_ _ | refine blk_drew ?_ | refine blk_alloc ?_ _)); exact BK1084.out) hb); have n2_ := Aside0.mk (Kd.C_below (by repeat (first | (with_reducible exact HR1113.out) | (with_reducible refine Kd.C_alloc ?_ _) | (with_reducible refine Kd.C_drewN ?_ _) | (with_reducible refine Kd.C_drew ?_) | exact HR1113.out)) hb); have n3_ := Aside0.mk (below_step (by repeat (first | (with_reducible first | exact HB.out | apply below_alloc | apply pw_below_drewN | apply below_drew1 | refine below_set ?_ GE1084.out) | exact HB.out)) hb); clear HO1109; clear BK1084; clear HR1113; clear HB; have HO1109 := n0_; have BK1084 := n1_; have HR1113 := n2_; have HB := n3_; clear n0_ n1_ n2_ n3_; (try clear hb); (try clear hb2); (try clear hk); (try clear hi)) | ((with_reducible refine gate_dst (N := 22) rfl ?_); refine box_event ?hg (N := 22) ?hd (cs := #[.int .i64 0, .int .i64 0, .int .u32 0]) (t := 45) ?hr ?_; (case hd => rfl); (case hg => rfl); (case hr => first | (go_simp; done) | (go_simp; rfl)); intro gb1118 hg w62 hbox hb; have n0_ := Aside0.mk (Kd.R_below (by (with_reducible repeat (first | apply Kd.R_alloc | apply Kd.R_drewN | apply Kd.R_drew)); exact HO1109.out) hb); have n1_ := Aside0.mk (blk_below (g := gb1084) (o := .cells #[.int .i64 t1082, .int .u32 t1083] 27 (0, 0)) (by (with_reducible repeat (first | refine blk_drewN ?_ _ | refine blk_drew ?_ | refine blk_alloc ?_ _)); exact BK1084.out) hb); have n2_ := Aside0.mk (Kd.C_below (by repeat (first | (with_reducible exact HR1113.out) | (with_reducible refine Kd.C_alloc ?_ _) | (with_reducible refine Kd.C_drewN ?_ _) | (with_reducible refine Kd.C_drew ?_) | exact HR1113.out)) hb); have n3_ := Aside0.mk (below_step (by repeat (first | (with_reducible first | exact HB.out | apply below_alloc | apply pw_below_drewN | apply below_drew1 | refine below_set ?_ GE1084.out) | exact HB.out)) hb); have n4_ := Aside0.mk (hbox); have n5_ := Aside0.mk ((by rw [hg]; exact (below_size (by repeat (first | (with_reducible first | exact HB.out | apply below_alloc | apply pw_below_drewN | apply below_drew1 | refine below_set ?_ GE1084.out) | exact HB.out))) : w.heap.size ≤ gb1118)); have n6_ := n5_; have n7_ := Aside0.mk ((by rw [hg]; exact Nat.ne_of_lt (blk_lt (g := gb1084) (o := .cells #[.int .i64 t1082, .int .u32 t1083] 27 (0, 0)) (by (with_reducible repeat (first | refine blk_drewN ?_ _ | refine blk_drew ?_ | refine blk_alloc ?_ _)); exact BK1084.out)) : gb1084 ≠ gb1118)); have n8_ := Aside0.mk (Ne.symm n7_.out); clear HO1109; clear BK1084; clear HR1113; clear HB; have HO1109 := n0_; have BK1084 := n1_; have HR1113 := n2_; have HB := n3_; have BK1118 := n4_; have GW1118 := n5_; have GE1118 := n6_; have NB1084_1118 := n7_; have NB1118_1084 := n8_; clear n0_ n1_ n2_ n3_ n4_ n5_ n6_ n7_ n8_; clear hb hbox hg; have hnb63 := NB1118_1084.out; have hnc63 := NB1084_1118.out; have hcz64_0 : w62.cell? ⟨gb1118, 0, none⟩ = some (.int .i64 0) := (blk_cell BK1118.out 0).trans rfl; have hcz64_1 : w62.cell? ⟨gb1118, 1, none⟩ = some (.int .i64 0) := (blk_cell BK1118.out 1).trans rfl; have hcz64_2 : w62.cell? ⟨gb1118, 2, none⟩ = some (.int .u32 0) := (blk_cell BK1118.out 2).trans rfl; have hfz64_0 := blk_frozen BK1118.out 0; have hfz64_1 := blk_frozen BK1118.out 1; have hfz64_2 := blk_frozen BK1118.out 2) | ((with_reducible refine gate_callee (f := 49) rfl ?_); refine goesL_ (some 140) rfl rfl Try.func49 (by kernel_rfl) rfl #[.agg #[.int .i64 t1114, .int .i64 t1115, .int .u32 t1116], .int .i64 0] rfl (by (try simp only [List.map_toArray, List.map_cons, List.map_nil]); first | done | rfl | (simp only [List.length_drop, List.length_take]; rfl)) ?_; (with_reducible refine (impl_ForgetLabels.calls t1114 t1115 t1116 0 t1119 t1120 t1121 t1122 _ A53.out).mono ?_); rintro e w65 ⟨rfl, hb⟩; refine ⟨_, rfl, ?_⟩; have n0_ := Aside0.mk (Kd.R_below (by (with_reducible repeat (first | apply Kd.R_alloc | apply Kd.R_drewN | apply Kd.R_drew)); exact (Kd.R_mono (Kd.R_far (p := ⟨gb1118, 2, none⟩) (Kd.R_far (p := ⟨gb1118, 1, none⟩) (Kd.R_far (p := ⟨gb1118, 0, none⟩) (Kd.R_types HO1109.out BK1118.out (by decide)) (fun _ hk => hk.2) (.int .i64 t1114)) (fun _ hk => hk.2) (.int .i64 t1115)) (fun _ hk => hk.2) (.int .u32 t1116)) (fun _ h_ => h_.1))) hb); have n1_ := Aside0.mk (blk_below (g := gb1084) (o := .cells #[.int .i64 t1082, .int .u32 t1083] 27 (0, 0)) (by (with_reducible repeat (first | refine blk_drewN ?_ _ | refine blk_drew ?_ | refine blk_alloc ?_ _)); refine blk_far ?_ NB1084_1118.out _; (with_reducible repeat (first | refine blk_drewN ?_ _ | refine blk_drew ?_ | refine blk_alloc ?_ _)); refine blk_far ?_ NB1084_1118.out _; (with_reducible repeat (first | refine blk_drewN ?_ _ | refine blk_drew ?_ | refine blk_alloc ?_ _)); refine blk_far ?_ NB1084_1118.out _; (with_reducible repeat (first | refine blk_drewN ?_ _ | refine blk_drew ?_ | refine blk_alloc ?_ _)); exact BK1084.out) hb); have n2_ := Aside0.mk (Kd.C_below ((show Kd.C (Kd.int .i64) _ Ao59 y1110.length y1110 from by rw [Ny1110.out]; exact Kd.C_take (m := (x7_7 : Int).toNat) ((Kd.R_reads' (by (with_reducible repeat (first | apply Kd.R_alloc | apply Kd.R_drewN | apply Kd.R_drew)); exact (Kd.R_mono (Kd.R_far (p := ⟨gb1118, 2, none⟩) (Kd.R_far (p := ⟨gb1118, 1, none⟩) (Kd.R_far (p := ⟨gb1118, 0, none⟩) (Kd.R_types HO1109.out BK1118.out (by decide)) (fun _ hk => hk.2) (.int .i64 t1114)) (fun _ hk => hk.2) (.int .i64 t1115)) (fun _ hk => hk.2) (.int .u32 t1116)) (fun _ h_ => h_.1)))).2.2) KL58.out)) hb); have n3_ := Aside0.mk (blk_below (g := gb1118) (o := .cells #[.int .i64 t1114, .int .i64 t1115, .int .u32 t1116] 45 (0, 0)) (by (with_reducible repeat (first | refine blk_drewN ?_ _ | refine blk_drew ?_ | refine blk_alloc ?_ _)); refine blk_put (cs := #[.int .i64 t1114, .int .i64 t1115, .int .u32 0]) ?_ 2 _ rfl; (with_reducible repeat (first | refine blk_drewN ?_ _ | refine blk_drew ?_ | refine blk_alloc ?_ _)); refine blk_put (cs := #[.int .i64 t1114, .int .i64 0, .int .u32 0]) ?_ 1 _ rfl; (with_reducible repeat (first | refine blk_drewN ?_ _ | refine blk_drew ?_ | refine blk_alloc ?_ _)); refine blk_put (cs := #[.int .i64 0, .int .i64 0, .int .u32 0]) ?_ 0 _ rfl; (with_reducible repeat (first | refine blk_drewN ?_ _ | refine blk_drew ?_ | refine blk_alloc ?_ _)); exact BK1118.out) hb); have n4_ := Aside0.mk (below_step (by repeat (first | (with_reducible first | exact HB.out | apply below_alloc | apply pw_below_drewN | apply below_drew1 | refine below_set ?_ GE1084.out | refine below_set ?_ GE1118.out) | exact HB.out)) hb); clear HO1109; clear BK1084; clear HR1113; clear BK1118; clear HB; have HO1109 := n0_; have BK1084 := n1_; have HR1113 := n2_; have BK1118 := n3_; have HB := n4_; clear n0_ n1_ n2_ n3_ n4_; (try clear hb); (try clear hb2); (try clear hk); (try clear hi)) | ((with_reducible refine gate_dst (N := 24) rfl ?_); refine box_event ?hg (N := 24) ?hd (cs := #[.int .i64 0, .int .i64 0, .int .u32 0]) (t := 45) ?hr ?_; (case hd => rfl); (case hg => rfl); (case hr => first | (go_simp; done) | (go_simp; rfl)); intro gb1123 hg w66 hbox hb; have n0_ := Aside0.mk (Kd.R_below (by (with_reducible repeat (first | apply Kd.R_alloc | apply Kd.R_drewN | apply Kd.R_drew)); exact HO1109.out) hb); have n1_ := Aside0.mk (blk_below (g := gb1084) (o := .cells #[.int .i64 t1082, .int .u32 t1083] 27 (0, 0)) (by (with_reducible repeat (first | refine blk_drewN ?_ _ | refine blk_drew ?_ | refine blk_alloc ?_ _)); exact BK1084.out) hb); have n2_ := Aside0.mk (Kd.C_below (by repeat (first | (with_reducible exact HR1113.out) | (with_reducible refine Kd.C_alloc ?_ _) | (with_reducible refine Kd.C_drewN ?_ _) | (with_reducible refine Kd.C_drew ?_) | exact HR1113.out)) hb); have n3_ := Aside0.mk (blk_below (g := gb1118) (o := .cells #[.int .i64 t1114, .int .i64 t1115, .int .u32 t1116] 45 (0, 0)) (by (with_reducible repeat (first | refine blk_drewN ?_ _ | refine blk_drew ?_ | refine blk_alloc ?_ _)); exact BK1118.out) hb); have n4_ := Aside0.mk (below_step (by repeat (first | (with_reducible first | exact HB.out | apply below_alloc | apply pw_below_drewN | apply below_drew1 | refine below_set ?_ GE1084.out | refine below_set ?_ GE1118.out) | exact HB.out)) hb); have n5_ := Aside0.mk (hbox); have n6_ := Aside0.mk ((by rw [hg]; exact (below_size (by repeat (first | (with_reducible first | exact HB.out | apply below_alloc | apply pw_below_drewN | apply below_drew1 | refine below_set ?_ GE1084.out | refine below_set ?_ GE1118.out) | exact HB.out))) : w.heap.size ≤ gb1123)); have n7_ := n6_; have n8_ := Aside0.mk ((by rw [hg]; exact Nat.ne_of_lt (blk_lt (g := gb1084) (o := .cells #[.int .i64 t1082, .int .u32 t1083] 27 (0, 0)) (by (with_reducible repeat (first | refine blk_drewN ?_ _ | refine blk_drew ?_ | refine blk_alloc ?_ _)); exact BK1084.out)) : gb1084 ≠ gb1123)); have n9_ := Aside0.mk (Ne.symm n8_.out); have n10_ := Aside0.mk ((by rw [hg]; exact Nat.ne_of_lt (blk_lt (g := gb1118) (o := .cells #[.int .i64 t1114, .int .i64 t1115, .int .u32 t1116] 45 (0, 0)) (by (with_reducible repeat (first | refine blk_drewN ?_ _ | refine blk_drew ?_ | refine blk_alloc ?_ _)); exact BK1118.out)) : gb1118 ≠ gb1123)); have n11_ := Aside0.mk (Ne.symm n10_.out); clear HO1109; clear BK1084; clear HR1113; clear BK1118; clear HB; have HO1109 := n0_; have BK1084 := n1_; have HR1113 := n2_; have BK1118 := n3_; have HB := n4_; have BK1123 := n5_; have GW1123 := n6_; have GE1123 := n7_; have NB1084_1123 := n8_; have NB1123_1084 := n9_; have NB1118_1123 := n10_; have NB1123_1118 := n11_; clear n0_ n1_ n2_ n3_ n4_ n5_ n6_ n7_ n8_ n9_ n10_ n11_; clear hb hbox hg; have hnb67 := NB1123_1084.out; have hnc67 := NB1084_1123.out; have hnb68 := NB1123_1118.out; have hnc68 := NB1118_1123.out; have hcz69_0 : w66.cell? ⟨gb1123, 0, none⟩ = some (.int .i64 0) := (blk_cell BK1123.out 0).trans rfl; have hcz69_1 : w66.cell? ⟨gb1123, 1, none⟩ = some (.int .i64 0) := (blk_cell BK1123.out 1).trans rfl; have hcz69_2 : w66.cell? ⟨gb1123, 2, none⟩ = some (.int .u32 0) := (blk_cell BK1123.out 2).trans rfl; have hfz69_0 := blk_frozen BK1123.out 0; have hfz69_1 := blk_frozen BK1123.out 1; have hfz69_2 := blk_frozen BK1123.out 2; have hcz70_0 : w66.cell? ⟨gb1084, 0, none⟩ = some (.int .i64 t1082) := (blk_cell BK1084.out 0).trans rfl; have hcz70_1 : w66.cell? ⟨gb1084, 1, none⟩ = some (.int .u32 t1083) := (blk_cell BK1084.out 1).trans rfl; have hfz70_0 := blk_frozen BK1084.out 0; have hfz70_1 := blk_frozen BK1084.out 1) | ((with_reducible refine gate_callee (f := 40) rfl ?_); refine goesL_ (some 145) rfl rfl Try.func40 (by kernel_rfl) rfl #[.agg #[.int .i64 t1082, .int .u32 t1083]] rfl (by (try simp only [List.map_toArray, List.map_cons, List.map_nil]); first | done | rfl | (simp only [List.length_drop, List.length_take]; rfl)) ?_; (with_reducible refine (impl_LeastGraph.calls t1082 t1083 t1124 t1125 t1126 _ A54.out).mono ?_); rintro e w71 ⟨rfl, hb⟩; refine ⟨_, rfl, ?_⟩; have n0_ := Aside0.mk (Kd.R_below (by (with_reducible repeat (first | apply Kd.R_alloc | apply Kd.R_drewN | apply Kd.R_drew)); exact (Kd.R_mono (Kd.R_far (p := ⟨gb1123, 2, none⟩) (Kd.R_far (p := ⟨gb1123, 1, none⟩) (Kd.R_far (p := ⟨gb1123, 0, none⟩) (Kd.R_types HO1109.out BK1123.out (by decide)) (fun _ hk => hk.2) (.int .i64 t1119)) (fun _ hk => hk.2) (.int .i64 t1120)) (fun _ hk => hk.2) (.int .u32 t1121)) (fun _ h_ => h_.1))) hb); have n1_ := Aside0.mk (blk_below (g := gb1084) (o := .cells #[.int .i64 t1082, .int .u32 t1083] 27 (0, 0)) (by (with_reducible repeat (first | refine blk_drewN ?_ _ | refine blk_drew ?_ | refine blk_alloc ?_ _)); refine blk_far ?_ NB1084_1123.out _; (with_reducible repeat (first | refine blk_drewN ?_ _ | refine blk_drew ?_ | refine blk_alloc ?_ _)); refine blk_far ?_ NB1084_1123.out _; (with_reducible repeat (first | refine blk_drewN ?_ _ | refine blk_drew ?_ | refine blk_alloc ?_ _)); refine blk_far ?_ NB1084_1123.out _; (with_reducible repeat (first | refine blk_drewN ?_ _ | refine blk_drew ?_ | refine blk_alloc ?_ _)); exact BK1084.out) hb); have n2_ := Aside0.mk (Kd.C_below ((show Kd.C (Kd.int .i64) _ Ao59 y1110.length y1110 from by rw [Ny1110.out]; exact Kd.C_take (m := (x7_7 : Int).toNat) ((Kd.R_reads' (by (with_reducible repeat (first | apply Kd.R_alloc | apply Kd.R_drewN | apply Kd.R_drew)); exact (Kd.R_mono (Kd.R_far (p := ⟨gb1123, 2, none⟩) (Kd.R_far (p := ⟨gb1123, 1, none⟩) (Kd.R_far (p := ⟨gb1123, 0, none⟩) (Kd.R_types HO1109.out BK1123.out (by decide)) (fun _ hk => hk.2) (.int .i64 t1119)) (fun _ hk => hk.2) (.int .i64 t1120)) (fun _ hk => hk.2) (.int .u32 t1121)) (fun _ h_ => h_.1)))).2.2) KL58.out)) hb); have n3_ := Aside0.mk (blk_below (g := gb1118) (o := .cells #[.int .i64 t1114, .int .i64 t1115, .int .u32 t1116] 45 (0, 0)) (by (with_reducible repeat (first | refine blk_drewN ?_ _ | refine blk_drew ?_ | refine blk_alloc ?_ _)); refine blk_far ?_ NB1118_1123.out _; (with_reducible repeat (first | refine blk_drewN ?_ _ | refine blk_drew ?_ | refine blk_alloc ?_ _)); refine blk_far ?_ NB1118_1123.out _; (with_reducible repeat (first | refine blk_drewN ?_ _ | refine blk_drew ?_ | refine blk_alloc ?_ _)); refine blk_far ?_ NB1118_1123.out _; (with_reducible repeat (first | refine blk_drewN ?_ _ | refine blk_drew ?_ | refine blk_alloc ?_ _)); exact BK1118.out) hb); have n4_ := Aside0.mk (blk_below (g := gb1123) (o := .cells #[.int .i64 t1119, .int .i64 t1120, .int .u32 t1121] 45 (0, 0)) (by (with_reducible repeat (first | refine blk_drewN ?_ _ | refine blk_drew ?_ | refine blk_alloc ?_ _)); refine blk_put (cs := #[.int .i64 t1119, .int .i64 t1120, .int .u32 0]) ?_ 2 _ rfl; (with_reducible repeat (first | refine blk_drewN ?_ _ | refine blk_drew ?_ | refine blk_alloc ?_ _)); refine blk_put (cs := #[.int .i64 t1119, .int .i64 0, .int .u32 0]) ?_ 1 _ rfl; (with_reducible repeat (first | refine blk_drewN ?_ _ | refine blk_drew ?_ | refine blk_alloc ?_ _)); refine blk_put (cs := #[.int .i64 0, .int .i64 0, .int .u32 0]) ?_ 0 _ rfl; (with_reducible repeat (first | refine blk_drewN ?_ _ | refine blk_drew ?_ | refine blk_alloc ?_ _)); exact BK1123.out) hb); have n5_ := Aside0.mk (below_step (by repeat (first | (with_reducible first | exact HB.out | apply below_alloc | apply pw_below_drewN | apply below_drew1 | refine below_set ?_ GE1084.out | refine below_set ?_ GE1118.out | refine below_set ?_ GE1123.out) | exact HB.out)) hb); clear HO1109; clear BK1084; clear HR1113; clear BK1118; clear BK1123; clear HB; have HO1109 := n0_; have BK1084 := n1_; have HR1113 := n2_; have BK1118 := n3_; have BK1123 := n4_; have HB := n5_; clear n0_ n1_ n2_ n3_ n4_ n5_; (try clear hb); (try clear hb2); (try clear hk); (try clear hi)) | ((with_reducible refine gate_dst (N := 26) rfl ?_); refine box_event ?hg (N := 26) ?hd (cs := #[.int .i64 0, .int .u32 0]) (t := 27) ?hr ?_; (case hd => rfl); (case hg => rfl); (case hr => first | (go_simp; done) | (go_simp; rfl)); intro gb1127 hg w72 hbox hb; have n0_ := Aside0.mk (Kd.R_below (by (with_reducible repeat (first | apply Kd.R_alloc | apply Kd.R_drewN | apply Kd.R_drew)); exact HO1109.out) hb); have n1_ := Aside0.mk (blk_below (g := gb1084) (o := .cells #[.int .i64 t1082, .int .u32 t1083] 27 (0, 0)) (by (with_reducible repeat (first | refine blk_drewN ?_ _ | refine blk_drew ?_ | refine blk_alloc ?_ _)); exact BK1084.out) hb); have n2_ := Aside0.mk (Kd.C_below (by repeat (first | (with_reducible exact HR1113.out) | (with_reducible refine Kd.C_alloc ?_ _) | (with_reducible refine Kd.C_drewN ?_ _) | (with_reducible refine Kd.C_drew ?_) | exact HR1113.out)) hb); have n3_ := Aside0.mk (blk_below (g := gb1118) (o := .cells #[.int .i64 t1114, .int .i64 t1115, .int .u32 t1116] 45 (0, 0)) (by (with_reducible repeat (first | refine blk_drewN ?_ _ | refine blk_drew ?_ | refine blk_alloc ?_ _)); exact BK1118.out) hb); have n4_ := Aside0.mk (blk_below (g := gb1123) (o := .cells #[.int .i64 t1119, .int .i64 t1120, .int .u32 t1121] 45 (0, 0)) (by (with_reducible repeat (first | refine blk_drewN ?_ _ | refine blk_drew ?_ | refine blk_alloc ?_ _)); exact BK1123.out) hb); have n5_ := Aside0.mk (below_step (by repeat (first | (with_reducible first | exact HB.out | apply below_alloc | apply pw_below_drewN | apply below_drew1 | refine below_set ?_ GE1084.out | refine below_set ?_ GE1118.out | refine below_set ?_ GE1123.out) | exact HB.out)) hb); have n6_ := Aside0.mk (hbox); have n7_ := Aside0.mk ((by rw [hg]; exact (below_size (by repeat (first | (with_reducible first | exact HB.out | apply below_alloc | apply pw_below_drewN | apply below_drew1 | refine below_set ?_ GE1084.out | refine below_set ?_ GE1118.out | refine below_set ?_ GE1123.out) | exact HB.out))) : w.heap.size ≤ gb1127)); have n8_ := n7_; have n9_ := Aside0.mk ((by rw [hg]; exact Nat.ne_of_lt (blk_lt (g := gb1084) (o := .cells #[.int .i64 t1082, .int .u32 t1083] 27 (0, 0)) (by (with_reducible repeat (first | refine blk_drewN ?_ _ | refine blk_drew ?_ | refine blk_alloc ?_ _)); exact BK1084.out)) : gb1084 ≠ gb1127)); have n10_ := Aside0.mk (Ne.symm n9_.out); have n11_ := Aside0.mk ((by rw [hg]; exact Nat.ne_of_lt (blk_lt (g := gb1118) (o := .cells #[.int .i64 t1114, .int .i64 t1115, .int .u32 t1116] 45 (0, 0)) (by (with_reducible repeat (first | refine blk_drewN ?_ _ | refine blk_drew ?_ | refine blk_alloc ?_ _)); exact BK1118.out)) : gb1118 ≠ gb1127)); have n12_ := Aside0.mk (Ne.symm n11_.out); have n13_ := Aside0.mk ((by rw [hg]; exact Nat.ne_of_lt (blk_lt (g := gb1123) (o := .cells #[.int .i64 t1119, .int .i64 t1120, .int .u32 t1121] 45 (0, 0)) (by (with_reducible repeat (first | refine blk_drewN ?_ _ | refine blk_drew ?_ | refine blk_alloc ?_ _)); exact BK1123.out)) : gb1123 ≠ gb1127)); have n14_ := Aside0.mk (Ne.symm n13_.out); clear HO1109; clear BK1084; clear HR1113; clear BK1118; clear BK1123; clear HB; have HO1109 := n0_; have BK1084 := n1_; have HR1113 := n2_; have BK1118 := n3_; have BK1123 := n4_; have HB := n5_; have BK1127 := n6_; have GW1127 := n7_; have GE1127 := n8_; have NB1084_1127 := n9_; have NB1127_1084 := n10_; have NB1118_1127 := n11_; have NB1127_1118 := n12_; have NB1123_1127 := n13_; have NB1127_1123 := n14_; clear n0_ n1_ n2_ n3_ n4_ n5_ n6_ n7_ n8_ n9_ n10_ n11_ n12_ n13_ n14_; clear hb hbox hg; have hnb73 := NB1127_1084.out; have hnc73 := NB1084_1127.out; have hnb74 := NB1127_1118.out; have hnc74 := NB1118_1127.out; have hnb75 := NB1127_1123.out; have hnc75 := NB1123_1127.out; have hcz76_0 : w72.cell? ⟨gb1127, 0, none⟩ = some (.int .i64 0) := (blk_cell BK1127.out 0).trans rfl; have hcz76_1 : w72.cell? ⟨gb1127, 1, none⟩ = some (.int .u32 0) := (blk_cell BK1127.out 1).trans rfl; have hfz76_0 := blk_frozen BK1127.out 0; have hfz76_1 := blk_frozen BK1127.out 1) | ((with_reducible refine gate_callee (f := 37) rfl ?_); refine goesL_ (some 150) rfl rfl Try.func37 (by kernel_rfl) rfl #[.slice A0 l0.length c0, .int .i64 x7_7] rfl (by (try simp only [List.map_toArray, List.map_cons, List.map_nil]); first | done | rfl | (simp only [List.length_drop, List.length_take]; rfl)) ?_; (with_reducible refine (spec_A2Order.calls k3 _ _ l0 x7_7 t1128 _ ?side1 ?side2 A55.out).mono ?_); (case side1 => exact Kd.C_below HR0.out (by repeat (first | (with_reducible first | exact HB.out | apply below_alloc | apply pw_below_drewN | apply below_drew1 | refine below_set ?_ GE1084.out | refine below_set ?_ GE1118.out | refine below_set ?_ GE1123.out | refine below_set ?_ GE1127.out) | exact HB.out))); (case side2 => exact HC0.out); rintro e w77 ⟨v1129, rfl, ho0, hb⟩; refine ⟨_, rfl, ?_⟩; have n0_ := Aside0.mk (Kd.R_elder' (by (with_reducible repeat (first | apply Kd.R_alloc | apply Kd.R_drewN | apply Kd.R_drew)); exact (Kd.R_mono (Kd.R_far (p := ⟨gb1127, 1, none⟩) (Kd.R_far (p := ⟨gb1127, 0, none⟩) (Kd.R_types HO1109.out BK1127.out (by decide)) (fun _ hk => hk.2) (.int .i64 t1124)) (fun _ hk => hk.2) (.int .u32 t1125)) (fun _ h_ => h_.1))) (Kd.R_base ho0) hb); have n1_ := Aside0.mk (Kd.R_lower (Kd.R_new' ho0 (Kd.R_lt (by (with_reducible repeat (first | apply Kd.R_alloc | apply Kd.R_drewN | apply Kd.R_drew)); exact (Kd.R_mono (Kd.R_far (p := ⟨gb1127, 1, none⟩) (Kd.R_far (p := ⟨gb1127, 0, none⟩) (Kd.R_types HO1109.out BK1127.out (by decide)) (fun _ hk => hk.2) (.int .i64 t1124)) (fun _ hk => hk.2) (.int .u32 t1125)) (fun _ h_ => h_.1))))) (below_size (by repeat (first | (with_reducible first | exact HB.out | apply below_alloc | apply pw_below_drewN | apply below_drew1 | refine below_set ?_ GE1084.out | refine below_set ?_ GE1118.out | refine below_set ?_ GE1123.out | refine below_set ?_ GE1127.out) | exact HB.out)))); have n2_ := Aside0.mk (blk_below (g := gb1084) (o := .cells #[.int .i64 t1082, .int .u32 t1083] 27 (0, 0)) (by (with_reducible repeat (first | refine blk_drewN ?_ _ | refine blk_drew ?_ | refine blk_alloc ?_ _)); refine blk_far ?_ NB1084_1127.out _; (with_reducible repeat (first | refine blk_drewN ?_ _ | refine blk_drew ?_ | refine blk_alloc ?_ _)); refine blk_far ?_ NB1084_1127.out _; (with_reducible repeat (first | refine blk_drewN ?_ _ | refine blk_drew ?_ | refine blk_alloc ?_ _)); exact BK1084.out) hb); have n3_ := Aside0.mk (Kd.C_below ((show Kd.C (Kd.int .i64) _ Ao59 y1110.length y1110 from by rw [Ny1110.out]; exact Kd.C_take (m := (x7_7 : Int).toNat) ((Kd.R_reads' (by (with_reducible repeat (first | apply Kd.R_alloc | apply Kd.R_drewN | apply Kd.R_drew)); exact (Kd.R_mono (Kd.R_far (p := ⟨gb1127, 1, none⟩) (Kd.R_far (p := ⟨gb1127, 0, none⟩) (Kd.R_types HO1109.out BK1127.out (by decide)) (fun _ hk => hk.2) (.int .i64 t1124)) (fun _ hk => hk.2) (.int .u32 t1125)) (fun _ h_ => h_.1)))).2.2) KL58.out)) hb); have n4_ := Aside0.mk (blk_below (g := gb1118) (o := .cells #[.int .i64 t1114, .int .i64 t1115, .int .u32 t1116] 45 (0, 0)) (by (with_reducible repeat (first | refine blk_drewN ?_ _ | refine blk_drew ?_ | refine blk_alloc ?_ _)); refine blk_far ?_ NB1118_1127.out _; (with_reducible repeat (first | refine blk_drewN ?_ _ | refine blk_drew ?_ | refine blk_alloc ?_ _)); refine blk_far ?_ NB1118_1127.out _; (with_reducible repeat (first | refine blk_drewN ?_ _ | refine blk_drew ?_ | refine blk_alloc ?_ _)); exact BK1118.out) hb); have n5_ := Aside0.mk (blk_below (g := gb1123) (o := .cells #[.int .i64 t1119, .int .i64 t1120, .int .u32 t1121] 45 (0, 0)) (by (with_reducible repeat (first | refine blk_drewN ?_ _ | refine blk_drew ?_ | refine blk_alloc ?_ _)); refine blk_far ?_ NB1123_1127.out _; (with_reducible repeat (first | refine blk_drewN ?_ _ | refine blk_drew ?_ | refine blk_alloc ?_ _)); refine blk_far ?_ NB1123_1127.out _; (with_reducible repeat (first | refine blk_drewN ?_ _ | refine blk_drew ?_ | refine blk_alloc ?_ _)); exact BK1123.out) hb); have n6_ := Aside0.mk (blk_below (g := gb1127) (o := .cells #[.int .i64 t1124, .int .u32 t1125] 27 (0, 0)) (by (with_reducible repeat (first | refine blk_drewN ?_ _ | refine blk_drew ?_ | refine blk_alloc ?_ _)); refine blk_put (cs := #[.int .i64 t1124, .int .u32 0]) ?_ 1 _ rfl; (with_reducible repeat (first | refine blk_drewN ?_ _ | refine blk_drew ?_ | refine blk_alloc ?_ _)); refine blk_put (cs := #[.int .i64 0, .int .u32 0]) ?_ 0 _ rfl; (with_reducible repeat (first | refine blk_drewN ?_ _ | refine blk_drew ?_ | refine blk_alloc ?_ _)); exact BK1127.out) hb); have n7_ := Aside0.mk (below_step (by repeat (first | (with_reducible first | exact HB.out | apply below_alloc | apply pw_below_drewN | apply below_drew1 | refine below_set ?_ GE1084.out | refine below_set ?_ GE1118.out | refine below_set ?_ GE1123.out | refine below_set ?_ GE1127.out) | exact HB.out)) hb); clear HO1109; clear BK1084; clear HR1113; clear BK1118; clear BK1123; clear BK1127; clear HB; have HO1109 := n0_; have HO1130 := n1_; have BK1084 := n2_; have HR1113 := n3_; have BK1118 := n4_; have BK1123 := n5_; have BK1127 := n6_; have HB := n7_; clear n0_ n1_ n2_ n3_ n4_ n5_ n6_ n7_; (try clear hb); (try clear hb2); (try clear hk); (try clear hi); (try clear ho0)) | ((with_reducible refine gate_dst (N := 152) rfl ?_); refine Kd.R_make (Kd.int .i64) _ 2 rfl (N := 152) rfl 62 _ _ rfl x7_7 rfl rfl Try.underlying62 (.int .i64 0) 8 info2 rfl (by decide) (by omega) 0 (ok := fun _ => True) (okp := fun _ => True) rfl (fun _ hk => hk) trivial (of_decide_eq_true (by first | (with_reducible assumption) | assumption)) (Nat.le_trans (Nat.mul_le_mul_right _ (of_decide_eq_true (by first | (with_reducible assumption) | assumption) : x7_7.toNat ≤ 35184372088832)) (by omega)) (Below.refl _ _) (Nat.le_refl _) ?_; intro v1132 w78 ho79 hb hg_ hnew_; clear hg_ hnew_; (first | rw [← Ny1131.out] at ho79 | (simp only [Int.reduceToNat] at ho79; rw [← Ny1131.out] at ho79)); have n0_ := Aside0.mk (Kd.R_elder' (by (with_reducible repeat (first | apply Kd.R_alloc | apply Kd.R_drewN | apply Kd.R_drew)); exact HO1109.out) (Kd.R_base ho79) hb); have n1_ := Aside0.mk (Kd.R_elder' (by (with_reducible repeat (first | apply Kd.R_alloc | apply Kd.R_drewN | apply Kd.R_drew)); exact HO1130.out) (Kd.R_base ho79) hb); have n2_ := Aside0.mk (Kd.R_lower (Kd.R_new' (Kd.R_new' ho79 (Kd.R_lt (by (with_reducible repeat (first | apply Kd.R_alloc | apply Kd.R_drewN | apply Kd.R_drew)); exact HO1109.out))) (Kd.R_lt (by (with_reducible repeat (first | apply Kd.R_alloc | apply Kd.R_drewN | apply Kd.R_drew)); exact HO1130.out))) (below_size (by repeat (first | (with_reducible first | exact HB.out | apply below_alloc | apply pw_below_drewN | apply below_drew1 | refine below_set ?_ GE1084.out | refine below_set ?_ GE1118.out | refine below_set ?_ GE1123.out | refine below_set ?_ GE1127.out) | exact HB.out)))); have n3_ := Aside0.mk (blk_below (g := gb1084) (o := .cells #[.int .i64 t1082, .int .u32 t1083] 27 (0, 0)) (by (with_reducible repeat (first | refine blk_drewN ?_ _ | refine blk_drew ?_ | refine blk_alloc ?_ _)); exact BK1084.out) hb); have n4_ := Aside0.mk (Kd.C_below (by repeat (first | (with_reducible exact HR1113.out) | (with_reducible refine Kd.C_alloc ?_ _) | (with_reducible refine Kd.C_drewN ?_ _) | (with_reducible refine Kd.C_drew ?_) | exact HR1113.out)) hb); have n5_ := Aside0.mk (blk_below (g := gb1118) (o := .cells #[.int .i64 t1114, .int .i64 t1115, .int .u32 t1116] 45 (0, 0)) (by (with_reducible repeat (first | refine blk_drewN ?_ _ | refine blk_drew ?_ | refine blk_alloc ?_ _)); exact BK1118.out) hb); have n6_ := Aside0.mk (blk_below (g := gb1123) (o := .cells #[.int .i64 t1119, .int .i64 t1120, .int .u32 t1121] 45 (0, 0)) (by (with_reducible repeat (first | refine blk_drewN ?_ _ | refine blk_drew ?_ | refine blk_alloc ?_ _)); exact BK1123.out) hb); have n7_ := Aside0.mk (blk_below (g := gb1127) (o := .cells #[.int .i64 t1124, .int .u32 t1125] 27 (0, 0)) (by (with_reducible repeat (first | refine blk_drewN ?_ _ | refine blk_drew ?_ | refine blk_alloc ?_ _)); exact BK1127.out) hb); have n8_ := Aside0.mk (below_step (by repeat (first | (with_reducible first | exact HB.out | apply below_alloc | apply pw_below_drewN | apply below_drew1 | refine below_set ?_ GE1084.out | refine below_set ?_ GE1118.out | refine below_set ?_ GE1123.out | refine below_set ?_ GE1127.out) | exact HB.out)) hb); clear HO1109; clear HO1130; clear BK1084; clear HR1113; clear BK1118; clear BK1123; clear BK1127; clear HB; have HO1109 := n0_; have HO1130 := n1_; have HO1133 := n2_; have BK1084 := n3_; have HR1113 := n4_; have BK1118 := n5_; have BK1123 := n6_; have BK1127 := n7_; have HB := n8_; clear n0_ n1_ n2_ n3_ n4_ n5_ n6_ n7_ n8_; clear hb ho79))
              go_loopg [30] k3 (fun kq v30 w' => ∃ (x29_4 : List Int) (x30_4 : Int), v30 = .int .i64 x30_4 ∧ Aside0 (laws_FnLabelings.l3 kq x7_7 x10_2 x19_3 t1117 t1122 t1126 t1128 x29_4 x30_4 t1114 t1115 t1116 t1119 t1120 t1121 t1124 t1125 = some true) ∧ Aside0 (kq ≤ k3) ∧ Aside0 (Kd.R (Kd.int .i64) 2 w' w.heap.size (fun k_ => some k_ ≠ (v1132 : Value).ownBlock) v1129 t1128) ∧ Aside0 (Kd.R (Kd.int .i64) 2 w' w.heap.size (fun k_ => some k_ ≠ (v1129 : Value).ownBlock) v1132 x29_4) ∧ Aside0 (w'.heap[gb1084]? = some (.cells #[.int .i64 t1082, .int .u32 t1083] 27 (0, 0))) ∧ Aside0 (w'.heap[gb1118]? = some (.cells #[.int .i64 t1114, .int .i64 t1115, .int .u32 t1116] 45 (0, 0))) ∧ Aside0 (w'.heap[gb1123]? = some (.cells #[.int .i64 t1119, .int .i64 t1120, .int .u32 t1121] 45 (0, 0))) ∧ Aside0 (w'.heap[gb1127]? = some (.cells #[.int .i64 t1124, .int .u32 t1125] 27 (0, 0))) ∧ Aside0 (Below w.heap.size w w'))
              case atStart => exact ⟨(y1131), (0), (by first | rfl | (simp; done) | (simp [*]; done)), H', ⟨Nat.le_refl _⟩, ⟨by (with_reducible repeat (first | apply Kd.R_alloc | apply Kd.R_drewN | apply Kd.R_drew)); exact Kd.R_mono HO1130.out (fun _ hk => hk.2)⟩, ⟨by (with_reducible repeat (first | apply Kd.R_alloc | apply Kd.R_drewN | apply Kd.R_drew)); exact Kd.R_mono HO1133.out (fun _ hk => hk.2)⟩, ⟨by (with_reducible repeat (first | refine blk_drewN ?_ _ | refine blk_drew ?_ | refine blk_alloc ?_ _)); exact BK1084.out⟩, ⟨by (with_reducible repeat (first | refine blk_drewN ?_ _ | refine blk_drew ?_ | refine blk_alloc ?_ _)); exact BK1118.out⟩, ⟨by (with_reducible repeat (first | refine blk_drewN ?_ _ | refine blk_drew ?_ | refine blk_alloc ?_ _)); exact BK1123.out⟩, ⟨by (with_reducible repeat (first | refine blk_drewN ?_ _ | refine blk_drew ?_ | refine blk_alloc ?_ _)); exact BK1127.out⟩, ⟨by repeat (first | (with_reducible first | exact HB.out | apply below_alloc | apply pw_below_drewN | apply below_drew1 | refine below_set ?_ GE1084.out | refine below_set ?_ GE1118.out | refine below_set ?_ GE1123.out | refine below_set ?_ GE1127.out) | exact HB.out)⟩⟩
              case round =>
               clear H'
               try clear c1
               try clear p1
               try clear q1
               try clear hx1
               try clear c2
               try clear p2
               try clear c3
               try clear c4
               try clear c5
               try clear q5
               try clear c6
               try clear p6
               try clear c7
               try clear p10
               try clear q10
               try clear hx10
               try clear c11
               try clear p11
               try clear q11
               try clear hx11
               try clear c12
               try clear c12b0
               try clear c14
               try clear c14b0
               try clear c14b1
               try clear c19
               try clear c19b0
               try clear c20
               try clear c20b0
               try clear c22
               try clear c22b0
               try clear c22b1
               try clear c28
               try clear c28b0
               try clear c29
               try clear c29b0
               try clear c31
               try clear c32
               try clear c33
               try clear c37
               try clear c37b0
               try clear c37b1
               try clear c38
               try clear c38b0
               try clear c38b1
               try clear c39
               try clear c40
               try clear c41
               try clear c45
               try clear c46
               try clear c47
               try clear c48
               try clear c48b0
               try clear c49
               try clear c50
               try clear c50b0
               try clear c50b1
               try clear c51
               try clear c51b0
               try clear c51b1
               try clear c56
               try clear c56b0
               try clear c56b1
               try clear q58
               try clear c63
               try clear p64
               try clear c67
               try clear c68
               try clear c73
               try clear c74
               try clear c75
               try clear hcz11_0
               try clear hcz11_1
               try clear hcz60_0
               try clear hcz60_1
               try clear hcz64_0
               try clear hcz64_1
               try clear hcz64_2
               try clear hcz69_0
               try clear hcz69_1
               try clear hcz69_2
               try clear hcz70_0
               try clear hcz70_1
               try clear hcz76_0
               try clear hcz76_1
               try clear hfz11_0
               try clear hfz11_1
               try clear hfz60_0
               try clear hfz60_1
               try clear hfz64_0
               try clear hfz64_1
               try clear hfz64_2
               try clear hfz69_0
               try clear hfz69_1
               try clear hfz69_2
               try clear hfz70_0
               try clear hfz70_1
               try clear hfz76_0
               try clear hfz76_1
               try clear hx1093_0
               try clear hx1093_1
               try clear hx1101_0
               try clear hx1101_1
               try clear hx1101_2
               try clear hx1104_0
               try clear hx1104_1
               try clear hx1104_2
               try clear p1
               try clear p10
               try clear p1093
               try clear p11
               try clear p1101
               try clear p1104
               try clear p2
               try clear p6
               try clear q1
               try clear q10
               try clear q1093
               try clear q11
               try clear q1101
               try clear q1104
               try clear q58
               obtain ⟨x29_4, x30_4, rfl, HA, HK4, HO_28, HO_29, BK1084, BK1118, BK1123, BK1127, HB⟩ := hrel
               cases gk with
               | zero => exact absurd HA.out (by simp [laws_FnLabelings.l3])
               | succ k4 =>
                have H := HA.out
                clear HA
                simp only [laws_FnLabelings.l3] at H
                by_cases c80 : x30_4 < x7_7
                ·rw [if_pos c80] at H
                 have c80b0 : decide (x30_4 < x7_7) = true := decide_eq_true c80
                 clear c80
                 by_cases c81 : 0 ≤ x30_4
                 ·rw [if_pos c81] at H
                  have c81b0 : decide (0 ≤ x30_4) = true := decide_eq_true c81
                  clear c81
                  by_cases c82 : x30_4 < (t1128.length : Int)
                  ·rw [if_pos c82] at H
                   have c82b0 : decide (x30_4 < (t1128.length : Int)) = true := decide_eq_true c82
                   clear c82
                   by_cases c83 : 0 ≤ (rd t1128 x30_4)
                   ·rw [if_pos c83] at H
                    have c83b0 : decide (0 ≤ (rd t1128 x30_4)) = true := decide_eq_true c83
                    clear c83
                    by_cases c84 : (rd t1128 x30_4) < (x29_4.length : Int)
                    ·rw [if_pos c84] at H
                     have c84b0 : decide ((rd t1128 x30_4) < (x29_4.length : Int)) = true := decide_eq_true c84
                     clear c84
                     obtain ⟨y1135, hy1135⟩ : ∃ y_ : List Int, y_ = (x29_4.set ((rd t1128 x30_4) : Int).toNat x30_4) := ⟨_, rfl⟩
                     replace H : (laws_FnLabelings.l3 k4 x7_7 x10_2 x19_3 t1117 t1122 t1126 t1128 y1135 (wrap64 (x30_4 + 1)) t1114 t1115 t1116 t1119 t1120 t1121 t1124 t1125) = some true := by first | (rw [hy1135]; with_reducible exact H) | (have H2_ := (Option.bind_some _ _).symm.trans H; rw [hy1135]; with_reducible exact H2_) | (have H2_ := (Option.bind_some _ _).symm.trans H; with_reducible exact H2_) | with_reducible exact H | (rw [hy1135]; exact H) | exact H
                     have Ny1135 := Aside0.mk hy1135
                     clear hy1135
                     have H' := Aside0.mk H
                     clear H
                     obtain ⟨Ao86, co86, eo86⟩ := Kd.R_slice HO_28.out
                     subst eo86
                     have p1134 : 0 ≤ (x30_4 : Int) := of_decide_eq_true (by first | (with_reducible assumption) | assumption)
                     have q1134 : x30_4 < (t1128.length : Int) := of_decide_eq_true (by first | (with_reducible assumption) | assumption)
                     obtain ⟨ad1134, e1134, hx1134_0⟩ := Kd.at_int (Kd.R_reads' HO_28.out).2.2 x30_4 p1134 q1134
                     cases e1134
                     replace p1134 := eq_true p1134
                     replace q1134 := eq_true q1134
                     have p85 : 0 ≤ ((rd t1128 x30_4) : Int) := of_decide_eq_true (by first | (with_reducible assumption) | assumption)
                     have q85 : ((rd t1128 x30_4) : Int) < ((x29_4.length : Int) : Int) := of_decide_eq_true (by first | (with_reducible assumption) | assumption)
                     obtain ⟨go85, co85, eo85, gb85, gl85, cl85, HG85⟩ := Kd.R_form HO_29.out (by omega)
                     (first | cases eo85 | (injection eo85 with ea_ en_ ec_; (first | subst ea_ | (injection ea_ with ea_; subst ea_)); subst ec_; clear en_))
                     have GB85 := Aside0.mk gb85
                     have GG85 := Aside0.mk HG85
                     clear gb85 gl85 HG85
                     obtain ⟨hx85_0, hf85_0⟩ := Kd.R_celln 0 HO_29.out ((rd t1128 x30_4) : Int) p85 q85
                     replace p85 := eq_true p85
                     replace q85 := eq_true q85
                     have HP87 := Kd.R_putg HO_29.out ((rd t1128 x30_4) : Int) x30_4
                     go_wp2_with (first | ((with_reducible refine gate_store (t := 2) (p := 164) rfl ?_); refine store_event (t := 2) (p := 164) (v := ?vo_w88) (w1 := (wr.setCell ⟨go85, ((rd t1128 x30_4) : Int).toNat, none⟩ (.int .i64 x30_4))) ?hg ?ho ?hn ?hr ?_; (case ho => rfl); (case hg => rfl); (case hn => rfl); (case hr => first | (go_simp; done) | (go_simp; rfl)); intro w88 hw; have hg : wr.grownBy w88 (some go85) := (by rw [hw]; exact HP87.2); have hp_ : Kd.R (Kd.int .i64) 2 w88 w.heap.size (fun k_ => some k_ ≠ (.slice (some ad1134) t1128.length co86 : Value).ownBlock) (.slice (some ⟨go85, 0, none⟩) x29_4.length co85) y1135 := (by rw [hw, Ny1135.out]; exact HP87.1); clear HP87; have n0_ := Aside0.mk (Kd.R_after (v := (.slice (some ⟨go85, 0, none⟩) x29_4.length co85)) (v1 := (.slice (some ⟨go85, 0, none⟩) x29_4.length co85)) (ok := (fun _ => True)) (by (with_reducible repeat (first | apply Kd.R_alloc | apply Kd.R_drewN | apply Kd.R_drew)); exact Kd.R_mono HO_28.out (fun _ hk => ⟨trivial, hk⟩)) hg (.inl rfl)); have n1_ := Aside0.mk (hp_); have n2_ := Aside0.mk (blk_grown (g := gb1084) (o := .cells #[.int .i64 t1082, .int .u32 t1083] 27 (0, 0)) (by (with_reducible repeat (first | refine blk_drewN ?_ _ | refine blk_drew ?_ | refine blk_alloc ?_ _)); exact BK1084.out) hg (Kd.R_ne HO_29.out BK1084.out (by decide))); have n3_ := Aside0.mk (blk_grown (g := gb1118) (o := .cells #[.int .i64 t1114, .int .i64 t1115, .int .u32 t1116] 45 (0, 0)) (by (with_reducible repeat (first | refine blk_drewN ?_ _ | refine blk_drew ?_ | refine blk_alloc ?_ _)); exact BK1118.out) hg (Kd.R_ne HO_29.out BK1118.out (by decide))); have n4_ := Aside0.mk (blk_grown (g := gb1123) (o := .cells #[.int .i64 t1119, .int .i64 t1120, .int .u32 t1121] 45 (0, 0)) (by (with_reducible repeat (first | refine blk_drewN ?_ _ | refine blk_drew ?_ | refine blk_alloc ?_ _)); exact BK1123.out) hg (Kd.R_ne HO_29.out BK1123.out (by decide))); have n5_ := Aside0.mk (blk_grown (g := gb1127) (o := .cells #[.int .i64 t1124, .int .u32 t1125] 27 (0, 0)) (by (with_reducible repeat (first | refine blk_drewN ?_ _ | refine blk_drew ?_ | refine blk_alloc ?_ _)); exact BK1127.out) hg (Kd.R_ne HO_29.out BK1127.out (by decide))); have n6_ := Aside0.mk ((by rw [hw]; exact below_set (HB.out) GB85.out : Below w.heap.size w w88)); clear HO_28; clear HO_29; clear BK1084; clear BK1118; clear BK1123; clear BK1127; clear HB; have HO_28 := n0_; have HO_29 := n1_; have BK1084 := n2_; have BK1118 := n3_; have BK1123 := n4_; have BK1127 := n5_; have HB := n6_; clear n0_ n1_ n2_ n3_ n4_ n5_ n6_; clear hg hw hp_))
                     go_roundg k4
                     case measure => have := HJ7.out; have := HK2.out; have := HK3.out; have := HK4.out; omega
                     case rel => exact ⟨(y1135), (wrap64 (x30_4 + 1)), (by first | rfl | (simp; done) | (simp [*]; done)), H', ⟨by have := HJ7.out; have := HK2.out; have := HK3.out; have := HK4.out; omega⟩, ⟨by (with_reducible repeat (first | apply Kd.R_alloc | apply Kd.R_drewN | apply Kd.R_drew)); exact Kd.R_mono HO_28.out (fun _ hk => hk.2)⟩, ⟨by (with_reducible repeat (first | apply Kd.R_alloc | apply Kd.R_drewN | apply Kd.R_drew)); exact HO_29.out⟩, ⟨by (with_reducible repeat (first | refine blk_drewN ?_ _ | refine blk_drew ?_ | refine blk_alloc ?_ _)); exact BK1084.out⟩, ⟨by (with_reducible repeat (first | refine blk_drewN ?_ _ | refine blk_drew ?_ | refine blk_alloc ?_ _)); exact BK1118.out⟩, ⟨by (with_reducible repeat (first | refine blk_drewN ?_ _ | refine blk_drew ?_ | refine blk_alloc ?_ _)); exact BK1123.out⟩, ⟨by (with_reducible repeat (first | refine blk_drewN ?_ _ | refine blk_drew ?_ | refine blk_alloc ?_ _)); exact BK1127.out⟩, ⟨by repeat (first | (with_reducible first | exact HB.out | apply below_alloc | apply pw_below_drewN | apply below_drew1 | refine below_set ?_ GE1084.out | refine below_set ?_ GE1118.out | refine below_set ?_ GE1123.out | refine below_set ?_ GE1127.out) | exact HB.out)⟩⟩
                    ·rw [if_neg c84] at H
                     exact absurd H (by simp)
                   ·rw [if_neg c83] at H
                    exact absurd H (by simp)
                  ·rw [if_neg c82] at H
                   exact absurd H (by simp)
                 ·rw [if_neg c81] at H
                  exact absurd H (by simp)
                ·rw [if_neg c80] at H
                 have c80b0 : decide (x30_4 < x7_7) = false := decide_eq_false c80
                 clear c80
                 replace H := Option.bind_eq_some_iff.mp H
                 obtain ⟨⟨t1136, t1137, t1138, t1139⟩, A890, H⟩ := H
                 replace H : ((impl_TurnLabels.f k4 t1136 t1137 t1138 x29_4).bind fun bt1141 => ((impl_LeastFlag.f t1114 t1115 t1116).bind fun bt1146 => ((impl_PlainFlag.f k4 t1124 t1125).bind fun bt1151 => (if x10_2 = x19_3 then (if t1117 = 0 then (if t1122 = 0 then (if t1126 = 0 then (if (t1119 == bt1151.1 && ((t1120 == bt1151.2.1 && (t1121 == bt1151.2.2.1)))) = true then (if t1139 = 0 then (if bt1141.2.2.2 = 0 then (if bt1146.2.2.2 = 0 then (if (bt1141.1 == bt1146.1 && ((bt1141.2.1 == bt1146.2.1 && (bt1141.2.2.1 == bt1146.2.2.1)))) = true then (some (bt1151.2.2.2 == 0)) else (some false)) else (some false)) else (some false)) else (some false)) else (some false)) else (some false)) else (some false)) else (some false)) else (some false))))) = some true := H
                 have A89 := Aside0.mk A890
                 clear A890
                 replace H := Option.bind_eq_some_iff.mp H
                 obtain ⟨⟨t1141, t1142, t1143, t1144⟩, A900, H⟩ := H
                 replace H : ((impl_LeastFlag.f t1114 t1115 t1116).bind fun bt1146 => ((impl_PlainFlag.f k4 t1124 t1125).bind fun bt1151 => (if x10_2 = x19_3 then (if t1117 = 0 then (if t1122 = 0 then (if t1126 = 0 then (if (t1119 == bt1151.1 && ((t1120 == bt1151.2.1 && (t1121 == bt1151.2.2.1)))) = true then (if t1139 = 0 then (if t1144 = 0 then (if bt1146.2.2.2 = 0 then (if (t1141 == bt1146.1 && ((t1142 == bt1146.2.1 && (t1143 == bt1146.2.2.1)))) = true then (some (bt1151.2.2.2 == 0)) else (some false)) else (some false)) else (some false)) else (some false)) else (some false)) else (some false)) else (some false)) else (some false)) else (some false)))) = some true := H
                 have A90 := Aside0.mk A900
                 clear A900
                 replace H := Option.bind_eq_some_iff.mp H
                 obtain ⟨⟨t1146, t1147, t1148, t1149⟩, A910, H⟩ := H
                 replace H : ((impl_PlainFlag.f k4 t1124 t1125).bind fun bt1151 => (if x10_2 = x19_3 then (if t1117 = 0 then (if t1122 = 0 then (if t1126 = 0 then (if (t1119 == bt1151.1 && ((t1120 == bt1151.2.1 && (t1121 == bt1151.2.2.1)))) = true then (if t1139 = 0 then (if t1144 = 0 then (if t1149 = 0 then (if (t1141 == t1146 && ((t1142 == t1147 && (t1143 == t1148)))) = true then (some (bt1151.2.2.2 == 0)) else (some false)) else (some false)) else (some false)) else (some false)) else (some false)) else (some false)) else (some false)) else (some false)) else (some false))) = some true := H
                 have A91 := Aside0.mk A910
                 clear A910
                 replace H := Option.bind_eq_some_iff.mp H
                 obtain ⟨⟨t1151, t1152, t1153, t1154⟩, A920, H⟩ := H
                 replace H : (if x10_2 = x19_3 then (if t1117 = 0 then (if t1122 = 0 then (if t1126 = 0 then (if (t1119 == t1151 && ((t1120 == t1152 && (t1121 == t1153)))) = true then (if t1139 = 0 then (if t1144 = 0 then (if t1149 = 0 then (if (t1141 == t1146 && ((t1142 == t1147 && (t1143 == t1148)))) = true then (some (t1154 == 0)) else (some false)) else (some false)) else (some false)) else (some false)) else (some false)) else (some false)) else (some false)) else (some false)) else (some false)) = some true := H
                 have A92 := Aside0.mk A920
                 clear A920
                 by_cases c93 : x10_2 = x19_3
                 ·rw [if_pos c93] at H
                  have c93b0 : (x10_2 == x19_3) = true := beq_iff_eq.mpr c93
                  have c93b1 : (x10_2 != x19_3) = false := bne_eq_false_iff_eq.mpr c93
                  clear c93
                  by_cases c94 : t1117 = 0
                  ·rw [if_pos c94] at H
                   have c94b0 : (t1117 == 0) = true := beq_iff_eq.mpr c94
                   have c94b1 : (t1117 != 0) = false := bne_eq_false_iff_eq.mpr c94
                   clear c94
                   by_cases c95 : t1122 = 0
                   ·rw [if_pos c95] at H
                    have c95b0 : (t1122 == 0) = true := beq_iff_eq.mpr c95
                    have c95b1 : (t1122 != 0) = false := bne_eq_false_iff_eq.mpr c95
                    clear c95
                    by_cases c96 : t1126 = 0
                    ·rw [if_pos c96] at H
                     have c96b0 : (t1126 == 0) = true := beq_iff_eq.mpr c96
                     have c96b1 : (t1126 != 0) = false := bne_eq_false_iff_eq.mpr c96
                     clear c96
                     by_cases c97 : (t1119 == t1151 && ((t1120 == t1152 && (t1121 == t1153)))) = true
                     ·rw [if_pos c97] at H
                      have c97b0 : (t1119 == t1151 && ((t1120 == t1152 && (t1121 == t1153)))) = true := c97
                      (try (have c97b1 : decide (t1119 = t1151 && ((t1120 == t1152 && (t1121 == t1153)))) = true := by simpa using c97))
                      (try (have c97b2 : (t1119 == t1151 && ((t1120 == t1152 && (t1121 == t1153)))) = true := by simpa using c97))
                      clear c97
                      by_cases c98 : t1139 = 0
                      ·rw [if_pos c98] at H
                       have c98b0 : (t1139 == 0) = true := beq_iff_eq.mpr c98
                       have c98b1 : (t1139 != 0) = false := bne_eq_false_iff_eq.mpr c98
                       clear c98
                       by_cases c99 : t1144 = 0
                       ·rw [if_pos c99] at H
                        have c99b0 : (t1144 == 0) = true := beq_iff_eq.mpr c99
                        have c99b1 : (t1144 != 0) = false := bne_eq_false_iff_eq.mpr c99
                        clear c99
                        by_cases c100 : t1149 = 0
                        ·rw [if_pos c100] at H
                         have c100b0 : (t1149 == 0) = true := beq_iff_eq.mpr c100
                         have c100b1 : (t1149 != 0) = false := bne_eq_false_iff_eq.mpr c100
                         clear c100
                         by_cases c101 : (t1141 == t1146 && ((t1142 == t1147 && (t1143 == t1148)))) = true
                         ·rw [if_pos c101] at H
                          have c101b0 : (t1141 == t1146 && ((t1142 == t1147 && (t1143 == t1148)))) = true := c101
                          (try (have c101b1 : decide (t1141 = t1146 && ((t1142 == t1147 && (t1143 == t1148)))) = true := by simpa using c101))
                          (try (have c101b2 : (t1141 == t1146 && ((t1142 == t1147 && (t1143 == t1148)))) = true := by simpa using c101))
                          clear c101
                          replace H := Option.some.inj H
                          have hnb102 := NB1118_1084.out
                          have hnc102 := NB1084_1118.out
                          have hnb103 := NB1118_1123.out
                          have hnc103 := NB1123_1118.out
                          have hnb104 := NB1118_1127.out
                          have hnc104 := NB1127_1118.out
                          have hcz105_0 : wr.cell? ⟨gb1118, 0, none⟩ = some (.int .i64 t1114) := (blk_cell BK1118.out 0).trans rfl
                          have hcz105_1 : wr.cell? ⟨gb1118, 1, none⟩ = some (.int .i64 t1115) := (blk_cell BK1118.out 1).trans rfl
                          have hcz105_2 : wr.cell? ⟨gb1118, 2, none⟩ = some (.int .u32 t1116) := (blk_cell BK1118.out 2).trans rfl
                          have hfz105_0 := blk_frozen BK1118.out 0
                          have hfz105_1 := blk_frozen BK1118.out 1
                          have hfz105_2 := blk_frozen BK1118.out 2
                          obtain ⟨Ao106, co106, eo106⟩ := Kd.R_slice HO_28.out
                          subst eo106
                          go_wp2_with (first | ((with_reducible refine gate_callee (f := 50) rfl ?_); refine goesL_ (some 168) rfl rfl Try.func50 (by kernel_rfl) rfl #[.agg #[.int .i64 t1114, .int .i64 t1115, .int .u32 t1116], .slice Ao106 t1128.length co106] rfl (by (try simp only [List.map_toArray, List.map_cons, List.map_nil]); first | done | rfl | (simp only [List.length_drop, List.length_take]; rfl)) ?_; (with_reducible refine (impl_TurnLabels.calls k4 t1114 t1115 t1116 _ _ t1128 t1136 t1137 t1138 t1139 _ ?side1 ?side2 A89.out).mono ?_); (case side1 => repeat (first | exact (Kd.R_reads' HO_28.out).2.2 | (with_reducible refine Kd.C_alloc ?_ _) | (with_reducible refine Kd.C_drewN ?_ _) | (with_reducible refine Kd.C_drew ?_))); (case side2 => exact (Kd.R_reads' HO_28.out).2.1); rintro e w107 ⟨rfl, hb⟩; refine ⟨_, rfl, ?_⟩; have n0_ := Aside0.mk (Kd.R_below (by (with_reducible repeat (first | apply Kd.R_alloc | apply Kd.R_drewN | apply Kd.R_drew)); exact HO_28.out) hb); have n1_ := Aside0.mk (Kd.R_below (by (with_reducible repeat (first | apply Kd.R_alloc | apply Kd.R_drewN | apply Kd.R_drew)); exact HO_29.out) hb); have n2_ := Aside0.mk (blk_below (g := gb1084) (o := .cells #[.int .i64 t1082, .int .u32 t1083] 27 (0, 0)) (by (with_reducible repeat (first | refine blk_drewN ?_ _ | refine blk_drew ?_ | refine blk_alloc ?_ _)); exact BK1084.out) hb); have n3_ := Aside0.mk (blk_below (g := gb1118) (o := .cells #[.int .i64 t1114, .int .i64 t1115, .int .u32 t1116] 45 (0, 0)) (by (with_reducible repeat (first | refine blk_drewN ?_ _ | refine blk_drew ?_ | refine blk_alloc ?_ _)); exact BK1118.out) hb); have n4_ := Aside0.mk (blk_below (g := gb1123) (o := .cells #[.int .i64 t1119, .int .i64 t1120, .int .u32 t1121] 45 (0, 0)) (by (with_reducible repeat (first | refine blk_drewN ?_ _ | refine blk_drew ?_ | refine blk_alloc ?_ _)); exact BK1123.out) hb); have n5_ := Aside0.mk (blk_below (g := gb1127) (o := .cells #[.int .i64 t1124, .int .u32 t1125] 27 (0, 0)) (by (with_reducible repeat (first | refine blk_drewN ?_ _ | refine blk_drew ?_ | refine blk_alloc ?_ _)); exact BK1127.out) hb); have n6_ := Aside0.mk (below_step (by repeat (first | (with_reducible first | exact HB.out | apply below_alloc | apply pw_below_drewN | apply below_drew1 | refine below_set ?_ GE1084.out | refine below_set ?_ GE1118.out | refine below_set ?_ GE1123.out | refine below_set ?_ GE1127.out) | exact HB.out)) hb); clear HO_28; clear HO_29; clear BK1084; clear BK1118; clear BK1123; clear BK1127; clear HB; have HO_28 := n0_; have HO_29 := n1_; have BK1084 := n2_; have BK1118 := n3_; have BK1123 := n4_; have BK1127 := n5_; have HB := n6_; clear n0_ n1_ n2_ n3_ n4_ n5_ n6_; (try clear hb); (try clear hb2); (try clear hk); (try clear hi)) | ((with_reducible refine gate_dst (N := 31) rfl ?_); refine box_event ?hg (N := 31) ?hd (cs := #[.int .i64 0, .int .i64 0, .int .u32 0]) (t := 45) ?hr ?_; (case hd => rfl); (case hg => rfl); (case hr => first | (go_simp; done) | (go_simp; rfl)); intro gb1140 hg w108 hbox hb; have n0_ := Aside0.mk (Kd.R_below (by (with_reducible repeat (first | apply Kd.R_alloc | apply Kd.R_drewN | apply Kd.R_drew)); exact HO_28.out) hb); have n1_ := Aside0.mk (Kd.R_below (by (with_reducible repeat (first | apply Kd.R_alloc | apply Kd.R_drewN | apply Kd.R_drew)); exact HO_29.out) hb); have n2_ := Aside0.mk (blk_below (g := gb1084) (o := .cells #[.int .i64 t1082, .int .u32 t1083] 27 (0, 0)) (by (with_reducible repeat (first | refine blk_drewN ?_ _ | refine blk_drew ?_ | refine blk_alloc ?_ _)); exact BK1084.out) hb); have n3_ := Aside0.mk (blk_below (g := gb1118) (o := .cells #[.int .i64 t1114, .int .i64 t1115, .int .u32 t1116] 45 (0, 0)) (by (with_reducible repeat (first | refine blk_drewN ?_ _ | refine blk_drew ?_ | refine blk_alloc ?_ _)); exact BK1118.out) hb); have n4_ := Aside0.mk (blk_below (g := gb1123) (o := .cells #[.int .i64 t1119, .int .i64 t1120, .int .u32 t1121] 45 (0, 0)) (by (with_reducible repeat (first | refine blk_drewN ?_ _ | refine blk_drew ?_ | refine blk_alloc ?_ _)); exact BK1123.out) hb); have n5_ := Aside0.mk (blk_below (g := gb1127) (o := .cells #[.int .i64 t1124, .int .u32 t1125] 27 (0, 0)) (by (with_reducible repeat (first | refine blk_drewN ?_ _ | refine blk_drew ?_ | refine blk_alloc ?_ _)); exact BK1127.out) hb); have n6_ := Aside0.mk (below_step (by repeat (first | (with_reducible first | exact HB.out | apply below_alloc | apply pw_below_drewN | apply below_drew1 | refine below_set ?_ GE1084.out | refine below_set ?_ GE1118.out | refine below_set ?_ GE1123.out | refine below_set ?_ GE1127.out) | exact HB.out)) hb); have n7_ := Aside0.mk (hbox); have n8_ := Aside0.mk ((by rw [hg]; exact (below_size (by repeat (first | (with_reducible first | exact HB.out | apply below_alloc | apply pw_below_drewN | apply below_drew1 | refine below_set ?_ GE1084.out | refine below_set ?_ GE1118.out | refine below_set ?_ GE1123.out | refine below_set ?_ GE1127.out) | exact HB.out))) : w.heap.size ≤ gb1140)); have n9_ := n8_; have n10_ := Aside0.mk ((by rw [hg]; exact Nat.ne_of_lt (blk_lt (g := gb1084) (o := .cells #[.int .i64 t1082, .int .u32 t1083] 27 (0, 0)) (by (with_reducible repeat (first | refine blk_drewN ?_ _ | refine blk_drew ?_ | refine blk_alloc ?_ _)); exact BK1084.out)) : gb1084 ≠ gb1140)); have n11_ := Aside0.mk (Ne.symm n10_.out); have n12_ := Aside0.mk ((by rw [hg]; exact Nat.ne_of_lt (blk_lt (g := gb1118) (o := .cells #[.int .i64 t1114, .int .i64 t1115, .int .u32 t1116] 45 (0, 0)) (by (with_reducible repeat (first | refine blk_drewN ?_ _ | refine blk_drew ?_ | refine blk_alloc ?_ _)); exact BK1118.out)) : gb1118 ≠ gb1140)); have n13_ := Aside0.mk (Ne.symm n12_.out); have n14_ := Aside0.mk ((by rw [hg]; exact Nat.ne_of_lt (blk_lt (g := gb1123) (o := .cells #[.int .i64 t1119, .int .i64 t1120, .int .u32 t1121] 45 (0, 0)) (by (with_reducible repeat (first | refine blk_drewN ?_ _ | refine blk_drew ?_ | refine blk_alloc ?_ _)); exact BK1123.out)) : gb1123 ≠ gb1140)); have n15_ := Aside0.mk (Ne.symm n14_.out); have n16_ := Aside0.mk ((by rw [hg]; exact Nat.ne_of_lt (blk_lt (g := gb1127) (o := .cells #[.int .i64 t1124, .int .u32 t1125] 27 (0, 0)) (by (with_reducible repeat (first | refine blk_drewN ?_ _ | refine blk_drew ?_ | refine blk_alloc ?_ _)); exact BK1127.out)) : gb1127 ≠ gb1140)); have n17_ := Aside0.mk (Ne.symm n16_.out); clear HO_28; clear HO_29; clear BK1084; clear BK1118; clear BK1123; clear BK1127; clear HB; have HO_28 := n0_; have HO_29 := n1_; have BK1084 := n2_; have BK1118 := n3_; have BK1123 := n4_; have BK1127 := n5_; have HB := n6_; have BK1140 := n7_; have GW1140 := n8_; have GE1140 := n9_; have NB1084_1140 := n10_; have NB1140_1084 := n11_; have NB1118_1140 := n12_; have NB1140_1118 := n13_; have NB1123_1140 := n14_; have NB1140_1123 := n15_; have NB1127_1140 := n16_; have NB1140_1127 := n17_; clear n0_ n1_ n2_ n3_ n4_ n5_ n6_ n7_ n8_ n9_ n10_ n11_ n12_ n13_ n14_ n15_ n16_ n17_; clear hb hbox hg; have hnb109 := NB1140_1084.out; have hnc109 := NB1084_1140.out; have hnb110 := NB1140_1118.out; have hnc110 := NB1118_1140.out; have hnb111 := NB1140_1123.out; have hnc111 := NB1123_1140.out; have hnb112 := NB1140_1127.out; have hnc112 := NB1127_1140.out; have hcz113_0 : w108.cell? ⟨gb1140, 0, none⟩ = some (.int .i64 0) := (blk_cell BK1140.out 0).trans rfl; have hcz113_1 : w108.cell? ⟨gb1140, 1, none⟩ = some (.int .i64 0) := (blk_cell BK1140.out 1).trans rfl; have hcz113_2 : w108.cell? ⟨gb1140, 2, none⟩ = some (.int .u32 0) := (blk_cell BK1140.out 2).trans rfl; have hfz113_0 := blk_frozen BK1140.out 0; have hfz113_1 := blk_frozen BK1140.out 1; have hfz113_2 := blk_frozen BK1140.out 2; obtain ⟨Ao114, co114, eo114⟩ := Kd.R_slice HO_29.out; subst eo114) | ((with_reducible refine gate_callee (f := 50) rfl ?_); refine goesL_ (some 174) rfl rfl Try.func50 (by kernel_rfl) rfl #[.agg #[.int .i64 t1136, .int .i64 t1137, .int .u32 t1138], .slice Ao114 x29_4.length co114] rfl (by (try simp only [List.map_toArray, List.map_cons, List.map_nil]); first | done | rfl | (simp only [List.length_drop, List.length_take]; rfl)) ?_; (with_reducible refine (impl_TurnLabels.calls k4 t1136 t1137 t1138 _ _ x29_4 t1141 t1142 t1143 t1144 _ ?side1 ?side2 A90.out).mono ?_); (case side1 => refine (Kd.R_reads' (e := 2) (base := w.heap.size) (ok := fun k_ => some k_ ≠ (.slice Ao106 t1128.length co106 : Value).ownBlock) (n := x29_4.length) (c := co114) ?_).2.2; exact (by (with_reducible repeat (first | apply Kd.R_alloc | apply Kd.R_drewN | apply Kd.R_drew)); exact (Kd.R_mono (Kd.R_far (p := ⟨gb1140, 2, none⟩) (Kd.R_far (p := ⟨gb1140, 1, none⟩) (Kd.R_far (p := ⟨gb1140, 0, none⟩) (Kd.R_types HO_29.out BK1140.out (by decide)) (fun _ hk => hk.2) (.int .i64 t1136)) (fun _ hk => hk.2) (.int .i64 t1137)) (fun _ hk => hk.2) (.int .u32 t1138)) (fun _ h_ => h_.1)))); (case side2 => exact (Kd.R_reads' HO_29.out).2.1); rintro e w115 ⟨rfl, hb⟩; refine ⟨_, rfl, ?_⟩; have n0_ := Aside0.mk (Kd.R_below (by (with_reducible repeat (first | apply Kd.R_alloc | apply Kd.R_drewN | apply Kd.R_drew)); exact (Kd.R_mono (Kd.R_far (p := ⟨gb1140, 2, none⟩) (Kd.R_far (p := ⟨gb1140, 1, none⟩) (Kd.R_far (p := ⟨gb1140, 0, none⟩) (Kd.R_types HO_28.out BK1140.out (by decide)) (fun _ hk => hk.2) (.int .i64 t1136)) (fun _ hk => hk.2) (.int .i64 t1137)) (fun _ hk => hk.2) (.int .u32 t1138)) (fun _ h_ => h_.1))) hb); have n1_ := Aside0.mk (Kd.R_below (by (with_reducible repeat (first | apply Kd.R_alloc | apply Kd.R_drewN | apply Kd.R_drew)); exact (Kd.R_mono (Kd.R_far (p := ⟨gb1140, 2, none⟩) (Kd.R_far (p := ⟨gb1140, 1, none⟩) (Kd.R_far (p := ⟨gb1140, 0, none⟩) (Kd.R_types HO_29.out BK1140.out (by decide)) (fun _ hk => hk.2) (.int .i64 t1136)) (fun _ hk => hk.2) (.int .i64 t1137)) (fun _ hk => hk.2) (.int .u32 t1138)) (fun _ h_ => h_.1))) hb); have n2_ := Aside0.mk (blk_below (g := gb1084) (o := .cells #[.int .i64 t1082, .int .u32 t1083] 27 (0, 0)) (by (with_reducible repeat (first | refine blk_drewN ?_ _ | refine blk_drew ?_ | refine blk_alloc ?_ _)); refine blk_far ?_ NB1084_1140.out _; (with_reducible repeat (first | refine blk_drewN ?_ _ | refine blk_drew ?_ | refine blk_alloc ?_ _)); refine blk_far ?_ NB1084_1140.out _; (with_reducible repeat (first | refine blk_drewN ?_ _ | refine blk_drew ?_ | refine blk_alloc ?_ _)); refine blk_far ?_ NB1084_1140.out _; (with_reducible repeat (first | refine blk_drewN ?_ _ | refine blk_drew ?_ | refine blk_alloc ?_ _)); exact BK1084.out) hb); have n3_ := Aside0.mk (blk_below (g := gb1118) (o := .cells #[.int .i64 t1114, .int .i64 t1115, .int .u32 t1116] 45 (0, 0)) (by (with_reducible repeat (first | refine blk_drewN ?_ _ | refine blk_drew ?_ | refine blk_alloc ?_ _)); refine blk_far ?_ NB1118_1140.out _; (with_reducible repeat (first | refine blk_drewN ?_ _ | refine blk_drew ?_ | refine blk_alloc ?_ _)); refine blk_far ?_ NB1118_1140.out _; (with_reducible repeat (first | refine blk_drewN ?_ _ | refine blk_drew ?_ | refine blk_alloc ?_ _)); refine blk_far ?_ NB1118_1140.out _; (with_reducible repeat (first | refine blk_drewN ?_ _ | refine blk_drew ?_ | refine blk_alloc ?_ _)); exact BK1118.out) hb); have n4_ := Aside0.mk (blk_below (g := gb1123) (o := .cells #[.int .i64 t1119, .int .i64 t1120, .int .u32 t1121] 45 (0, 0)) (by (with_reducible repeat (first | refine blk_drewN ?_ _ | refine blk_drew ?_ | refine blk_alloc ?_ _)); refine blk_far ?_ NB1123_1140.out _; (with_reducible repeat (first | refine blk_drewN ?_ _ | refine blk_drew ?_ | refine blk_alloc ?_ _)); refine blk_far ?_ NB1123_1140.out _; (with_reducible repeat (first | refine blk_drewN ?_ _ | refine blk_drew ?_ | refine blk_alloc ?_ _)); refine blk_far ?_ NB1123_1140.out _; (with_reducible repeat (first | refine blk_drewN ?_ _ | refine blk_drew ?_ | refine blk_alloc ?_ _)); exact BK1123.out) hb); have n5_ := Aside0.mk (blk_below (g := gb1127) (o := .cells #[.int .i64 t1124, .int .u32 t1125] 27 (0, 0)) (by (with_reducible repeat (first | refine blk_drewN ?_ _ | refine blk_drew ?_ | refine blk_alloc ?_ _)); refine blk_far ?_ NB1127_1140.out _; (with_reducible repeat (first | refine blk_drewN ?_ _ | refine blk_drew ?_ | refine blk_alloc ?_ _)); refine blk_far ?_ NB1127_1140.out _; (with_reducible repeat (first | refine blk_drewN ?_ _ | refine blk_drew ?_ | refine blk_alloc ?_ _)); refine blk_far ?_ NB1127_1140.out _; (with_reducible repeat (first | refine blk_drewN ?_ _ | refine blk_drew ?_ | refine blk_alloc ?_ _)); exact BK1127.out) hb); have n6_ := Aside0.mk (blk_below (g := gb1140) (o := .cells #[.int .i64 t1136, .int .i64 t1137, .int .u32 t1138] 45 (0, 0)) (by (with_reducible repeat (first | refine blk_drewN ?_ _ | refine blk_drew ?_ | refine blk_alloc ?_ _)); refine blk_put (cs := #[.int .i64 t1136, .int .i64 t1137, .int .u32 0]) ?_ 2 _ rfl; (with_reducible repeat (first | refine blk_drewN ?_ _ | refine blk_drew ?_ | refine blk_alloc ?_ _)); refine blk_put (cs := #[.int .i64 t1136, .int .i64 0, .int .u32 0]) ?_ 1 _ rfl; (with_reducible repeat (first | refine blk_drewN ?_ _ | refine blk_drew ?_ | refine blk_alloc ?_ _)); refine blk_put (cs := #[.int .i64 0, .int .i64 0, .int .u32 0]) ?_ 0 _ rfl; (with_reducible repeat (first | refine blk_drewN ?_ _ | refine blk_drew ?_ | refine blk_alloc ?_ _)); exact BK1140.out) hb); have n7_ := Aside0.mk (below_step (by repeat (first | (with_reducible first | exact HB.out | apply below_alloc | apply pw_below_drewN | apply below_drew1 | refine below_set ?_ GE1084.out | refine below_set ?_ GE1118.out | refine below_set ?_ GE1123.out | refine below_set ?_ GE1127.out | refine below_set ?_ GE1140.out) | exact HB.out)) hb); clear HO_28; clear HO_29; clear BK1084; clear BK1118; clear BK1123; clear BK1127; clear BK1140; clear HB; have HO_28 := n0_; have HO_29 := n1_; have BK1084 := n2_; have BK1118 := n3_; have BK1123 := n4_; have BK1127 := n5_; have BK1140 := n6_; have HB := n7_; clear n0_ n1_ n2_ n3_ n4_ n5_ n6_ n7_; (try clear hb); (try clear hb2); (try clear hk); (try clear hi)) | ((with_reducible refine gate_dst (N := 33) rfl ?_); refine box_event ?hg (N := 33) ?hd (cs := #[.int .i64 0, .int .i64 0, .int .u32 0]) (t := 45) ?hr ?_; (case hd => rfl); (case hg => rfl); (case hr => first | (go_simp; done) | (go_simp; rfl)); intro gb1145 hg w116 hbox hb; have n0_ := Aside0.mk (Kd.R_below (by (with_reducible repeat (first | apply Kd.R_alloc | apply Kd.R_drewN | apply Kd.R_drew)); exact HO_28.out) hb); have n1_ := Aside0.mk (Kd.R_below (by (with_reducible repeat (first | apply Kd.R_alloc | apply Kd.R_drewN | apply Kd.R_drew)); exact HO_29.out) hb); have n2_ := Aside0.mk (blk_below (g := gb1084) (o := .cells #[.int .i64 t1082, .int .u32 t1083] 27 (0, 0)) (by (with_reducible repeat (first | refine blk_drewN ?_ _ | refine blk_drew ?_ | refine blk_alloc ?_ _)); exact BK1084.out) hb); have n3_ := Aside0.mk (blk_below (g := gb1118) (o := .cells #[.int .i64 t1114, .int .i64 t1115, .int .u32 t1116] 45 (0, 0)) (by (with_reducible repeat (first | refine blk_drewN ?_ _ | refine blk_drew ?_ | refine blk_alloc ?_ _)); exact BK1118.out) hb); have n4_ := Aside0.mk (blk_below (g := gb1123) (o := .cells #[.int .i64 t1119, .int .i64 t1120, .int .u32 t1121] 45 (0, 0)) (by (with_reducible repeat (first | refine blk_drewN ?_ _ | refine blk_drew ?_ | refine blk_alloc ?_ _)); exact BK1123.out) hb); have n5_ := Aside0.mk (blk_below (g := gb1127) (o := .cells #[.int .i64 t1124, .int .u32 t1125] 27 (0, 0)) (by (with_reducible repeat (first | refine blk_drewN ?_ _ | refine blk_drew ?_ | refine blk_alloc ?_ _)); exact BK1127.out) hb); have n6_ := Aside0.mk (blk_below (g := gb1140) (o := .cells #[.int .i64 t1136, .int .i64 t1137, .int .u32 t1138] 45 (0, 0)) (by (with_reducible repeat (first | refine blk_drewN ?_ _ | refine blk_drew ?_ | refine blk_alloc ?_ _)); exact BK1140.out) hb); have n7_ := Aside0.mk (below_step (by repeat (first | (with_reducible first | exact HB.out | apply below_alloc | apply pw_below_drewN | apply below_drew1 | refine below_set ?_ GE1084.out | refine below_set ?_ GE1118.out | refine below_set ?_ GE1123.out | refine below_set ?_ GE1127.out | refine below_set ?_ GE1140.out) | exact HB.out)) hb); have n8_ := Aside0.mk (hbox); have n9_ := Aside0.mk ((by rw [hg]; exact (below_size (by repeat (first | (with_reducible first | exact HB.out | apply below_alloc | apply pw_below_drewN | apply below_drew1 | refine below_set ?_ GE1084.out | refine below_set ?_ GE1118.out | refine below_set ?_ GE1123.out | refine below_set ?_ GE1127.out | refine below_set ?_ GE1140.out) | exact HB.out))) : w.heap.size ≤ gb1145)); have n10_ := n9_; have n11_ := Aside0.mk ((by rw [hg]; exact Nat.ne_of_lt (blk_lt (g := gb1084) (o := .cells #[.int .i64 t1082, .int .u32 t1083] 27 (0, 0)) (by (with_reducible repeat (first | refine blk_drewN ?_ _ | refine blk_drew ?_ | refine blk_alloc ?_ _)); exact BK1084.out)) : gb1084 ≠ gb1145)); have n12_ := Aside0.mk (Ne.symm n11_.out); have n13_ := Aside0.mk ((by rw [hg]; exact Nat.ne_of_lt (blk_lt (g := gb1118) (o := .cells #[.int .i64 t1114, .int .i64 t1115, .int .u32 t1116] 45 (0, 0)) (by (with_reducible repeat (first | refine blk_drewN ?_ _ | refine blk_drew ?_ | refine blk_alloc ?_ _)); exact BK1118.out)) : gb1118 ≠ gb1145)); have n14_ := Aside0.mk (Ne.symm n13_.out); have n15_ := Aside0.mk ((by rw [hg]; exact Nat.ne_of_lt (blk_lt (g := gb1123) (o := .cells #[.int .i64 t1119, .int .i64 t1120, .int .u32 t1121] 45 (0, 0)) (by (with_reducible repeat (first | refine blk_drewN ?_ _ | refine blk_drew ?_ | refine blk_alloc ?_ _)); exact BK1123.out)) : gb1123 ≠ gb1145)); have n16_ := Aside0.mk (Ne.symm n15_.out); have n17_ := Aside0.mk ((by rw [hg]; exact Nat.ne_of_lt (blk_lt (g := gb1127) (o := .cells #[.int .i64 t1124, .int .u32 t1125] 27 (0, 0)) (by (with_reducible repeat (first | refine blk_drewN ?_ _ | refine blk_drew ?_ | refine blk_alloc ?_ _)); exact BK1127.out)) : gb1127 ≠ gb1145)); have n18_ := Aside0.mk (Ne.symm n17_.out); have n19_ := Aside0.mk ((by rw [hg]; exact Nat.ne_of_lt (blk_lt (g := gb1140) (o := .cells #[.int .i64 t1136, .int .i64 t1137, .int .u32 t1138] 45 (0, 0)) (by (with_reducible repeat (first | refine blk_drewN ?_ _ | refine blk_drew ?_ | refine blk_alloc ?_ _)); exact BK1140.out)) : gb1140 ≠ gb1145)); have n20_ := Aside0.mk (Ne.symm n19_.out); clear HO_28; clear HO_29; clear BK1084; clear BK1118; clear BK1123; clear BK1127; clear BK1140; clear HB; have HO_28 := n0_; have HO_29 := n1_; have BK1084 := n2_; have BK1118 := n3_; have BK1123 := n4_; have BK1127 := n5_; have BK1140 := n6_; have HB := n7_; have BK1145 := n8_; have GW1145 := n9_; have GE1145 := n10_; have NB1084_1145 := n11_; have NB1145_1084 := n12_; have NB1118_1145 := n13_; have NB1145_1118 := n14_; have NB1123_1145 := n15_; have NB1145_1123 := n16_; have NB1127_1145 := n17_; have NB1145_1127 := n18_; have NB1140_1145 := n19_; have NB1145_1140 := n20_; clear n0_ n1_ n2_ n3_ n4_ n5_ n6_ n7_ n8_ n9_ n10_ n11_ n12_ n13_ n14_ n15_ n16_ n17_ n18_ n19_ n20_; clear hb hbox hg; have hnb117 := NB1145_1084.out; have hnc117 := NB1084_1145.out; have hnb118 := NB1145_1118.out; have hnc118 := NB1118_1145.out; have hnb119 := NB1145_1123.out; have hnc119 := NB1123_1145.out; have hnb120 := NB1145_1127.out; have hnc120 := NB1127_1145.out; have hnb121 := NB1145_1140.out; have hnc121 := NB1140_1145.out; have hcz122_0 : w116.cell? ⟨gb1145, 0, none⟩ = some (.int .i64 0) := (blk_cell BK1145.out 0).trans rfl; have hcz122_1 : w116.cell? ⟨gb1145, 1, none⟩ = some (.int .i64 0) := (blk_cell BK1145.out 1).trans rfl; have hcz122_2 : w116.cell? ⟨gb1145, 2, none⟩ = some (.int .u32 0) := (blk_cell BK1145.out 2).trans rfl; have hfz122_0 := blk_frozen BK1145.out 0; have hfz122_1 := blk_frozen BK1145.out 1; have hfz122_2 := blk_frozen BK1145.out 2; have hcz123_0 : w116.cell? ⟨gb1118, 0, none⟩ = some (.int .i64 t1114) := (blk_cell BK1118.out 0).trans rfl; have hcz123_1 : w116.cell? ⟨gb1118, 1, none⟩ = some (.int .i64 t1115) := (blk_cell BK1118.out 1).trans rfl; have hcz123_2 : w116.cell? ⟨gb1118, 2, none⟩ = some (.int .u32 t1116) := (blk_cell BK1118.out 2).trans rfl; have hfz123_0 := blk_frozen BK1118.out 0; have hfz123_1 := blk_frozen BK1118.out 1; have hfz123_2 := blk_frozen BK1118.out 2) | ((with_reducible refine gate_callee (f := 51) rfl ?_); refine goesL_ (some 179) rfl rfl Try.func51 (by kernel_rfl) rfl #[.agg #[.int .i64 t1114, .int .i64 t1115, .int .u32 t1116]] rfl (by (try simp only [List.map_toArray, List.map_cons, List.map_nil]); first | done | rfl | (simp only [List.length_drop, List.length_take]; rfl)) ?_; (with_reducible refine (impl_LeastFlag.calls t1114 t1115 t1116 t1146 t1147 t1148 t1149 _ A91.out).mono ?_); rintro e w124 ⟨rfl, hb⟩; refine ⟨_, rfl, ?_⟩; have n0_ := Aside0.mk (Kd.R_below (by (with_reducible repeat (first | apply Kd.R_alloc | apply Kd.R_drewN | apply Kd.R_drew)); exact (Kd.R_mono (Kd.R_far (p := ⟨gb1145, 2, none⟩) (Kd.R_far (p := ⟨gb1145, 1, none⟩) (Kd.R_far (p := ⟨gb1145, 0, none⟩) (Kd.R_types HO_28.out BK1145.out (by decide)) (fun _ hk => hk.2) (.int .i64 t1141)) (fun _ hk => hk.2) (.int .i64 t1142)) (fun _ hk => hk.2) (.int .u32 t1143)) (fun _ h_ => h_.1))) hb); have n1_ := Aside0.mk (Kd.R_below (by (with_reducible repeat (first | apply Kd.R_alloc | apply Kd.R_drewN | apply Kd.R_drew)); exact (Kd.R_mono (Kd.R_far (p := ⟨gb1145, 2, none⟩) (Kd.R_far (p := ⟨gb1145, 1, none⟩) (Kd.R_far (p := ⟨gb1145, 0, none⟩) (Kd.R_types HO_29.out BK1145.out (by decide)) (fun _ hk => hk.2) (.int .i64 t1141)) (fun _ hk => hk.2) (.int .i64 t1142)) (fun _ hk => hk.2) (.int .u32 t1143)) (fun _ h_ => h_.1))) hb); have n2_ := Aside0.mk (blk_below (g := gb1084) (o := .cells #[.int .i64 t1082, .int .u32 t1083] 27 (0, 0)) (by (with_reducible repeat (first | refine blk_drewN ?_ _ | refine blk_drew ?_ | refine blk_alloc ?_ _)); refine blk_far ?_ NB1084_1145.out _; (with_reducible repeat (first | refine blk_drewN ?_ _ | refine blk_drew ?_ | refine blk_alloc ?_ _)); refine blk_far ?_ NB1084_1145.out _; (with_reducible repeat (first | refine blk_drewN ?_ _ | refine blk_drew ?_ | refine blk_alloc ?_ _)); refine blk_far ?_ NB1084_1145.out _; (with_reducible repeat (first | refine blk_drewN ?_ _ | refine blk_drew ?_ | refine blk_alloc ?_ _)); exact BK1084.out) hb); have n3_ := Aside0.mk (blk_below (g := gb1118) (o := .cells #[.int .i64 t1114, .int .i64 t1115, .int .u32 t1116] 45 (0, 0)) (by (with_reducible repeat (first | refine blk_drewN ?_ _ | refine blk_drew ?_ | refine blk_alloc ?_ _)); refine blk_far ?_ NB1118_1145.out _; (with_reducible repeat (first | refine blk_drewN ?_ _ | refine blk_drew ?_ | refine blk_alloc ?_ _)); refine blk_far ?_ NB1118_1145.out _; (with_reducible repeat (first | refine blk_drewN ?_ _ | refine blk_drew ?_ | refine blk_alloc ?_ _)); refine blk_far ?_ NB1118_1145.out _; (with_reducible repeat (first | refine blk_drewN ?_ _ | refine blk_drew ?_ | refine blk_alloc ?_ _)); exact BK1118.out) hb); have n4_ := Aside0.mk (blk_below (g := gb1123) (o := .cells #[.int .i64 t1119, .int .i64 t1120, .int .u32 t1121] 45 (0, 0)) (by (with_reducible repeat (first | refine blk_drewN ?_ _ | refine blk_drew ?_ | refine blk_alloc ?_ _)); refine blk_far ?_ NB1123_1145.out _; (with_reducible repeat (first | refine blk_drewN ?_ _ | refine blk_drew ?_ | refine blk_alloc ?_ _)); refine blk_far ?_ NB1123_1145.out _; (with_reducible repeat (first | refine blk_drewN ?_ _ | refine blk_drew ?_ | refine blk_alloc ?_ _)); refine blk_far ?_ NB1123_1145.out _; (with_reducible repeat (first | refine blk_drewN ?_ _ | refine blk_drew ?_ | refine blk_alloc ?_ _)); exact BK1123.out) hb); have n5_ := Aside0.mk (blk_below (g := gb1127) (o := .cells #[.int .i64 t1124, .int .u32 t1125] 27 (0, 0)) (by (with_reducible repeat (first | refine blk_drewN ?_ _ | refine blk_drew ?_ | refine blk_alloc ?_ _)); refine blk_far ?_ NB1127_1145.out _; (with_reducible repeat (first | refine blk_drewN ?_ _ | refine blk_drew ?_ | refine blk_alloc ?_ _)); refine blk_far ?_ NB1127_1145.out _; (with_reducible repeat (first | refine blk_drewN ?_ _ | refine blk_drew ?_ | refine blk_alloc ?_ _)); refine blk_far ?_ NB1127_1145.out _; (with_reducible repeat (first | refine blk_drewN ?_ _ | refine blk_drew ?_ | refine blk_alloc ?_ _)); exact BK1127.out) hb); have n6_ := Aside0.mk (blk_below (g := gb1140) (o := .cells #[.int .i64 t1136, .int .i64 t1137, .int .u32 t1138] 45 (0, 0)) (by (with_reducible repeat (first | refine blk_drewN ?_ _ | refine blk_drew ?_ | refine blk_alloc ?_ _)); refine blk_far ?_ NB1140_1145.out _; (with_reducible repeat (first | refine blk_drewN ?_ _ | refine blk_drew ?_ | refine blk_alloc ?_ _)); refine blk_far ?_ NB1140_1145.out _; (with_reducible repeat (first | refine blk_drewN ?_ _ | refine blk_drew ?_ | refine blk_alloc ?_ _)); refine blk_far ?_ NB1140_1145.out _; (with_reducible repeat (first | refine blk_drewN ?_ _ | refine blk_drew ?_ | refine blk_alloc ?_ _)); exact BK1140.out) hb); have n7_ := Aside0.mk (blk_below (g := gb1145) (o := .cells #[.int .i64 t1141, .int .i64 t1142, .int .u32 t1143] 45 (0, 0)) (by (with_reducible repeat (first | refine blk_drewN ?_ _ | refine blk_drew ?_ | refine blk_alloc ?_ _)); refine blk_put (cs := #[.int .i64 t1141, .int .i64 t1142, .int .u32 0]) ?_ 2 _ rfl; (with_reducible repeat (first | refine blk_drewN ?_ _ | refine blk_drew ?_ | refine blk_alloc ?_ _)); refine blk_put (cs := #[.int .i64 t1141, .int .i64 0, .int .u32 0]) ?_ 1 _ rfl; (with_reducible repeat (first | refine blk_drewN ?_ _ | refine blk_drew ?_ | refine blk_alloc ?_ _)); refine blk_put (cs := #[.int .i64 0, .int .i64 0, .int .u32 0]) ?_ 0 _ rfl; (with_reducible repeat (first | refine blk_drewN ?_ _ | refine blk_drew ?_ | refine blk_alloc ?_ _)); exact BK1145.out) hb); have n8_ := Aside0.mk (below_step (by repeat (first | (with_reducible first | exact HB.out | apply below_alloc | apply pw_below_drewN | apply below_drew1 | refine below_set ?_ GE1084.out | refine below_set ?_ GE1118.out | refine below_set ?_ GE1123.out | refine below_set ?_ GE1127.out | refine below_set ?_ GE1140.out | refine below_set ?_ GE1145.out) | exact HB.out)) hb); clear HO_28; clear HO_29; clear BK1084; clear BK1118; clear BK1123; clear BK1127; clear BK1140; clear BK1145; clear HB; have HO_28 := n0_; have HO_29 := n1_; have BK1084 := n2_; have BK1118 := n3_; have BK1123 := n4_; have BK1127 := n5_; have BK1140 := n6_; have BK1145 := n7_; have HB := n8_; clear n0_ n1_ n2_ n3_ n4_ n5_ n6_ n7_ n8_; (try clear hb); (try clear hb2); (try clear hk); (try clear hi)) | ((with_reducible refine gate_dst (N := 35) rfl ?_); refine box_event ?hg (N := 35) ?hd (cs := #[.int .i64 0, .int .i64 0, .int .u32 0]) (t := 45) ?hr ?_; (case hd => rfl); (case hg => rfl); (case hr => first | (go_simp; done) | (go_simp; rfl)); intro gb1150 hg w125 hbox hb; have n0_ := Aside0.mk (Kd.R_below (by (with_reducible repeat (first | apply Kd.R_alloc | apply Kd.R_drewN | apply Kd.R_drew)); exact HO_28.out) hb); have n1_ := Aside0.mk (Kd.R_below (by (with_reducible repeat (first | apply Kd.R_alloc | apply Kd.R_drewN | apply Kd.R_drew)); exact HO_29.out) hb); have n2_ := Aside0.mk (blk_below (g := gb1084) (o := .cells #[.int .i64 t1082, .int .u32 t1083] 27 (0, 0)) (by (with_reducible repeat (first | refine blk_drewN ?_ _ | refine blk_drew ?_ | refine blk_alloc ?_ _)); exact BK1084.out) hb); have n3_ := Aside0.mk (blk_below (g := gb1118) (o := .cells #[.int .i64 t1114, .int .i64 t1115, .int .u32 t1116] 45 (0, 0)) (by (with_reducible repeat (first | refine blk_drewN ?_ _ | refine blk_drew ?_ | refine blk_alloc ?_ _)); exact BK1118.out) hb); have n4_ := Aside0.mk (blk_below (g := gb1123) (o := .cells #[.int .i64 t1119, .int .i64 t1120, .int .u32 t1121] 45 (0, 0)) (by (with_reducible repeat (first | refine blk_drewN ?_ _ | refine blk_drew ?_ | refine blk_alloc ?_ _)); exact BK1123.out) hb); have n5_ := Aside0.mk (blk_below (g := gb1127) (o := .cells #[.int .i64 t1124, .int .u32 t1125] 27 (0, 0)) (by (with_reducible repeat (first | refine blk_drewN ?_ _ | refine blk_drew ?_ | refine blk_alloc ?_ _)); exact BK1127.out) hb); have n6_ := Aside0.mk (blk_below (g := gb1140) (o := .cells #[.int .i64 t1136, .int .i64 t1137, .int .u32 t1138] 45 (0, 0)) (by (with_reducible repeat (first | refine blk_drewN ?_ _ | refine blk_drew ?_ | refine blk_alloc ?_ _)); exact BK1140.out) hb); have n7_ := Aside0.mk (blk_below (g := gb1145) (o := .cells #[.int .i64 t1141, .int .i64 t1142, .int .u32 t1143] 45 (0, 0)) (by (with_reducible repeat (first | refine blk_drewN ?_ _ | refine blk_drew ?_ | refine blk_alloc ?_ _)); exact BK1145.out) hb); have n8_ := Aside0.mk (below_step (by repeat (first | (with_reducible first | exact HB.out | apply below_alloc | apply pw_below_drewN | apply below_drew1 | refine below_set ?_ GE1084.out | refine below_set ?_ GE1118.out | refine below_set ?_ GE1123.out | refine below_set ?_ GE1127.out | refine below_set ?_ GE1140.out | refine below_set ?_ GE1145.out) | exact HB.out)) hb); have n9_ := Aside0.mk (hbox); have n10_ := Aside0.mk ((by rw [hg]; exact (below_size (by repeat (first | (with_reducible first | exact HB.out | apply below_alloc | apply pw_below_drewN | apply below_drew1 | refine below_set ?_ GE1084.out | refine below_set ?_ GE1118.out | refine below_set ?_ GE1123.out | refine below_set ?_ GE1127.out | refine below_set ?_ GE1140.out | refine below_set ?_ GE1145.out) | exact HB.out))) : w.heap.size ≤ gb1150)); have n11_ := n10_; have n12_ := Aside0.mk ((by rw [hg]; exact Nat.ne_of_lt (blk_lt (g := gb1084) (o := .cells #[.int .i64 t1082, .int .u32 t1083] 27 (0, 0)) (by (with_reducible repeat (first | refine blk_drewN ?_ _ | refine blk_drew ?_ | refine blk_alloc ?_ _)); exact BK1084.out)) : gb1084 ≠ gb1150)); have n13_ := Aside0.mk (Ne.symm n12_.out); have n14_ := Aside0.mk ((by rw [hg]; exact Nat.ne_of_lt (blk_lt (g := gb1118) (o := .cells #[.int .i64 t1114, .int .i64 t1115, .int .u32 t1116] 45 (0, 0)) (by (with_reducible repeat (first | refine blk_drewN ?_ _ | refine blk_drew ?_ | refine blk_alloc ?_ _)); exact BK1118.out)) : gb1118 ≠ gb1150)); have n15_ := Aside0.mk (Ne.symm n14_.out); have n16_ := Aside0.mk ((by rw [hg]; exact Nat.ne_of_lt (blk_lt (g := gb1123) (o := .cells #[.int .i64 t1119, .int .i64 t1120, .int .u32 t1121] 45 (0, 0)) (by (with_reducible repeat (first | refine blk_drewN ?_ _ | refine blk_drew ?_ | refine blk_alloc ?_ _)); exact BK1123.out)) : gb1123 ≠ gb1150)); have n17_ := Aside0.mk (Ne.symm n16_.out); have n18_ := Aside0.mk ((by rw [hg]; exact Nat.ne_of_lt (blk_lt (g := gb1127) (o := .cells #[.int .i64 t1124, .int .u32 t1125] 27 (0, 0)) (by (with_reducible repeat (first | refine blk_drewN ?_ _ | refine blk_drew ?_ | refine blk_alloc ?_ _)); exact BK1127.out)) : gb1127 ≠ gb1150)); have n19_ := Aside0.mk (Ne.symm n18_.out); have n20_ := Aside0.mk ((by rw [hg]; exact Nat.ne_of_lt (blk_lt (g := gb1140) (o := .cells #[.int .i64 t1136, .int .i64 t1137, .int .u32 t1138] 45 (0, 0)) (by (with_reducible repeat (first | refine blk_drewN ?_ _ | refine blk_drew ?_ | refine blk_alloc ?_ _)); exact BK1140.out)) : gb1140 ≠ gb1150)); have n21_ := Aside0.mk (Ne.symm n20_.out); have n22_ := Aside0.mk ((by rw [hg]; exact Nat.ne_of_lt (blk_lt (g := gb1145) (o := .cells #[.int .i64 t1141, .int .i64 t1142, .int .u32 t1143] 45 (0, 0)) (by (with_reducible repeat (first | refine blk_drewN ?_ _ | refine blk_drew ?_ | refine blk_alloc ?_ _)); exact BK1145.out)) : gb1145 ≠ gb1150)); have n23_ := Aside0.mk (Ne.symm n22_.out); clear HO_28; clear HO_29; clear BK1084; clear BK1118; clear BK1123; clear BK1127; clear BK1140; clear BK1145; clear HB; have HO_28 := n0_; have HO_29 := n1_; have BK1084 := n2_; have BK1118 := n3_; have BK1123 := n4_; have BK1127 := n5_; have BK1140 := n6_; have BK1145 := n7_; have HB := n8_; have BK1150 := n9_; have GW1150 := n10_; have GE1150 := n11_; have NB1084_1150 := n12_; have NB1150_1084 := n13_; have NB1118_1150 := n14_; have NB1150_1118 := n15_; have NB1123_1150 := n16_; have NB1150_1123 := n17_; have NB1127_1150 := n18_; have NB1150_1127 := n19_; have NB1140_1150 := n20_; have NB1150_1140 := n21_; have NB1145_1150 := n22_; have NB1150_1145 := n23_; clear n0_ n1_ n2_ n3_ n4_ n5_ n6_ n7_ n8_ n9_ n10_ n11_ n12_ n13_ n14_ n15_ n16_ n17_ n18_ n19_ n20_ n21_ n22_ n23_; clear hb hbox hg; have hnb126 := NB1150_1084.out; have hnc126 := NB1084_1150.out; have hnb127 := NB1150_1118.out; have hnc127 := NB1118_1150.out; have hnb128 := NB1150_1123.out; have hnc128 := NB1123_1150.out; have hnb129 := NB1150_1127.out; have hnc129 := NB1127_1150.out; have hnb130 := NB1150_1140.out; have hnc130 := NB1140_1150.out; have hnb131 := NB1150_1145.out; have hnc131 := NB1145_1150.out; have hcz132_0 : w125.cell? ⟨gb1150, 0, none⟩ = some (.int .i64 0) := (blk_cell BK1150.out 0).trans rfl; have hcz132_1 : w125.cell? ⟨gb1150, 1, none⟩ = some (.int .i64 0) := (blk_cell BK1150.out 1).trans rfl; have hcz132_2 : w125.cell? ⟨gb1150, 2, none⟩ = some (.int .u32 0) := (blk_cell BK1150.out 2).trans rfl; have hfz132_0 := blk_frozen BK1150.out 0; have hfz132_1 := blk_frozen BK1150.out 1; have hfz132_2 := blk_frozen BK1150.out 2; have hnb133 := NB1127_1084.out; have hnc133 := NB1084_1127.out; have hnb134 := NB1127_1123.out; have hnc134 := NB1123_1127.out; have hcz135_0 : w125.cell? ⟨gb1127, 0, none⟩ = some (.int .i64 t1124) := (blk_cell BK1127.out 0).trans rfl; have hcz135_1 : w125.cell? ⟨gb1127, 1, none⟩ = some (.int .u32 t1125) := (blk_cell BK1127.out 1).trans rfl; have hfz135_0 := blk_frozen BK1127.out 0; have hfz135_1 := blk_frozen BK1127.out 1) | ((with_reducible refine gate_callee (f := 52) rfl ?_); refine goesL_ (some 184) rfl rfl Try.func52 (by kernel_rfl) rfl #[.agg #[.int .i64 t1124, .int .u32 t1125]] rfl (by (try simp only [List.map_toArray, List.map_cons, List.map_nil]); first | done | rfl | (simp only [List.length_drop, List.length_take]; rfl)) ?_; (with_reducible refine (impl_PlainFlag.calls k4 t1124 t1125 t1151 t1152 t1153 t1154 _ A92.out).mono ?_); rintro e w136 ⟨rfl, hb⟩; refine ⟨_, rfl, ?_⟩; have n0_ := Aside0.mk (Kd.R_below (by (with_reducible repeat (first | apply Kd.R_alloc | apply Kd.R_drewN | apply Kd.R_drew)); exact (Kd.R_mono (Kd.R_far (p := ⟨gb1150, 2, none⟩) (Kd.R_far (p := ⟨gb1150, 1, none⟩) (Kd.R_far (p := ⟨gb1150, 0, none⟩) (Kd.R_types HO_28.out BK1150.out (by decide)) (fun _ hk => hk.2) (.int .i64 t1146)) (fun _ hk => hk.2) (.int .i64 t1147)) (fun _ hk => hk.2) (.int .u32 t1148)) (fun _ h_ => h_.1))) hb); have n1_ := Aside0.mk (Kd.R_below (by (with_reducible repeat (first | apply Kd.R_alloc | apply Kd.R_drewN | apply Kd.R_drew)); exact (Kd.R_mono (Kd.R_far (p := ⟨gb1150, 2, none⟩) (Kd.R_far (p := ⟨gb1150, 1, none⟩) (Kd.R_far (p := ⟨gb1150, 0, none⟩) (Kd.R_types HO_29.out BK1150.out (by decide)) (fun _ hk => hk.2) (.int .i64 t1146)) (fun _ hk => hk.2) (.int .i64 t1147)) (fun _ hk => hk.2) (.int .u32 t1148)) (fun _ h_ => h_.1))) hb); have n2_ := Aside0.mk (blk_below (g := gb1084) (o := .cells #[.int .i64 t1082, .int .u32 t1083] 27 (0, 0)) (by (with_reducible repeat (first | refine blk_drewN ?_ _ | refine blk_drew ?_ | refine blk_alloc ?_ _)); refine blk_far ?_ NB1084_1150.out _; (with_reducible repeat (first | refine blk_drewN ?_ _ | refine blk_drew ?_ | refine blk_alloc ?_ _)); refine blk_far ?_ NB1084_1150.out _; (with_reducible repeat (first | refine blk_drewN ?_ _ | refine blk_drew ?_ | refine blk_alloc ?_ _)); refine blk_far ?_ NB1084_1150.out _; (with_reducible repeat (first | refine blk_drewN ?_ _ | refine blk_drew ?_ | refine blk_alloc ?_ _)); exact BK1084.out) hb); have n3_ := Aside0.mk (blk_below (g := gb1118) (o := .cells #[.int .i64 t1114, .int .i64 t1115, .int .u32 t1116] 45 (0, 0)) (by (with_reducible repeat (first | refine blk_drewN ?_ _ | refine blk_drew ?_ | refine blk_alloc ?_ _)); refine blk_far ?_ NB1118_1150.out _; (with_reducible repeat (first | refine blk_drewN ?_ _ | refine blk_drew ?_ | refine blk_alloc ?_ _)); refine blk_far ?_ NB1118_1150.out _; (with_reducible repeat (first | refine blk_drewN ?_ _ | refine blk_drew ?_ | refine blk_alloc ?_ _)); refine blk_far ?_ NB1118_1150.out _; (with_reducible repeat (first | refine blk_drewN ?_ _ | refine blk_drew ?_ | refine blk_alloc ?_ _)); exact BK1118.out) hb); have n4_ := Aside0.mk (blk_below (g := gb1123) (o := .cells #[.int .i64 t1119, .int .i64 t1120, .int .u32 t1121] 45 (0, 0)) (by (with_reducible repeat (first | refine blk_drewN ?_ _ | refine blk_drew ?_ | refine blk_alloc ?_ _)); refine blk_far ?_ NB1123_1150.out _; (with_reducible repeat (first | refine blk_drewN ?_ _ | refine blk_drew ?_ | refine blk_alloc ?_ _)); refine blk_far ?_ NB1123_1150.out _; (with_reducible repeat (first | refine blk_drewN ?_ _ | refine blk_drew ?_ | refine blk_alloc ?_ _)); refine blk_far ?_ NB1123_1150.out _; (with_reducible repeat (first | refine blk_drewN ?_ _ | refine blk_drew ?_ | refine blk_alloc ?_ _)); exact BK1123.out) hb); have n5_ := Aside0.mk (blk_below (g := gb1127) (o := .cells #[.int .i64 t1124, .int .u32 t1125] 27 (0, 0)) (by (with_reducible repeat (first | refine blk_drewN ?_ _ | refine blk_drew ?_ | refine blk_alloc ?_ _)); refine blk_far ?_ NB1127_1150.out _; (with_reducible repeat (first | refine blk_drewN ?_ _ | refine blk_drew ?_ | refine blk_alloc ?_ _)); refine blk_far ?_ NB1127_1150.out _; (with_reducible repeat (first | refine blk_drewN ?_ _ | refine blk_drew ?_ | refine blk_alloc ?_ _)); refine blk_far ?_ NB1127_1150.out _; (with_reducible repeat (first | refine blk_drewN ?_ _ | refine blk_drew ?_ | refine blk_alloc ?_ _)); exact BK1127.out) hb); have n6_ := Aside0.mk (blk_below (g := gb1140) (o := .cells #[.int .i64 t1136, .int .i64 t1137, .int .u32 t1138] 45 (0, 0)) (by (with_reducible repeat (first | refine blk_drewN ?_ _ | refine blk_drew ?_ | refine blk_alloc ?_ _)); refine blk_far ?_ NB1140_1150.out _; (with_reducible repeat (first | refine blk_drewN ?_ _ | refine blk_drew ?_ | refine blk_alloc ?_ _)); refine blk_far ?_ NB1140_1150.out _; (with_reducible repeat (first | refine blk_drewN ?_ _ | refine blk_drew ?_ | refine blk_alloc ?_ _)); refine blk_far ?_ NB1140_1150.out _; (with_reducible repeat (first | refine blk_drewN ?_ _ | refine blk_drew ?_ | refine blk_alloc ?_ _)); exact BK1140.out) hb); have n7_ := Aside0.mk (blk_below (g := gb1145) (o := .cells #[.int .i64 t1141, .int .i64 t1142, .int .u32 t1143] 45 (0, 0)) (by (with_reducible repeat (first | refine blk_drewN ?_ _ | refine blk_drew ?_ | refine blk_alloc ?_ _)); refine blk_far ?_ NB1145_1150.out _; (with_reducible repeat (first | refine blk_drewN ?_ _ | refine blk_drew ?_ | refine blk_alloc ?_ _)); refine blk_far ?_ NB1145_1150.out _; (with_reducible repeat (first | refine blk_drewN ?_ _ | refine blk_drew ?_ | refine blk_alloc ?_ _)); refine blk_far ?_ NB1145_1150.out _; (with_reducible repeat (first | refine blk_drewN ?_ _ | refine blk_drew ?_ | refine blk_alloc ?_ _)); exact BK1145.out) hb); have n8_ := Aside0.mk (blk_below (g := gb1150) (o := .cells #[.int .i64 t1146, .int .i64 t1147, .int .u32 t1148] 45 (0, 0)) (by (with_reducible repeat (first | refine blk_drewN ?_ _ | refine blk_drew ?_ | refine blk_alloc ?_ _)); refine blk_put (cs := #[.int .i64 t1146, .int .i64 t1147, .int .u32 0]) ?_ 2 _ rfl; (with_reducible repeat (first | refine blk_drewN ?_ _ | refine blk_drew ?_ | refine blk_alloc ?_ _)); refine blk_put (cs := #[.int .i64 t1146, .int .i64 0, .int .u32 0]) ?_ 1 _ rfl; (with_reducible repeat (first | refine blk_drewN ?_ _ | refine blk_drew ?_ | refine blk_alloc ?_ _)); refine blk_put (cs := #[.int .i64 0, .int .i64 0, .int .u32 0]) ?_ 0 _ rfl; (with_reducible repeat (first | refine blk_drewN ?_ _ | refine blk_drew ?_ | refine blk_alloc ?_ _)); exact BK1150.out) hb); have n9_ := Aside0.mk (below_step (by repeat (first | (with_reducible first | exact HB.out | apply below_alloc | apply pw_below_drewN | apply below_drew1 | refine below_set ?_ GE1084.out | refine below_set ?_ GE1118.out | refine below_set ?_ GE1123.out | refine below_set ?_ GE1127.out | refine below_set ?_ GE1140.out | refine below_set ?_ GE1145.out | refine below_set ?_ GE1150.out) | exact HB.out)) hb); clear HO_28; clear HO_29; clear BK1084; clear BK1118; clear BK1123; clear BK1127; clear BK1140; clear BK1145; clear BK1150; clear HB; have HO_28 := n0_; have HO_29 := n1_; have BK1084 := n2_; have BK1118 := n3_; have BK1123 := n4_; have BK1127 := n5_; have BK1140 := n6_; have BK1145 := n7_; have BK1150 := n8_; have HB := n9_; clear n0_ n1_ n2_ n3_ n4_ n5_ n6_ n7_ n8_ n9_; (try clear hb); (try clear hb2); (try clear hk); (try clear hi)) | ((with_reducible refine gate_dst (N := 37) rfl ?_); refine box_event ?hg (N := 37) ?hd (cs := #[.int .i64 0, .int .i64 0, .int .u32 0]) (t := 45) ?hr ?_; (case hd => rfl); (case hg => rfl); (case hr => first | (go_simp; done) | (go_simp; rfl)); intro gb1155 hg w137 hbox hb; have n0_ := Aside0.mk (Kd.R_below (by (with_reducible repeat (first | apply Kd.R_alloc | apply Kd.R_drewN | apply Kd.R_drew)); exact HO_28.out) hb); have n1_ := Aside0.mk (Kd.R_below (by (with_reducible repeat (first | apply Kd.R_alloc | apply Kd.R_drewN | apply Kd.R_drew)); exact HO_29.out) hb); have n2_ := Aside0.mk (blk_below (g := gb1084) (o := .cells #[.int .i64 t1082, .int .u32 t1083] 27 (0, 0)) (by (with_reducible repeat (first | refine blk_drewN ?_ _ | refine blk_drew ?_ | refine blk_alloc ?_ _)); exact BK1084.out) hb); have n3_ := Aside0.mk (blk_below (g := gb1118) (o := .cells #[.int .i64 t1114, .int .i64 t1115, .int .u32 t1116] 45 (0, 0)) (by (with_reducible repeat (first | refine blk_drewN ?_ _ | refine blk_drew ?_ | refine blk_alloc ?_ _)); exact BK1118.out) hb); have n4_ := Aside0.mk (blk_below (g := gb1123) (o := .cells #[.int .i64 t1119, .int .i64 t1120, .int .u32 t1121] 45 (0, 0)) (by (with_reducible repeat (first | refine blk_drewN ?_ _ | refine blk_drew ?_ | refine blk_alloc ?_ _)); exact BK1123.out) hb); have n5_ := Aside0.mk (blk_below (g := gb1127) (o := .cells #[.int .i64 t1124, .int .u32 t1125] 27 (0, 0)) (by (with_reducible repeat (first | refine blk_drewN ?_ _ | refine blk_drew ?_ | refine blk_alloc ?_ _)); exact BK1127.out) hb); have n6_ := Aside0.mk (blk_below (g := gb1140) (o := .cells #[.int .i64 t1136, .int .i64 t1137, .int .u32 t1138] 45 (0, 0)) (by (with_reducible repeat (first | refine blk_drewN ?_ _ | refine blk_drew ?_ | refine blk_alloc ?_ _)); exact BK1140.out) hb); have n7_ := Aside0.mk (blk_below (g := gb1145) (o := .cells #[.int .i64 t1141, .int .i64 t1142, .int .u32 t1143] 45 (0, 0)) (by (with_reducible repeat (first | refine blk_drewN ?_ _ | refine blk_drew ?_ | refine blk_alloc ?_ _)); exact BK1145.out) hb); have n8_ := Aside0.mk (blk_below (g := gb1150) (o := .cells #[.int .i64 t1146, .int .i64 t1147, .int .u32 t1148] 45 (0, 0)) (by (with_reducible repeat (first | refine blk_drewN ?_ _ | refine blk_drew ?_ | refine blk_alloc ?_ _)); exact BK1150.out) hb); have n9_ := Aside0.mk (below_step (by repeat (first | (with_reducible first | exact HB.out | apply below_alloc | apply pw_below_drewN | apply below_drew1 | refine below_set ?_ GE1084.out | refine below_set ?_ GE1118.out | refine below_set ?_ GE1123.out | refine below_set ?_ GE1127.out | refine below_set ?_ GE1140.out | refine below_set ?_ GE1145.out | refine below_set ?_ GE1150.out) | exact HB.out)) hb); have n10_ := Aside0.mk (hbox); have n11_ := Aside0.mk ((by rw [hg]; exact (below_size (by repeat (first | (with_reducible first | exact HB.out | apply below_alloc | apply pw_below_drewN | apply below_drew1 | refine below_set ?_ GE1084.out | refine below_set ?_ GE1118.out | refine below_set ?_ GE1123.out | refine below_set ?_ GE1127.out | refine below_set ?_ GE1140.out | refine below_set ?_ GE1145.out | refine below_set ?_ GE1150.out) | exact HB.out))) : w.heap.size ≤ gb1155)); have n12_ := n11_; have n13_ := Aside0.mk ((by rw [hg]; exact Nat.ne_of_lt (blk_lt (g := gb1084) (o := .cells #[.int .i64 t1082, .int .u32 t1083] 27 (0, 0)) (by (with_reducible repeat (first | refine blk_drewN ?_ _ | refine blk_drew ?_ | refine blk_alloc ?_ _)); exact BK1084.out)) : gb1084 ≠ gb1155)); have n14_ := Aside0.mk (Ne.symm n13_.out); have n15_ := Aside0.mk ((by rw [hg]; exact Nat.ne_of_lt (blk_lt (g := gb1118) (o := .cells #[.int .i64 t1114, .int .i64 t1115, .int .u32 t1116] 45 (0, 0)) (by (with_reducible repeat (first | refine blk_drewN ?_ _ | refine blk_drew ?_ | refine blk_alloc ?_ _)); exact BK1118.out)) : gb1118 ≠ gb1155)); have n16_ := Aside0.mk (Ne.symm n15_.out); have n17_ := Aside0.mk ((by rw [hg]; exact Nat.ne_of_lt (blk_lt (g := gb1123) (o := .cells #[.int .i64 t1119, .int .i64 t1120, .int .u32 t1121] 45 (0, 0)) (by (with_reducible repeat (first | refine blk_drewN ?_ _ | refine blk_drew ?_ | refine blk_alloc ?_ _)); exact BK1123.out)) : gb1123 ≠ gb1155)); have n18_ := Aside0.mk (Ne.symm n17_.out); have n19_ := Aside0.mk ((by rw [hg]; exact Nat.ne_of_lt (blk_lt (g := gb1127) (o := .cells #[.int .i64 t1124, .int .u32 t1125] 27 (0, 0)) (by (with_reducible repeat (first | refine blk_drewN ?_ _ | refine blk_drew ?_ | refine blk_alloc ?_ _)); exact BK1127.out)) : gb1127 ≠ gb1155)); have n20_ := Aside0.mk (Ne.symm n19_.out); have n21_ := Aside0.mk ((by rw [hg]; exact Nat.ne_of_lt (blk_lt (g := gb1140) (o := .cells #[.int .i64 t1136, .int .i64 t1137, .int .u32 t1138] 45 (0, 0)) (by (with_reducible repeat (first | refine blk_drewN ?_ _ | refine blk_drew ?_ | refine blk_alloc ?_ _)); exact BK1140.out)) : gb1140 ≠ gb1155)); have n22_ := Aside0.mk (Ne.symm n21_.out); have n23_ := Aside0.mk ((by rw [hg]; exact Nat.ne_of_lt (blk_lt (g := gb1145) (o := .cells #[.int .i64 t1141, .int .i64 t1142, .int .u32 t1143] 45 (0, 0)) (by (with_reducible repeat (first | refine blk_drewN ?_ _ | refine blk_drew ?_ | refine blk_alloc ?_ _)); exact BK1145.out)) : gb1145 ≠ gb1155)); have n24_ := Aside0.mk (Ne.symm n23_.out); have n25_ := Aside0.mk ((by rw [hg]; exact Nat.ne_of_lt (blk_lt (g := gb1150) (o := .cells #[.int .i64 t1146, .int .i64 t1147, .int .u32 t1148] 45 (0, 0)) (by (with_reducible repeat (first | refine blk_drewN ?_ _ | refine blk_drew ?_ | refine blk_alloc ?_ _)); exact BK1150.out)) : gb1150 ≠ gb1155)); have n26_ := Aside0.mk (Ne.symm n25_.out); clear HO_28; clear HO_29; clear BK1084; clear BK1118; clear BK1123; clear BK1127; clear BK1140; clear BK1145; clear BK1150; clear HB; have HO_28 := n0_; have HO_29 := n1_; have BK1084 := n2_; have BK1118 := n3_; have BK1123 := n4_; have BK1127 := n5_; have BK1140 := n6_; have BK1145 := n7_; have BK1150 := n8_; have HB := n9_; have BK1155 := n10_; have GW1155 := n11_; have GE1155 := n12_; have NB1084_1155 := n13_; have NB1155_1084 := n14_; have NB1118_1155 := n15_; have NB1155_1118 := n16_; have NB1123_1155 := n17_; have NB1155_1123 := n18_; have NB1127_1155 := n19_; have NB1155_1127 := n20_; have NB1140_1155 := n21_; have NB1155_1140 := n22_; have NB1145_1155 := n23_; have NB1155_1145 := n24_; have NB1150_1155 := n25_; have NB1155_1150 := n26_; clear n0_ n1_ n2_ n3_ n4_ n5_ n6_ n7_ n8_ n9_ n10_ n11_ n12_ n13_ n14_ n15_ n16_ n17_ n18_ n19_ n20_ n21_ n22_ n23_ n24_ n25_ n26_; clear hb hbox hg; have hnb138 := NB1155_1084.out; have hnc138 := NB1084_1155.out; have hnb139 := NB1155_1118.out; have hnc139 := NB1118_1155.out; have hnb140 := NB1155_1123.out; have hnc140 := NB1123_1155.out; have hnb141 := NB1155_1127.out; have hnc141 := NB1127_1155.out; have hnb142 := NB1155_1140.out; have hnc142 := NB1140_1155.out; have hnb143 := NB1155_1145.out; have hnc143 := NB1145_1155.out; have hnb144 := NB1155_1150.out; have hnc144 := NB1150_1155.out; have hcz145_0 : w137.cell? ⟨gb1155, 0, none⟩ = some (.int .i64 0) := (blk_cell BK1155.out 0).trans rfl; have hcz145_1 : w137.cell? ⟨gb1155, 1, none⟩ = some (.int .i64 0) := (blk_cell BK1155.out 1).trans rfl; have hcz145_2 : w137.cell? ⟨gb1155, 2, none⟩ = some (.int .u32 0) := (blk_cell BK1155.out 2).trans rfl; have hfz145_0 := blk_frozen BK1155.out 0; have hfz145_1 := blk_frozen BK1155.out 1; have hfz145_2 := blk_frozen BK1155.out 2; have hnb146 := NB1123_1084.out; have hnc146 := NB1084_1123.out; have hcz147_0 : w137.cell? ⟨gb1123, 0, none⟩ = some (.int .i64 t1119) := (blk_cell BK1123.out 0).trans rfl; have hcz147_1 : w137.cell? ⟨gb1123, 1, none⟩ = some (.int .i64 t1120) := (blk_cell BK1123.out 1).trans rfl; have hcz147_2 : w137.cell? ⟨gb1123, 2, none⟩ = some (.int .u32 t1121) := (blk_cell BK1123.out 2).trans rfl; have hfz147_0 := blk_frozen BK1123.out 0; have hfz147_1 := blk_frozen BK1123.out 1; have hfz147_2 := blk_frozen BK1123.out 2; have hcz148_0 : w137.cell? ⟨gb1145, 0, none⟩ = some (.int .i64 t1141) := (blk_cell BK1145.out 0).trans rfl; have hcz148_1 : w137.cell? ⟨gb1145, 1, none⟩ = some (.int .i64 t1142) := (blk_cell BK1145.out 1).trans rfl; have hcz148_2 : w137.cell? ⟨gb1145, 2, none⟩ = some (.int .u32 t1143) := (blk_cell BK1145.out 2).trans rfl; have hfz148_0 := blk_frozen BK1145.out 0; have hfz148_1 := blk_frozen BK1145.out 1; have hfz148_2 := blk_frozen BK1145.out 2; have hcz149_0 : w137.cell? ⟨gb1150, 0, none⟩ = some (.int .i64 t1146) := (blk_cell BK1150.out 0).trans rfl; have hcz149_1 : w137.cell? ⟨gb1150, 1, none⟩ = some (.int .i64 t1147) := (blk_cell BK1150.out 1).trans rfl; have hcz149_2 : w137.cell? ⟨gb1150, 2, none⟩ = some (.int .u32 t1148) := (blk_cell BK1150.out 2).trans rfl; have hfz149_0 := blk_frozen BK1150.out 0; have hfz149_1 := blk_frozen BK1150.out 1; have hfz149_2 := blk_frozen BK1150.out 2))
                          go_ret
                          exact ⟨by first | rfl | (simp [errW_none, errW_some] <;> rfl) | (simp [*, errW_none, errW_some] <;> rfl), by repeat (first | (with_reducible first | exact HB.out | apply below_alloc | apply pw_below_drewN | apply below_drew1 | refine below_set ?_ GE1084.out | refine below_set ?_ GE1118.out | refine below_set ?_ GE1123.out | refine below_set ?_ GE1127.out | refine below_set ?_ GE1140.out | refine below_set ?_ GE1145.out | refine below_set ?_ GE1150.out | refine below_set ?_ GE1155.out) | exact HB.out)⟩
                         ·rw [if_neg c101] at H
                          have c101b0 : (t1141 == t1146 && ((t1142 == t1147 && (t1143 == t1148)))) = false := by simpa using c101
                          (try (have c101b1 : decide (t1141 = t1146 && ((t1142 == t1147 && (t1143 == t1148)))) = false := by simpa using c101))
                          (try (have c101b2 : (t1141 == t1146 && ((t1142 == t1147 && (t1143 == t1148)))) = false := by simpa using c101))
                          (try (have c101b3 : ¬ (t1141 = t1146 && ((t1142 == t1147 && (t1143 == t1148)))) := by simpa using c101))
                          clear c101
                          exact absurd H (by simp)
                        ·rw [if_neg c100] at H
                         have c100b0 : (t1149 == 0) = false := beq_eq_false_iff_ne.mpr c100
                         have c100b1 : (t1149 != 0) = true := bne_iff_ne.mpr c100
                         exact absurd H (by simp)
                       ·rw [if_neg c99] at H
                        have c99b0 : (t1144 == 0) = false := beq_eq_false_iff_ne.mpr c99
                        have c99b1 : (t1144 != 0) = true := bne_iff_ne.mpr c99
                        exact absurd H (by simp)
                      ·rw [if_neg c98] at H
                       have c98b0 : (t1139 == 0) = false := beq_eq_false_iff_ne.mpr c98
                       have c98b1 : (t1139 != 0) = true := bne_iff_ne.mpr c98
                       exact absurd H (by simp)
                     ·rw [if_neg c97] at H
                      have c97b0 : (t1119 == t1151 && ((t1120 == t1152 && (t1121 == t1153)))) = false := by simpa using c97
                      (try (have c97b1 : decide (t1119 = t1151 && ((t1120 == t1152 && (t1121 == t1153)))) = false := by simpa using c97))
                      (try (have c97b2 : (t1119 == t1151 && ((t1120 == t1152 && (t1121 == t1153)))) = false := by simpa using c97))
                      (try (have c97b3 : ¬ (t1119 = t1151 && ((t1120 == t1152 && (t1121 == t1153)))) := by simpa using c97))
                      clear c97
                      exact absurd H (by simp)
                    ·rw [if_neg c96] at H
                     have c96b0 : (t1126 == 0) = false := beq_eq_false_iff_ne.mpr c96
                     have c96b1 : (t1126 != 0) = true := bne_iff_ne.mpr c96
                     exact absurd H (by simp)
                   ·rw [if_neg c95] at H
                    have c95b0 : (t1122 == 0) = false := beq_eq_false_iff_ne.mpr c95
                    have c95b1 : (t1122 != 0) = true := bne_iff_ne.mpr c95
                    exact absurd H (by simp)
                  ·rw [if_neg c94] at H
                   have c94b0 : (t1117 == 0) = false := beq_eq_false_iff_ne.mpr c94
                   have c94b1 : (t1117 != 0) = true := bne_iff_ne.mpr c94
                   exact absurd H (by simp)
                 ·rw [if_neg c93] at H
                  have c93b0 : (x10_2 == x19_3) = false := beq_eq_false_iff_ne.mpr c93
                  have c93b1 : (x10_2 != x19_3) = true := bne_iff_ne.mpr c93
                  exact absurd H (by simp)
             ·rw [if_neg c56] at H
              exact absurd H (by simp)
            ·rw [if_neg c51] at H
             exact absurd H (by simp)
           ·rw [if_neg c50] at H
            exact absurd H (by simp)
    ·rw [if_neg c14] at H
     have c14b0 : (t1090 == 0) = false := beq_eq_false_iff_ne.mpr c14
     have c14b1 : (t1090 != 0) = true := bne_iff_ne.mpr c14
     exact absurd H (by simp)

end Go.Proofs.Ytcepbgffnneagaa.Q
end
